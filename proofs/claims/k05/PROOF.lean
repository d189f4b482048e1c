import PyProof.Rows.All
import Wide.All
import OpenK.AllK
import Wide.FinOn
import HandS.ForMost
import HandS.Evl
import KE.KEqDict
import PyProof.NeKinds
import KE.KDictZip
import KE.GoesEnum
import HandS.MapObj
import HandS.IsInst
import HandS.CallLocal
import HandS.Zip
import HandS.Conv
import HandS.Iter
import HandS.Text
import HandS.Dict
import HandS.TupAny
import HandS.WordsDict
import HandS.More
import HandS.ExcInit
import HandS.ExcIs
import KE.KExcSuper
import KE.KSuper
import HandS.ExcValue
import HandS.ExcField
import HandS.FStr
import KE.KExcIs
import KE.KExcMore
import KE.KTypeName
import HandS.Set
import HandS.SetFor
import HandS.SortInts
import HandS.Strs
import PyProof.Rows.SortShellAny
import KE.RegKSuper
import KE.RegKIsAll
import KE.KExcLine
import PySem.Challenge.RW_casetape_k05_errors_forms_and_the_same
set_option Elab.async false
set_option linter.all false
set_option maxRecDepth 100000
set_option maxHeartbeats 4000000
/-! Dicts against other kinds; == and != of nested data with dicts of int keys. -/
namespace KZ
open PySem PySem.SeqAt PySem.MeetsSeq
open AutoSeq1 (wpAny_loadPart')

/-- a dict object stands at l -/
def DctAt (h : Heap) (l : Addr) : Prop := ∃ dd es ep sl, h.get? l = some { cls := .type "dict", dict := dd, data := .dict es ep, slots := sl }

section
variable {prog : Program} {w : World} {A : Around} {E : Value → Shared → Prop} {s : Shared}
theorem dct_type {l : Addr} (h : DctAt s.heap l) : s.TypeIs (.ref l) "dict" := by
  obtain ⟨dd, es, ep, sl, e⟩ := h
  exact ⟨_, e, rfl⟩
/-- dict's == gives way to what is no dict -/
theorem dct_gives_way {l : Addr} {v : Value} {T : String} (h : DctAt s.heap l) (hv : s.TypeIs v T) (hs : isSubtype (.type T) (.type "dict") = pure false) {Q : Value → Shared → Prop} (q : Q .notImplemented s) :
    wpAny (model prog w) A (call (.builtin "dict.__eq__") [.ref l, v]) Q E s := by
  refine wpAny_call_entry PySem.F.slot_dict_eq (dct_type h) PySem.F.entry_dict_eq ?_ (PySem.F.args_dict_eq_2 _ _)
  show wpAny _ _ (Builtin.Dict.dictSlotArgs "__eq__" ⟨[.ref l, v], []⟩ >>= _) _ _ s
  refine wpAny_bind ?_
  unfold Builtin.Dict.dictSlotArgs
  refine wpAny_bind (wpAny_notOrdered_dict (dct_type h) ?_)
  refine wpAny_pure ?_
  refine wpAny_bind (wpAny_isInstance hv hs ?_)
  exact wpAny_bind (wpAny_rule (wpAny_pure ⟨_, rfl, q⟩))
theorem int_way_bool (b : Bool) (l : Addr) (es : Array DictEntry) (ep : Nat) (dd : Option Addr) (sl : Array (Option Value)) :
    Meets (Builtin.«int.__eq__» ⟨[.bool b, .ref l], []⟩) (fun _ R s => s.heap.get? l = some { cls := .type "dict", dict := dd, data := .dict es ep, slots := sl } ∧ R (.ok (.ret .notImplemented)) s) :=
  .of_wp fun prog w A R s h => by
    obtain ⟨hp, g, d, tk, os⟩ := s
    obtain ⟨hl, h⟩ := h
    wp_walk using wpAny_loadPart' hl, wpAny_load hl
    exact ⟨_, rfl, h⟩
theorem int_way_int (b : Int) (u : Tok) (l : Addr) (es : Array DictEntry) (ep : Nat) (dd : Option Addr) (sl : Array (Option Value)) :
    Meets (Builtin.«int.__eq__» ⟨[.int b u, .ref l], []⟩) (fun _ R s => s.heap.get? l = some { cls := .type "dict", dict := dd, data := .dict es ep, slots := sl } ∧ R (.ok (.ret .notImplemented)) s) :=
  .of_wp fun prog w A R s h => by
    obtain ⟨hp, g, d, tk, os⟩ := s
    obtain ⟨hl, h⟩ := h
    wp_walk using wpAny_loadPart' hl, wpAny_load hl
    exact ⟨_, rfl, h⟩
theorem str_way (b : Str) (u : Tok) (l : Addr) (es : Array DictEntry) (ep : Nat) (dd : Option Addr) (sl : Array (Option Value)) :
    Meets (Builtin.«str.__eq__» ⟨[.str b u, .ref l], []⟩) (fun _ R s => s.heap.get? l = some { cls := .type "dict", dict := dd, data := .dict es ep, slots := sl } ∧ R (.ok (.ret .notImplemented)) s) :=
  .of_wp fun prog w A R s h => by
    obtain ⟨hp, g, d, tk, os⟩ := s
    obtain ⟨hl, h⟩ := h
    wp_walk using wpAny_loadPart' hl, wpAny_load hl
    exact ⟨_, rfl, h⟩
theorem list_way (l b : Addr) (items : Array Value) (n : Nat) (dd dd2 : Option Addr) (sl sl2 : Array (Option Value)) (es : Array DictEntry) (ep : Nat) :
    Meets (Builtin.«list.__eq__» ⟨[.ref l, .ref b], []⟩) (fun _ R s => s.heap.get? l = some { cls := .type "list", dict := dd, data := .seq items n, slots := sl } ∧ s.heap.get? b = some { cls := .type "dict", dict := dd2, data := .dict es ep, slots := sl2 } ∧ R (.ok (.ret .notImplemented)) s) :=
  .of_wp fun prog w A R s h => by
    obtain ⟨hp, g, d, tk, os⟩ := s
    obtain ⟨hl, hb, h⟩ := h
    have f1 := F.sub_dict_list
    wp_walk using wpAny_loadPart' hl, wpAny_loadPart' hb
    exact ⟨_, rfl, h⟩
theorem tuple_way (l b : Addr) (items : Array Value) (n : Nat) (dd dd2 : Option Addr) (sl sl2 : Array (Option Value)) (es : Array DictEntry) (ep : Nat) :
    Meets (Builtin.«tuple.__eq__» ⟨[.ref l, .ref b], []⟩) (fun _ R s => s.heap.get? l = some { cls := .type "tuple", dict := dd, data := .seq items n, slots := sl } ∧ s.heap.get? b = some { cls := .type "dict", dict := dd2, data := .dict es ep, slots := sl2 } ∧ R (.ok (.ret .notImplemented)) s) :=
  .of_wp fun prog w A R s h => by
    obtain ⟨hp, g, d, tk, os⟩ := s
    obtain ⟨hl, hb, h⟩ := h
    have f1 := F.sub_dict_tuple
    wp_walk using wpAny_loadPart' hl, wpAny_loadPart' hb
    exact ⟨_, rfl, h⟩
end
section
variable {A : Around} {s : Shared}
/-- a == of two of which exactly one is an object (or both are, apart) -/
theorem eqAt_of_rc {a b : Value} {k : Bool} (hne : a ≠ b) (h : RcAt A s a b k) (hf : ∀ z t, b ≠ .float z t := by intro z t q; cases q) : EqAt A s a b k := fun prog w E Q hq => by
  unfold eqBool
  refine wpAny_holding ?_
  refine wpAny_ite_split (fun hab => absurd (eq_of_beq hab) hne) (fun _ => ?_)
  cases b with
  | float z t => exact absurd rfl (hf z t)
  | _ => cases a <;> exact wpAny_bind (h prog w E _ (wpAny_truthy_bool hq))
theorem eq_dct_none {l : Addr} (h : DctAt s.heap l) (hu : A.units < cLine) : EqAt A s (.ref l) .none false := by
  refine eqAt_of_rc nofun fun prog w E Q q => ?_
  exact rc_eq_decline_or (k := false) (dct_type h) rfl (by decide) F.sub_NoneType_dict F.slot_dict_eq F.slot_NoneType_eq_refl
    (fun _ hq => dct_gives_way (v := .none) (T := "NoneType") h rfl F.sub_NoneType_dict hq)
    (fun _ hq => call_gives F.slot_NoneType_eq_refl rfl F.entry_NoneType_eq (F.args_NoneType_eq_2 _ _) (NoneType___eq___none_ref_0 l) hq)
    (fun _ hq => wpAny_of_eq (rfl : isSame (.ref l) .none = pure false) hq) (.inr hu) q
theorem eq_none_dct {l : Addr} (h : DctAt s.heap l) (hu : A.units < cLine) : EqAt A s .none (.ref l) false := by
  refine eqAt_of_rc nofun fun prog w E Q q => ?_
  exact rc_eq_decline_or (k := false) rfl (dct_type h) (by decide) F.sub_dict_NoneType F.slot_NoneType_eq F.slot_dict_eq_refl
    (fun _ hq => call_gives F.slot_NoneType_eq rfl F.entry_NoneType_eq (F.args_NoneType_eq_2 _ _) (NoneType___eq___none_ref_0 l) hq)
    (fun _ hq => dct_gives_way (v := .none) (T := "NoneType") h rfl F.sub_NoneType_dict hq)
    (fun _ hq => wpAny_of_eq (rfl : isSame .none (.ref l) = pure false) hq) (.inr hu) q
theorem eq_dct_bool {l : Addr} (b : Bool) (h : DctAt s.heap l) (hu : A.units < cLine) : EqAt A s (.ref l) (.bool b) false := by
  refine eqAt_of_rc nofun fun prog w E Q q => ?_
  obtain ⟨dd, es, ep, sl, e⟩ := id h
  exact rc_eq_decline_or (k := false) (dct_type h) rfl (by decide) F.sub_bool_dict F.slot_dict_eq F.slot_bool_eq_refl
    (fun _ hq => dct_gives_way (v := .bool b) (T := "bool") h rfl F.sub_bool_dict hq)
    (fun _ hq => call_meets F.slot_bool_eq_refl rfl F.entry_int_eq (F.args_int_eq_2 _ _) (int_way_bool b l es ep dd sl) ⟨e, hq⟩)
    (fun _ hq => wpAny_of_eq (rfl : isSame (.ref l) (.bool b) = pure false) hq) (.inr hu) q
theorem eq_bool_dct {l : Addr} (b : Bool) (h : DctAt s.heap l) (hu : A.units < cLine) : EqAt A s (.bool b) (.ref l) false := by
  refine eqAt_of_rc nofun fun prog w E Q q => ?_
  obtain ⟨dd, es, ep, sl, e⟩ := id h
  exact rc_eq_decline_or (k := false) rfl (dct_type h) (by decide) F.sub_dict_bool F.slot_bool_eq F.slot_dict_eq_refl
    (fun _ hq => call_meets F.slot_bool_eq rfl F.entry_int_eq (F.args_int_eq_2 _ _) (int_way_bool b l es ep dd sl) ⟨e, hq⟩)
    (fun _ hq => dct_gives_way (v := .bool b) (T := "bool") h rfl F.sub_bool_dict hq)
    (fun _ hq => wpAny_of_eq (rfl : isSame (.bool b) (.ref l) = pure false) hq) (.inr hu) q
theorem eq_dct_int {l : Addr} (b : Int) (u : Tok) (h : DctAt s.heap l) (hu : A.units < cLine) : EqAt A s (.ref l) (.int b u) false := by
  refine eqAt_of_rc nofun fun prog w E Q q => ?_
  obtain ⟨dd, es, ep, sl, e⟩ := id h
  exact rc_eq_decline_or (k := false) (dct_type h) (typeIs_int s b u) (by decide) F.sub_int_dict F.slot_dict_eq F.slot_int_eq_refl
    (fun _ hq => dct_gives_way h (typeIs_int s b u) F.sub_int_dict hq)
    (fun _ hq => call_meets F.slot_int_eq_refl (typeIs_int s b u) F.entry_int_eq (F.args_int_eq_2 _ _) (int_way_int b u l es ep dd sl) ⟨e, hq⟩)
    (fun _ hq => wpAny_of_eq (rfl : isSame (.ref l) (.int b u) = pure false) hq) (.inr hu) q
theorem eq_int_dct {l : Addr} (b : Int) (u : Tok) (h : DctAt s.heap l) (hu : A.units < cLine) : EqAt A s (.int b u) (.ref l) false := by
  refine eqAt_of_rc nofun fun prog w E Q q => ?_
  obtain ⟨dd, es, ep, sl, e⟩ := id h
  exact rc_eq_decline_or (k := false) (typeIs_int s b u) (dct_type h) (by decide) F.sub_dict_int F.slot_int_eq F.slot_dict_eq_refl
    (fun _ hq => call_meets F.slot_int_eq (typeIs_int s b u) F.entry_int_eq (F.args_int_eq_2 _ _) (int_way_int b u l es ep dd sl) ⟨e, hq⟩)
    (fun _ hq => dct_gives_way h (typeIs_int s b u) F.sub_int_dict hq)
    (fun _ hq => wpAny_of_eq (rfl : isSame (.int b u) (.ref l) = pure false) hq) (.inr hu) q
theorem eq_dct_str {l : Addr} (b : Str) (u : Tok) (h : DctAt s.heap l) (hu : A.units < cLine) : EqAt A s (.ref l) (.str b u) false := by
  refine eqAt_of_rc nofun fun prog w E Q q => ?_
  obtain ⟨dd, es, ep, sl, e⟩ := id h
  exact rc_eq_decline_or (k := false) (dct_type h) (typeIs_str s b u) (by decide) F.sub_str_dict F.slot_dict_eq F.slot_str_eq_refl
    (fun _ hq => dct_gives_way h (typeIs_str s b u) F.sub_str_dict hq)
    (fun _ hq => call_meets F.slot_str_eq_refl (typeIs_str s b u) F.entry_str_eq (F.args_str_eq_2 _ _) (str_way b u l es ep dd sl) ⟨e, hq⟩)
    (fun _ hq => wpAny_of_eq (rfl : isSame (.ref l) (.str b u) = pure false) hq) (.inr hu) q
theorem eq_str_dct {l : Addr} (b : Str) (u : Tok) (h : DctAt s.heap l) (hu : A.units < cLine) : EqAt A s (.str b u) (.ref l) false := by
  refine eqAt_of_rc nofun fun prog w E Q q => ?_
  obtain ⟨dd, es, ep, sl, e⟩ := id h
  exact rc_eq_decline_or (k := false) (typeIs_str s b u) (dct_type h) (by decide) F.sub_dict_str F.slot_str_eq F.slot_dict_eq_refl
    (fun _ hq => call_meets F.slot_str_eq (typeIs_str s b u) F.entry_str_eq (F.args_str_eq_2 _ _) (str_way b u l es ep dd sl) ⟨e, hq⟩)
    (fun _ hq => dct_gives_way h (typeIs_str s b u) F.sub_str_dict hq)
    (fun _ hq => wpAny_of_eq (rfl : isSame (.str b u) (.ref l) = pure false) hq) (.inr hu) q
theorem ne_cls {l b : Addr} {o o' : Obj} (h : s.heap.get? l = some o) (h' : s.heap.get? b = some o') (hc : o.cls ≠ o'.cls) : l ≠ b := fun e => by
  subst e
  rw [h] at h'
  cases h'
  exact hc rfl
theorem eq_list_dct {l b : Addr} {items : Array Value} (hl : s.heap.IsList l items) (h : DctAt s.heap b) (hu : A.units < cLine) : EqAt A s (.ref l) (.ref b) false := by
  obtain ⟨⟨cls, dd, data, sl⟩, ho, hc, n, hd⟩ := id hl
  obtain ⟨dd2, es, ep, sl2, e⟩ := id h
  simp only at hc hd
  subst hc hd
  have hne : l ≠ b := ne_cls ho e (by simp)
  refine eqAt_of_rc (fun z => hne (by injection z)) fun prog w E Q q => ?_
  exact rc_eq_decline_or (k := false) ⟨_, ho, rfl⟩ (dct_type h) (by decide) F.sub_dict_list F.slot_list_eq F.slot_dict_eq_refl
    (fun _ hq => call_meets F.slot_list_eq ⟨_, ho, rfl⟩ F.entry_list_eq (F.args_list_eq_2 _ _) (list_way l b items n dd dd2 sl sl2 es ep) ⟨ho, e, hq⟩)
    (fun _ hq => dct_gives_way (v := .ref l) (T := "list") h ⟨_, ho, rfl⟩ F.sub_list_dict hq)
    (fun _ hq => wpAny_isSame_ref_other' hne ho e (by simp) hq) (.inr hu) q
theorem eq_dct_list {l b : Addr} {items : Array Value} (hl : s.heap.IsList l items) (h : DctAt s.heap b) (hu : A.units < cLine) : EqAt A s (.ref b) (.ref l) false := by
  obtain ⟨⟨cls, dd, data, sl⟩, ho, hc, n, hd⟩ := id hl
  obtain ⟨dd2, es, ep, sl2, e⟩ := id h
  simp only at hc hd
  subst hc hd
  have hne : b ≠ l := ne_cls e ho (by simp)
  refine eqAt_of_rc (fun z => hne (by injection z)) fun prog w E Q q => ?_
  exact rc_eq_decline_or (k := false) (dct_type h) ⟨_, ho, rfl⟩ (by decide) F.sub_list_dict F.slot_dict_eq F.slot_list_eq_refl
    (fun _ hq => dct_gives_way (v := .ref l) (T := "list") h ⟨_, ho, rfl⟩ F.sub_list_dict hq)
    (fun _ hq => call_meets F.slot_list_eq_refl ⟨_, ho, rfl⟩ F.entry_list_eq (F.args_list_eq_2 _ _) (list_way l b items n dd dd2 sl sl2 es ep) ⟨ho, e, hq⟩)
    (fun _ hq => wpAny_isSame_ref_other' hne e ho (by simp) hq) (.inr hu) q
theorem eq_tuple_dct {l b : Addr} {items : Array Value} (hl : s.heap.IsTuple l items) (h : DctAt s.heap b) (hu : A.units < cLine) : EqAt A s (.ref l) (.ref b) false := by
  obtain ⟨⟨cls, dd, data, sl⟩, ho, hc, n, hd⟩ := id hl
  obtain ⟨dd2, es, ep, sl2, e⟩ := id h
  simp only at hc hd
  subst hc hd
  have hne : l ≠ b := ne_cls ho e (by simp)
  refine eqAt_of_rc (fun z => hne (by injection z)) fun prog w E Q q => ?_
  exact rc_eq_decline_or (k := false) ⟨_, ho, rfl⟩ (dct_type h) (by decide) F.sub_dict_tuple F.slot_tuple_eq F.slot_dict_eq_refl
    (fun _ hq => call_meets F.slot_tuple_eq ⟨_, ho, rfl⟩ F.entry_tuple_eq (F.args_tuple_eq_2 _ _) (tuple_way l b items n dd dd2 sl sl2 es ep) ⟨ho, e, hq⟩)
    (fun _ hq => dct_gives_way (v := .ref l) (T := "tuple") h ⟨_, ho, rfl⟩ F.sub_tuple_dict hq)
    (fun _ hq => wpAny_isSame_ref_other' hne ho e (by simp) hq) (.inr hu) q
theorem eq_dct_tuple {l b : Addr} {items : Array Value} (hl : s.heap.IsTuple l items) (h : DctAt s.heap b) (hu : A.units < cLine) : EqAt A s (.ref b) (.ref l) false := by
  obtain ⟨⟨cls, dd, data, sl⟩, ho, hc, n, hd⟩ := id hl
  obtain ⟨dd2, es, ep, sl2, e⟩ := id h
  simp only at hc hd
  subst hc hd
  have hne : b ≠ l := ne_cls e ho (by simp)
  refine eqAt_of_rc (fun z => hne (by injection z)) fun prog w E Q q => ?_
  exact rc_eq_decline_or (k := false) (dct_type h) ⟨_, ho, rfl⟩ (by decide) F.sub_tuple_dict F.slot_dict_eq F.slot_tuple_eq_refl
    (fun _ hq => dct_gives_way (v := .ref l) (T := "tuple") h ⟨_, ho, rfl⟩ F.sub_tuple_dict hq)
    (fun _ hq => call_meets F.slot_tuple_eq_refl ⟨_, ho, rfl⟩ F.entry_tuple_eq (F.args_tuple_eq_2 _ _) (tuple_way l b items n dd dd2 sl sl2 es ep) ⟨ho, e, hq⟩)
    (fun _ hq => wpAny_isSame_ref_other hne e ho (by simp) hq) (.inr hu) q
end
end KZ
/-! Data as trees: what stands at a value; == and != of such. -/
namespace KZ
open PySem PySem.Spec PyProof.Rows L2 PySem.SeqAt

inductive D where
  | non | bl (b : Bool) | int (i : Int) | str (x : Str) | tup (ds : List D) | lst (ds : List D) | dic (ks : List Int) (ds : List D)

/-- the pairs of a dict whose keys are ints -/
def dkv (ks : List Int) (vs : List V) : List (Key × V) := (ks.zip vs).map fun p => ((Sum.inl p.1 : Key), p.2)

mutual
inductive Rp (K : PySem.W.Frag) (H : Hp) : V → D → Prop
  | non : Rp K H .non .non
  | bl (b : Bool) : Rp K H (.bl b) (.bl b)
  | int (i : Int) : Rp K H (.int i) (.int i)
  | str (x : Str) : Rp K H (.str x) (.str x)
  | lst {a : Addr} {xs : List V} {ds : List D} : SqL K H a xs → RpA K H xs ds → Rp K H (.ref a) (.lst ds)
  | tup {a : Addr} {xs : List V} {ds : List D} : SqT K H a xs → RpA K H xs ds → Rp K H (.ref a) (.tup ds)
  | dic {a : Addr} {ks : List Int} {xs : List V} {ds : List D} : H a = some (.dK (dkv ks xs)) → ks.length = xs.length → RpA K H xs ds → Rp K H (.ref a) (.dic ks ds)
inductive RpA (K : PySem.W.Frag) (H : Hp) : List V → List D → Prop
  | nil : RpA K H [] []
  | cons {v : V} {vs : List V} {d : D} {ds : List D} : Rp K H v d → RpA K H vs ds → RpA K H (v :: vs) (d :: ds)
end

section
variable {K : PySem.W.Frag} {H H' : Hp}
theorem sql_mono (e : Evl.Ex H H') {a : Addr} {xs : List V} (h : SqL K H a xs) : SqL K H' a xs := Evl.ex_l e h
theorem sqt_mono (e : Evl.Ex H H') {a : Addr} {xs : List V} (h : SqT K H a xs) : SqT K H' a xs := Evl.ex_t e h
mutual
theorem Rp.mono (e : Evl.Ex H H') : ∀ {d : D} {v : V}, Rp K H v d → Rp K H' v d
  | _, _, .non => .non
  | _, _, .bl b => .bl b
  | _, _, .int i => .int i
  | _, _, .str x => .str x
  | _, _, .lst h r => .lst (sql_mono e h) (RpA.mono e r)
  | _, _, .tup h r => .tup (sqt_mono e h) (RpA.mono e r)
  | _, _, .dic h l r => .dic (e _ _ h) l (RpA.mono e r)
theorem RpA.mono (e : Evl.Ex H H') : ∀ {ds : List D} {vs : List V}, RpA K H vs ds → RpA K H' vs ds
  | _, _, .nil => .nil
  | _, _, .cons h r => .cons (Rp.mono e h) (RpA.mono e r)
end
theorem RpA.len : ∀ {vs : List V} {ds : List D}, RpA K H vs ds → vs.length = ds.length
  | _, _, .nil => rfl
  | _, _, .cons _ r => by rw [List.length_cons, List.length_cons, RpA.len r]
theorem RpA.at : ∀ {vs : List V} {ds : List D} {i : Nat} {v : V}, RpA K H vs ds → vs[i]? = some v → ∃ d, ds[i]? = some d ∧ Rp K H v d
  | _, _, _, _, .nil, e => by simp at e
  | _, _, 0, _, .cons h r, e => by
    simp at e
    subst e
    exact ⟨_, rfl, h⟩
  | _, _, i + 1, _, .cons h r, e => by
    obtain ⟨d, e1, e2⟩ := RpA.at (i := i) r (by simpa using e)
    exact ⟨d, by simpa using e1, e2⟩
theorem RpA.at' : ∀ {vs : List V} {ds : List D} {i : Nat} {d : D}, RpA K H vs ds → ds[i]? = some d → ∃ v, vs[i]? = some v ∧ Rp K H v d
  | _, _, _, _, .nil, e => by simp at e
  | _, _, 0, _, .cons h r, e => by
    simp at e
    subst e
    exact ⟨_, rfl, h⟩
  | _, _, i + 1, _, .cons h r, e => by
    obtain ⟨d, e1, e2⟩ := RpA.at' (i := i) r (by simpa using e)
    exact ⟨d, by simpa using e1, e2⟩
theorem RpA.app : ∀ {vs : List V} {ds : List D} {us : List V} {es : List D}, RpA K H vs ds → RpA K H us es → RpA K H (vs ++ us) (ds ++ es)
  | _, _, _, _, .nil, q => q
  | _, _, _, _, .cons h r, q => .cons h (RpA.app r q)
theorem RpA.one {v : V} {d : D} (h : Rp K H v d) : RpA K H [v] [d] := .cons h .nil
theorem RpA.take : ∀ (n : Nat) {vs : List V} {ds : List D}, RpA K H vs ds → RpA K H (vs.take n) (ds.take n)
  | 0, _, _, _ => .nil
  | n + 1, _, _, .nil => .nil
  | n + 1, _, _, .cons h r => .cons h (RpA.take n r)
theorem RpA.drop : ∀ (n : Nat) {vs : List V} {ds : List D}, RpA K H vs ds → RpA K H (vs.drop n) (ds.drop n)
  | 0, _, _, r => r
  | n + 1, _, _, .nil => .nil
  | n + 1, _, _, .cons h r => RpA.drop n r
theorem RpA.dropLast {vs : List V} {ds : List D} (r : RpA K H vs ds) : RpA K H vs.dropLast ds.dropLast := by
  rw [List.dropLast_eq_take, List.dropLast_eq_take, r.len]
  exact r.take _
end

/-! ### how deep, how large -/
mutual
def dep : D → Nat
  | .tup ds => depA ds + 1
  | .lst ds => depA ds + 1
  | .dic _ ds => depA ds + 1
  | _ => 0
def depA : List D → Nat
  | [] => 0
  | d :: r => max (dep d) (depA r)
end
mutual
def wt : D → Nat
  | .tup ds => wtA ds + 1
  | .lst ds => wtA ds + 1
  | .dic ks ds => wtA ds + ks.length + 1
  | _ => 1
def wtA : List D → Nat
  | [] => 0
  | d :: r => wt d + wtA r
end
theorem dep_at {ds : List D} {i : Nat} {d : D} (h : ds[i]? = some d) : dep d ≤ depA ds := by
  induction ds generalizing i with
  | nil => simp at h
  | cons x r ih =>
    cases i with
    | zero =>
      simp at h
      subst h
      exact Nat.le_max_left _ _
    | succ i => exact Nat.le_trans (ih (by simpa using h)) (Nat.le_max_right _ _)
theorem wt_at {ds : List D} {i : Nat} {d : D} (h : ds[i]? = some d) : wt d ≤ wtA ds := by
  induction ds generalizing i with
  | nil => simp at h
  | cons x r ih =>
    cases i with
    | zero =>
      simp at h
      subst h
      exact Nat.le_add_right _ _
    | succ i => exact Nat.le_trans (ih (by simpa using h)) (Nat.le_add_left _ _)
theorem wtA_app (a b : List D) : wtA (a ++ b) = wtA a + wtA b := by
  induction a with
  | nil => simp [wtA]
  | cons x r ih => simp [wtA, ih, Nat.add_assoc]

/-! ### == -/
def lk : List Int → List D → Int → Option D
  | k :: ks, d :: ds, i => if k = i then some d else lk ks ds i
  | _, _, _ => none
mutual
def eqv : D → D → Bool
  | .non, e => match e with
    | .non => true
    | _ => false
  | .bl a, e => match e with
    | .bl b => a == b
    | .int j => (if a then 1 else 0) == j
    | _ => false
  | .int i, e => match e with
    | .bl b => i == (if b then 1 else 0)
    | .int j => i == j
    | _ => false
  | .str x, e => match e with
    | .str y => x == y
    | _ => false
  | .tup xs, e => match e with
    | .tup ys => eqvA xs ys
    | _ => false
  | .lst xs, e => match e with
    | .lst ys => eqvA xs ys
    | _ => false
  | .dic ks xs, e => match e with
    | .dic ls ys => ks.length == ls.length && eqvK xs ks ls ys
    | _ => false
def eqvA : List D → List D → Bool
  | [], ys => ys.isEmpty
  | x :: xs, ys => match ys with
    | [] => false
    | y :: ys => eqv x y && eqvA xs ys
def eqvK : List D → List Int → List Int → List D → Bool
  | [], _, _, _ => true
  | x :: xs, ks, ls, ys => match ks with
    | [] => true
    | k :: ks => (match lk ls ys k with
      | none => false
      | some y => eqv x y) && eqvK xs ks ls ys
end
def pairAt (xs ys : List D) (j : Nat) : Bool := match xs[j]?, ys[j]? with
  | some a, some b => eqv a b
  | _, _ => false
theorem eqvA_range : ∀ (xs ys : List D), eqvA xs ys = ((List.range (min xs.length ys.length)).all (pairAt xs ys) && (xs.length == ys.length))
  | [], [] => by simp [eqvA]
  | [], y :: ys => by simp [eqvA]
  | x :: xs, [] => by simp [eqvA]
  | x :: xs, y :: ys => by
    have e : min (x :: xs).length (y :: ys).length = min xs.length ys.length + 1 := by simp
    rw [eqvA, eqvA_range xs ys, e, List.range_succ_eq_map, List.all_cons, List.all_map]
    show (eqv x y && _) = (eqv x y && _ && _)
    rw [Bool.and_assoc]
    congr 2
    simp
theorem eqvA_same {xs ys : List D} (h : xs.length = ys.length) : eqvA xs ys = (List.range xs.length).all (pairAt xs ys) := by
  rw [eqvA_range, h, Nat.min_self]
  simp
theorem eqvA_other {xs ys : List D} (h : xs.length ≠ ys.length) : eqvA xs ys = false := by
  rw [eqvA_range]
  simp [h]

/-! ### the model's dict of int keys, for any program and world -/
theorem dictOf_any {P P' : Program} {w w' : World} {h : Heap} {a : Addr} {vs : List (Key × Value)} (d : h.DictOf (mixKind P w) a vs) (hk : ∀ p ∈ vs, ∃ i, p.1 = Sum.inl i) : h.DictOf (mixKind P' w') a vs := by
  obtain ⟨o, es, ep, ho, hx, hd, hks, hp, hn⟩ := d
  have pw : ∀ {es : List DictEntry} {vs : List (Key × Value)}, Pairs (mixKind P w) es vs → Pairs (mixKind P' w') es vs := fun q => by
    induction q with
    | nil => exact .nil
    | cons h1 h2 _ ih => exact .cons h1 h2 ih
  have mem : ∀ {es : List DictEntry} {vs : List (Key × Value)}, Pairs (mixKind P w) es vs → ∀ e ∈ es, ∃ p ∈ vs, keyIs p.1 e.key = true := fun q => by
    induction q with
    | nil => intro e he; cases he
    | @cons e0 kv es kvs h1 h2 _ ih =>
      intro e he
      rcases List.mem_cons.mp he with rfl | he
      · exact ⟨kv, List.mem_cons_self, h1⟩
      · obtain ⟨p, m, q⟩ := ih e he
        exact ⟨p, List.mem_cons_of_mem _ m, q⟩
  refine ⟨o, es, ep, ho, hx, hd, fun e he => ?_, pw hp, hn⟩
  obtain ⟨k, h1, h2⟩ := hks e he
  obtain ⟨p, m, q⟩ := mem hp e (Array.mem_toList_iff.mpr he)
  obtain ⟨i, ei⟩ := hk p m
  have ek : k = Sum.inl i := (mixKind P w).inj e.key k (Sum.inl i) h1 (by rw [← ei]; exact q)
  subst ek
  exact ⟨Sum.inl i, h1, h2⟩

theorem dkv_len {ks : List Int} {xs : List V} (h : ks.length = xs.length) : (dkv ks xs).length = ks.length := by
  unfold dkv
  rw [List.length_map, List.length_zip, h, Nat.min_self]
theorem dkv_inl {ks : List Int} {xs : List V} : ∀ p ∈ dkv ks xs, ∃ i, p.1 = Sum.inl i := by
  intro p hp
  obtain ⟨q, _, e⟩ := List.mem_map.mp hp
  exact ⟨q.1, by rw [← e]⟩
theorem kv_inl {kvs : List (Key × V)} {vs : List (Key × Value)} (r : KV kvs vs) (h : ∀ p ∈ kvs, ∃ i, p.1 = Sum.inl i) : ∀ p ∈ vs, ∃ i, p.1 = Sum.inl i := by
  intro p hp
  have e := r.keys
  have m : p.1 ∈ vs.map (·.1) := List.mem_map_of_mem hp
  rw [← e] at m
  obtain ⟨q, hq, eq⟩ := List.mem_map.mp m
  obtain ⟨i, ei⟩ := h q hq
  exact ⟨i, by rw [← eq]; exact ei⟩
/-- what a dict of ints has for a key -/
theorem dkv_at {K : PySem.W.Frag} {H : Hp} : ∀ {ks : List Int} {xs : List V} {ds : List D}, RpA K H xs ds → ∀ i : Int, (∃ v d, valV (dkv ks xs) (Sum.inl i) = some v ∧ lk ks ds i = some d ∧ Rp K H v d) ∨ (valV (dkv ks xs) (Sum.inl i) = none ∧ lk ks ds i = none)
  | [], _, _, _, _ => .inr ⟨rfl, by unfold lk; rfl⟩
  | k :: ks, _, _, .nil, _ => .inr ⟨rfl, by unfold lk; rfl⟩
  | k :: ks, v :: vs, d :: ds, .cons h r, i => by
    by_cases e : k = i
    · subst e
      refine .inl ⟨v, d, ?_, by simp [lk], h⟩
      show valV ((Sum.inl k, v) :: dkv ks vs) (Sum.inl k) = some v
      exact valV_pos rfl
    · have e2 : valV (dkv (k :: ks) (v :: vs)) (Sum.inl i) = valV (dkv ks vs) (Sum.inl i) := by
        show valV ((Sum.inl k, v) :: dkv ks vs) (Sum.inl i) = _
        exact valV_neg fun z => e (Sum.inl.inj z)
      have e3 : lk (k :: ks) (d :: ds) i = lk ks ds i := by simp [lk, e]
      rw [e2, e3]
      exact dkv_at r i

section
variable {X : Cx} {pins : List (Addr × Obj)} {σ : L2.St} {H : Hp} {s : Shared}
/-- the model's list, tuple, dict at such a value -/
theorem rp_list (I : Inv X pins σ H s) {a : Addr} {xs : List V} (h : SqL X.K H a xs) : ∃ us : List Value, Vals xs us ∧ s.heap.IsList a us.toArray := by
  obtain ⟨us, r, p, _⟩ := I.list h
  exact ⟨us, r, p.isList⟩
theorem rp_tuple (I : Inv X pins σ H s) {a : Addr} {xs : List V} (h : SqT X.K H a xs) : ∃ us : List Value, Vals xs us ∧ s.heap.IsTuple a us.toArray := by
  obtain ⟨us, r, p, _⟩ := I.tuple h
  exact ⟨us, r, p⟩
theorem rp_dict (I : Inv X pins σ H s) {a : Addr} {ks : List Int} {xs : List V} (h : H a = some (.dK (dkv ks xs))) :
    (a == sysModules) = false ∧ ∃ vs : List (Key × Value), KV (dkv ks xs) vs ∧ ∀ P w, s.heap.DictOf (mixKind P w) a vs := by
  obtain ⟨_, y, vs, r, d⟩ := (show ObjOk X.prog X.w H s.heap a (.dK (dkv ks xs)) from I.hok a _ h)
  exact ⟨y, vs, r, fun P w => dictOf_any d (kv_inl r dkv_inl)⟩
theorem dictOf_dct {P : Program} {w : World} {h : Heap} {a : Addr} {vs : List (Key × Value)} (d : h.DictOf (mixKind P w) a vs) : DctAt h a := by
  obtain ⟨⟨cls, dd, data, sl⟩, es, ep, ho, hx, hd, _⟩ := d
  obtain ⟨h1, _, _⟩ := hx
  simp only at h1 hd
  subst h1 hd
  exact ⟨_, _, _, _, ho⟩

theorem vals_cons {x : V} {xs : List V} {us : List Value} (r : Vals (x :: xs) us) : ∃ u ws, us = u :: ws ∧ RelV x u ∧ Vals xs ws := by
  cases r with
  | cons a b => exact ⟨_, _, rfl, a, b⟩
theorem at_all {A : Around} {xs ys : List V} {ds es : List D} (rx : RpA X.K H xs ds) (ry : RpA X.K H ys es)
    (ih : ∀ (i : Nat) (x y : V) (d e : D) (v u : Value), ds[i]? = some d → es[i]? = some e → Rp X.K H x d → Rp X.K H y e → RelV x v → RelV y u → EqAt A s v u (eqv d e)) {us ws : List Value} (ru : Vals xs us) (rw_ : Vals ys ws) :
    ∀ j (h1 : j < us.toArray.size) (h2 : j < ws.toArray.size), EqAt A s us.toArray[j] ws.toArray[j] (pairAt ds es j) := by
  intro j h1 h2
  have k1 : j < us.length := by simpa using h1
  have k2 : j < ws.length := by simpa using h2
  have l1 := ru.length
  have l2 := rw_.length
  have n1 : j < xs.length := by omega
  have n2 : j < ys.length := by omega
  obtain ⟨d, e1, p1⟩ := rx.at (List.getElem?_eq_getElem n1)
  obtain ⟨e, e2, p2⟩ := ry.at (List.getElem?_eq_getElem n2)
  obtain ⟨u, f1, q1⟩ := ru.get (List.getElem?_eq_getElem n1)
  obtain ⟨w, f2, q2⟩ := rw_.get (List.getElem?_eq_getElem n2)
  have g1 : us.toArray[j] = u := by
    rw [List.getElem?_eq_getElem k1] at f1
    simpa using f1
  have g2 : ws.toArray[j] = w := by
    rw [List.getElem?_eq_getElem k2] at f2
    simpa using f2
  rw [g1, g2]
  have g3 : pairAt ds es j = eqv d e := by
    unfold pairAt
    rw [e1, e2]
  rw [g3]
  exact ih j _ _ d e u w e1 e2 p1 p2 q1 q2
theorem list_at {A : Around} (I : Inv X pins σ H s) {a b : Addr} {xs ys : List V} {ds es : List D} (ha : SqL X.K H a xs) (hb : SqL X.K H b ys) (rx : RpA X.K H xs ds) (ry : RpA X.K H ys es) (hu : A.units < cLine)
    (ih : ∀ (i : Nat) (x y : V) (d e : D) (v u : Value), ds[i]? = some d → es[i]? = some e → Rp X.K H x d → Rp X.K H y e → RelV x v → RelV y u → EqAt A.in1 s v u (eqv d e)) :
    RcAt A s (.ref a) (.ref b) (eqvA ds es) ∧ RcNeAt A s (.ref a) (.ref b) (!eqvA ds es) := by
  obtain ⟨us, ru, hl⟩ := rp_list I ha
  obtain ⟨ws, rw_, hl2⟩ := rp_list I hb
  have n1 : us.toArray.size = ds.length := by rw [List.size_toArray, ← ru.length, rx.len]
  have n2 : ws.toArray.size = es.length := by rw [List.size_toArray, ← rw_.length, ry.len]
  by_cases hs : ds.length = es.length
  · rw [eqvA_same hs, ← n1]
    exact ⟨RcAt.lists hl hl2 (by omega) hu (at_all rx ry ih ru rw_), RcNeAt.lists hl hl2 (by omega) hu (at_all rx ry ih ru rw_)⟩
  · rw [eqvA_other hs]
    have hz : (us.toArray.size != ws.toArray.size) = true := by rw [n1, n2]; simpa using hs
    exact ⟨RcAt.lists_lengths hl hl2 hz hu, RcNeAt.lists_lengths hl hl2 hz hu⟩
theorem tuple_at {A : Around} (I : Inv X pins σ H s) {a b : Addr} {xs ys : List V} {ds es : List D} (ha : SqT X.K H a xs) (hb : SqT X.K H b ys) (rx : RpA X.K H xs ds) (ry : RpA X.K H ys es) (hu : A.units < cLine)
    (ih : ∀ (i : Nat) (x y : V) (d e : D) (v u : Value), ds[i]? = some d → es[i]? = some e → Rp X.K H x d → Rp X.K H y e → RelV x v → RelV y u → EqAt A.in1 s v u (eqv d e)) :
    RcAt A s (.ref a) (.ref b) (eqvA ds es) ∧ RcNeAt A s (.ref a) (.ref b) (!eqvA ds es) := by
  obtain ⟨us, ru, hl⟩ := rp_tuple I ha
  obtain ⟨ws, rw_, hl2⟩ := rp_tuple I hb
  have n1 : us.toArray.size = ds.length := by rw [List.size_toArray, ← ru.length, rx.len]
  have n2 : ws.toArray.size = es.length := by rw [List.size_toArray, ← rw_.length, ry.len]
  rw [eqvA_range, ← n1, ← n2]
  exact ⟨RcAt.tuples hl hl2 hu (at_all rx ry ih ru rw_), RcNeAt.tuples hl hl2 hu (at_all rx ry ih ru rw_)⟩
theorem hits_at {A : Around} {ls : List Int} {ys : List V} {es : List D} {vb : List (Key × Value)} (ry : RpA X.K H ys es) (rb : KV (dkv ls ys) vb) :
    ∀ {ks : List Int} {xs : List V} {ds : List D} {va : List (Key × Value)}, RpA X.K H xs ds → ks.length = xs.length → KV (dkv ks xs) va →
    (∀ (i : Nat) (x y : V) (d e : D) (v u : Value), ds[i]? = some d → Rp X.K H x d → Rp X.K H y e → RelV x v → RelV y u → EqAt A s v u (eqv d e)) → PySem.W.KeqHits A s vb va (eqvK ds ks ls es)
  | [], [], [], va, .nil, _, ra, _ => by
    cases ra
    exact .nil
  | k :: ks, v :: xs, d :: ds, va, .cons h r, hl, ra, ih => by
    cases ra with
    | @cons p q ps qs h1 t =>
      obtain ⟨key, u⟩ := q
      obtain ⟨e1, r1⟩ := h1
      have e1' : (Sum.inl k : Key) = key := e1
      subst e1'
      have rest := hits_at (A := A) ry rb r (by simpa using hl) t fun i x y d e v u g => ih (i + 1) x y d e v u (by simpa using g)
      have rr := rb.val (Sum.inl k)
      rcases dkv_at (ks := ls) ry k with ⟨y, e, g1, g2, g3⟩ | ⟨g1, g2⟩
      · rw [g1] at rr
        obtain ⟨z, hz, rz⟩ := rr.some_of
        have e9 : eqvK (d :: ds) (k :: ks) ls es = (eqv d e && eqvK ds ks ls es) := by
          rw [eqvK]
          simp only [g2]
        rw [e9]
        exact .hit hz (ih 0 v y d e u z rfl h g3 r1 rz) rest
      · rw [g1] at rr
        have hz : valueAt vb (Sum.inl k) = none := by
          cases q : valueAt vb (Sum.inl k) with
          | none => rfl
          | some w =>
            rw [q] at rr
            exact rr.elim
        have e9 : eqvK (d :: ds) (k :: ks) ls es = false := by
          rw [eqvK]
          simp only [g2, Bool.false_and]
        rw [e9]
        exact .miss hz
theorem dict_at {A : Around} (I : Inv X pins σ H s) {a b : Addr} {ks ls : List Int} {xs ys : List V} {ds es : List D} (ha : H a = some (.dK (dkv ks xs))) (hb : H b = some (.dK (dkv ls ys))) (la : ks.length = xs.length) (lb : ls.length = ys.length)
    (rx : RpA X.K H xs ds) (ry : RpA X.K H ys es) (hu : A.units < cLine)
    (ih : ∀ (i : Nat) (x y : V) (d e : D) (v u : Value), ds[i]? = some d → Rp X.K H x d → Rp X.K H y e → RelV x v → RelV y u → EqAt A.in1 s v u (eqv d e)) :
    RcAt A s (.ref a) (.ref b) (eqv (.dic ks ds) (.dic ls es)) ∧ RcNeAt A s (.ref a) (.ref b) (!eqv (.dic ks ds) (.dic ls es)) := by
  obtain ⟨ya, va, ra, da⟩ := rp_dict I ha
  obtain ⟨yb, vb, rb, db⟩ := rp_dict I hb
  have n1 : va.length = ks.length := by rw [← ra.length, dkv_len la]
  have n2 : vb.length = ls.length := by rw [← rb.length, dkv_len lb]
  have hh : va.length = vb.length → PySem.W.KeqHits A.in1 s vb va (eqvK ds ks ls es) := fun _ => hits_at ry rb rx la ra ih
  have e9 : eqv (.dic ks ds) (.dic ls es) = (va.length == vb.length && eqvK ds ks ls es) := by rw [n1, n2, eqv]
  rw [e9]
  exact ⟨fun prog w E Q q => PySem.W.keq_eq (knd := mixKind prog w) ya yb (da prog w) (db prog w) hu hh q, fun prog w E Q q => PySem.W.keq_ne (knd := mixKind prog w) ya yb (da prog w) (db prog w) hu hh q⟩
theorem eqAt_refs {A : Around} {a b : Addr} {k : Bool} (h : RcAt A s (.ref a) (.ref b) k) (hs : a = b → k = true) : EqAt A s (.ref a) (.ref b) k := by
  by_cases e : a = b
  · subst e
    rw [hs rfl]
    exact EqAt.same _
  · exact .of_refs e h
end
end KZ
namespace KZ
open PySem PySem.Spec PyProof.Rows L2 PySem.SeqAt
theorem dkv_inj : ∀ {ks ls : List Int} {xs ys : List V}, ks.length = xs.length → ls.length = ys.length → dkv ks xs = dkv ls ys → ks = ls ∧ xs = ys
  | [], [], [], [], _, _, _ => ⟨rfl, rfl⟩
  | [], l :: ls, [], y :: ys, _, _, h => by simp [dkv] at h
  | k :: ks, [], x :: xs, [], _, _, h => by simp [dkv] at h
  | k :: ks, l :: ls, x :: xs, y :: ys, h1, h2, h => by
    have e : ((Sum.inl k : Key), x) :: dkv ks xs = ((Sum.inl l : Key), y) :: dkv ls ys := h
    injection e with e1 e2
    obtain ⟨a, b⟩ := dkv_inj (by simpa using h1) (by simpa using h2) e2
    injection e1 with e3 e4
    have e5 : k = l := Sum.inl.inj e3
    subst a b e4 e5
    exact ⟨rfl, rfl⟩
section
variable {X : Cx} {pins : List (Addr × Obj)} {σ : L2.St} {H : Hp} {s : Shared}
theorem no_list_tuple (I : Inv X pins σ H s) {a : Addr} {xs ys : List V} (h : SqL X.K H a xs) (h' : SqT X.K H a ys) : False := by
  obtain ⟨_, _, p⟩ := rp_list I h
  obtain ⟨_, _, q⟩ := rp_tuple I h'
  exact ne_of_list_tuple p q rfl
theorem no_list_dict (I : Inv X pins σ H s) {a : Addr} {xs ys : List V} {ks : List Int} (h : SqL X.K H a xs) (h' : H a = some (.dK (dkv ks ys))) : False := by
  obtain ⟨_, _, o, e1, c1, _⟩ := rp_list I h
  obtain ⟨_, _, _, dd⟩ := rp_dict I h'
  obtain ⟨_, _, _, _, e2⟩ := dictOf_dct (dd X.prog X.w)
  rw [e1] at e2
  cases e2
  simp at c1
theorem no_tuple_dict (I : Inv X pins σ H s) {a : Addr} {xs ys : List V} {ks : List Int} (h : SqT X.K H a xs) (h' : H a = some (.dK (dkv ks ys))) : False := by
  obtain ⟨_, _, o, e1, c1, _⟩ := rp_tuple I h
  obtain ⟨_, _, _, dd⟩ := rp_dict I h'
  obtain ⟨_, _, _, _, e2⟩ := dictOf_dct (dd X.prog X.w)
  rw [e1] at e2
  cases e2
  simp at c1
mutual
theorem rp_uniq (I : Inv X pins σ H s) : ∀ {d e : D} {v : V}, Rp X.K H v d → Rp X.K H v e → d = e
  | _, e, _, .non, q => by cases q; rfl
  | _, e, _, .bl b, q => by cases q; rfl
  | _, e, _, .int i, q => by cases q; rfl
  | _, e, _, .str x, q => by cases q; rfl
  | _, e, _, .lst h r, q => by
    cases q with
    | lst h' r' =>
      have e := I.list_inj h h'
      subst e
      rw [rpA_uniq I r r']
    | tup h' r' => exact (no_list_tuple I h h').elim
    | dic h' l r' => exact (no_list_dict I h h').elim
  | _, e, _, .tup h r, q => by
    cases q with
    | lst h' r' => exact (no_list_tuple I h' h).elim
    | tup h' r' =>
      have e := I.tuple_inj h h'
      subst e
      rw [rpA_uniq I r r']
    | dic h' l r' => exact (no_tuple_dict I h h').elim
  | _, e, _, .dic h l r, q => by
    cases q with
    | lst h' r' => exact (no_list_dict I h' h).elim
    | tup h' r' => exact (no_tuple_dict I h' h).elim
    | dic h' l' r' =>
      rw [h] at h'
      obtain ⟨e1, e2⟩ := dkv_inj l l' (by injection (Option.some.inj h'))
      subst e1 e2
      rw [rpA_uniq I r r']
theorem rpA_uniq (I : Inv X pins σ H s) : ∀ {ds es : List D} {vs : List V}, RpA X.K H vs ds → RpA X.K H vs es → ds = es
  | _, _, _, .nil, q => by cases q; rfl
  | _, _, _, .cons h r, q => by
    cases q with
    | cons h' r' => rw [rp_uniq I h h', rpA_uniq I r r']
end
end

def iota (n : Nat) : List Int := (List.range n).map (fun (k : Nat) => Int.ofNat k)
/-- the keys are 0, 1, .., texts are short, all the way down -/
inductive Ok : D → Prop
  | non : Ok .non
  | bl (b) : Ok (.bl b)
  | int (i) : Ok (.int i)
  | str {x : Str} (h : x.length ≤ 1000) : Ok (.str x)
  | lst {ds} : (∀ d ∈ ds, Ok d) → Ok (.lst ds)
  | tup {ds} : (∀ d ∈ ds, Ok d) → Ok (.tup ds)
  | dic {ks ds} : (∀ d ∈ ds, Ok d) → ks.length = ds.length → ks.Nodup → ks = iota ds.length → Ok (.dic ks ds)

theorem eqvK_refl {es : List D} {ls : List Int} : ∀ {ds : List D} {ks : List Int}, (∀ d ∈ ds, eqv d d = true) → (∀ (j : Nat) (d : D) (k : Int), ds[j]? = some d → ks[j]? = some k → lk ls es k = some d) → ks.length = ds.length → eqvK ds ks ls es = true
  | [], _, _, _, _ => by rw [eqvK]
  | d :: ds, [], _, _, h => by simp at h
  | d :: ds, k :: ks, h, hl, hn => by
    rw [eqvK, hl 0 d k rfl rfl]
    simp only [h d List.mem_cons_self, Bool.true_and]
    exact eqvK_refl (fun d' m => h d' (List.mem_cons_of_mem _ m)) (fun j d' k' g1 g2 => hl (j + 1) d' k' (by simpa using g1) (by simpa using g2)) (by simpa using hn)
theorem lk_at : ∀ {ks : List Int} {ds : List D} {j : Nat} {k : Int} {d : D}, ks.Nodup → ks[j]? = some k → ds[j]? = some d → lk ks ds k = some d
  | [], _, _, _, _, _, h, _ => by simp at h
  | _ :: _, [], _, _, _, _, _, h => by simp at h
  | k0 :: ks, d0 :: ds, 0, k, d, hn, h1, h2 => by
    simp at h1 h2
    subst h1 h2
    simp [lk]
  | k0 :: ks, d0 :: ds, j + 1, k, d, hn, h1, h2 => by
    have m : k ∈ ks := List.mem_of_getElem? (by simpa using h1)
    have ne : ¬ k0 = k := fun z => (List.nodup_cons.mp hn).1 (z ▸ m)
    simp only [lk, if_neg ne]
    exact lk_at (List.nodup_cons.mp hn).2 (by simpa using h1) (by simpa using h2)
theorem eqvA_refl : ∀ {ds : List D}, (∀ d ∈ ds, eqv d d = true) → eqvA ds ds = true
  | [], _ => by simp [eqvA]
  | d :: ds, h => by
    rw [eqvA]
    simp only [h d List.mem_cons_self, Bool.true_and]
    exact eqvA_refl fun d' m => h d' (List.mem_cons_of_mem _ m)
mutual
theorem eqv_refl : ∀ {d : D}, Ok d → eqv d d = true
  | .non, _ => by simp [eqv]
  | .bl b, _ => by simp [eqv]
  | .int i, _ => by simp [eqv]
  | .str x, _ => by simp [eqv]
  | .lst ds, h => by
    cases h with
    | lst h =>
      show eqvA ds ds = true
      exact eqvA_refl (eqv_reflA h)
  | .tup ds, h => by
    cases h with
    | tup h =>
      show eqvA ds ds = true
      exact eqvA_refl (eqv_reflA h)
  | .dic ks ds, h => by
    cases h with
    | dic h l n _ =>
      have e : eqvK ds ks ks ds = true := eqvK_refl (eqv_reflA h) (fun j d k g1 g2 => lk_at n g2 g1) l
      simp [eqv, e]
theorem eqv_reflA : ∀ {ds : List D}, (∀ d ∈ ds, Ok d) → ∀ d ∈ ds, eqv d d = true
  | [], _, d, m => by cases m
  | d0 :: ds, h, d, m => by
    rcases List.mem_cons.mp m with e | m
    · rw [e]
      exact eqv_refl (h d0 List.mem_cons_self)
    · exact eqv_reflA (fun d' m => h d' (List.mem_cons_of_mem _ m)) d m
end
def isDic : D → Bool
  | .dic _ _ => true
  | _ => false
def isSeq : D → Bool
  | .lst _ | .tup _ | .dic _ _ => true
  | _ => false
section
variable {X : Cx} {pins : List (Addr × Obj)} {σ : L2.St} {H : Hp} {s : Shared}
theorem dct_of (I : Inv X pins σ H s) {a : Addr} {ks : List Int} {xs : List V} (h : H a = some (.dK (dkv ks xs))) : DctAt s.heap a := by
  obtain ⟨_, _, _, dd⟩ := rp_dict I h
  exact dictOf_dct (dd X.prog X.w)
mutual
theorem eqAt_D (I : Inv X pins σ H s) : ∀ (d e : D) (A : Around) (x y : V) (v u : Value), Ok d → Rp X.K H x d → Rp X.K H y e → RelV x v → RelV y u → A.units + dep d < cLine → EqAt A s v u (eqv d e)
  | .non, e, A, x, y, v, u, ok, p, q, rv, ru, hu => by
    cases p
    cases (show v = Value.none from rv)
    cases q with
    | non => cases (show u = Value.none from ru); exact EqAt.same _
    | bl b => cases (show u = Value.bool b from ru); exact EqAt.none_bool b
    | int i => obtain ⟨t, rfl⟩ := (show ∃ t, u = Value.int i t from ru); exact EqAt.none_int i t
    | str z => obtain ⟨t, rfl⟩ := (show ∃ t, u = Value.str z t from ru); exact EqAt.none_str z t
    | @lst a xs ds h r => cases (show u = Value.ref a from ru); obtain ⟨_, _, hl⟩ := rp_list I h; exact EqAt.none_list hl (by simpa [dep] using hu)
    | @tup a xs ds h r => cases (show u = Value.ref a from ru); obtain ⟨_, _, hl⟩ := rp_tuple I h; exact EqAt.none_tuple hl (by simpa [dep] using hu)
    | @dic a ks xs ds h l r => cases (show u = Value.ref a from ru); exact eq_none_dct (dct_of I h) (by simpa [dep] using hu)
  | .bl c, e, A, x, y, v, u, ok, p, q, rv, ru, hu => by
    cases p
    cases (show v = Value.bool c from rv)
    cases q with
    | non => cases (show u = Value.none from ru); exact EqAt.bool_none c
    | bl b => cases (show u = Value.bool b from ru); exact EqAt.bool_bool c b
    | int i => obtain ⟨t, rfl⟩ := (show ∃ t, u = Value.int i t from ru); exact EqAt.bool_int c i t
    | str z => obtain ⟨t, rfl⟩ := (show ∃ t, u = Value.str z t from ru); exact EqAt.bool_str c z t
    | @lst a xs ds h r => cases (show u = Value.ref a from ru); obtain ⟨_, _, hl⟩ := rp_list I h; exact EqAt.bool_list c hl (by simpa [dep] using hu)
    | @tup a xs ds h r => cases (show u = Value.ref a from ru); obtain ⟨_, _, hl⟩ := rp_tuple I h; exact EqAt.bool_tuple c hl (by simpa [dep] using hu)
    | @dic a ks xs ds h l r => cases (show u = Value.ref a from ru); exact eq_bool_dct c (dct_of I h) (by simpa [dep] using hu)
  | .int c, e, A, x, y, v, u, ok, p, q, rv, ru, hu => by
    cases p
    obtain ⟨tc, rfl⟩ := (show ∃ t, v = Value.int c t from rv)
    cases q with
    | non => cases (show u = Value.none from ru); exact EqAt.int_none c tc
    | bl b => cases (show u = Value.bool b from ru); exact EqAt.int_bool c tc b
    | int i => obtain ⟨t, rfl⟩ := (show ∃ t, u = Value.int i t from ru); exact EqAt.int_int c tc i t
    | str z => obtain ⟨t, rfl⟩ := (show ∃ t, u = Value.str z t from ru); exact EqAt.int_str c tc z t
    | @lst a xs ds h r => cases (show u = Value.ref a from ru); obtain ⟨_, _, hl⟩ := rp_list I h; exact EqAt.int_list c tc hl (by simpa [dep] using hu)
    | @tup a xs ds h r => cases (show u = Value.ref a from ru); obtain ⟨_, _, hl⟩ := rp_tuple I h; exact EqAt.int_tuple c tc hl (by simpa [dep] using hu)
    | @dic a ks xs ds h l r => cases (show u = Value.ref a from ru); exact eq_int_dct c tc (dct_of I h) (by simpa [dep] using hu)
  | .str c, e, A, x, y, v, u, ok, p, q, rv, ru, hu => by
    cases p
    obtain ⟨tc, rfl⟩ := (show ∃ t, v = Value.str c t from rv)
    cases q with
    | non => cases (show u = Value.none from ru); exact EqAt.str_none c tc
    | bl b => cases (show u = Value.bool b from ru); exact EqAt.str_bool c tc b
    | int i => obtain ⟨t, rfl⟩ := (show ∃ t, u = Value.int i t from ru); exact EqAt.str_int c tc i t
    | str z => obtain ⟨t, rfl⟩ := (show ∃ t, u = Value.str z t from ru); exact EqAt.str_str c tc z t
    | @lst a xs ds h r => cases (show u = Value.ref a from ru); obtain ⟨_, _, hl⟩ := rp_list I h; exact EqAt.str_list c tc hl (by simpa [dep] using hu)
    | @tup a xs ds h r => cases (show u = Value.ref a from ru); obtain ⟨_, _, hl⟩ := rp_tuple I h; exact EqAt.str_tuple c tc hl (by simpa [dep] using hu)
    | @dic a ks xs ds h l r => cases (show u = Value.ref a from ru); exact eq_str_dct c tc (dct_of I h) (by simpa [dep] using hu)
  | .lst ds, e, A, x, y, v, u, ok, p, q, rv, ru, hu => by
    have hu2 : A.in1.units + depA ds < cLine := by
      have : A.in1.units = A.units + 1 := rfl
      simp only [dep] at hu
      omega
    have hu1 : A.units < cLine := by omega
    have okr := eqv_refl ok
    cases ok with
    | lst ok =>
      cases p with
      | @lst a xs _ h r =>
        cases (show v = Value.ref a from rv)
        obtain ⟨_, _, hl⟩ := rp_list I h
        cases q with
        | non => cases (show u = Value.none from ru); exact EqAt.list_none hl hu1
        | bl b => cases (show u = Value.bool b from ru); exact EqAt.list_bool b hl hu1
        | int i => obtain ⟨t, rfl⟩ := (show ∃ t, u = Value.int i t from ru); exact EqAt.list_int i t hl hu1
        | str z => obtain ⟨t, rfl⟩ := (show ∃ t, u = Value.str z t from ru); exact EqAt.list_str z t hl hu1
        | @lst b ys es h2 r2 =>
          cases (show u = Value.ref b from ru)
          refine eqAt_refs (list_at I h h2 r r2 hu1 (fun i x y d e v u g _ p q rv ru => eqAt_DA' I ds A.in1 ok hu2 i x y d e v u g p q rv ru)).1 fun z => ?_
          subst z
          have e9 := rp_uniq I (.lst h r) (.lst h2 r2)
          injection e9 with e9
          subst e9
          simpa [eqv] using okr
        | @tup b ys es h2 r2 => cases (show u = Value.ref b from ru); obtain ⟨_, _, hl2⟩ := rp_tuple I h2; exact EqAt.list_tuple hl hl2 hu1
        | @dic b ks ys es h2 l r2 => cases (show u = Value.ref b from ru); exact eq_list_dct hl (dct_of I h2) hu1
  | .tup ds, e, A, x, y, v, u, ok, p, q, rv, ru, hu => by
    have hu2 : A.in1.units + depA ds < cLine := by
      have : A.in1.units = A.units + 1 := rfl
      simp only [dep] at hu
      omega
    have hu1 : A.units < cLine := by omega
    have okr := eqv_refl ok
    cases ok with
    | tup ok =>
      cases p with
      | @tup a xs _ h r =>
        cases (show v = Value.ref a from rv)
        obtain ⟨_, _, hl⟩ := rp_tuple I h
        cases q with
        | non => cases (show u = Value.none from ru); exact EqAt.tuple_none hl hu1
        | bl b => cases (show u = Value.bool b from ru); exact EqAt.tuple_bool b hl hu1
        | int i => obtain ⟨t, rfl⟩ := (show ∃ t, u = Value.int i t from ru); exact EqAt.tuple_int i t hl hu1
        | str z => obtain ⟨t, rfl⟩ := (show ∃ t, u = Value.str z t from ru); exact EqAt.tuple_str z t hl hu1
        | @lst b ys es h2 r2 => cases (show u = Value.ref b from ru); obtain ⟨_, _, hl2⟩ := rp_list I h2; exact EqAt.tuple_list hl hl2 hu1
        | @tup b ys es h2 r2 =>
          cases (show u = Value.ref b from ru)
          refine eqAt_refs (tuple_at I h h2 r r2 hu1 (fun i x y d e v u g _ p q rv ru => eqAt_DA' I ds A.in1 ok hu2 i x y d e v u g p q rv ru)).1 fun z => ?_
          subst z
          have e9 := rp_uniq I (.tup h r) (.tup h2 r2)
          injection e9 with e9
          subst e9
          simpa [eqv] using okr
        | @dic b ks ys es h2 l r2 => cases (show u = Value.ref b from ru); exact eq_tuple_dct hl (dct_of I h2) hu1
  | .dic ks ds, e, A, x, y, v, u, ok, p, q, rv, ru, hu => by
    have hu2 : A.in1.units + depA ds < cLine := by
      have : A.in1.units = A.units + 1 := rfl
      simp only [dep] at hu
      omega
    have hu1 : A.units < cLine := by omega
    have okr := eqv_refl ok
    cases ok with
    | dic ok lk nk _ =>
      cases p with
      | @dic a _ xs _ h l r =>
        cases (show v = Value.ref a from rv)
        have hd := dct_of I h
        cases q with
        | non => cases (show u = Value.none from ru); exact eq_dct_none hd hu1
        | bl b => cases (show u = Value.bool b from ru); exact eq_dct_bool b hd hu1
        | int i => obtain ⟨t, rfl⟩ := (show ∃ t, u = Value.int i t from ru); exact eq_dct_int i t hd hu1
        | str z => obtain ⟨t, rfl⟩ := (show ∃ t, u = Value.str z t from ru); exact eq_dct_str z t hd hu1
        | @lst b ys es h2 r2 => cases (show u = Value.ref b from ru); obtain ⟨_, _, hl2⟩ := rp_list I h2; exact eq_dct_list hl2 hd hu1
        | @tup b ys es h2 r2 => cases (show u = Value.ref b from ru); obtain ⟨_, _, hl2⟩ := rp_tuple I h2; exact eq_dct_tuple hl2 hd hu1
        | @dic b ls ys es h2 l2 r2 =>
          cases (show u = Value.ref b from ru)
          refine eqAt_refs (dict_at I h h2 l l2 r r2 hu1 fun i x y d e v u g p q rv ru => eqAt_DA' I ds A.in1 ok hu2 i x y d e v u g p q rv ru).1 fun z => ?_
          subst z
          have e9 := rp_uniq I (.dic h l r) (.dic h2 l2 r2)
          rw [← e9]
          exact okr
theorem eqAt_DA' (I : Inv X pins σ H s) : ∀ (ds : List D) (A : Around), (∀ d ∈ ds, Ok d) → A.units + depA ds < cLine → ∀ (i : Nat) (x y : V) (d e : D) (v u : Value), ds[i]? = some d → Rp X.K H x d → Rp X.K H y e → RelV x v → RelV y u → EqAt A s v u (eqv d e)
  | [], A, ok, hu, i, x, y, d, e, v, u, g, p, q, rv, ru => by simp at g
  | d0 :: ds, A, ok, hu, 0, x, y, d, e, v, u, g, p, q, rv, ru => by
    have e0 : d0 = d := by simpa using g
    rw [← e0]
    rw [← e0] at p
    exact eqAt_D I d0 e A x y v u (ok d0 List.mem_cons_self) p q rv ru (by
      have : dep d0 ≤ depA (d0 :: ds) := Nat.le_max_left _ _
      omega)
  | d0 :: ds, A, ok, hu, i + 1, x, y, d, e, v, u, g, p, q, rv, ru => eqAt_DA' I ds A (fun d' m => ok d' (List.mem_cons_of_mem _ m)) (by
      have : depA ds ≤ depA (d0 :: ds) := Nat.le_max_right _ _
      omega) i x y d e v u (by simpa using g) p q rv ru
end
end
end KZ
/-! list(zip(a, b)) of two lists or tuples: a new list of new pairs. -/
namespace KZ
open PySem PySem.W

section
variable {prog : Program} {w : World} {A : Around} {E : Value → Shared → Prop} {s : Shared} {z TI TO T i1 i2 : Addr} {fp1 fp2 : List Addr} {n1 n2 i : Nat} {P1 P2 : Nat → Value → Prop} {St1 St2 : Nat → Heap → Prop} {f : Bool} {oT : Obj}
/-- next of a zip whose last pair is still held -/
theorem zh_item {Q : Value → Shared → Prop} (S : ZipSep2 z TI TO i1 i2 fp1 fp2) (D1 : Draws prog w A i1 fp1 n1 P1 St1) (D2 : Draws prog w A i2 fp2 n2 P2 St2)
    (hz : IsZipHeld s.heap z TI TO T f) (hT : s.heap.get? T = some oT) (hTI : IsTupOf2 s.heap TI (.ref i1) (.ref i2)) (st1 : St1 i s.heap) (st2 : St2 i s.heap) (hlt1 : i < n1) (hlt2 : i < n2)
    (hQ : ∀ x1 x2 h' tk, P1 i x1 → P2 i x2 → IsZipHeld h' z TI TO T true → St1 (i + 1) h' → St2 (i + 1) h' → IsTupOf2 h' s.heap.objs.size x1 x2 →
      (∀ c o, c ≠ z → c ≠ i1 → c ≠ i2 → s.heap.get? c = some o → h'.get? c = some o) → Q (.ref s.heap.objs.size) { s with heap := h', toks := tk }) :
    wpAny (model prog w) A (Builtin.«zip.__next__» ⟨[.ref z], []⟩) (fun fin s' => ∃ v, fin = .done (.ret v) ∧ Q v s') E s := by
  obtain ⟨hp, g, d, tk0, os⟩ := s
  show wpAny _ _ (field (.ref z) 2 >>= _) _ _ _
  refine wpAny_bind (wpAny_field hz rfl (x := .bool false) rfl ?_)
  show wpAny _ _ (field (.ref z) 3 >>= _) _ _ _
  refine wpAny_bind (wpAny_field hz rfl (x := .ref TI) rfl (wpAny_seqItems hTI rfl ?_ |> wpAny_bind))
  show wpAny _ _ (Builtin.SmallTypes.ownedTupleIsFree (.ref z) >>= _) _ _ _
  refine wpAny_bind (wpAny_tupleHeld_zip hz hT fun g0 hz0 hs0 => ?_)
  simp only [Bool.false_eq_true, if_false]
  refine wpAny_bind ?_
  rw [← Array.forIn_toList]
  simp only [List.forIn_cons, List.forIn_nil]
  refine wpAny_bind (wpAny_holding ?_ |> wpAny_bind)
  show wpAny _ _ (Builtin.SmallTypes.nextOf (.ref i1) >>= _) _ _ ⟨g0, g, d, tk0, os⟩
  refine wpAny_bind (D1.item i _ _ _ hlt1 (D1.over st1 hs0 S.zf1) fun x1 p1 tk1 hx1 sn1 hp1 => wpAny_pure (wpAny_pure ?_))
  replace hp1 : Heap.SameBut i1 g0 p1 := hp1
  refine wpAny_bind (wpAny_holding ?_ |> wpAny_bind)
  show wpAny _ _ (Builtin.SmallTypes.nextOf (.ref i2) >>= _) _ _ ⟨p1, g, d, tk1, os⟩
  refine wpAny_bind (D2.item i _ _ _ hlt2 (D2.over (D2.over st2 hs0 S.zf2) hp1 S.sep1_2) fun x2 p2 tk2 hx2 sn2 hp2 => wpAny_pure (wpAny_pure (wpAny_pure ?_)))
  replace hp2 : Heap.SameBut i2 p1 p2 := hp2
  show wpAny _ _ (newTuple [x1, x2] >>= _) _ _ ⟨p2, g, d, tk2, os⟩
  refine wpAny_bind (wpAny_newTuple ?_)
  have hsz : p2.objs.size = hp.objs.size := by rw [hp2.1, hp1.1, hs0.1]
  have hz2 : IsZipHeld p2 z TI TO T true := hp2.extBut _ _ S.zi2 (hp1.extBut _ _ S.zi1 hz0)
  have hk : ∀ c o, c ≠ z → c ≠ i1 → c ≠ i2 → hp.get? c = some o → p2.get? c = some o := fun c o c1 c2 c3 e => hp2.extBut _ _ c3 (hp1.extBut _ _ c2 (hs0.extBut _ _ c1 e))
  have hj1 : St1 (i + 1) p2 := D1.over sn1 hp2 S.sep2_1
  refine wpAny_pure ⟨_, rfl, ?_⟩
  show Q (.ref p2.objs.size) ⟨p2.push { cls := .type "tuple", data := .seq #[x1, x2] }, g, d, tk2, os⟩
  have hp9 : IsTupOf2 (p2.push { cls := .type "tuple", data := .seq #[x1, x2] }) p2.objs.size x1 x2 := Heap.get?_push_size _ rfl
  rw [hsz] at hp9 ⊢
  exact hQ x1 x2 _ tk2 hx1 hx2 (Heap.get?_push_of_some _ hz2) (D1.frame _ _ _ hj1 fun b _ o e => Heap.get?_push_of_some _ e) (D2.frame _ _ _ sn2 fun b _ o e => Heap.get?_push_of_some _ e) hp9 fun c o c1 c2 c3 e => Heap.get?_push_of_some _ (hk c o c1 c2 c3 e)
/-- .. and when one of both has no more -/
theorem zh_end {Q : Fin → Shared → Prop} (S : ZipSep2 z TI TO i1 i2 fp1 fp2) (D1 : Draws prog w A i1 fp1 n1 P1 St1) (D2 : Draws prog w A i2 fp2 n2 P2 St2)
    (hz : IsZipHeld s.heap z TI TO T f) (hT : s.heap.get? T = some oT) (hTI : IsTupOf2 s.heap TI (.ref i1) (.ref i2)) (st1 : St1 i s.heap) (st2 : St2 i s.heap) (hle1 : i ≤ n1) (hle2 : i ≤ n2) (hend : i = n1 ∨ i = n2)
    (hE : ∀ h' tk e, (∀ c o, c ≠ z → c ≠ i1 → c ≠ i2 → s.heap.get? c = some o → h'.get? c = some o) → (∃ o, h'.get? e = some o ∧ o.cls = .type "StopIteration") → E (.ref e) { s with heap := h', toks := tk }) :
    wpAny (model prog w) A (Builtin.«zip.__next__» ⟨[.ref z], []⟩) Q E s := by
  obtain ⟨hp, g, d, tk0, os⟩ := s
  show wpAny _ _ (field (.ref z) 2 >>= _) _ _ _
  refine wpAny_bind (wpAny_field hz rfl (x := .bool false) rfl ?_)
  show wpAny _ _ (field (.ref z) 3 >>= _) _ _ _
  refine wpAny_bind (wpAny_field hz rfl (x := .ref TI) rfl (wpAny_seqItems hTI rfl ?_ |> wpAny_bind))
  show wpAny _ _ (Builtin.SmallTypes.ownedTupleIsFree (.ref z) >>= _) _ _ _
  refine wpAny_bind (wpAny_tupleHeld_zip hz hT fun g0 hz0 hs0 => ?_)
  simp only [Bool.false_eq_true, if_false]
  refine wpAny_bind ?_
  rw [← Array.forIn_toList]
  simp only [List.forIn_cons, List.forIn_nil]
  refine wpAny_bind (wpAny_holding ?_ |> wpAny_bind)
  show wpAny _ _ (Builtin.SmallTypes.nextOf (.ref i1) >>= _) _ _ ⟨g0, g, d, tk0, os⟩
  by_cases hlt1 : i < n1
  · have hi2 : i = n2 := by omega
    refine wpAny_bind (D1.item i _ _ _ hlt1 (D1.over st1 hs0 S.zf1) fun x1 p1 tk1 hx1 sn1 hp1 => wpAny_pure (wpAny_pure ?_))
    replace hp1 : Heap.SameBut i1 g0 p1 := hp1
    refine wpAny_bind (wpAny_holding ?_ |> wpAny_bind)
    show wpAny _ _ (Builtin.SmallTypes.nextOf (.ref i2) >>= _) _ _ ⟨p1, g, d, tk1, os⟩
    refine wpAny_bind (D2.done ⟨p1, g, d, tk1, os⟩ _ _ (by rw [← hi2]; exact D2.over (D2.over st2 hs0 S.zf2) hp1 S.sep1_2) fun q e hq he => ?_)
    exact hE q tk1 e (fun c o c1 c2 c3 x => hq _ _ c3 (hp1.extBut _ _ c2 (hs0.extBut _ _ c1 x))) he
  · have hi1 : i = n1 := by omega
    refine wpAny_bind (D1.done ⟨g0, g, d, tk0, os⟩ _ _ (by rw [← hi1]; exact D1.over st1 hs0 S.zf1) fun q e hq he => ?_)
    exact hE q tk0 e (fun c o c1 c2 _ x => hq _ _ c2 (hs0.extBut _ _ c1 x)) he
end

section
variable {prog : Program} {w : World} {A : Around} {z TI TO i1 i2 : Addr} {fp1 fp2 : List Addr} {n1 n2 : Nat} {P1 P2 : Nat → Value → Prop} {St1 St2 : Nat → Heap → Prop}
/-- how a zip stands ahead of its i-th turn, its pairs all held: none given out yet, or one -/
structure ZSt (z TI TO i1 i2 : Addr) (St1 St2 : Nat → Heap → Prop) (i : Nat) (h : Heap) : Prop where
  ti : IsTupOf2 h TI (.ref i1) (.ref i2)
  a : St1 i h
  b : St2 i h
  z : (IsZip h z TI TO .none ∧ ∃ a1 a2, IsTupOf2 h TO a1 a2) ∨ ∃ T f oT, IsZipHeld h z TI TO T f ∧ h.get? T = some oT ∧ T ≠ z ∧ T ≠ i1 ∧ T ≠ i2
theorem zs_item {i : Nat} {s : Shared} {E : Value → Shared → Prop} {Q : Option Value → Shared → Prop} (S : ZipSep2 z TI TO i1 i2 fp1 fp2) (D1 : Draws prog w A.in1 i1 fp1 n1 P1 St1) (D2 : Draws prog w A.in1 i2 fp2 n2 P2 St2) (Z : ZSt z TI TO i1 i2 St1 St2 i s.heap) (h1 : i < n1) (h2 : i < n2)
    (hQ : ∀ x1 x2 h' tk, P1 i x1 → P2 i x2 → ZSt z TI TO i1 i2 St1 St2 (i + 1) h' → IsTupOf2 h' s.heap.objs.size x1 x2 → (∀ c o, c ≠ z → c ≠ TO → c ≠ i1 → c ≠ i2 → s.heap.get? c = some o → h'.get? c = some o) → Q (some (.ref s.heap.objs.size)) { s with heap := h', toks := tk }) :
    wpAny (model prog w) A (pyNext (.ref z)) Q E s := by
  obtain ⟨ti, st1, st2, hz⟩ := Z
  have lt : ∀ {c o}, s.heap.get? c = some o → s.heap.objs.size ≠ c := fun e => Nat.ne_of_gt (Heap.lt_size e)
  have m1 : s.heap.objs.size ≠ i1 := by
    obtain ⟨_, e⟩ := D1.live _ _ st1
    exact lt e
  have m2 : s.heap.objs.size ≠ i2 := by
    obtain ⟨_, e⟩ := D2.live _ _ st2
    exact lt e
  rcases hz with ⟨hz, a1, a2, hTO⟩ | ⟨T, f, oT, hz, hT, t1, t2, t3⟩
  · refine wpAny_pyNext_zipD2_item S D1 D2 hz ti hTO st1 st2 h1 h2 fun x1 x2 h' tk y1 y2 b1 b2 d1 d2 b5 b6 hk => ?_
    exact hQ x1 x2 h' tk y1 y2 ⟨hk _ _ S.TIz S.TITO S.TIi1 S.TIi2 ti, d1, d2, .inr ⟨_, false, _, b1, b5, lt hz, m1, m2⟩⟩ b5 hk
  · have hTy : s.TypeIs (.ref z) "zip" := ⟨_, hz, rfl⟩
    unfold pyNext
    refine wpAny_bind (wpAny_attempt (wpAny_callSpecial?_slot (name := Str.ofString "__next__") hTy F.slot_zip_next
      (wpAny_call_entry F.slot_zip_next hTy F.entry_zip_next (zh_item S D1 D2 hz hT ti st1 st2 h1 h2 fun x1 x2 h' tk y1 y2 b1 d1 d2 b5 hk => wpAny_pure ?_) (F.args_zip_next_1 _))))
    exact hQ x1 x2 h' tk y1 y2 ⟨hk _ _ S.TIz S.TIi1 S.TIi2 ti, d1, d2, .inr ⟨T, true, oT, b1, hk _ _ t1 t2 t3 hT, t1, t2, t3⟩⟩ b5 fun c o c1 _ c3 c4 e => hk c o c1 c3 c4 e
theorem zs_end {i : Nat} {s : Shared} {E : Value → Shared → Prop} {Q : Option Value → Shared → Prop} (S : ZipSep2 z TI TO i1 i2 fp1 fp2) (D1 : Draws prog w A.in1 i1 fp1 n1 P1 St1) (D2 : Draws prog w A.in1 i2 fp2 n2 P2 St2) (Z : ZSt z TI TO i1 i2 St1 St2 i s.heap) (h1 : i ≤ n1) (h2 : i ≤ n2) (he : i = n1 ∨ i = n2)
    (hQ : ∀ h' tk, (∀ c o, c ≠ z → c ≠ TO → c ≠ i1 → c ≠ i2 → s.heap.get? c = some o → h'.get? c = some o) → Q none { s with heap := h', toks := tk }) :
    wpAny (model prog w) A (pyNext (.ref z)) Q E s := by
  obtain ⟨ti, st1, st2, hz⟩ := Z
  rcases hz with ⟨hz, a1, a2, hTO⟩ | ⟨T, f, oT, hz, hT, t1, t2, t3⟩
  · exact wpAny_pyNext_zipD2_end S D1 D2 hz ti hTO st1 st2 h1 h2 he hQ
  · have hTy : s.TypeIs (.ref z) "zip" := ⟨_, hz, rfl⟩
    unfold pyNext
    refine wpAny_bind (wpAny_attempt (wpAny_callSpecial?_slot (name := Str.ofString "__next__") hTy F.slot_zip_next
      (wpAny_call_entry F.slot_zip_next hTy F.entry_zip_next (zh_end S D1 D2 hz hT ti st1 st2 h1 h2 he fun h' tk e hk hx => ?_) (F.args_zip_next_1 _))))
    obtain ⟨o, ho, hc⟩ := hx
    refine wpAny_bind (wpAny_isInstance (T := "StopIteration") (b := true) ⟨o, ho, hc⟩ isSubtype_stop ?_)
    exact wpAny_pure (hQ _ _ fun c o c1 _ c3 c4 e => hk c o c1 c3 c4 e)
/-- the pairs that were made so far: new objects, apart from the zip's own -/
def Made (N0 : Nat) (P1 P2 : Nat → Value → Prop) (offs : List Addr) (acc : Array Value) (n : Nat) (h : Heap) : Prop :=
  acc.size = n ∧ ∀ j, j < n → ∃ T x1 x2, acc[j]? = some (.ref T) ∧ IsTupOf2 h T x1 x2 ∧ P1 j x1 ∧ P2 j x2 ∧ T ∉ offs ∧ N0 ≤ T
theorem Made.keep {N0 : Nat} {offs : List Addr} {acc : Array Value} {n : Nat} {h h' : Heap} (m : Made N0 P1 P2 offs acc n h) (k : ∀ c o, c ∉ offs → h.get? c = some o → h'.get? c = some o) : Made N0 P1 P2 offs acc n h' :=
  ⟨m.1, fun j hj => by
    obtain ⟨T, x1, x2, e1, e2, e3, e4, e5, e6⟩ := m.2 j hj
    exact ⟨T, x1, x2, e1, k _ _ e5 e2, e3, e4, e5, e6⟩⟩
theorem zip_loop (S : ZipSep2 z TI TO i1 i2 fp1 fp2) (D1 : Draws prog w A.in1.in1 i1 fp1 n1 P1 St1) (D2 : Draws prog w A.in1.in1 i2 fp2 n2 P2 St2) (L : Addr) (hLz : L ≠ z) (hLTI : L ≠ TI) (hLTO : L ≠ TO) (hL1 : L ∉ fp1) (hL2 : L ∉ fp2) (res : Value) {R : Result → Shared → Prop} (N0 : Nat) (hn : min n1 n2 ≤ sizeLine) :
    ∀ (k i : Nat) (s : Shared) (acc : Array Value) (c : Nat), min n1 n2 - i = k → i ≤ min n1 n2 → N0 ≤ s.heap.objs.size → TO < s.heap.objs.size → ZSt z TI TO i1 i2 St1 St2 i s.heap →
      s.heap.get? L = some { cls := .type "list", dict := none, data := .seq acc c, slots := #[] } → Made N0 P1 P2 [L, z, TO, i1, i2] acc i s.heap →
      (∀ h' tk acc' c', (∀ b o, b ∉ [L, z, TO, i1, i2] → s.heap.get? b = some o → h'.get? b = some o) → h'.get? L = some { cls := .type "list", dict := none, data := .seq acc' c', slots := #[] } →
        Made N0 P1 P2 [L, z, TO, i1, i2] acc' (min n1 n2) h' → R (.ok (.ret res)) { s with heap := h', toks := tk }) →
      codeAny (model prog w) A (.builtin "list.extend.loop" ⟨[.ref L, .ref z, res], []⟩) R s := by
  have hLi1 : L ≠ i1 := fun e => hL1 (e ▸ S.mem1)
  have hLi2 : L ≠ i2 := fun e => hL2 (e ▸ S.mem2)
  intro k
  induction k with
  | zero =>
    intro i s acc c hk hi hN hTOl Z hS hm hR
    have hin : i = min n1 n2 := by omega
    refine codeAny_builtin F.entry_extend_loop ?_
    rw [Around.under_plainId F.plain_extend_loop _]
    show wpAny _ A.in1 (pyNext (.ref z) >>= _) _ _ s
    refine wpAny_bind (zs_end S D1 D2 Z (by omega) (by omega) (by omega) fun h' tk hk => ?_)
    have hk' : ∀ b o, b ∉ [L, z, TO, i1, i2] → s.heap.get? b = some o → h'.get? b = some o := fun b o hb e => hk b o (fun q => hb (by simp [q])) (fun q => hb (by simp [q])) (fun q => hb (by simp [q])) (fun q => hb (by simp [q])) e
    exact wpAny_pure (hR h' tk acc c hk' (hk L _ hLz hLTO hLi1 hLi2 hS) (by rw [← hin]; exact hm.keep hk'))
  | succ k ih =>
    intro i s acc c hk hi hN hTOl Z hS hm hR
    have hlt : i < min n1 n2 := by omega
    refine codeAny_builtin F.entry_extend_loop ?_
    rw [Around.under_plainId F.plain_extend_loop _]
    show wpAny _ A.in1 (pyNext (.ref z) >>= _) _ _ s
    refine wpAny_bind (zs_item S D1 D2 Z (by omega) (by omega) fun x1 x2 h' tk y1 y2 Z' hT hk => ?_)
    have hS' : h'.get? L = some { cls := .type "list", dict := none, data := .seq acc c, slots := #[] } := hk L _ hLz hLTO hLi1 hLi2 hS
    show wpAny _ A.in1 (updateSeq L (·.push (.ref s.heap.objs.size)) >>= _) _ _ _
    refine wpAny_bind ?_
    have ho : ∀ b o, b ≠ L → h'.get? b = some o → (h'.update L (Obj.mapSeq (·.push (.ref s.heap.objs.size)))).get? b = some o := fun b o hb e => (Heap.get?_update_other _ _ (Ne.symm hb)).trans e
    have ltS : ∀ {b o}, s.heap.get? b = some o → s.heap.objs.size ≠ b := fun e => Nat.ne_of_gt (Heap.lt_size e)
    have nL : s.heap.objs.size ≠ L := ltS hS
    have nz : s.heap.objs.size ≠ z := by
      rcases Z.z with ⟨e, _⟩ | ⟨_, _, _, e, _⟩
      · exact ltS e
      · exact ltS e
    have n1' : s.heap.objs.size ≠ i1 := by
      obtain ⟨_, e⟩ := D1.live _ _ Z.a
      exact ltS e
    have n2' : s.heap.objs.size ≠ i2 := by
      obtain ⟨_, e⟩ := D2.live _ _ Z.b
      exact ltS e
    refine wpAny_updateSeq (s := { s with heap := h', toks := tk }) hS' rfl (wpAny_pure ⟨plainId_quiet F.plain_extend_loop _, ih (i + 1) _ (acc.push (.ref s.heap.objs.size)) _ (by omega) hlt ?_ ?_ ?_ (Heap.get?_update_self _ hS' rfl) ?_ fun h'' tk'' acc' c' k2 e2 m2 => ?_⟩)
      (by rw [hm.1]; omega) (by show (acc.push _).size ≤ sizeLine + 1; rw [Array.size_push, hm.1]; omega)
    · show N0 ≤ (h'.update L _).objs.size
      have q : s.heap.objs.size < h'.objs.size := Heap.lt_size hT
      rw [Heap.size_update]
      omega
    · show TO < (h'.update L _).objs.size
      have q : s.heap.objs.size < h'.objs.size := Heap.lt_size hT
      rw [Heap.size_update]
      exact Nat.lt_trans hTOl q
    · refine ⟨ho _ _ (Ne.symm hLTI) Z'.ti, D1.frame _ _ _ Z'.a fun b hb o e => ho b o (fun q => hL1 (q ▸ hb)) e, D2.frame _ _ _ Z'.b fun b hb o e => ho b o (fun q => hL2 (q ▸ hb)) e, ?_⟩
      rcases Z'.z with ⟨hz, a1, a2, hTO⟩ | ⟨T, f, oT, hz, hT2, t1, t2, t3⟩
      · exact .inl ⟨ho _ _ (Ne.symm hLz) hz, a1, a2, ho _ _ (Ne.symm hLTO) hTO⟩
      · by_cases hTL2 : T = L
        · exact .inr ⟨T, f, _, ho _ _ (Ne.symm hLz) hz, by rw [hTL2]; exact Heap.get?_update_self _ hS' rfl, t1, t2, t3⟩
        · exact .inr ⟨T, f, oT, ho _ _ (Ne.symm hLz) hz, ho _ _ hTL2 hT2, t1, t2, t3⟩
    · refine ⟨by rw [Array.size_push, hm.1], fun j hj => ?_⟩
      by_cases e : j < i
      · obtain ⟨T, a1, a2, e1, e2, e3, e4, e5, e6⟩ := hm.2 j e
        refine ⟨T, a1, a2, ?_, ho _ _ (fun q => e5 (by simp [q])) (hk _ _ (fun q => e5 (by simp [q])) (fun q => e5 (by simp [q])) (fun q => e5 (by simp [q])) (fun q => e5 (by simp [q])) e2), e3, e4, e5, e6⟩
        rw [Array.getElem?_push_lt (by rw [hm.1]; exact e), ← e1, Array.getElem?_eq_getElem (by rw [hm.1]; exact e)]
      · have ej : j = i := by omega
        subst ej
        refine ⟨s.heap.objs.size, x1, x2, ?_, ho _ _ nL hT, y1, y2, ?_, hN⟩
        · rw [← hm.1]
          simp
        · simp only [List.mem_cons, List.not_mem_nil, or_false, not_or]
          exact ⟨nL, nz, Nat.ne_of_gt hTOl, n1', n2'⟩
    · refine hR h'' tk'' acc' c' (fun b o hb e => k2 b o hb (ho b o (fun q => hb (by simp [q])) (hk b o (fun q => hb (by simp [q])) (fun q => hb (by simp [q])) (fun q => hb (by simp [q])) (fun q => hb (by simp [q])) e))) e2 m2
end
section
variable {prog : Program} {w : World} {A : Around} {E : Value → Shared → Prop} {s : Shared}
theorem adN (N a b : Nat) (h : a ≠ b) : N + a ≠ N + b := by omega
theorem adO (N a : Nat) (h : a ≠ 0) : N + a ≠ N := by omega
theorem ltN {b N : Nat} (h : b < N) (a : Nat) : b ≠ N + a := by omega
theorem ltL {N a b : Nat} (h : a < b) : N + a < N + b := by omega
theorem nolen_zip : typeLookup (.type "zip") "__len__" = pure none := am_miss_of_fast (by decide +kernel)
theorem nohint_zip : typeLookup (.type "zip") "__length_hint__" = pure none := am_miss_of_fast (by decide +kernel)
theorem hint_zip {z : Addr} {Q : Bool → Shared → Prop} (hT : s.TypeIs (.ref z) "zip") (h : Q true s) : wpAny (model prog w) A (Builtin.List.listLengthHint (.ref z)) Q E s := by
  unfold Builtin.List.listLengthHint
  refine wpAny_bind (wpAny_specialOf hT nolen_zip ?_)
  show wpAny _ A (specialOf (Value.ref z) (Str.ofString "__length_hint__") >>= _) _ _ _
  refine wpAny_bind (wpAny_specialOf hT nohint_zip ?_)
  exact wpAny_pure h
/-- what list(zip(a, b)) gives: a new list of new pairs -/
theorem list_zip {v1 v2 : Value} {o1 o2 : Obj} {H1 H2 : Heap → Prop} {fp1 fp2 : List Addr} {n1 n2 : Nat} {P1 P2 : Nat → Value → Prop} {St1 St2 : Addr → Nat → Heap → Prop} {Q : Value → Shared → Prop} (B1 : Begins v1 o1 H1) (B2 : Begins v2 o2 H2) (h1 : H1 s.heap) (h2 : H2 s.heap)
    (f1 : ∀ b ∈ fp1, b < s.heap.objs.size) (f2 : ∀ b ∈ fp2, b < s.heap.objs.size)
    (D1 : ∀ it A, A.handled = none → it ∉ fp1 → Draws prog w A it (it :: fp1) n1 P1 (St1 it)) (D2 : ∀ it A, A.handled = none → it ∉ fp2 → Draws prog w A it (it :: fp2) n2 P2 (St2 it))
    (S1 : ∀ it h, H1 h → h.get? it = some o1 → St1 it 0 h) (S2 : ∀ it h, H2 h → h.get? it = some o2 → St2 it 0 h) (hh : A.handled = none) (hn : min n1 n2 ≤ sizeLine)
    (hQ : ∀ p h' tk acc c, s.heap.objs.size ≤ p → (∀ b o, s.heap.get? b = some o → h'.get? b = some o) → h'.get? p = some { cls := .type "list", dict := none, data := .seq acc c, slots := #[] } →
      acc.size = min n1 n2 → (∀ j, j < min n1 n2 → ∃ T x1 x2, acc[j]? = some (.ref T) ∧ IsTupOf2 h' T x1 x2 ∧ P1 j x1 ∧ P2 j x2 ∧ T ≠ p ∧ s.heap.objs.size ≤ T) → Q (.ref p) { s with heap := h', toks := tk }) :
    wpAny (model prog w) A (call (.type "zip") [v1, v2]) (fun zv s1 => wpAny (model prog w) A (call (.type "list") [zv]) Q E s1) E s := by
  refine zip_begins2 B1 B2 h1 h2 fun h' hz hTI hTO g1 g2 hsz hk => ?_
  obtain ⟨N, eN⟩ : ∃ N, N = s.heap.objs.size := ⟨_, rfl⟩
  rw [← eN] at hz hTI hTO g1 g2 hsz ⊢
  have hTy : ({ s with heap := h' } : Shared).TypeIs (.ref (N + 4)) "zip" := ⟨_, hz, rfl⟩
  refine callType_codes (Q₁ := fun obj s₁ => obj = .ref h'.objs.size ∧ s₁ = { s with heap := h'.push { cls := .type "list", data := .seq #[] } }) PySem.F.called_list (PySem.F.typeCall_list_1 _) PySem.F.entry_list_init
    (code_list_new _ ⟨rfl, rfl⟩) fun obj s₁ hs => ?_
  obtain ⟨rfl, rfl⟩ := hs
  obtain ⟨L, eL⟩ : ∃ L, L = h'.objs.size := ⟨_, rfl⟩
  have eLN : L = N + 5 := eL.trans hsz
  have hS : (h'.push { cls := .type "list", data := .seq #[] }).get? L = some { cls := .type "list", data := .seq #[] } := by rw [eL]; exact Heap.get?_push_size _ rfl
  rw [← eL]
  refine ⟨⟨_, hS, rfl⟩, PySem.F.args_list_init_2 _ _, ?_⟩
  show wpAny _ _ (do let old ← Builtin.List.listItems (.ref L); Builtin.List.listUpdate (.ref L) (fun _ => #[]); letGo old.toList.reverse; Builtin.List.listExtendWith (.ref L) (.ref (N + 4)) .none) _ _ _
  refine wpAny_bind ?_
  unfold Builtin.List.listItems
  refine wpAny_bind (wpAny_seqItems hS rfl (wpAny_pure ?_))
  show wpAny _ _ (updateSeq L (fun _ => #[]) >>= fun _ => letGo (#[] : Array Value).toList.reverse >>= fun _ => Builtin.List.listExtendWith (.ref L) (.ref (N + 4)) .none) _ _ _
  refine wpAny_bind (wpAny_updateSeq hS rfl ?_)
  refine wpAny_bind (wpAny_letGo ?_)
  have keep1 : ∀ b o, b ≠ L → h'.get? b = some o → ((h'.push { cls := .type "list", data := .seq #[] }).update L (Obj.mapSeq (fun _ => (#[] : Array Value)))).get? b = some o :=
    fun b o hb e => (Heap.get?_update_other _ _ (Ne.symm hb)).trans (Heap.get?_push_of_some _ e)
  have hS2 := Heap.get?_update_self (Obj.mapSeq (fun _ => (#[] : Array Value))) hS rfl
  obtain ⟨h2', eh2⟩ : ∃ h2', h2' = (h'.push { cls := .type "list", data := .seq #[] }).update L (Obj.mapSeq (fun _ => (#[] : Array Value))) := ⟨_, rfl⟩
  have sz2 : h2'.objs.size = N + 6 := by rw [eh2, Heap.size_update, Heap.size_push, hsz]
  rw [← eh2] at keep1 hS2
  show wpAny _ _ (Builtin.List.listExtendWith (.ref L) (.ref (N + 4)) .none) _ _ { s with heap := (h'.push { cls := .type "list", data := .seq #[] }).update L (Obj.mapSeq (fun _ => (#[] : Array Value))) }
  rw [← eh2]
  have ne4 : N + 4 ≠ L := by rw [eLN]; exact adN N 4 5 (by decide)
  have hz2 := keep1 _ _ ne4 hz
  unfold Builtin.List.listExtendWith
  refine wpAny_bind (wpAny_typeOf (T := "zip") (v := .ref (N + 4)) ⟨_, hz2, rfl⟩ ?_)
  have hsr : Builtin.List.listSameRef (.ref L) (.ref (N + 4)) = false := by simp [Builtin.List.listSameRef, Ne.symm ne4]
  have hnl : (Value.type "zip" == Value.type "list") = false := by decide
  have hnt : (Value.type "zip" == Value.type "tuple") = false := by decide
  simp only [hsr, hnl, hnt, Bool.or_false, Bool.false_eq_true, if_false]
  refine wpAny_bind (wpAny_pyIter_zip hz2 ?_)
  refine wpAny_bind (wpAny_holding (hint_zip ⟨_, hz2, rfl⟩ ?_))
  refine wpAny_ite_split (fun _ => ?_) (fun q => absurd rfl q)
  refine wpAny_bind (wpAny_rule ?_)
  refine wpAny_bind ?_
  show wpAny _ _ (updateSeq L (·.push .none) >>= fun _ => updateSeq L (·.pop)) _ _ _
  refine wpAny_bind (wpAny_updateSeq hS2 rfl ?_)
  have hS3 := Heap.get?_update_self (Obj.mapSeq (·.push Value.none)) hS2 rfl
  refine wpAny_updateSeq (hz := by seq_fits) hS3 rfl ?_
  have hS4 := Heap.get?_update_self (Obj.mapSeq (·.pop)) hS3 rfl
  have keep3 : ∀ b o, b ≠ L → h'.get? b = some o → ((h2'.update L (Obj.mapSeq (·.push Value.none))).update L (Obj.mapSeq (·.pop))).get? b = some o :=
    fun b o hb e => (Heap.get?_update_other _ _ (Ne.symm hb)).trans ((Heap.get?_update_other _ _ (Ne.symm hb)).trans (keep1 b o hb e))
  obtain ⟨h3, eh3⟩ : ∃ h3, h3 = (h2'.update L (Obj.mapSeq (·.push Value.none))).update L (Obj.mapSeq (·.pop)) := ⟨_, rfl⟩
  have sz3 : h3.objs.size = N + 6 := by rw [eh3, Heap.size_update, Heap.size_update, sz2]
  rw [← eh3] at keep3 hS4
  have keep4 : ∀ b o, s.heap.get? b = some o → h3.get? b = some o := fun b o e => keep3 b o (by
    have q := Heap.lt_size e
    rw [← eN] at q
    rw [eLN]
    exact ltN q 5) (hk b o e)
  have i1f : N ∉ fp1 := fun q => by
    have r := f1 _ q
    rw [← eN] at r
    exact Nat.lt_irrefl _ r
  have i2f : N + 1 ∉ fp2 := fun q => by
    have r := f2 _ q
    rw [← eN] at r
    exact Nat.not_succ_lt_self r
  have sep : ZipSep2 (N + 4) (N + 2) (N + 3) N (N + 1) (N :: fp1) ((N + 1) :: fp2) := zip_sep2 (fun b hb => by rw [eN]; exact f1 b hb) (fun b hb => by rw [eN]; exact f2 b hb)
  have nLf : ∀ (m : Nat) (fp : List Addr), m < 5 → (∀ b ∈ fp, b < s.heap.objs.size) → L ∉ (N + m) :: fp := fun m fp hm hf q => by
    rcases List.mem_cons.mp q with q | q
    · rw [eLN] at q
      exact adN N 5 m (fun z => by omega) q
    · have r := hf _ q
      rw [← eN, eLN] at r
      exact Nat.not_lt.mpr (Nat.le_add_right N 5) r
  refine wpAny_pure ⟨plainId_quiet PySem.F.plain_extend_loop _, ?_⟩
  show codeAny (model prog w) A.in1 (.builtin "list.extend.loop" ⟨[.ref L, .ref (N + 4), .none], []⟩) _ { s with heap := (h2'.update L (Obj.mapSeq (·.push Value.none))).update L (Obj.mapSeq (·.pop)) }
  rw [← eh3]
  refine zip_loop (A := A.in1) sep (D1 N _ hh i1f) (D2 (N + 1) _ hh i2f) L (Ne.symm ne4) (by rw [eLN]; exact adN N 5 2 (by decide)) (by rw [eLN]; exact adN N 5 3 (by decide)) (nLf 0 fp1 (by omega) f1) (nLf 1 fp2 (by omega) f2) .none N hn (min n1 n2) 0 _ #[] _ (by omega) (Nat.zero_le _) (by rw [sz3]; exact Nat.le_add_right N 6) (by rw [sz3]; exact ltL (by decide)) ?_ hS4 ⟨rfl, fun j hj => absurd hj (Nat.not_lt_zero _)⟩ fun h'' tk acc' c' k2 e2 m2 => ?_
  · exact ⟨keep3 _ _ (by rw [eLN]; exact adN N 2 5 (by decide)) hTI, S1 N _ (B1.keeps _ _ h1 keep4) (keep3 _ _ (by rw [eLN]; exact (adO N 5 (by decide)).symm) g1), S2 (N + 1) _ (B2.keeps _ _ h2 keep4) (keep3 _ _ (by rw [eLN]; exact adN N 1 5 (by decide)) g2),
      .inl ⟨keep3 _ _ ne4 hz, _, _, keep3 _ _ (by rw [eLN]; exact adN N 3 5 (by decide)) hTO⟩⟩
  · refine ⟨rfl, hQ L h'' tk acc' c' (by rw [← eN, eLN]; exact Nat.le_add_right N 5) (fun b o e => k2 b o ?_ (keep4 b o e)) e2 m2.1 fun j hj => ?_⟩
    · have q := Heap.lt_size e
      have q' : b < N := by rw [eN]; exact q
      simp only [List.mem_cons, List.not_mem_nil, or_false, not_or]
      rw [eLN]
      exact ⟨ltN q' 5, ltN q' 4, ltN q' 3, ltN q' 0, ltN q' 1⟩
    · obtain ⟨T, x1, x2, e1, e2, e3, e4, e5, e6⟩ := m2.2 j hj
      exact ⟨T, x1, x2, e1, e2, e3, e4, fun q => e5 (by simp [q]), by rw [← eN]; exact e6⟩
end
end KZ
namespace KZ
open PySem PySem.Spec PyProof.Rows L2 PySem.SeqAt Evl

section
variable {X : Cx} {pins : List (Addr × Obj)} {σ : L2.St} {H H' : Hp} {s : Shared}
/-- many new objects are laid and tracked at once -/
theorem inv_all {h' : Heap} {t' : Nat} (I : Inv X pins σ H s) (k : ∀ b u, s.heap.get? b = some u → h'.get? b = some u) (old : ∀ a, a < s.heap.objs.size → H' a = H a)
    (new : ∀ a o, s.heap.objs.size ≤ a → H' a = some o → ObjOk X.prog X.w H' h' a o) : Inv X pins σ H' { s with heap := h', toks := t' } := by
  have lo : ∀ a o, H a = some o → H' a = some o := fun a o e => by
    rw [old a (I.hok.lt e)]
    exact e
  refine I.un ⟨fun b o e n _ _ => k b o e, fun b o e n _ _ => ⟨o.slots, k b o e⟩, fun b o e n _ => ?_, fun b o e _ => ⟨o, k b o e⟩, fun b xs e => lo b _ e, fun b o u e => lo b _ e, fun b ps e => ⟨#[], by rw [lo b _ e]; simp⟩⟩ fun a o e => ?_
  · rw [old b (Heap.lt_size e)]
    exact n
  · by_cases ha : a < s.heap.objs.size
    · rw [old a ha] at e
      exact (I.hok a o e).stay (fun c u _ q => k c u q) (fun c q => lo c _ q) fun c xs q => lo c _ q
    · exact new a o (Nat.not_lt.mp ha) e
end

/-! ### list(zip(a, b)) -/
/-- a list or a tuple of these -/
def SeqX (K : PySem.W.Frag) (H : Hp) (x : V) (xs : List V) : Prop := ∃ a, x = .ref a ∧ (SqL K H a xs ∨ SqT K H a xs)
theorem SeqX.mono {K : PySem.W.Frag} {H H' : Hp} {x : V} {xs : List V} (e : Ex H H') (h : SeqX K H x xs) : SeqX K H' x xs := by
  obtain ⟨a, rfl, h⟩ := h
  exact ⟨a, rfl, h.imp (ex_l e) (ex_t e)⟩
/-- new pairs of both's members stand at ts -/
def PairsAt (H : Hp) (ts : List Addr) (xs ys : List V) : Prop := ∀ (j : Nat) (t : Addr) (x y : V), ts[j]? = some t → xs[j]? = some x → ys[j]? = some y → H t = some (.tup [x, y])
def kZip (K : PySem.W.Frag) (x y : V) (H : Hp) (Q : VK) : Prop := ∃ xs ys, SeqX K H x xs ∧ SeqX K H y ys ∧
  ∀ (p : Addr) (H' : Hp) (ts : List Addr), H p = none → Ex H H' → H' p = some (.lst (ts.map V.ref)) → ts.length = min xs.length ys.length → PairsAt H' ts xs ys → (∀ t ∈ ts, H t = none ∧ t ≠ p) → Q (.ref p) H'
def rZip (K : PySem.W.Frag) : List V → Hp → VK → Prop := fun vs H Q => ∃ x y, vs = [x, y] ∧ kZip K x y H Q
/-- how such a value is walked -/
theorem draws_of {X : Cx} {pins : List (Addr × Obj)} {σ : L2.St} {H : Hp} {s : Shared} (I : Inv X pins σ H s) {x : V} {v : Value} {xs : List V} (r : RelV x v) (h : SeqX X.K H x xs) :
    ∃ (us : List Value) (o : Obj) (Hv : Heap → Prop) (fp : List Addr) (St : Addr → Nat → Heap → Prop), Vals xs us ∧ Begins v o Hv ∧ Hv s.heap ∧ (∀ b ∈ fp, b < s.heap.objs.size) ∧
      (∀ it A, A.handled = none → it ∉ fp → Draws X.prog X.w A it (it :: fp) us.length (fun i z => us[i]? = some z) (St it)) ∧ (∀ it h, Hv h → h.get? it = some o → St it 0 h) ∧ xs.length ≤ sizeLine := by
  obtain ⟨a, rfl, h⟩ := h
  cases (show v = Value.ref a from r)
  rcases h with h | h
  · obtain ⟨us, ru, p, hz⟩ := I.list h
    refine ⟨us, _, _, [a], fun it i h => h.IsListIter it a i ∧ h.IsList a us.toArray, ru, begins_list a us.toArray, p.isList, fun b hb => ?_, fun it A hh hn => ?_, fun it h hv e => ⟨⟨_, e, rfl, rfl⟩, hv⟩, hz⟩
    · obtain ⟨o, ho, _⟩ := p.isList
      rw [List.mem_singleton.mp hb]
      exact Heap.lt_size ho
    · have d := Draws.list (prog := X.prog) (w := X.w) (A := A) hh it a (fun z => hn (by rw [z]; exact List.mem_singleton.mpr rfl)) us.toArray
      have e1 : (fun (i : Nat) (v : Value) => us.toArray[i]? = some v) = fun i v => us[i]? = some v := by
        funext i v
        simp
      rw [e1] at d
      rw [show us.toArray.size = us.length from List.size_toArray] at d
      exact d
  · obtain ⟨us, ru, p, hz⟩ := I.tuple h
    have p' : s.heap.IsTuple a us.toArray := p
    refine ⟨us, _, _, [a], fun it i h => h.IsTupleIter it a i ∧ h.IsTuple a us.toArray, ru, begins_tuple a us.toArray, p', fun b hb => ?_, fun it A hh hn => ?_, fun it h hv e => ⟨⟨_, e, rfl, rfl⟩, hv⟩, hz⟩
    · obtain ⟨o, ho, _⟩ := p'
      rw [List.mem_singleton.mp hb]
      exact Heap.lt_size ho
    · have d := Draws.tuple (prog := X.prog) (w := X.w) (A := A) hh it a (fun z => hn (by rw [z]; exact List.mem_singleton.mpr rfl)) us.toArray
      have e1 : (fun (i : Nat) (v : Value) => us.toArray[i]? = some v) = fun i v => us[i]? = some v := by
        funext i v
        simp
      rw [e1] at d
      rw [show us.toArray.size = us.length from List.size_toArray] at d
      exact d
/-- the tuple that stands at a, of these pairs -/
def look : List Addr → List V → List V → Addr → Option HO
  | t :: ts, x :: xs, y :: ys, a => if a = t then some (.tup [x, y]) else look ts xs ys a
  | _, _, _, _ => none
theorem look_some : ∀ {ts : List Addr} {xs ys : List V} {a : Addr} {o : HO}, look ts xs ys a = some o → ∃ (j : Nat) (x y : V), ts[j]? = some a ∧ xs[j]? = some x ∧ ys[j]? = some y ∧ o = .tup [x, y]
  | [], _, _, _, _, h => by simp [look] at h
  | _ :: _, [], _, _, _, h => by simp [look] at h
  | _ :: _, _ :: _, [], _, _, h => by simp [look] at h
  | t :: ts, x :: xs, y :: ys, a, o, h => by
    by_cases e : a = t
    · simp [look, e] at h
      exact ⟨0, x, y, by simp [e], rfl, rfl, h.symm⟩
    · simp only [look, if_neg e] at h
      obtain ⟨j, x', y', h1, h2, h3, h4⟩ := look_some h
      exact ⟨j + 1, x', y', by simpa using h1, by simpa using h2, by simpa using h3, h4⟩
theorem look_is : ∀ {ts : List Addr} {xs ys : List V} {a : Addr} {j : Nat} {x y : V}, ts[j]? = some a → xs[j]? = some x → ys[j]? = some y → ∃ o, look ts xs ys a = some o
  | [], _, _, _, _, _, _, h, _, _ => by simp at h
  | _ :: _, [], _, _, _, _, _, _, h, _ => by simp at h
  | _ :: _, _ :: _, [], _, _, _, _, _, _, h => by simp at h
  | t :: ts, x0 :: xs, y0 :: ys, a, j, x, y, h1, h2, h3 => by
    by_cases e : a = t
    · exact ⟨.tup [x0, y0], by simp only [look, if_pos e]⟩
    · simp only [look, if_neg e]
      cases j with
      | zero => exact absurd (Option.some.inj h1).symm e
      | succ j => exact look_is (j := j) (by simpa using h1) (by simpa using h2) (by simpa using h3)
section
variable {X : Cx} {a b : Expr} {t : TA} {p p2 pos pos2 : Pos}
theorem p_listzip (hg : Gl X "list") (hg2 : Gl X "zip") (hm : X.mg "list" = none) (hm2 : X.mg "zip" = none) (hc : X.calm = true) (ha : PA X [a, b] t)
    (hs : starEach [a, b] X.env = (false, eval a X.env) :: starEach [b] X.env := by rfl) (hpl : (backTo pos2 (starEach [b] X.env)).any (·.1) = false := by rfl)
    (hs3 : starEach [.Call (.Name "zip" p2) [a, b] [] pos2] X.env = (false, eval (.Call (.Name "zip" p2) [a, b] [] pos2) X.env) :: starEach [] X.env := by rfl) :
    PE X (.Call (.Name "list" p) [.Call (.Name "zip" p2) [a, b] [] pos2] [] pos) (tCB (rZip X.K) t) := by
  refine ⟨fun pins s σ H Q I h => ?_⟩
  have goal : wpAny (model X.prog X.w) X.A (eval (.Call (.Name "zip" p2) [a, b] [] pos2) X.env) (fun zv s1 => wpAny (model X.prog X.w) X.A (call (.type "list") [zv]) (EP X pins σ Q) X.xe s1) X.xe s := by
    refine Call_ (ld_blt I hg2 hm2 PyProof.Rows.boot_zip (PyProof.Rows.callWith_type1 (thn (ha.run pos2 pins s σ H (fun vs H1 => ∃ x y, vs = [x, y] ∧ kZip X.K x y H1 Q) I h) fun us s1 ⟨vs, H1, I1, r1, q1⟩ => ?_) hs hpl))
    · obtain ⟨x, y, rfl, xs, ys, sx, sy, q⟩ := q1
      obtain ⟨u1, u2, rfl, rx, ry⟩ := vals2 r1
      obtain ⟨us, o1, V1, fp1, St1, ru, B1, hv1, f1, D1, S1, hz1⟩ := draws_of I1 rx sx
      obtain ⟨ws, o2, V2, fp2, St2, rw_, B2, hv2, f2, D2, S2, hz2⟩ := draws_of I1 ry sy
      have l1 := ru.length
      have l2 := rw_.length
      refine list_zip B1 B2 hv1 hv2 f1 f2 D1 D2 S1 S2 (I1.ok.hd hc) (by omega) fun pl h' tk acc c hge hk hl hsz hm => ?_
      -- the addresses of the pairs
      have ex : ∃ ts : List Addr, ts.length = min us.length ws.length ∧ ∀ (j : Nat) (t : Addr), ts[j]? = some t → acc[j]? = some (.ref t) ∧ t ≠ pl ∧ s1.heap.objs.size ≤ t ∧ ∃ x1 x2, us[j]? = some x1 ∧ ws[j]? = some x2 ∧ IsTupOf2 h' t x1 x2 := by
        have key : ∀ n, n ≤ min us.length ws.length → ∃ ts : List Addr, ts.length = n ∧ ∀ (j : Nat) (t : Addr), ts[j]? = some t → acc[j]? = some (.ref t) ∧ t ≠ pl ∧ s1.heap.objs.size ≤ t ∧ ∃ x1 x2, us[j]? = some x1 ∧ ws[j]? = some x2 ∧ IsTupOf2 h' t x1 x2 := by
          intro n
          induction n with
          | zero => exact fun _ => ⟨[], rfl, fun j t e => by simp at e⟩
          | succ n ih =>
            intro hn
            obtain ⟨ts, e1, e2⟩ := ih (by omega)
            obtain ⟨T, x1, x2, g1, g2, g3, g4, g5, g6⟩ := hm n (by omega)
            refine ⟨ts ++ [T], by simp [e1], fun j t e => ?_⟩
            by_cases hj : j < n
            · rw [List.getElem?_append_left (by omega)] at e
              exact e2 j t e
            · have hj2 : j = n := by
                have := (List.getElem?_eq_some_iff.mp e).1
                simp [e1] at this
                omega
              subst hj2
              rw [List.getElem?_append_right (by omega), e1] at e
              simp at e
              subst e
              exact ⟨g1, g5, g6, x1, x2, g3, g4, g2⟩
        exact key _ (Nat.le_refl _)
      obtain ⟨ts, el, et⟩ := ex
      have et2 : ∀ {j : Nat} {t : Addr} {x y : V}, ts[j]? = some t → xs[j]? = some x → ys[j]? = some y → ∃ x1 x2, RelV x x1 ∧ RelV y x2 ∧ IsTupOf2 h' t x1 x2 := fun {j t x y} g1 g2 g3 => by
        obtain ⟨_, _, _, x1, x2, k1, k2, k3⟩ := et j t g1
        obtain ⟨z1, m1, n1⟩ := ru.get g2
        obtain ⟨z2, m2, n2⟩ := rw_.get g3
        rw [k1] at m1
        rw [k2] at m2
        cases m1
        cases m2
        exact ⟨x1, x2, n1, n2, k3⟩
      let H9 : Hp := fun c => if c = pl then some (.lst (ts.map V.ref)) else match look ts xs ys c with
        | some o => some o
        | none => H1 c
      have lts : ∀ {c o}, look ts xs ys c = some o → s1.heap.objs.size ≤ c := fun g => by
        obtain ⟨j, _, _, g1, _⟩ := look_some g
        exact (et j _ g1).2.2.1
      have old : ∀ c, c < s1.heap.objs.size → H9 c = H1 c := fun c hc => by
        have ne : c ≠ pl := fun z => by
          rw [z] at hc
          exact Nat.not_lt.mpr hge hc
        have e8 : H9 c = match look ts xs ys c with | some o => some o | none => H1 c := if_neg ne
        rw [e8]
        cases g : look ts xs ys c with
        | none => rfl
        | some o => exact absurd hc (Nat.not_lt.mpr (lts g))
      have hp9 : H9 pl = some (.lst (ts.map V.ref)) := if_pos rfl
      have tl : ts.length ≤ sizeLine := by omega
      have I9 : Inv X pins σ H9 { s1 with heap := h', toks := tk } := by
        refine inv_all I1 hk old fun c o hc e => ?_
        by_cases e0 : c = pl
        · subst e0
          rw [hp9] at e
          cases e
          refine show ObjOk X.prog X.w H9 h' c (.lst (ts.map V.ref)) from ⟨by rw [List.length_map]; exact tl, acc.toList, _, ?_, by rw [Array.toArray_toList]; exact hl⟩
          refine vals_of_at ((List.length_map ..).trans (el.trans (hsz.symm.trans Array.length_toList.symm))) fun j x u g1 g2 => ?_
          rw [List.getElem?_map] at g1
          cases g : ts[j]? with
          | none =>
            rw [g] at g1
            cases g1
          | some t =>
            rw [g] at g1
            have k1 := (et j t g).1
            rw [Array.getElem?_toList] at g2
            rw [k1] at g2
            cases g1
            cases g2
            rfl
        · have e' : (match look ts xs ys c with | some o => some o | none => H1 c) = some o := by
            rw [← e]
            exact (if_neg e0).symm
          cases g : look ts xs ys c with
          | none =>
            rw [g] at e'
            have e'' : H1 c = some o := e'
            exact absurd (I1.hok.lt e'') (Nat.not_lt.mpr hc)
          | some o' =>
            rw [g] at e'
            have e'' : o' = o := Option.some.inj e'
            subst e''
            obtain ⟨j, x, y, g1, g2, g3, rfl⟩ := look_some g
            obtain ⟨x1, x2, n1, n2, n3⟩ := et2 g1 g2 g3
            exact show ObjOk X.prog X.w H9 h' c (.tup [x, y]) from ⟨(show 2 ≤ sizeLine by decide), [x1, x2], .cons n1 (.cons n2 .nil), ⟨_, n3, rfl, _, rfl⟩⟩
      have exx : Ex H1 H9 := fun c o e => by
        rw [old c (I1.hok.lt e)]
        exact e
      refine ⟨.ref pl, H9, I9, rfl, q pl H9 ts (I1.hok.fresh hge) exx hp9 (by rw [el, l1, l2]) (fun j t x y g1 g2 g3 => ?_) fun t ht => ?_⟩
      · have hne := (et j t g1).2.1
        obtain ⟨o, g⟩ := look_is g1 g2 g3
        obtain ⟨j', x', y', k1, k2, k3, rfl⟩ := look_some g
        obtain ⟨a1, a2, n1, n2, n3⟩ := et2 g1 g2 g3
        obtain ⟨b1, b2, m1, m2, m3⟩ := et2 k1 k2 k3
        have e9 : IsTupOf2 h' t a1 a2 := n3
        have m4 := (show h'.get? t = _ from n3).symm.trans (show h'.get? t = _ from m3)
        obtain ⟨q1, q2⟩ : a1 = b1 ∧ a2 = b2 := by simpa using m4
        subst q1 q2
        have r1' := n1.inj m1
        have r2' := n2.inj m2
        subst r1' r2'
        have e8 : H9 t = match look ts xs ys t with | some o => some o | none => H1 t := if_neg hne
        rw [e8, g]
      · obtain ⟨j, g⟩ := List.getElem?_of_mem ht
        exact ⟨I1.hok.fresh (et j t g).2.2.1, (et j t g).2.1⟩
  exact Call_ (ld_blt I hg hm boot_list (PyProof.Rows.callWith_type1 (args_cons (thn goal fun zv s1 h1 => args_nil h1) hs3) hs3))
end
end KZ
namespace KZ
open PySem PySem.Spec PyProof.Rows L2 PySem.SeqAt Evl

/-! ### the built-ins by their names -/
structure Blt (mg : Str → Option Value) : Prop where
  isinstance : mg "isinstance" = none
  int : mg "int" = none
  bool : mg "bool" = none
  str : mg "str" = none
  tuple : mg "tuple" = none
  list : mg "list" = none
  dict : mg "dict" = none
  len : mg "len" = none
  all : mg "all" = none
  any : mg "any" = none
  zip : mg "zip" = none
  range : mg "range" = none
  enumerate : mg "enumerate" = none
  sorted : mg "sorted" = none
  set : mg "set" = none
  abs : mg "abs" = none

/-! ### a def of the module -/
structure Cal (P : Program) (w : World) (K : PySem.W.Frag) (mg : Str → Option Value) (base : Heap) (k : Nat) (x : Str) (ps : List Str) (sp : Sp) : Prop where
  ex : ∃ (f : Addr) (fd : FuncData), FnOk P w K mg base CX0 k f fd ps sp ∧ mg x = some (.ref f) ∧ PySem.W.keepIn K (.ref f) = true ∧ Binds K fd ps []
theorem pcal {X : Cx} {k k' : Nat} {x : Str} {ps : List Str} {sp : Sp} {e : Expr} {es : List Expr} {t : TA} {p pos : Pos} (C : Cal X.prog X.w X.K X.mg X.base k x ps sp) (hr : Room k' X.A) (hk : k ≤ k') (hg : Gl X x) (ha : PA X (e :: es) t)
    (hdb : (x == ("__debug__" : Str)) = false := by decide) (he : starEach (e :: es) X.env = (false, eval e X.env) :: starEach es X.env := by rfl) (hpl : (backTo pos (starEach es X.env)).any (·.1) = false := by rfl) :
    PE X (.Call (.Name x p) (e :: es) [] pos) (tCall sp [] E0 t) := by
  obtain ⟨f, fd, F, hm, kp, hb⟩ := C.ex
  exact pe_call F (hr.mono hk) hg hm kp hb .nil pass0 ha hdb he hpl

/-! ### either of two readings -/
theorem pe_alt {X : Cx} {e : Expr} {t u : TE} (h : PE X e t) (h' : PE X e u) : PE X e (fun σ H Q => t σ H Q ∨ u σ H Q) :=
  ⟨fun pins s σ H Q I q => q.elim (h.run pins s σ H Q I) (h'.run pins s σ H Q I)⟩
theorem ps_alt {X : Cx} {st : Stmt} {t u : TS} (h : PS X st t) (h' : PS X st u) : PS X st (fun D σ H => t D σ H ∨ u D σ H) :=
  ⟨fun pins s σ H D I q => q.elim (h.run pins s σ H D I) (h'.run pins s σ H D I)⟩
theorem pi_alt {X : Cx} {tg e : Expr} {t u : TI} (h : PI X tg e t) (h' : PI X tg e u) : PI X tg e (fun σ H R => t σ H R ∨ u σ H R) :=
  ⟨fun pins s σ H R I q => q.elim (h.run pins s σ H R I) (h'.run pins s σ H R I)⟩

/-! ### isinstance -/
theorem p_isi {X : Cx} {e : Expr} {te : TE} {T : Str} {n : String} {p p2 pos : Pos} (hg : Gl X "isinstance") (hT : Gl X T) (B : X.mg "isinstance" = none) (BT : X.mg T = none) (hb : bootBuiltins T = some (.type n)) (he : PE X e te)
    (hn : T ≠ "__name__" := by decide) (hd : (T == ("__debug__" : Str)) = false := by decide) (h1 : starEach [e, .Name T p2] X.env = (false, eval e X.env) :: starEach [.Name T p2] X.env := by rfl) :
    PE X (.Call (.Name "isinstance" p) [e, .Name T p2] [] pos) (tCB (rIsi X.K) (tCons te (tCons (tC (.ty n)) tNil))) :=
  pe_callB call_isi hg B (by decide +kernel) (pa_cons (hs := h1) he (pa_cons (pe_bltn hT BT hb rfl hn hd) pa_nil)) (by decide) (by decide) h1 (by rfl)
theorem p_isi2 {X : Cx} {e : Expr} {te : TE} {T S : Str} {n m : String} {p p2 p3 p4 pos : Pos} {k : Nat} (hg : Gl X "isinstance") (hT : Gl X T) (hS : Gl X S) (B : X.mg "isinstance" = none) (BT : X.mg T = none) (BS : X.mg S = none) (hb : bootBuiltins T = some (.type n)) (hb2 : bootBuiltins S = some (.type m)) (he : PE X e te)
    (hn : T ≠ "__name__" := by decide) (hd : (T == ("__debug__" : Str)) = false := by decide) (hn2 : S ≠ "__name__" := by decide) (hd2 : (S == ("__debug__" : Str)) = false := by decide)
    (h1 : starEach [e, .Tuple [.Name T p2, .Name S p3] k p4] X.env = (false, eval e X.env) :: starEach [.Tuple [.Name T p2, .Name S p3] k p4] X.env := by rfl) :
    PE X (.Call (.Name "isinstance" p) [e, .Tuple [.Name T p2, .Name S p3] k p4] [] pos) (tCB (rIsiT X.K) (tCons te (tCons (tTup (tCons (tC (.ty n)) (tCons (tC (.ty m)) tNil))) tNil))) :=
  pe_callB call_isiT hg B (by decide +kernel) (pa_cons (hs := h1) he (pa_cons (pe_tup (pa_cons (pe_bltn hT BT hb rfl hn hd) (pa_cons (pe_bltn hS BS hb2 rfl hn2 hd2) pa_nil))) pa_nil)) (by decide) (by decide) h1 (by rfl)
def tyD : D → String
  | .non => "NoneType"
  | .bl _ => "bool"
  | .int _ => "int"
  | .str _ => "str"
  | .tup _ => "tuple"
  | .lst _ => "list"
  | .dic _ _ => "dict"
theorem tyX_of {K : PySem.W.Frag} {H : Hp} {x : V} {d : D} (h : Rp K H x d) : TyX K H x (.type (tyD d)) := by
  cases h with
  | non => exact .base .non
  | bl b => exact .base (.bl b)
  | int i => exact .base (.int i)
  | str z => exact .base (.str z)
  | lst h r =>
    rcases h with (h | ⟨o, h⟩) | ⟨o, its, n, h1, h2, _⟩
    · exact .base (.lst h)
    · exact .base (.frz h)
    · exact .kList h1 h2
  | tup h r =>
    rcases h with (h | ⟨o, h⟩) | ⟨o, its, n, h1, h2, _⟩
    · exact .base (.tup h)
    · exact .fTuple h
    · exact .kTuple h1 h2
  | dic h l r => exact .base (.dK h)
def isI : D → Bool
  | .int _ | .bl _ => true
  | _ => false
def isB : D → Bool
  | .bl _ => true
  | _ => false
def isS : D → Bool
  | .str _ => true
  | _ => false
def isT : D → Bool
  | .tup _ => true
  | _ => false
def isL : D → Bool
  | .lst _ => true
  | _ => false
def isM : D → Bool
  | .dic _ _ => true
  | _ => false
theorem kit_int (K : PySem.W.Frag) (d : D) : PySem.W.kitOne K (.type (tyD d)) (.type "int") = some (isI d) := by cases d <;> (refine kit_ty ?_; dsimp only [tyD, isI, isB, isS, isT, isL, isM]; decide +kernel)
theorem kit_bool (K : PySem.W.Frag) (d : D) : PySem.W.kitOne K (.type (tyD d)) (.type "bool") = some (isB d) := by cases d <;> (refine kit_ty ?_; dsimp only [tyD, isI, isB, isS, isT, isL, isM]; decide +kernel)
theorem kit_str (K : PySem.W.Frag) (d : D) : PySem.W.kitOne K (.type (tyD d)) (.type "str") = some (isS d) := by cases d <;> (refine kit_ty ?_; dsimp only [tyD, isI, isB, isS, isT, isL, isM]; decide +kernel)
theorem kit_tuple (K : PySem.W.Frag) (d : D) : PySem.W.kitOne K (.type (tyD d)) (.type "tuple") = some (isT d) := by cases d <;> (refine kit_ty ?_; dsimp only [tyD, isI, isB, isS, isT, isL, isM]; decide +kernel)
theorem kit_list (K : PySem.W.Frag) (d : D) : PySem.W.kitOne K (.type (tyD d)) (.type "list") = some (isL d) := by cases d <;> (refine kit_ty ?_; dsimp only [tyD, isI, isB, isS, isT, isL, isM]; decide +kernel)
theorem kit_dict (K : PySem.W.Frag) (d : D) : PySem.W.kitOne K (.type (tyD d)) (.type "dict") = some (isM d) := by cases d <;> (refine kit_ty ?_; dsimp only [tyD, isI, isB, isS, isT, isL, isM]; decide +kernel)
section
variable {K : PySem.W.Frag} {σ : L2.St} {H : Hp} {te : TE} {x : V} {d : D} {n m : String}
theorem ev_isi {b : Bool} (h : Ev te σ H x) (r : Rp K H x d) (k : PySem.W.kitOne K (.type (tyD d)) (.type n) = some b) : Ev (tCB (rIsi K) (tCons te (tCons (tC (.ty n)) tNil))) σ H (.bl b) := fun H1 e Q q =>
  h H1 e _ fun H2 e2 => ⟨x, .ty n, _, _, b, rfl, .ty n, tyX_of (r.mono (e.trans e2)), k, q H2 e2⟩
theorem ev_isi2 {b c : Bool} (h : Ev te σ H x) (r : Rp K H x d) (k : PySem.W.kitOne K (.type (tyD d)) (.type n) = some b) (k2 : PySem.W.kitOne K (.type (tyD d)) (.type m) = some c) :
    Ev (tCB (rIsiT K) (tCons te (tCons (tTup (tCons (tC (.ty n)) (tCons (tC (.ty m)) tNil))) tNil))) σ H (.bl (b || c)) := fun H1 e Q q =>
  h H1 e _ fun H2 e2 => ⟨(show (2 : Nat) ≤ sizeLine from by decide), fun p hp => ⟨x, p, [.ty n, .ty m], _, [.type n, .type m], b || c, rfl, upd_same, .cons (.ty n) (.cons (.ty m) .nil), tyX_of (r.mono ((e.trans e2).trans (Ex.new hp))), by
    refine kitAny_cons k (fun hb => ?_) fun hb => by rw [hb]; rfl
    refine kitAny_cons k2 (fun hc => ?_) fun hc => by rw [hb, hc]; rfl
    rw [hb, hc]
    rfl, q _ (e2.trans (Ex.new hp))⟩⟩
end

/-! ### == and != of data -/
def sameSort : D → D → Bool
  | .lst _, .lst _ => true
  | .tup _, .tup _ => true
  | .dic _ _, .dic _ _ => true
  | a, b => !isSeq a && !isSeq b
section
variable {X : Cx} {pins : List (Addr × Obj)} {σ : L2.St} {H : Hp} {s : Shared}
theorem neAt_D (I : Inv X pins σ H s) {d e : D} {A : Around} {x y : V} {v u : Value} (ss : sameSort d e = true) (ok : Ok d) (p : Rp X.K H x d) (q : Rp X.K H y e) (rv : RelV x v) (ru : RelV y u) (hu : A.units + dep d < cLine) : RcNeAt A s v u (!eqv d e) := by
  have hu1 : A.units < cLine := by omega
  have up : ∀ ds, A.units + (depA ds + 1) < cLine → A.in1.units + depA ds < cLine := fun ds h => by
    have : A.in1.units = A.units + 1 := rfl
    omega
  cases p with
  | non =>
    cases (show v = Value.none from rv)
    cases q with
    | non => cases (show u = Value.none from ru); exact RcNeAt.none_none
    | bl b => cases (show u = Value.bool b from ru); exact RcNeAt.none_bool b
    | int i => obtain ⟨t, rfl⟩ := (show ∃ t, u = Value.int i t from ru); exact RcNeAt.none_int i t
    | str z => obtain ⟨t, rfl⟩ := (show ∃ t, u = Value.str z t from ru); exact RcNeAt.none_str z t
    | lst h r => cases ss
    | tup h r => cases ss
    | dic h l r => cases ss
  | bl c =>
    cases (show v = Value.bool c from rv)
    cases q with
    | non => cases (show u = Value.none from ru); exact RcNeAt.bool_none c
    | bl b => cases (show u = Value.bool b from ru); exact RcNeAt.bool_bool c b
    | int i => obtain ⟨t, rfl⟩ := (show ∃ t, u = Value.int i t from ru); exact RcNeAt.bool_int c i t
    | str z => obtain ⟨t, rfl⟩ := (show ∃ t, u = Value.str z t from ru); exact RcNeAt.bool_str c z t
    | lst h r => cases ss
    | tup h r => cases ss
    | dic h l r => cases ss
  | int c =>
    obtain ⟨tc, rfl⟩ := (show ∃ t, v = Value.int c t from rv)
    cases q with
    | non => cases (show u = Value.none from ru); exact RcNeAt.int_none c tc
    | bl b => cases (show u = Value.bool b from ru); exact RcNeAt.int_bool c tc b
    | int i => obtain ⟨t, rfl⟩ := (show ∃ t, u = Value.int i t from ru); exact RcNeAt.int_int c tc i t
    | str z => obtain ⟨t, rfl⟩ := (show ∃ t, u = Value.str z t from ru); exact RcNeAt.int_str c tc z t
    | lst h r => cases ss
    | tup h r => cases ss
    | dic h l r => cases ss
  | str c =>
    obtain ⟨tc, rfl⟩ := (show ∃ t, v = Value.str c t from rv)
    cases q with
    | non => cases (show u = Value.none from ru); exact RcNeAt.str_none c tc
    | bl b => cases (show u = Value.bool b from ru); exact RcNeAt.str_bool c tc b
    | int i => obtain ⟨t, rfl⟩ := (show ∃ t, u = Value.int i t from ru); exact RcNeAt.str_int c tc i t
    | str z => obtain ⟨t, rfl⟩ := (show ∃ t, u = Value.str z t from ru); exact RcNeAt.str_str c tc z t
    | lst h r => cases ss
    | tup h r => cases ss
    | dic h l r => cases ss
  | @lst a xs ds h r =>
    cases (show v = Value.ref a from rv)
    cases ok with
    | lst ok =>
      cases q with
      | @lst b ys es h2 r2 => cases (show u = Value.ref b from ru); exact (list_at I h h2 r r2 hu1 (fun i x y d e v u g _ p q rv ru => eqAt_DA' I ds A.in1 ok (up ds hu) i x y d e v u g p q rv ru)).2
      | _ => cases ss
  | @tup a xs ds h r =>
    cases (show v = Value.ref a from rv)
    cases ok with
    | tup ok =>
      cases q with
      | @tup b ys es h2 r2 => cases (show u = Value.ref b from ru); exact (tuple_at I h h2 r r2 hu1 (fun i x y d e v u g _ p q rv ru => eqAt_DA' I ds A.in1 ok (up ds hu) i x y d e v u g p q rv ru)).2
      | _ => cases ss
  | @dic a ks xs ds h l r =>
    cases (show v = Value.ref a from rv)
    cases ok with
    | dic ok _ _ _ =>
      cases q with
      | @dic b ls ys es h2 l2 r2 => cases (show u = Value.ref b from ru); exact (dict_at I h h2 l l2 r r2 hu1 fun i x y d e v u g p q rv ru => eqAt_DA' I ds A.in1 ok (up ds hu) i x y d e v u g p q rv ru).2
      | _ => cases ss
end
def rNeZ (K : PySem.W.Frag) : R2 := fun x y H Q => ∃ d e, Rp K H x d ∧ Rp K H y e ∧ Ok d ∧ dep d ≤ 60 ∧ sameSort d e = true ∧ Q (.bl (!eqv d e)) H
def rEqZ (K : PySem.W.Frag) : R2 := fun x y H Q => ∃ ds es, Rp K H x (.lst ds) ∧ Rp K H y (.lst es) ∧ (∀ d ∈ ds, Ok d) ∧ depA ds ≤ 60 ∧ Q (.bl (eqvA ds es)) H
section
variable {X : Cx}
theorem op_neZ (hu : X.A.units + 64 < cLine) : OpR X (compareOp .NotEq) (rNeZ X.K) := by
  intro pins s σ H x y v u Q I rx ry h
  obtain ⟨d, e, p, q, ok, hd, ss, hq⟩ := h
  exact neAt_D I ss ok p q rx ry (by omega) X.prog X.w _ _ ⟨.bl (!eqv d e), H, I, rfl, hq⟩
theorem op_eqZ (hu : X.A.units + 64 < cLine) : OpR X (compareOp .Eq) (rEqZ X.K) := by
  intro pins s σ H x y v u Q I rx ry h
  obtain ⟨ds, es, p, q, ok, hd, hq⟩ := h
  cases p with
  | @lst a xs _ h r =>
    cases q with
    | @lst b ys _ h2 r2 =>
      cases (show v = Value.ref a from rx)
      cases (show u = Value.ref b from ry)
      have hu2 : X.A.in1.units + depA ds < cLine := by
        have : X.A.in1.units = X.A.units + 1 := rfl
        omega
      exact (list_at I h h2 r r2 (by omega) (fun i x y d e v u g _ p q rv ru => eqAt_DA' I ds X.A.in1 ok hu2 i x y d e v u g p q rv ru)).1 X.prog X.w _ _ ⟨.bl (eqvA ds es), H, I, rfl, hq⟩
/-- both rules for each -/
theorem op_neU (hu : X.A.units + 64 < cLine) : OpR X (compareOp .NotEq) (fun x y H Q => rNe x y H Q ∨ rNeZ X.K x y H Q) := op_ne.or (op_neZ hu)
theorem op_eqU (hu : X.A.units + 64 < cLine) : OpR X (compareOp .Eq) (fun x y H Q => rEq x y H Q ∨ rEqZ X.K x y H Q) := op_eq.or (op_eqZ hu)
end
section
variable {K : PySem.W.Frag} {H : Hp} {x y z : V} {r r' : R2}
theorem rv_l (h : RV r x y H z) : RV (fun x y H Q => r x y H Q ∨ r' x y H Q) x y H z := fun H1 e Q q => .inl (h H1 e Q q)
theorem rv_r (h : RV r' x y H z) : RV (fun x y H Q => r x y H Q ∨ r' x y H Q) x y H z := fun H1 e Q q => .inr (h H1 e Q q)
theorem rv_neZ {d e : D} (p : Rp K H x d) (q : Rp K H y e) (ok : Ok d) (hd : dep d ≤ 60) (ss : sameSort d e = true) : RV (rNeZ K) x y H (.bl (!eqv d e)) := fun H1 e1 Q k => ⟨d, e, p.mono e1, q.mono e1, ok, hd, ss, k H1 (Ex.refl H1)⟩
theorem rv_eqZ {ds es : List D} (p : Rp K H x (.lst ds)) (q : Rp K H y (.lst es)) (ok : ∀ d ∈ ds, Ok d) (hd : depA ds ≤ 60) : RV (rEqZ K) x y H (.bl (eqvA ds es)) := fun H1 e1 Q k => ⟨ds, es, p.mono e1, q.mono e1, ok, hd, k H1 (Ex.refl H1)⟩
end

/-! ### xs[i] op= e -/
def rGetL (K : PySem.W.Frag) : V → V → Hp → VK → Prop := fun x y H Q => ∃ p xs i v, x = .ref p ∧ y = .int i ∧ SqL K H p xs ∧ 0 ≤ i ∧ xs[i.toNat]? = some v ∧ Q v H
theorem get_list {X : Cx} : PGet X (rGetL X.K) := by
  intro pins s σ H o i ov iv Q I ro ri h
  obtain ⟨p, xs, k, z, rfl, rfl, hq, h0, hx, q⟩ := h
  cases (show ov = Value.ref p from ro)
  obtain ⟨t, rfl⟩ := (show ∃ t, iv = Value.int k t from ri)
  obtain ⟨its, r, pl, hz⟩ := I.list hq
  obtain ⟨w, ew, rw'⟩ := r.get hx
  have hl := (List.getElem?_eq_some_iff.mp hx).1
  have hn := line63
  exact wpAny_getItem_list pl.isList h0 (by omega) (by simpa using ew) ⟨z, H, I, rw', q⟩

/-! ### a comprehension over any walk -/
theorem lc_it {J : It} {g : TG} {tt : TT} {te : TE} {vs : List Nat} {σ : L2.St} {H1 : Hp} {Dl : Addr} {Qd : Hp → Prop} (n : Nat) (Pv : Nat → Hp → Prop) (h0 : Pv 0 (upd H1 Dl (.lst [])))
    (hg : ∀ i H, i < n → Pv i H → J.go i H) (hs : ∀ i x H H', i < n → Pv i H → J.yld i H x H' → g x (wipe σ vs) H' fun σ2 H2 => wipe σ2 vs = wipe σ vs ∧ tt σ2 H2 fun b H3 =>
      if b = true then te σ2 H3 fun y H4 => ∃ acc, H4 Dl = some (.lst acc) ∧ acc.length < sizeLine ∧ Pv (i + 1) (upd H4 Dl (.lst (acc ++ [y]))) else Pv (i + 1) H3)
    (hst : ∀ H, Pv n H → J.stop n H) (hd : ∀ H, Pv n H → Qd H) :
    ∃ W : Nat → Nat → Hp → Prop, (∃ m, W 0 m (upd H1 Dl (.lst []))) ∧ ∀ i m H, W i m H →
      (J.stop i H ∧ Qd H) ∨ (J.go i H ∧ ∃ Nx : Hp → Prop, (∀ H', Nx H' → ∃ m', m' < m ∧ W (i + 1) m' H') ∧ ∀ x H', J.yld i H x H' → g x (wipe σ vs) H' fun σ2 H2 => wipe σ2 vs = wipe σ vs ∧ tt σ2 H2 fun b H3 =>
        if b = true then te σ2 H3 fun y H4 => ∃ acc, H4 Dl = some (.lst acc) ∧ acc.length < sizeLine ∧ Nx (upd H4 Dl (.lst (acc ++ [y]))) else Nx H3) := by
  refine ⟨fun i m H => m = n - i ∧ i ≤ n ∧ Pv i H, ⟨n, by simp, Nat.zero_le _, h0⟩, ?_⟩
  rintro i m H ⟨rfl, hi, p⟩
  by_cases hlt : i < n
  · exact .inr ⟨hg i H hlt p, Pv (i + 1), fun H' p' => ⟨n - (i + 1), by omega, rfl, hlt, p'⟩, fun x H' y => hs i x H H' hlt p y⟩
  · have e : i = n := by omega
    subst e
    exact .inl ⟨hst H p, hd H p⟩
end KZ
namespace KZ
open PySem
theorem bb_isinstance : bootBuiltins "isinstance" = some (.builtin "isinstance") := by decide +kernel
theorem bb_len : bootBuiltins "len" = some (.builtin "len") := by decide +kernel
theorem bb_all : bootBuiltins "all" = some (.builtin "all") := by decide +kernel
theorem bb_any : bootBuiltins "any" = some (.builtin "any") := by decide +kernel
theorem bb_abs : bootBuiltins "abs" = some (.builtin "abs") := by decide +kernel
theorem bb_sorted : bootBuiltins "sorted" = some (.builtin "sorted") := by decide +kernel
theorem bb_int : bootBuiltins "int" = some (.type "int") := by decide +kernel
theorem bb_bool : bootBuiltins "bool" = some (.type "bool") := by decide +kernel
theorem bb_str : bootBuiltins "str" = some (.type "str") := by decide +kernel
theorem bb_tuple : bootBuiltins "tuple" = some (.type "tuple") := by decide +kernel
theorem bb_list : bootBuiltins "list" = some (.type "list") := by decide +kernel
theorem bb_dict : bootBuiltins "dict" = some (.type "dict") := by decide +kernel
theorem bb_set : bootBuiltins "set" = some (.type "set") := by decide +kernel
end KZ
namespace KZ
open PySem PySem.Spec PyProof.Rows L2 PySem.SeqAt Evl

section
variable {K : PySem.W.Frag} {σ : L2.St} {H : Hp} {ta tb tc te : TE} {t : TT} {x y z : V} {r r' : R2}
theorem ev_chain {a b : Bool} (h1 : Ev ta σ H x) (h2 : Ev tb σ H y) (h3 : RV r x y H (.bl a)) (h4 : a = true → Ev tc σ H z) (h5 : a = true → RV r' y z H (.bl b)) : Ev (tChain r r' ta tb tc) σ H (.bl (a && b)) := fun H1 e Q q =>
  h1 H1 e _ fun H2 e2 => h2 H2 (e.trans e2) _ fun H3 e3 => h3 H3 ((e.trans e2).trans e3) _ fun H4 e4 => ⟨a, rfl, by
    cases a with
    | true =>
      rw [if_pos rfl]
      exact h4 rfl H4 (((e.trans e2).trans e3).trans e4) _ fun H5 e5 => h5 rfl H5 ((((e.trans e2).trans e3).trans e4).trans e5) _ fun H6 e6 => q H6 (((((e2.trans e3).trans e4).trans e5)).trans e6)
    | false =>
      rw [if_neg Bool.false_ne_true]
      exact q H4 ((e2.trans e3).trans e4)⟩
theorem ev_tchain {a b : Bool} (h : Ev (tChain r r' ta tb tc) σ H (.bl (a && b))) : EvT (tTest (tChain r r' ta tb tc)) σ H (a && b) := et_test h
theorem rv_le {i j : Int} : RV (rI0 fun i j => .bl (decide (i ≤ j))) (.int i) (.int j) H (.bl (decide (i ≤ j))) := rv_I0 (g := fun i j => .bl (decide (i ≤ j)))
theorem rv_lt {i j : Int} : RV (rI0 fun i j => .bl (decide (i < j))) (.int i) (.int j) H (.bl (decide (i < j))) := rv_I0 (g := fun i j => .bl (decide (i < j)))
theorem rv_add {i j : Int} : RV (rI0 fun i j => .int (i + j)) (.int i) (.int j) H (.int (i + j)) := rv_I0 (g := fun i j => .int (i + j))
theorem rv_sub {i j : Int} : RV (rI0 fun i j => .int (i - j)) (.int i) (.int j) H (.int (i - j)) := rv_I0 (g := fun i j => .int (i - j))
theorem ev_lenS {s : Str} (h : Ev te σ H (.str s)) (hz : s.length ≤ 100000) : Ev (tCB (fun xs H Q => ∃ x n, xs = [x] ∧ LenV K x H n ∧ Q (.int n) H) (tCons te tNil)) σ H (.int (s.length : Int)) := fun H1 e Q q =>
  h H1 e _ fun H2 e2 => ⟨.str s, s.length, rfl, ⟨sz_of hz, rfl⟩, q H2 e2⟩
theorem ev_lenL {p : Addr} {xs : List V} (h : Ev te σ H (.ref p)) (hl : SqL K H p xs) : Ev (tCB (fun xs H Q => ∃ x n, xs = [x] ∧ LenV K x H n ∧ Q (.int n) H) (tCons te tNil)) σ H (.int (xs.length : Int)) := fun H1 e Q q =>
  h H1 e _ fun H2 e2 => ⟨.ref p, xs.length, rfl, .inl ⟨xs, ex_l (e.trans e2) hl, rfl⟩, q H2 e2⟩
theorem ev_lenT {p : Addr} {xs : List V} (h : Ev te σ H (.ref p)) (hl : SqT K H p xs) : Ev (tCB (fun xs H Q => ∃ x n, xs = [x] ∧ LenV K x H n ∧ Q (.int n) H) (tCons te tNil)) σ H (.int (xs.length : Int)) := fun H1 e Q q =>
  h H1 e _ fun H2 e2 => ⟨.ref p, xs.length, rfl, .inr ⟨xs, ex_t (e.trans e2) hl, rfl⟩, q H2 e2⟩
theorem ev_all {bs : List Bool} (h : EvL te σ H (bs.map V.bl)) : Ev (tCB (rAll K) (tCons te tNil)) σ H (.bl (bs.all id)) := fun H1 e Q q =>
  h H1 e _ fun p H2 _ e2 hp => ⟨p, bs, rfl, sq_of hp, q H2 e2⟩
theorem ev_any {bs : List Bool} (h : EvL te σ H (bs.map V.bl)) : Ev (tCB (rAny K) (tCons te tNil)) σ H (.bl (bs.any id)) := fun H1 e Q q =>
  h H1 e _ fun p H2 _ e2 hp => ⟨p, bs, rfl, sq_of hp, q H2 e2⟩
theorem rv_inSign {c : Nat} {z : Str} : RV (fun x y H Q => ∃ (c : Nat) (z : Str), x = .str ⟨#[c]⟩ ∧ y = .str z ∧ Q (.bl (decide (c ∈ z.cps.toList))) H) (.str ⟨#[c]⟩) (.str z) H (.bl (decide (c ∈ z.cps.toList))) := fun H1 _ _ q => ⟨c, z, rfl, rfl, q H1 (Ex.refl H1)⟩
theorem rv_niSign {c : Nat} {z : Str} : RV (fun x y H Q => ∃ (c : Nat) (z : Str), x = .str ⟨#[c]⟩ ∧ y = .str z ∧ Q (.bl (!decide (c ∈ z.cps.toList))) H) (.str ⟨#[c]⟩) (.str z) H (.bl (!decide (c ∈ z.cps.toList))) := fun H1 _ _ q => ⟨c, z, rfl, rfl, q H1 (Ex.refl H1)⟩
/-- the same value, otherwise written -/
theorem rv_is {v u : V} (h : RV r x y H v) (e : v = u) : RV r x y H u := by
  rw [← e]
  exact h
end

/-! ### a comprehension whose walk makes nothing new -/
/-- how a walk of these items goes, wherever it stands -/
structure Flat (J : It) (H : Hp) (xs : List V) : Prop where
  go : ∀ i H1, Ex H H1 → i < xs.length → J.go i H1
  yld : ∀ i H1 x H', Ex H H1 → i < xs.length → J.yld i H1 x H' → H' = H1 ∧ xs[i]? = some x
  stop : ∀ H1, Ex H H1 → J.stop xs.length H1
theorem flat_list {K : PySem.W.Frag} {H : Hp} {a : Addr} {xs : List V} (h : SqL K H a xs) : Flat (Itl K a) H xs where
  go := fun i H1 e hi => ⟨xs, xs[i], ex_l e h, List.getElem?_eq_getElem hi⟩
  yld := fun i H1 x H' e hi y => ⟨y.1, y.2 xs (ex_l e h)⟩
  stop := fun H1 e => ⟨xs, ex_l e h, Nat.le_refl _⟩
theorem flat_tup {K : PySem.W.Frag} {H : Hp} {a : Addr} {xs : List V} (h : SqT K H a xs) : Flat (Itt K a) H xs where
  go := fun i H1 e hi => ⟨xs, xs[i], ex_t e h, List.getElem?_eq_getElem hi⟩
  yld := fun i H1 x H' e hi y => ⟨y.1, y.2 xs (ex_t e h)⟩
  stop := fun H1 e => ⟨xs, ex_t e h, Nat.le_refl _⟩
theorem flat_str {H : Hp} (s : Str) : Flat (Its s) H (s.cps.toList.map fun c => V.str ⟨#[c]⟩) where
  go := fun i H1 e hi => by
    show i < s.cps.size
    simpa using hi
  yld := fun i H1 x H' e hi y => by
    obtain ⟨y1, c, y2, rfl⟩ := y
    refine ⟨y1, ?_⟩
    rw [List.getElem?_map, Array.getElem?_toList, y2]
    rfl
  stop := fun H1 e => by
    show s.cps.size ≤ _
    simp
theorem yes_go {σ : L2.St} {H : Hp} {P G : Hp → Prop} (h : P H) : tYes σ H (fun b H3 => if b = true then P H3 else G H3) := by
  show if true = true then P H else G H
  rw [if_pos rfl]
  exact h
theorem take_succ' {α : Type} {xs : List α} {i : Nat} (h : i < xs.length) : xs.take (i + 1) = xs.take i ++ [xs[i]] := by
  rw [List.take_succ, List.getElem?_eq_getElem h]
  rfl
section
variable {K : PySem.W.Frag} {σ : L2.St} {H : Hp} {te : TE} {t : TT}
theorem el_lcF {wi : TI} {J : It} {xs : List V} {j : Nat} {vs : List Nat} (g : V → Bool) (f : V → V) (hw : ∀ H1, Ex H H1 → ∀ R : It → Hp → Prop, (∀ H2, Ex H1 H2 → R J H2) → wi σ H1 R) (F : Flat J H xs) (hz : xs.length ≤ 40000)
    (hwp : ∀ x, wipe ((wipe σ vs).set j (some x)) vs = wipe σ vs) (ht : ∀ x ∈ xs, EvT t ((wipe σ vs).set j (some x)) H (g x)) (he : ∀ x ∈ xs, g x = true → Ev te ((wipe σ vs).set j (some x)) H (f x)) :
    EvL (tLc wi (gName j) t te vs) σ H ((xs.filter g).map f) := fun H0 e Q q => hw H0 e _ fun H1 e1 Dl hD => by
  have e01 := e.trans e1
  refine lc_it xs.length (fun i H' => H1 Dl = none ∧ Ex H1 H' ∧ H' Dl = some (.lst (((xs.take i).filter g).map f))) ⟨hD, Ex.new hD, upd_same⟩ (fun i H' hi p => F.go i H' (e01.trans p.2.1) hi) (fun i x H' H'' hi p y => ?_) (fun H' p => F.stop H' (e01.trans p.2.1)) (fun H' p => ?_)
  · obtain ⟨rfl, hx⟩ := F.yld i H' x H'' (e01.trans p.2.1) hi y
    obtain ⟨p1, p2, p3⟩ := p
    have hm : x ∈ xs := List.mem_of_getElem? hx
    have ex : xs[i] = x := by
      rw [List.getElem?_eq_getElem hi] at hx
      exact Option.some.inj hx
    have lz : ((((xs.take i).filter g).map f)).length ≤ 40000 := by
      rw [List.length_map]
      exact Nat.le_trans (List.length_filter_le _ _) (Nat.le_trans (List.length_take_le _ _) (by omega))
    refine ⟨hwp x, ht x hm H'' (e01.trans p2) _ fun H3 e3 => ?_⟩
    cases hg : g x with
    | true =>
      rw [if_pos rfl]
      refine he x hm hg H3 ((e01.trans p2).trans e3) _ fun H4 e4 => ⟨_, e4 Dl _ (e3 Dl _ p3), sz_lt (by omega), p1, Ex.mut ((p2.trans e3).trans e4) p1, ?_⟩
      rw [take_succ' hi, ex, List.filter_append, List.map_append, List.filter_cons, hg]
      exact upd_same
    | false =>
      rw [if_neg Bool.false_ne_true]
      refine ⟨p1, p2.trans e3, ?_⟩
      rw [take_succ' hi, ex, List.filter_append, List.map_append, List.filter_cons, hg]
      simpa using e3 Dl _ p3
  · obtain ⟨p1, p2, p3⟩ := p
    rw [List.take_length] at p3
    exact q Dl H' (fresh_back e1 p1) (e1.trans p2) p3
/-- without a test -/
theorem el_lcN {wi : TI} {J : It} {xs : List V} {j : Nat} {vs : List Nat} (f : V → V) (hw : ∀ H1, Ex H H1 → ∀ R : It → Hp → Prop, (∀ H2, Ex H1 H2 → R J H2) → wi σ H1 R) (F : Flat J H xs) (hz : xs.length ≤ 40000)
    (hwp : ∀ x, wipe ((wipe σ vs).set j (some x)) vs = wipe σ vs) (he : ∀ x ∈ xs, Ev te ((wipe σ vs).set j (some x)) H (f x)) : EvL (tLc wi (gName j) tYes te vs) σ H (xs.map f) := by
  have h := el_lcF (te := te) (t := tYes) (fun _ => true) f hw F hz hwp (fun x _ H1 e Q q => q H1 (Ex.refl H1)) fun x hx _ => he x hx
  rw [List.filter_eq_self.mpr (fun _ _ => rfl)] at h
  exact h
theorem w_list {tl : TE} {a : Addr} {xs : List V} (h : Ev tl σ H (.ref a)) (hs : SqL K H a xs) : ∀ H1, Ex H H1 → ∀ R : It → Hp → Prop, (∀ H2, Ex H1 H2 → R (Itl K a) H2) → iList K tl σ H1 R := fun H1 e R q => h H1 e _ fun H2 e2 => ⟨a, rfl, ⟨xs, ex_l (e.trans e2) hs⟩, q H2 e2⟩
theorem w_tup {tl : TE} {a : Addr} {xs : List V} (h : Ev tl σ H (.ref a)) (hs : SqT K H a xs) : ∀ H1, Ex H H1 → ∀ R : It → Hp → Prop, (∀ H2, Ex H1 H2 → R (Itt K a) H2) → iTup K tl σ H1 R := fun H1 e R q => h H1 e _ fun H2 e2 => ⟨a, rfl, ⟨xs, ex_t (e.trans e2) hs⟩, q H2 e2⟩
theorem w_str {tl : TE} {s : Str} (h : Ev tl σ H (.str s)) : ∀ H1, Ex H H1 → ∀ R : It → Hp → Prop, (∀ H2, Ex H1 H2 → R (Its s) H2) → iStr tl σ H1 R := fun H1 e R q => h H1 e _ fun H2 e2 => ⟨s, rfl, q H2 e2⟩
/-- members that are data: what is told of each is told by its datum -/
theorem el_data {wi : TI} {J : It} {xs : List V} {ds : List D} {j : Nat} {vs : List Nat} (f : D → V) (hw : ∀ H1, Ex H H1 → ∀ R : It → Hp → Prop, (∀ H2, Ex H1 H2 → R J H2) → wi σ H1 R) (F : Flat J H xs) (r : RpA K H xs ds) (hz : xs.length ≤ 40000)
    (hwp : ∀ x, wipe ((wipe σ vs).set j (some x)) vs = wipe σ vs) (he : ∀ x d, d ∈ ds → Rp K H x d → Ev te ((wipe σ vs).set j (some x)) H (f d)) : EvL (tLc wi (gName j) tYes te vs) σ H (ds.map f) := fun H0 e Q q => hw H0 e _ fun H1 e1 Dl hD => by
  have e01 := e.trans e1
  have hl := r.len
  refine lc_it xs.length (fun i H' => H1 Dl = none ∧ Ex H1 H' ∧ H' Dl = some (.lst ((ds.take i).map f))) ⟨hD, Ex.new hD, upd_same⟩ (fun i H' hi p => F.go i H' (e01.trans p.2.1) hi) (fun i x H' H'' hi p y => ?_) (fun H' p => F.stop H' (e01.trans p.2.1)) (fun H' p => ?_)
  · obtain ⟨rfl, hx⟩ := F.yld i H' x H'' (e01.trans p.2.1) hi y
    obtain ⟨p1, p2, p3⟩ := p
    obtain ⟨d, hd, rd⟩ := r.at hx
    have hi2 : i < ds.length := by omega
    have ed : ds[i] = d := by
      rw [List.getElem?_eq_getElem hi2] at hd
      exact Option.some.inj hd
    refine ⟨hwp x, yes_go ?_⟩
    refine he x d (List.mem_of_getElem? hd) rd H'' (e01.trans p2) _ fun H4 e4 => ⟨_, e4 Dl _ p3, sz_lt (by rw [List.length_map]; exact Nat.lt_of_le_of_lt (List.length_take_le _ _) (by omega)), p1, Ex.mut (p2.trans e4) p1, ?_⟩
    rw [take_succ' hi2, ed, List.map_append]
    exact upd_same
  · obtain ⟨p1, p2, p3⟩ := p
    rw [hl, List.take_length] at p3
    exact q Dl H' (fresh_back e1 p1) (e1.trans p2) p3
/-- .. with a test: the members that are let, as they are -/
theorem el_dataF {wi : TI} {J : It} {xs : List V} {ds : List D} {j : Nat} {vs : List Nat} (g : D → Bool) (hw : ∀ H1, Ex H H1 → ∀ R : It → Hp → Prop, (∀ H2, Ex H1 H2 → R J H2) → wi σ H1 R) (F : Flat J H xs) (r : RpA K H xs ds) (hz : xs.length ≤ 40000)
    (hwp : ∀ x, wipe ((wipe σ vs).set j (some x)) vs = wipe σ vs) (ht : ∀ x d, d ∈ ds → Rp K H x d → EvT t ((wipe σ vs).set j (some x)) H (g d)) (he : ∀ x, Ev te ((wipe σ vs).set j (some x)) H x) :
    ∃ ys, RpA K H ys (ds.filter g) ∧ EvL (tLc wi (gName j) t te vs) σ H ys := by
  have hl := r.len
  obtain ⟨ys, hy⟩ : ∃ ys : Nat → List V, ys 0 = [] ∧ ∀ i x d, xs[i]? = some x → ds[i]? = some d → ys (i + 1) = if g d = true then ys i ++ [x] else ys i :=
    ⟨fun i => (((xs.zip ds).take i).filter fun p => g p.2).map (·.1), rfl, fun i x d h1 h2 => by
      have hz : (xs.zip ds)[i]? = some (x, d) := List.getElem?_zip_eq_some.mpr ⟨h1, h2⟩
      dsimp only
      rw [List.take_succ, hz, List.filter_append, List.map_append]
      show _ ++ List.map (·.1) (List.filter (fun p => g p.2) [(x, d)]) = _
      rw [List.filter_cons]
      cases g d <;> simp⟩
  have ry : ∀ i, i ≤ ds.length → RpA K H (ys i) ((ds.take i).filter g) ∧ (ys i).length ≤ i := by
    intro i
    induction i with
    | zero => exact fun _ => ⟨by rw [hy.1]; exact .nil, by rw [hy.1]; exact Nat.le_refl _⟩
    | succ i ih =>
      intro hi
      obtain ⟨h1, h2⟩ := ih (by omega)
      have hi2 : i < ds.length := by omega
      obtain ⟨x, hx, rx⟩ := r.at' (List.getElem?_eq_getElem hi2)
      rw [hy.2 i x _ hx (List.getElem?_eq_getElem hi2), take_succ' hi2, List.filter_append, List.filter_cons]
      cases g ds[i] with
      | true => exact ⟨h1.app (.cons rx .nil), by simpa using h2⟩
      | false => exact ⟨by simpa using h1, by simp; omega⟩
  refine ⟨ys ds.length, by have := (ry _ (Nat.le_refl _)).1; rwa [List.take_length] at this, fun H0 e Q q => hw H0 e _ fun H1 e1 Dl hD => ?_⟩
  have e01 := e.trans e1
  refine lc_it xs.length (fun i H' => H1 Dl = none ∧ Ex H1 H' ∧ H' Dl = some (.lst (ys i))) ⟨hD, Ex.new hD, by rw [hy.1]; exact upd_same⟩ (fun i H' hi p => F.go i H' (e01.trans p.2.1) hi) (fun i x H' H'' hi p y => ?_) (fun H' p => F.stop H' (e01.trans p.2.1)) (fun H' p => ?_)
  · obtain ⟨rfl, hx⟩ := F.yld i H' x H'' (e01.trans p.2.1) hi y
    obtain ⟨p1, p2, p3⟩ := p
    obtain ⟨d, hd, rd⟩ := r.at hx
    have hs := hy.2 i x d hx hd
    refine ⟨hwp x, ht x d (List.mem_of_getElem? hd) rd H'' (e01.trans p2) _ fun H3 e3 => ?_⟩
    cases hg : g d with
    | true =>
      rw [if_pos rfl]
      rw [hg, if_pos rfl] at hs
      refine he x H3 ((e01.trans p2).trans e3) _ fun H4 e4 => ⟨_, e4 Dl _ (e3 Dl _ p3), sz_lt (by have := (ry i (by omega)).2; omega), p1, Ex.mut ((p2.trans e3).trans e4) p1, ?_⟩
      rw [hs]
      exact upd_same
    | false =>
      rw [if_neg Bool.false_ne_true]
      rw [hg, if_neg Bool.false_ne_true] at hs
      refine ⟨p1, p2.trans e3, ?_⟩
      rw [hs]
      exact e3 Dl _ p3
  · obtain ⟨p1, p2, p3⟩ := p
    rw [hl] at p3
    exact q Dl H' (fresh_back e1 p1) (e1.trans p2) p3
end
end KZ
namespace KZ
open PySem PySem.Spec PyProof.Rows L2 PySem.SeqAt Evl RZ

theorem pg_names2 {X : Cx} {K : PySem.W.Frag} {x y : Str} {p q pos : Pos} {k i j : Nat} (hK : X.K = K) (hc : X.calm = true) (h1 : PG X (.Name x p) (gName i)) (h2 : PG X (.Name y q) (gName j)) : PG X (.Tuple [.Name x p, .Name y q] k pos) (gTup K 2 (gCons (gName i) (gCons (gName j) gNil))) := by
  subst hK
  exact pg_tup hc (pgs_cons h1 (pgs_cons h2 pgs_nil))
section
variable {K : PySem.W.Frag} {σ : L2.St} {H : Hp} {ta tb tc te : TE} {t : TT} {x y z : V} {r r' : R2}
/-- a call of a name that holds a def -/
theorem ev_callA {i : Nat} {S : Addr → Option Sp} {f : Addr} {sp : Sp} {ta : TA} {vs : List V} (hs : σ[i]? = some (some (.ref f))) (hS : S f = some sp) (h : EvA ta σ H vs) (hv : SpV sp vs H z) : Ev (tCallA i S ta) σ H z := fun H1 e Q q =>
  ⟨f, sp, hs, hS, h H1 e _ fun H2 e2 => hv H2 (e.trans e2) Q (fun H3 e3 => q H3 (e2.trans e3)) _⟩
theorem ev_call0 {sp : Sp} {vs : List V} {ta : TA} (h : EvA ta σ H vs) (hs : SpV sp vs H z) : Ev (tCall sp [] E0 ta) σ H z := ev_call h (by rw [List.append_nil]; exact hs)
theorem el_call0 {sp : Sp} {vs xs : List V} {ta : TA} (h : EvA ta σ H vs) (hs : SpL sp vs H xs) : EvL (tCall sp [] E0 ta) σ H xs := el_call h (by rw [List.append_nil]; exact hs)
/-- t[lo:hi], whether it is the whole or not -/
theorem et_slT {tl th : TO} {a : Addr} {xs : List V} {lo hi : Option Int} (h : Ev te σ H (.ref a)) (h1 : EvO tl σ H lo) (h2 : EvO th σ H hi) (hs : SqT K H a xs) :
    ∀ H1, Ex H H1 → ∀ Q : VK, (∀ p H2, Ex H1 H2 → SqT K H2 p (cutV xs lo hi) → Q (.ref p) H2) → tSl (rSlA K) te tl th σ H1 Q := fun H1 e Q q =>
  h H1 e _ fun H2 e2 => h1 H2 (e.trans e2) _ fun H3 e3 => h2 H3 ((e.trans e2).trans e3) _ fun H4 e4 => by
    have e14 := (e2.trans e3).trans e4
    refine ⟨a, xs, rfl, ex_t (e.trans e14) hs, fun hw => ?_, fun _ p hp => q p _ (e14.trans (Ex.new hp)) (st_of upd_same)⟩
    refine q a H4 e14 ?_
    have ec : cutV xs lo hi = xs := by
      unfold cutV
      rw [hw.1, hw.2]
      simp
    rw [ec]
    exact ex_t (e.trans e14) hs
/-- a comprehension over zip of two tuples, of pairs by two names -/
theorem el_zipT {tA : TA} {a : Addr} {xs ys : List V} {j1 j2 : Nat} {vs : List Nat} (f : V → V → V)
    (hA : ∀ H1, Ex H H1 → ∀ Q : List V → Hp → Prop, (∀ b H2, Ex H1 H2 → SqT K H2 b ys → Q [.ref a, .ref b] H2) → tA σ H1 Q) (hx : SqT K H a xs) (hz : xs.length ≤ 40000)
    (hwp : ∀ x y, wipe (((wipe σ vs).set j1 (some x)).set j2 (some y)) vs = wipe σ vs)
    (he : ∀ (i : Nat) (x y : V), xs[i]? = some x → ys[i]? = some y → Ev te (((wipe σ vs).set j1 (some x)).set j2 (some y)) H (f x y)) :
    EvL (tLc (iZipA K tA) (gTup K 2 (gCons (gName j1) (gCons (gName j2) gNil))) tYes te vs) σ H (List.zipWith f xs ys) := fun H0 e Q q => hA H0 e _ fun b H1 e1 hb => ⟨a, b, xs, ys, rfl, .inr ⟨ex_t (e.trans e1) hx, hb, fun Dl hD => by
  have e01 := e.trans e1
  refine lc_it (min xs.length ys.length) (fun i H' => H1 Dl = none ∧ Ex H1 H' ∧ H' Dl = some (.lst ((List.zipWith f xs ys).take i))) ⟨hD, Ex.new hD, upd_same⟩ (fun i H' hi p => ?_) (fun i v H' H'' hi p y => ?_) (fun H' p => ?_) (fun H' p => ?_)
  · exact ⟨xs, ys, xs[i]'(by omega), ys[i]'(by omega), ex_t (e01.trans p.2.1) hx, ex_t p.2.1 hb, List.getElem?_eq_getElem _, List.getElem?_eq_getElem _⟩
  · obtain ⟨p1, p2, p3⟩ := p
    obtain ⟨T, x, y, rfl, hT, rfl, f1, f2⟩ := y
    have gx := f1 xs (ex_t (e01.trans p2) hx)
    have gy := f2 ys (ex_t p2 hb)
    have hw : (List.zipWith f xs ys)[i]? = some (f x y) := by
      rw [List.getElem?_zipWith, gx, gy]
    refine ⟨T, [x, y], rfl, st_of upd_same, rfl, x, [y], rfl, y, [], rfl, rfl, hwp x y, yes_go ?_⟩
    refine he i x y gx gy _ ((e01.trans p2).trans (Ex.new hT)) _ fun H4 e4 => ⟨_, e4 Dl _ (by rw [upd_ne (ne_of_none p3 hT)]; exact p3), sz_lt (Nat.lt_of_le_of_lt (List.length_take_le _ _) (by omega)), p1, Ex.mut ((p2.trans (Ex.new hT)).trans e4) p1, ?_⟩
    rw [List.take_succ, hw]
    exact upd_same
  · exact ⟨xs, ys, ex_t (e01.trans p.2.1) hx, ex_t p.2.1 hb, by omega⟩
  · obtain ⟨p1, p2, p3⟩ := p
    rw [List.take_of_length_le (by rw [List.length_zipWith]; exact Nat.le_refl _)] at p3
    exact q Dl H' (fresh_back e1 p1) (e1.trans p2) p3⟩⟩
theorem rv_ltS {s u : Str} : RV (fun x y H Q => ∃ i j, x = .str i ∧ y = .str j ∧ Q (.bl (decide (i.cps.toList < j.cps.toList))) H) (.str s) (.str u) H (.bl (decide (s.cps.toList < u.cps.toList))) := fun H1 _ _ q => ⟨s, u, rfl, rfl, q H1 (Ex.refl H1)⟩
end
end KZ
namespace KZ
open PySem PySem.Spec PyProof.Rows L2 PySem.SeqAt Evl RZ

theorem nodup_ix' {α : Type} {l : List α} (hN : l.Nodup) {i j : Nat} {x : α} (a : l[i]? = some x) (b : l[j]? = some x) : i = j := by
  obtain ⟨h1, e1⟩ := List.getElem?_eq_some_iff.mp a
  obtain ⟨h2, e2⟩ := List.getElem?_eq_some_iff.mp b
  exact (List.getElem_inj hN).mp (e1.trans e2.symm)
theorem flat_keys {H : Hp} {d : Addr} {o : Obj} {kvs : List (Key × V)} (h : H d = some (.frz o (.dK kvs))) : Flat (Itk d o kvs) H (kvs.map fun kv => kV kv.1) where
  go := fun i H1 e hi => ⟨e _ _ h, by simpa using hi⟩
  yld := fun i H1 x H' e hi y => by
    obtain ⟨y1, k, v, y2, rfl⟩ := y
    refine ⟨y1, ?_⟩
    rw [List.getElem?_map, y2]
    rfl
  stop := fun H1 e => ⟨e _ _ h, by simp⟩
theorem w_keys {σ : L2.St} {H : Hp} {tl : TE} {d : Addr} {o : Obj} {kvs : List (Key × V)} (h : Ev tl σ H (.ref d)) (hd : H d = some (.frz o (.dK kvs))) : ∀ H1, Ex H H1 → ∀ R : It → Hp → Prop, (∀ H2, Ex H1 H2 → R (Itk d o kvs) H2) → iKeys tl σ H1 R := fun H1 e R q =>
  h H1 e _ fun H2 e2 => ⟨d, o, rfl, .inl ⟨kvs, (e.trans e2) _ _ hd, q H2 e2⟩⟩
/-- new pairs at ts, the j-th one of f and g of the j-th item -/
def NewAt (H H' : Hp) (ts : List Addr) (us ws : List V) : Prop := ts.length = us.length ∧ PairsAt H' ts us ws ∧ ∀ t ∈ ts, H t = none
theorem pairsAt_mono {H H' : Hp} {ts : List Addr} {us ws : List V} (e : ∀ t ∈ ts, ∀ o, H t = some o → H' t = some o) (h : PairsAt H ts us ws) : PairsAt H' ts us ws := fun j t x y g1 g2 g3 => e t (List.mem_of_getElem? g1) _ (h j t x y g1 g2 g3)
section
variable {K : PySem.W.Frag} {σ : L2.St} {H : Hp} {te : TE} {t : TT}
/-- a comprehension whose element is a new pair -/
theorem el_pairs {wi : TI} {J : It} {xs : List V} {j : Nat} {vs : List Nat} (f g : V → V) (hw : ∀ H1, Ex H H1 → ∀ R : It → Hp → Prop, (∀ H2, Ex H1 H2 → R J H2) → wi σ H1 R) (F : Flat J H xs) (hz : xs.length ≤ 40000)
    (hwp : ∀ x, wipe ((wipe σ vs).set j (some x)) vs = wipe σ vs) (he : ∀ x ∈ xs, EvU te ((wipe σ vs).set j (some x)) H [f x, g x]) :
    ∀ H1, Ex H H1 → ∀ Q : VK, (∀ p H2 ts, H1 p = none → Ex H1 H2 → H2 p = some (.lst (ts.map V.ref)) → NewAt H1 H2 ts (xs.map f) (xs.map g) → (∀ t ∈ ts, t ≠ p) → Q (.ref p) H2) → tLc wi (gName j) tYes te vs σ H1 Q := fun H0 e Q q => hw H0 e _ fun H1 e1 Dl hD => by
  have e01 := e.trans e1
  refine lc_it xs.length (fun i H' => H1 Dl = none ∧ Ex H1 H' ∧ ∃ ts : List Addr, ts.length = i ∧ H' Dl = some (.lst (ts.map V.ref)) ∧ (∀ t ∈ ts, H1 t = none ∧ t ≠ Dl) ∧ ∀ (j : Nat) (t : Addr) (x : V), ts[j]? = some t → xs[j]? = some x → H' t = some (.tup [f x, g x]))
    ⟨hD, Ex.new hD, [], rfl, upd_same, fun t ht => (by cases ht), fun j t x h => (by simp at h)⟩ (fun i H' hi p => F.go i H' (e01.trans p.2.1) hi) (fun i x H' H'' hi p y => ?_) (fun H' p => F.stop H' (e01.trans p.2.1)) (fun H' p => ?_)
  · obtain ⟨rfl, hx⟩ := F.yld i H' x H'' (e01.trans p.2.1) hi y
    obtain ⟨p1, p2, ts, hl, p3, p4, p5⟩ := p
    refine ⟨hwp x, yes_go ?_⟩
    refine he x (List.mem_of_getElem? hx) H'' (e01.trans p2) _ fun r H4 hr e4 h4 => ⟨_, e4 Dl _ p3, sz_lt (by rw [List.length_map]; omega), p1, Ex.mut (p2.trans e4) p1, ts ++ [r], by simp [hl], ?_, fun t ht => ?_, fun k t x' g1 g2 => ?_⟩
    · rw [List.map_append]
      exact upd_same
    · rcases List.mem_append.mp ht with ht | ht
      · exact p4 t ht
      · rw [List.mem_singleton.mp ht]
        exact ⟨fresh_back p2 hr, (ne_of_none p3 hr).symm⟩
    · by_cases hk : k < i
      · rw [List.getElem?_append_left (by omega)] at g1
        have hm := List.mem_of_getElem? g1
        rw [upd_ne (p4 t hm).2]
        exact e4 t _ (p5 k t x' g1 g2)
      · have hk2 : k = i := by
          have := (List.getElem?_eq_some_iff.mp g1).1
          simp [hl] at this
          omega
        subst hk2
        rw [List.getElem?_append_right (by omega), hl] at g1
        simp at g1
        subst g1
        rw [hx] at g2
        cases g2
        rw [upd_ne (ne_of_none p3 hr).symm]
        exact h4
  · obtain ⟨p1, p2, ts, hl, p3, p4, p5⟩ := p
    refine q Dl H' ts (fresh_back e1 p1) (e1.trans p2) p3 ⟨by rw [List.length_map]; exact hl, fun j t x y g1 g2 g3 => ?_, fun t ht => fresh_back e1 (p4 t ht).1⟩ fun t ht => (p4 t ht).2
    rw [List.getElem?_map] at g2 g3
    cases g : xs[j]? with
    | none =>
      rw [g] at g2
      cases g2
    | some z =>
      rw [g] at g2 g3
      cases g2
      cases g3
      exact p5 j t z g1 g
/-- [(a, b) for a in d for b in e if a == b], d and e dicts of the same int keys -/
theorem el_keys2 {wi wi1 : TI} {J J1 : It} {ks : List Int} {j j1 : Nat} {vs vs1 : List Nat} {tt1 : TT} (hw : ∀ H1, Ex H H1 → ∀ R : It → Hp → Prop, (∀ H2, Ex H1 H2 → R J H2) → wi σ H1 R) (F : Flat J H (ks.map V.int)) (F1 : Flat J1 H (ks.map V.int)) (hn : ks.Nodup) (hz : ks.length ≤ 40000)
    (hw1 : ∀ x H1, Ex H H1 → ∀ R : It → Hp → Prop, (∀ H2, Ex H1 H2 → R J1 H2) → wi1 ((wipe σ vs).set j (some x)) H1 R) (hwp : ∀ x, wipe ((wipe σ vs).set j (some x)) vs = wipe σ vs)
    (hwp1 : ∀ x y, wipe ((wipe ((wipe σ vs).set j (some x)) vs1).set j1 (some y)) vs1 = wipe ((wipe σ vs).set j (some x)) vs1)
    (ht : ∀ a b : Int, EvT tt1 ((wipe ((wipe σ vs).set j (some (.int a))) vs1).set j1 (some (.int b))) H (decide (a = b))) (he : ∀ a b : Int, EvU te ((wipe ((wipe σ vs).set j (some (.int a))) vs1).set j1 (some (.int b))) H [.int a, .int b]) :
    ∀ H1, Ex H H1 → ∀ Q : VK, (∀ p H2 ts, H1 p = none → Ex H1 H2 → H2 p = some (.lst (ts.map V.ref)) → NewAt H1 H2 ts (ks.map V.int) (ks.map V.int) → (∀ t ∈ ts, t ≠ p) → Q (.ref p) H2) → tLc2 wi (gName j) tYes wi1 (gName j1) tt1 te vs vs1 σ H1 Q := fun H0 e Q q => hw H0 e _ fun H1 e1 Dl hD => by
  have e01 := e.trans e1
  have nL : (ks.map V.int).length = ks.length := List.length_map ..
  -- what holds when n pairs are made
  let Wd : Nat → Hp → Prop := fun n H' => H1 Dl = none ∧ Ex H1 H' ∧ ∃ ts : List Addr, ts.length = n ∧ H' Dl = some (.lst (ts.map V.ref)) ∧ (∀ t ∈ ts, H1 t = none ∧ t ≠ Dl) ∧ ∀ (j : Nat) (t : Addr) (k : Int), ts[j]? = some t → ks[j]? = some k → H' t = some (.tup [.int k, .int k])
  refine ⟨fun i m H' => m = ks.length - i ∧ i ≤ ks.length ∧ Wd i H', ⟨ks.length, by omega, Nat.zero_le _, hD, Ex.new hD, [], rfl, upd_same, fun t ht => (by cases ht), fun j t x h => (by simp at h)⟩, ?_⟩
  rintro i m H' ⟨rfl, hi, p⟩
  by_cases hlt : i < ks.length
  · refine .inr ⟨F.go i H' (e01.trans p.2.1) (by omega), Wd (i + 1), fun H'' p' => ⟨ks.length - (i + 1), by omega, rfl, hlt, p'⟩, fun x H'' y => ?_⟩
    obtain ⟨rfl, hx⟩ := F.yld i H' x H'' (e01.trans p.2.1) (by omega) y
    rw [List.getElem?_map] at hx
    obtain ⟨a, ha, rfl⟩ : ∃ a, ks[i]? = some a ∧ x = .int a := by
      cases g : ks[i]? with
      | none =>
        rw [g] at hx
        cases hx
      | some a =>
        rw [g] at hx
        exact ⟨a, rfl, (Option.some.inj hx).symm⟩
    refine ⟨hwp _, yes_go ?_⟩
    refine hw1 _ H'' (e01.trans p.2.1) _ fun H4 e4 => ?_
    -- the inner turns
    refine ⟨fun l m H' => m = ks.length - l ∧ l ≤ ks.length ∧ Wd (i + if i < l then 1 else 0) H', ⟨ks.length, by omega, Nat.zero_le _, ?_⟩, ?_⟩
    · rw [if_neg (by omega)]
      obtain ⟨p1, p2, ts, hl, p3, p4, p5⟩ := p
      exact ⟨p1, p2.trans e4, ts, hl, e4 _ _ p3, p4, fun j t k g1 g2 => e4 _ _ (p5 j t k g1 g2)⟩
    · rintro l m H5 ⟨rfl, hl5, p5⟩
      by_cases hlt5 : l < ks.length
      · refine .inr ⟨F1.go l H5 (e01.trans p5.2.1) (by omega), Wd (i + if i < l + 1 then 1 else 0), fun H6 p6 => ⟨ks.length - (l + 1), by omega, rfl, hlt5, p6⟩, fun x H6 y => ?_⟩
        obtain ⟨rfl, hx5⟩ := F1.yld l H5 x H6 (e01.trans p5.2.1) (by omega) y
        rw [List.getElem?_map] at hx5
        obtain ⟨b, hb, rfl⟩ : ∃ b, ks[l]? = some b ∧ x = .int b := by
          cases g : ks[l]? with
          | none =>
            rw [g] at hx5
            cases hx5
          | some b =>
            rw [g] at hx5
            exact ⟨b, rfl, (Option.some.inj hx5).symm⟩
        refine ⟨hwp1 _ _, ht a b H6 (e01.trans p5.2.1) _ fun H7 e7 => ?_⟩
        obtain ⟨p1, p2, ts, hl, p3, p4, p6⟩ := p5
        by_cases hab : a = b
        · subst hab
          have hil : i = l := nodup_ix' hn ha hb
          subst hil
          rw [decide_eq_true rfl, if_pos rfl, if_pos (by omega)]
          rw [if_neg (Nat.lt_irrefl _)] at hl
          refine he a a H7 ((e01.trans p2).trans e7) _ fun r H8 hr e8 h8 => ⟨_, e8 _ _ (e7 _ _ p3), sz_lt (by rw [List.length_map]; omega), p1, Ex.mut ((p2.trans e7).trans e8) p1, ts ++ [r], by simp [hl], ?_, fun t ht => ?_, fun k t x' g1 g2 => ?_⟩
          · rw [List.map_append]
            exact upd_same
          · rcases List.mem_append.mp ht with ht | ht
            · exact p4 t ht
            · rw [List.mem_singleton.mp ht]
              exact ⟨fresh_back (p2.trans e7) hr, (ne_of_none (e7 _ _ p3) hr).symm⟩
          · by_cases hk : k < i
            · rw [List.getElem?_append_left (by omega)] at g1
              have hm := List.mem_of_getElem? g1
              rw [upd_ne (p4 t hm).2]
              exact e8 t _ (e7 t _ (p6 k t x' g1 g2))
            · have hk2 : k = i := by
                have := (List.getElem?_eq_some_iff.mp g1).1
                simp [hl] at this
                omega
              subst hk2
              rw [List.getElem?_append_right (by omega), hl] at g1
              simp at g1
              subst g1
              rw [ha] at g2
              cases g2
              rw [upd_ne (ne_of_none (e7 _ _ p3) hr).symm]
              exact h8
        · have hil : i ≠ l := fun z => hab (by
            subst z
            rw [ha] at hb
            exact Option.some.inj hb)
          rw [decide_eq_false hab, if_neg Bool.false_ne_true]
          have e9 : (if i < l + 1 then 1 else 0) = (if i < l then 1 else 0) := by
            by_cases h9 : i < l
            · rw [if_pos h9, if_pos (by omega)]
            · rw [if_neg h9, if_neg (by omega)]
          rw [e9]
          exact ⟨p1, p2.trans e7, ts, hl, e7 _ _ p3, p4, fun j t k g1 g2 => e7 _ _ (p6 j t k g1 g2)⟩
      · have hl6 : l = ks.length := by omega
        subst hl6
        rw [if_pos hlt] at p5
        exact .inl ⟨by have := F1.stop H5 (e01.trans p5.2.1); rwa [nL] at this, p5⟩
  · have hi2 : i = ks.length := by omega
    subst hi2
    refine .inl ⟨by have := F.stop H' (e01.trans p.2.1); rwa [nL] at this, ?_⟩
    obtain ⟨p1, p2, ts, hl, p3, p4, p5⟩ := p
    refine q Dl H' ts (fresh_back e1 p1) (e1.trans p2) p3 ⟨by rw [List.length_map]; exact hl, fun j t x y g1 g2 g3 => ?_, fun t ht => fresh_back e1 (p4 t ht).1⟩ fun t ht => (p4 t ht).2
    rw [List.getElem?_map] at g2 g3
    cases g : ks[j]? with
    | none =>
      rw [g] at g2
      cases g2
    | some z =>
      rw [g] at g2 g3
      cases g2
      cases g3
      exact p5 j t z g1 g
end
end KZ
/-! The bag of draws: a list that is stored into. What else there is, stays. -/
namespace KZ
open PySem PySem.Spec PyProof.Rows L2 PySem.SeqAt Evl RZ
/-- the heap without b -/
def Hm (b : Addr) (H : Hp) : Hp := fun a => if a = b then none else H a
theorem hm_ne {b a : Addr} {H : Hp} (h : a ≠ b) : Hm b H a = H a := by
  unfold Hm
  rw [if_neg h]
theorem hm_self {b : Addr} {H : Hp} : Hm b H b = none := by
  unfold Hm
  rw [if_pos rfl]
theorem hm_sub {b : Addr} {H : Hp} : Ex (Hm b H) H := fun a o h => by
  by_cases z : a = b
  · rw [z, hm_self] at h
    cases h
  · rwa [hm_ne z] at h
theorem hm_mono {b : Addr} {H H' : Hp} (e : Ex H H') : Ex (Hm b H) (Hm b H') := fun a o h => by
  by_cases z : a = b
  · rw [z, hm_self] at h
    cases h
  · rw [hm_ne z] at h ⊢
    exact e a o h
theorem hm_upd {b : Addr} {H : Hp} {o : HO} : Hm b (upd H b o) = Hm b H := by
  funext a
  by_cases z : a = b
  · rw [z, hm_self, hm_self]
  · rw [hm_ne z, hm_ne z, upd_ne z]
theorem hm_to {b : Addr} {H H' : Hp} (e : Ex (Hm b H) (Hm b H')) {a : Addr} {o : HO} (ha : a ≠ b) (h : H a = some o) : H' a = some o := by
  have := e a o (by rw [hm_ne ha]; exact h)
  rwa [hm_ne ha] at this
/-- what is new ahead of b's heap -/
theorem hm_fresh {b p : Addr} {H : Hp} {o : HO} (hb : H b = some o) (h : H p = none) : Hm b H p = none ∧ p ≠ b := by
  have z : p ≠ b := fun z => by
    rw [z, hb] at h
    cases h
  exact ⟨by rw [hm_ne z]; exact h, z⟩
structure BagAt (K : PySem.W.Frag) (H : Hp) (b c : Addr) (cs : List Int) (x0 x1 x2 : Int) : Prop where
  at_ : H b = some (.lst [.int x0, .int x1, .int x2, .ref c])
  cells : Hm b H c = some (.lst (cs.map V.int))
  len : cs.length ≤ 40000
theorem BagAt.mono {K : PySem.W.Frag} {H H' : Hp} {b c : Addr} {cs : List Int} {x0 x1 x2 : Int} (e : Ex H H') (h : BagAt K H b c cs x0 x1 x2) : BagAt K H' b c cs x0 x1 x2 := ⟨e _ _ h.at_, hm_mono e _ _ h.cells, h.len⟩
theorem BagAt.put {K : PySem.W.Frag} {H : Hp} {b c : Addr} {cs : List Int} {x0 x1 x2 y0 y1 y2 : Int} (h : BagAt K H b c cs x0 x1 x2) : BagAt K (upd H b (.lst [.int y0, .int y1, .int y2, .ref c])) b c cs y0 y1 y2 := ⟨upd_same, by rw [hm_upd]; exact h.cells, h.len⟩
/-- a bag, whatever its numbers -/
def Bag (K : PySem.W.Frag) (H : Hp) (b c : Addr) : Prop := ∃ cs x0 x1 x2, BagAt K H b c cs x0 x1 x2
theorem Bag.mono {K : PySem.W.Frag} {H H' : Hp} {b c : Addr} (e : Ex H H') : Bag K H b c → Bag K H' b c := fun ⟨cs, x0, x1, x2, h⟩ => ⟨cs, x0, x1, x2, h.mono e⟩
theorem Bag.some_ {K : PySem.W.Frag} {H : Hp} {b c : Addr} (h : Bag K H b c) : ∃ o, H b = some o := by
  obtain ⟨_, _, _, _, h⟩ := h
  exact ⟨_, h.at_⟩
theorem Bag.cell {K : PySem.W.Frag} {H : Hp} {b c : Addr} (h : Bag K H b c) : c ≠ b ∧ ∃ o, H c = some o := by
  obtain ⟨_, _, _, _, h⟩ := h
  have z : c ≠ b := fun z => by
    have := h.cells
    rw [z, hm_self] at this
    cases this
  exact ⟨z, _, hm_sub _ _ h.cells⟩
/-- a store elsewhere -/
theorem Bag.other {K : PySem.W.Frag} {H : Hp} {b c p : Addr} {o : HO} (h : Bag K H b c) (h1 : p ≠ b) (h2 : p ≠ c) : Bag K (upd H p o) b c := by
  obtain ⟨cs, x0, x1, x2, h⟩ := h
  refine ⟨cs, x0, x1, x2, by rw [upd_ne (Ne.symm h1)]; exact h.at_, ?_, h.len⟩
  have := h.cells
  by_cases z : c = b
  · rw [z, hm_self] at this
    cases this
  · rw [hm_ne z] at this ⊢
    rw [upd_ne (Ne.symm h2)]
    exact this
/-- a new bag -/
def spBag (K : PySem.W.Frag) : Sp := fun vs H Q _ => ∃ (a : Addr) (cs : List Int), vs = [.ref a] ∧ SqL K H a (cs.map V.int) ∧ cs.length ≤ 40000 ∧ ∀ b c H', H b = none → H c = none → Ex H H' → Bag K H' b c → Q (.ref b) H'
/-- a draw below many -/
def spTake (K : PySem.W.Frag) : Sp := fun vs H Q _ => ∃ b c many, vs = [.ref b, .int many] ∧ 0 < many ∧ many < 1073741824 ∧ Bag K H b c ∧ ∀ H' k, Ex (Hm b H) (Hm b H') → Bag K H' b c → 0 ≤ k → k < many → Q (.int k) H'
/-- one of a list's, or a tuple's, things -/
def spSome (K : PySem.W.Frag) : Sp := fun vs H Q _ => ∃ b c a xs, vs = [.ref b, .ref a] ∧ (SqL K (Hm b H) a xs ∨ SqT K (Hm b H) a xs) ∧ 0 < xs.length ∧ xs.length ≤ 1000000 ∧ Bag K H b c ∧ ∀ (H' : Hp) (k : Nat) (v : V), Ex (Hm b H) (Hm b H') → Bag K H' b c → xs[k]? = some v → Q v H'
section
variable {K : PySem.W.Frag} {σ : L2.St} {H : Hp} {ta tb te : TE} {x y v : V}
theorem rv_ixLs {p : Addr} {xs : List V} {j : Nat} (h : SqL K H p xs) (ha : xs[j]? = some v) : RV (rIx K) (.ref p) (.int (j : Int)) H v := fun H1 e _ q => .inl ⟨p, xs, (j : Int), v, rfl, rfl, ex_l e h, by
  have hj := (List.getElem?_eq_some_iff.mp ha).1
  unfold atI
  rw [ixN_nat hj]
  exact ha, q H1 (Ex.refl H1)⟩
theorem rv_ixTs {p : Addr} {xs : List V} {j : Nat} (h : SqT K H p xs) (ha : xs[j]? = some v) : RV (rIx K) (.ref p) (.int (j : Int)) H v := fun H1 e _ q => .inr (.inl ⟨p, xs, (j : Int), v, rfl, rfl, ex_t e h, by
  have hj := (List.getElem?_eq_some_iff.mp ha).1
  unfold atI
  rw [ixN_nat hj]
  exact ha, q H1 (Ex.refl H1)⟩)
def rInt1 : List V → Hp → VK → Prop := fun xs H Q => (∃ i, xs = [.int i] ∧ Q (.int i) H) ∨ ∃ k, xs = [.bl k] ∧ Q (.int (if k then 1 else 0)) H
theorem ev_int1 {i : Int} (h : Ev te σ H (.int i)) : Ev (tCB (fun xs H Q => (∃ i, xs = [.int i] ∧ Q (.int i) H) ∨ ∃ k, xs = [.bl k] ∧ Q (.int (if k then 1 else 0)) H) (tCons te tNil)) σ H (.int i) := fun H1 e Q q => h H1 e _ fun H2 e2 => .inl ⟨i, rfl, q H2 e2⟩
theorem ev_intb {b : Bool} (h : Ev te σ H (.bl b)) : Ev (tCB (fun xs H Q => (∃ i, xs = [.int i] ∧ Q (.int i) H) ∨ ∃ k, xs = [.bl k] ∧ Q (.int (if k then 1 else 0)) H) (tCons te tNil)) σ H (.int (if b then 1 else 0)) := fun H1 e Q q => h H1 e _ fun H2 e2 => .inr ⟨b, rfl, q H2 e2⟩
theorem ev_abs {i : Int} (h : Ev te σ H (.int i)) : Ev (tCB (fun xs H Q => ∃ i, xs = [.int i] ∧ Q (.int (if i < 0 then -i else i)) H) (tCons te tNil)) σ H (.int (if i < 0 then -i else i)) := fun H1 e Q q => h H1 e _ fun H2 e2 => ⟨i, rfl, q H2 e2⟩
/-- two new lists, one behind the other -/
theorem el_cat {xs ys : List V} (h1 : EvL ta σ H xs) (h2 : EvL tb σ H ys) (hz : xs.length + ys.length ≤ 100000) : EvL (tOp rCat ta tb) σ H (xs ++ ys) := fun H1 e Q q =>
  h1 H1 e _ fun p H2 hp e2 h2p => h2 H2 (e.trans e2) _ fun r H3 hr e3 h3r => ⟨p, r, xs, ys, rfl, rfl, e3 _ _ h2p, h3r, sz_of hz, fun l hl => q l _ (fresh_back (e2.trans e3) hl) ((e2.trans e3).trans (Ex.new hl)) upd_same⟩
/-- x[j], x a new list -/
theorem ev_ixN {xs : List V} {j : Nat} (h : EvL ta σ H xs) (hb : ∀ H1, Ex H H1 → Ev tb σ H1 (.int (j : Int))) (ha : xs[j]? = some v) : Ev (tOp (rIx K) ta tb) σ H v := ev_opL1 h hb fun p H1 h1 _ => rv_ixLs (.inl (.inl h1)) ha
theorem cells_at {b c : Addr} {cs : List Int} {x0 x1 x2 : Int} (B : BagAt K H b c cs x0 x1 x2) : SqL K H c (cs.map V.int) := .inl (.inl (hm_sub _ _ B.cells))
theorem bag_l {b c : Addr} {cs : List Int} {x0 x1 x2 : Int} (B : BagAt K H b c cs x0 x1 x2) : SqL K H b [.int x0, .int x1, .int x2, .ref c] := .inl (.inl B.at_)
end
/-- the head of some ints and a zero is an int -/
theorem head_int {cs : List Int} {lo hi : Option Int} : ∃ z : Int, (cutV (cs.map V.int) lo hi ++ [.int 0])[0]? = some (.int z) := by
  have h : ∀ v ∈ cutV (cs.map V.int) lo hi, ∃ z, v = .int z := fun v hv => by
    have := List.mem_of_mem_drop (List.mem_of_mem_take hv)
    obtain ⟨z, _, rfl⟩ := List.mem_map.mp this
    exact ⟨z, rfl⟩
  cases e : cutV (cs.map V.int) lo hi with
  | nil => exact ⟨0, rfl⟩
  | cons v r =>
    obtain ⟨z, rfl⟩ := h v (by rw [e]; exact List.mem_cons_self)
    exact ⟨z, rfl⟩
theorem et_yes {σ : L2.St} {H : Hp} : EvT tYes σ H true := fun H1 _ Q q => q H1 (Ex.refl H1)
theorem rv_ge {H : Hp} {i j : Int} : RV (rI0 fun i j => .bl (decide (j ≤ i))) (.int i) (.int j) H (.bl (decide (j ≤ i))) := rv_I0 (g := fun i j => .bl (decide (j ≤ i)))
theorem rv_gt {H : Hp} {i j : Int} : RV (rI0 fun i j => .bl (decide (j < i))) (.int i) (.int j) H (.bl (decide (j < i))) := rv_I0 (g := fun i j => .bl (decide (j < i)))
theorem s_bagL {σ : L2.St} {H : Hp} {D : Ends} {a b c : V} {te : TE} {xs : List V} (h : EvL te σ H xs) (k : ∀ q H1, H q = none → Ex H H1 → H1 q = some (.lst xs) → ∀ p, H1 p = none → D.rt (.ref p) (upd H1 p (.lst [a, b, c, .ref q]))) : tRet (tLst (tCons (tC a) (tCons (tC b) (tCons (tC c) (tCons te tNil))))) D σ H :=
  h H (Ex.refl H) _ fun q H1 hq e h1 => ⟨sz_of (by simp), k q H1 hq e h1⟩
end KZ
namespace KZ
open PySem PySem.Spec PyProof.Rows L2 PySem.SeqAt Evl RZ
theorem pcal0 {X : Cx} {k k' : Nat} {x : Str} {sp : Sp} {p pos : Pos} (C : Cal X.prog X.w X.K X.mg X.base k x [] sp) (hr : Room k' X.A) (hk : k ≤ k') (hg : Gl X x) (hdb : (x == ("__debug__" : Str)) = false := by decide) : PE X (.Call (.Name x p) [] [] pos) (tCall sp [] E0 tNil) := by
  obtain ⟨f, fd, F, hm, kp, hb⟩ := C.ex
  exact pe_call0 F (hr.mono hk) hg hm kp hb .nil pass0 hdb
section
variable {K : PySem.W.Frag} {σ : L2.St} {H : Hp} {ta tb te : TE} {x y v : V}
theorem el_words {a : Str} {ys : List Str} (h : Ev te σ H (.str a)) (hz : a.length ≤ 1000) (hy : Txt.words a = ys) : EvL (tM0 (fun x xs H Q => ∃ a, x = .str a ∧ xs = [] ∧ a.length + 2 ≤ sizeLine ∧ rNewStrs (Txt.words a) H Q) te) σ H (ys.map V.str) := fun H1 e Q q =>
  h H1 e _ fun H2 e2 => ⟨⟨a, rfl⟩, a, rfl, rfl, sz_of (by omega), fun p hp => q p _ (fresh_back e2 hp) (e2.trans (Ex.new hp)) (by rw [hy]; exact upd_same)⟩
theorem eqvA_nil {ds : List D} : eqvA ds [] = ds.isEmpty := by cases ds <;> simp [eqvA]
theorem ev_eqNil {xs : List V} {ds : List D} (h : EvL ta σ H xs) (hb : EvL tb σ H []) (r : RpA K H xs ds) (ok : ∀ d ∈ ds, Ok d) (dd : depA ds ≤ 60) : Ev (tOp (rEqZ K) ta tb) σ H (.bl ds.isEmpty) :=
  ev_opLL h hb fun p q H1 h1 h2 e => by
    rw [← eqvA_nil]
    exact rv_eqZ (.lst (.inl (.inl h1)) (r.mono e)) (.lst (.inl (.inl h2)) .nil) ok dd
theorem ev_neNil {xs : List V} {ds : List D} (h : EvL ta σ H xs) (hb : EvL tb σ H []) (r : RpA K H xs ds) (ok : ∀ d ∈ ds, Ok d) (dd : depA ds ≤ 59) : Ev (tOp (rNeZ K) ta tb) σ H (.bl (!ds.isEmpty)) :=
  ev_opLL h hb fun p q H1 h1 h2 e => by
    rw [← eqvA_nil, show eqvA ds [] = eqv (.lst ds) (.lst []) by rw [eqv]]
    exact rv_neZ (.lst (.inl (.inl h1)) (r.mono e)) (.lst (.inl (.inl h2)) .nil) (.lst ok) (by rw [dep]; omega) rfl
theorem el_nil : EvL (tLst tNil) σ H [] := el_lst ea_nil (by simp)
theorem rpA_rep {c : V} {d : D} (h : ∀ H, Rp K H c d) {α : Type} : ∀ xs : List α, RpA K H (xs.map fun _ => c) (xs.map fun _ => d)
  | [] => .nil
  | _ :: xs => .cons (h H) (rpA_rep h xs)
end
theorem depA_le {n : Nat} : ∀ {ds : List D}, (∀ d ∈ ds, dep d ≤ n) → depA ds ≤ n
  | [], _ => Nat.zero_le _
  | d :: ds, h => by
    rw [depA]
    exact Nat.max_le.mpr ⟨h d List.mem_cons_self, depA_le fun e m => h e (List.mem_cons_of_mem _ m)⟩
theorem dep_mem {ds : List D} {d : D} (h : d ∈ ds) : dep d ≤ depA ds := by
  obtain ⟨i, g⟩ := List.getElem?_of_mem h
  exact dep_at g
theorem wt_mem {ds : List D} {d : D} (h : d ∈ ds) : wt d ≤ wtA ds := by
  obtain ⟨i, g⟩ := List.getElem?_of_mem h
  exact wt_at g
theorem filter_empty {α : Type} (g : α → Bool) : ∀ l : List α, (l.filter g).isEmpty = l.all fun x => !g x
  | [] => rfl
  | a :: l => by
    rw [List.filter_cons, List.all_cons, ← filter_empty g l]
    cases g a <;> simp
theorem map_empty {α β : Type} (f : α → β) : ∀ l : List α, (l.map f).isEmpty = l.isEmpty
  | [] => rfl
  | _ :: _ => rfl
end KZ
/-! Locks, lines of couples that are gone through from the front. -/
namespace KZ
open PySem PySem.Spec PyProof.Rows L2 PySem.SeqAt Evl RZ
theorem ex_lock {H H' : Hp} {d : Addr} {u o : HO} (hd : H d = some u) (e : Ex (upd H d o) H') : Ex H (upd H' d u) := fun a x ha => by
  by_cases z : a = d
  · subst z
    rw [upd_same, ← hd, ha]
  · rw [upd_ne z]
    exact e a x (by rw [upd_ne z]; exact ha)
theorem fresh_lock {H : Hp} {d p : Addr} {o : HO} (h : upd H d o p = none) : H p = none ∧ p ≠ d := by
  have z : p ≠ d := fun z => by
    rw [z, upd_same] at h
    cases h
  rw [upd_ne z] at h
  exact ⟨h, z⟩
theorem ex_upd {H H' : Hp} {d : Addr} {o : HO} (e : Ex H H') : Ex (upd H d o) (upd H' d o) := fun a x ha => by
  by_cases z : a = d
  · subst z
    rw [upd_same] at ha ⊢
    exact ha
  · rw [upd_ne z] at ha ⊢
    exact e a x ha
theorem newAt_lock {H H' : Hp} {d : Addr} {u o : HO} {ts : List Addr} {us ws : List V} (h : NewAt (upd H d o) H' ts us ws) : NewAt H (upd H' d u) ts us ws := by
  obtain ⟨h1, h2, h3⟩ := h
  refine ⟨h1, fun j t x y g1 g2 g3 => ?_, fun t ht => (fresh_lock (h3 t ht)).1⟩
  rw [upd_ne (fresh_lock (h3 t (List.mem_of_getElem? g1))).2]
  exact h2 j t x y g1 g2 g3
theorem newAt_back {H0 H H' : Hp} {ts : List Addr} {us ws : List V} (e : Ex H0 H) (h : NewAt H H' ts us ws) : NewAt H0 H' ts us ws := ⟨h.1, h.2.1, fun t ht => fresh_back e (h.2.2 t ht)⟩
theorem newAt_mono {H H1 H2 : Hp} {ts : List Addr} {us ws : List V} (e : Ex H1 H2) (h : NewAt H H1 ts us ws) : NewAt H H2 ts us ws := ⟨h.1, fun j t x y g1 g2 g3 => e _ _ (h.2.1 j t x y g1 g2 g3), h.2.2⟩
section
variable {K : PySem.W.Frag} {σ : L2.St} {H : Hp} {ta tb te td : TE} {x y v : V}
/-- a lock around what gives a new list -/
theorem el_lock {a : Addr} {u : HO} {xs : List V} (ha : H a = some u) (mu : Mut (some u)) (h : ∀ od, EvL te σ (upd H a (.frz od u)) xs) : EvL (tLockE te) σ H xs := fun H1 e Q q =>
  ⟨a, u, e _ _ ha, mu, fun od => h od _ (ex_upd e) _ fun p H2 hp e2 h2 => by
    obtain ⟨p0, pa⟩ := fresh_lock hp
    exact ⟨e2 _ _ upd_same, q p _ p0 (ex_lock (e _ _ ha) e2) (by rw [upd_ne pa]; exact h2)⟩⟩
theorem ev_dget (h : Ev td σ H (.ref a)) (h2 : Ev te σ H (.int k)) (hd : Rd H a (.dK kvs)) (hv : valV kvs (Sum.inl k) = some v) : Ev (tDGet td te) σ H v := fun H1 e Q q =>
  h H1 e _ fun H2 e2 => h2 H2 (e.trans e2) _ fun H3 e3 => ⟨a, v, rfl, .inl ⟨kvs, Sum.inl k, ex_rd ((e.trans e2).trans e3) hd, rfl, hv.symm⟩, q H3 (e2.trans e3)⟩
theorem ev_din {kvs : List (Key × V)} {a : Addr} {k : Int} (h2 : Ev te σ H (.int k)) (h : Ev td σ H (.ref a)) (hd : Rd H a (.dK kvs)) : Ev (tDIn te td) σ H (.bl (valV kvs (Sum.inl k)).isSome) := fun H1 e Q q =>
  h2 H1 e _ fun H2 e2 => h H2 (e.trans e2) _ fun H3 e3 => ⟨a, _, rfl, .inl ⟨kvs, Sum.inl k, ex_rd ((e.trans e2).trans e3) hd, rfl, rfl⟩, q H3 (e2.trans e3)⟩
theorem ev_dnin {kvs : List (Key × V)} {a : Addr} {k : Int} (h2 : Ev te σ H (.int k)) (h : Ev td σ H (.ref a)) (hd : Rd H a (.dK kvs)) : Ev (tDNotIn te td) σ H (.bl (!(valV kvs (Sum.inl k)).isSome)) := fun H1 e Q q =>
  h2 H1 e _ fun H2 e2 => h H2 (e.trans e2) _ fun H3 e3 => ⟨a, _, rfl, .inl ⟨kvs, Sum.inl k, ex_rd ((e.trans e2).trans e3) hd, rfl, rfl⟩, q H3 (e2.trans e3)⟩
end
theorem pairsAt_app {H : Hp} {ts ts' : List Addr} {us us' ws ws' : List V} (h : PairsAt H ts us ws) (h' : PairsAt H ts' us' ws') (l : ts.length = us.length) (l2 : us.length = ws.length) : PairsAt H (ts ++ ts') (us ++ us') (ws ++ ws') := fun j t x y g1 g2 g3 => by
  by_cases hj : j < ts.length
  · rw [List.getElem?_append_left hj] at g1
    rw [List.getElem?_append_left (by omega)] at g2 g3
    exact h j t x y g1 g2 g3
  · rw [List.getElem?_append_right (by omega)] at g1 g2 g3
    have l1 : j - us.length = j - ts.length := by omega
    have l3 : j - ws.length = j - ts.length := by omega
    rw [l1] at g2
    rw [l3] at g3
    exact h' _ t x y g1 g2 g3
theorem pairsAt_tail {H : Hp} {t : Addr} {ts : List Addr} {u w : V} {us ws : List V} (h : PairsAt H (t :: ts) (u :: us) (w :: ws)) : PairsAt H ts us ws := fun j r x y g1 g2 g3 => h (j + 1) r x y (by simpa using g1) (by simpa using g2) (by simpa using g3)
/-- a line of couples, n of them behind us -/
structure Lf (K : PySem.W.Frag) (H H' : Hp) (p : Addr) (n : Nat) (ts : List Addr) (us ws : List V) (ds es : List D) : Prop where
  hl : ∃ zs : List V, zs.length = n ∧ H' p = some (.lst (zs ++ ts.map V.ref))
  tl : ts.length = us.length
  wl : us.length = ws.length
  pa : PairsAt H' ts us ws
  ne : ∀ t ∈ ts, t ≠ p
  ru : RpA K H us ds
  rw : RpA K H ws es
  okd : ∀ d ∈ ds, Ok d
  oke : ∀ e ∈ es, Ok e
  dd : depA ds ≤ 60
section
variable {K : PySem.W.Frag} {H H' H1 : Hp} {p t : Addr} {n : Nat} {ts ts2 : List Addr} {u w : V} {us ws us2 ws2 : List V} {d e : D} {ds es ds2 es2 : List D}
theorem Lf.mono (h : Lf K H H' p n ts us ws ds es) (x : Ex H' H1) : Lf K H H1 p n ts us ws ds es :=
  ⟨by obtain ⟨zs, l, g⟩ := h.hl; exact ⟨zs, l, x _ _ g⟩, h.tl, h.wl, fun j r a b g1 g2 g3 => x _ _ (h.pa j r a b g1 g2 g3), h.ne, h.ru, h.rw, h.okd, h.oke, h.dd⟩
/-- the next couple -/
theorem Lf.next (h : Lf K H H' p n (t :: ts) (u :: us) (w :: ws) (d :: ds) (e :: es)) : (∃ xs, H' p = some (.lst xs) ∧ xs[n]? = some (.ref t)) ∧ H' t = some (.tup [u, w]) ∧ Rp K H u d ∧ Rp K H w e ∧ Ok d ∧ Ok e ∧ dep d ≤ 60 := by
  obtain ⟨zs, l, g⟩ := h.hl
  refine ⟨⟨_, g, ?_⟩, h.pa 0 t u w rfl rfl rfl, ?_, ?_, h.okd d List.mem_cons_self, h.oke e List.mem_cons_self, ?_⟩
  · subst l
    simp
  · cases h.ru with
    | cons r _ => exact r
  · cases h.rw with
    | cons r _ => exact r
  · have := h.dd
    rw [depA] at this
    omega
/-- it is done, nothing is put behind -/
theorem Lf.skip (h : Lf K H H' p n (t :: ts) (u :: us) (w :: ws) (d :: ds) (e :: es)) : Lf K H H' p (n + 1) ts us ws ds es := by
  obtain ⟨zs, l, g⟩ := h.hl
  refine ⟨⟨zs ++ [.ref t], by simp [l], by rw [g]; simp⟩, by have := h.tl; simpa using this, by have := h.wl; simpa using this, pairsAt_tail h.pa, fun r m => h.ne r (List.mem_cons_of_mem _ m), ?_, ?_, fun d' m => h.okd d' (List.mem_cons_of_mem _ m), fun d' m => h.oke d' (List.mem_cons_of_mem _ m), ?_⟩
  · cases h.ru with
    | cons _ r => exact r
  · cases h.rw with
    | cons _ r => exact r
  · have := h.dd
    rw [depA] at this
    omega
/-- some are put behind -/
theorem Lf.push {zs : List V} (h : Lf K H H' p n ts us ws ds es) (hp : H' p = some (.lst zs)) (pn : ∀ r ∈ ts2, H' r = none) (e1 : Ex H' H1) (hN : PairsAt H1 ts2 us2 ws2) (l1 : ts2.length = us2.length) (l2 : us2.length = ws2.length) (r1 : RpA K H us2 ds2) (r2 : RpA K H ws2 es2) (o1 : ∀ d ∈ ds2, Ok d) (o2 : ∀ d ∈ es2, Ok d) (d2 : depA ds2 ≤ 60) :
    Lf K H (upd H1 p (.lst (zs ++ ts2.map V.ref))) p n (ts ++ ts2) (us ++ us2) (ws ++ ws2) (ds ++ ds2) (es ++ es2) := by
  obtain ⟨ys, l, g⟩ := h.hl
  rw [hp] at g
  have g := HO.lst.inj (Option.some.inj g)
  have pne : ∀ r ∈ ts2, r ≠ p := fun r m z => by
    have := pn r m
    rw [z, hp] at this
    cases this
  refine ⟨⟨ys, l, by rw [upd_same, g]; simp⟩, by simp [h.tl, l1], by simp [h.wl, l2], pairsAt_app (fun j r a b g1 g2 g3 => ?_) (fun j r a b g1 g2 g3 => ?_) h.tl h.wl, fun r m => ?_, h.ru.app r1, h.rw.app r2, fun d' m => ?_, fun d' m => ?_, ?_⟩
  · rw [upd_ne (h.ne r (List.mem_of_getElem? g1))]
    exact e1 _ _ (h.pa j r a b g1 g2 g3)
  · rw [upd_ne (pne r (List.mem_of_getElem? g1))]
    exact hN j r a b g1 g2 g3
  · exact (List.mem_append.mp m).elim (h.ne r) (pne r)
  · exact (List.mem_append.mp m).elim (h.okd d') (o1 d')
  · exact (List.mem_append.mp m).elim (h.oke d') (o2 d')
  · have : ∀ {xs ys : List D}, depA (xs ++ ys) ≤ max (depA xs) (depA ys) := fun {xs ys} => by
      induction xs with
      | nil => simp [depA]
      | cons x xs ih =>
        rw [List.cons_append, depA, depA]
        omega
    have := @this ds ds2
    have := h.dd
    omega
end
section
variable {K : PySem.W.Frag} {σ : L2.St} {H H' : Hp} {te : TE} {tz : TS} {De : Ends} {p : Addr} {x y : V}
theorem q_lst1 {i : Nat} {xs : List V} (h : EvU te σ H xs) (k : ∀ t p H1, H t = none → H p = none → t ≠ p → Ex H H1 → H1 t = some (.tup xs) → H1 p = some (.lst [.ref t]) → tz De (σ.set i (some (.ref p))) H1) :
    tSeq (tAsg (tLst (tCons te tNil)) (gName i)) tz De σ H := h H (Ex.refl H) _ fun t H1 ht e h1 => ⟨sz_of (by simp), fun p hp => k t p _ ht (fresh_back e hp) (ne_of_none h1 hp) (e.trans (Ex.new hp)) (by rw [upd_ne (ne_of_none h1 hp)]; exact h1) upd_same⟩
theorem q_par1 {i j : Nat} {xs : List V} (h : EvU te σ H xs) (k : ∀ t p H1, H t = none → H p = none → t ≠ p → Ex H H1 → H1 t = some (.tup xs) → H1 p = some (.lst [.ref t]) → tz De ((σ.set i (some (.ref p))).set j (some (.int 0))) H1) :
    tSeq (tPar i j (tCons (tLst (tCons te tNil)) (tCons (tC (.int 0)) tNil))) tz De σ H := h H (Ex.refl H) _ fun t H1 ht e h1 => ⟨sz_of (by simp), fun p hp => ⟨.ref p, .int 0, rfl, k t p _ ht (fresh_back e hp) (ne_of_none h1 hp) (e.trans (Ex.new hp)) (by rw [upd_ne (ne_of_none h1 hp)]; exact h1) upd_same⟩⟩
/-- a, b = a pair -/
theorem q_pair {i j : Nat} {t : Addr} (h : Ev te σ H (.ref t)) (ht : SqT K H t [x, y]) (k : ∀ H1, Ex H H1 → tz De ((σ.set i (some x)).set j (some y)) H1) : tSeq (tAsg te (gTup K 2 (gCons (gName i) (gCons (gName j) gNil)))) tz De σ H :=
  h H (Ex.refl H) _ fun H1 e => ⟨t, [x, y], rfl, ex_t e ht, rfl, x, [y], rfl, y, [], rfl, rfl, k H1 e⟩
/-- the first couple -/
theorem Lf.first {t : Addr} {d e : D} (ht : H' t = some (.tup [x, y])) (hp : H' p = some (.lst [.ref t])) (ne : t ≠ p) (r1 : Rp K H x d) (r2 : Rp K H y e) (o1 : Ok d) (o2 : Ok e) (dd : dep d ≤ 60) : Lf K H H' p 0 [t] [x] [y] [d] [e] := by
  refine ⟨⟨[], rfl, hp⟩, rfl, rfl, fun j r a b g1 g2 g3 => ?_, fun r m => by rw [List.mem_singleton.mp m]; exact ne, .cons r1 .nil, .cons r2 .nil, fun d' m => by rw [List.mem_singleton.mp m]; exact o1, fun d' m => by rw [List.mem_singleton.mp m]; exact o2, by rw [depA, depA]; omega⟩
  cases j with
  | zero =>
    simp at g1 g2 g3
    subst g1 g2 g3
    exact ht
  | succ j => simp at g1
/-- pairs.extend(list(zip(a, b))) -/
theorem s_zipL {n a b c : Nat} {ts : List Addr} {us ws us2 ws2 : List V} {ds es ds2 es2 : List D} (hv : σ[a]? = some (some (.ref p))) (h4 : σ[b]? = some (some x)) (h5 : σ[c]? = some (some y)) (e0 : Ex H H') (hp0 : H p = none) (ln : Lf K H H' p n ts us ws ds es)
    (sx : SeqX K H x us2) (sy : SeqX K H y ws2) (l : us2.length = ws2.length) (r1 : RpA K H us2 ds2) (r2 : RpA K H ws2 es2) (o1 : ∀ d ∈ ds2, Ok d) (o2 : ∀ d ∈ es2, Ok d) (d2 : depA ds2 ≤ 60) (hz : n + ts.length + us2.length ≤ 50000)
    (k : ∀ H'' ts2, Ex H H'' → Lf K H H'' p n (ts ++ ts2) (us ++ us2) (ws ++ ws2) (ds ++ ds2) (es ++ es2) → De.nx σ H'') :
    tDrop (tBM K "list" rExtend (tVar a) (tCons (tCB (rZip K) (tCons (tVar b) (tCons (tVar c) tNil))) tNil)) De σ H' := by
  obtain ⟨zs, zl, g⟩ := ln.hl
  refine ⟨.ref p, hv, .inl ⟨rfl, _, .inl (.inl g)⟩, x, h4, y, h5, x, y, rfl, us2, ws2, sx.mono e0, sy.mono e0, fun q H1 ts2 hq e1 h1q len pa hn => ?_⟩
  have le : ts2.length = us2.length := by omega
  refine ⟨p, q, zs ++ ts.map V.ref, ts2.map V.ref, rfl, rfl, e1 _ _ g, h1q, sz_of (by simp; omega), ?_⟩
  exact k _ ts2 (Ex.mut (e0.trans e1) hp0) (ln.push g (fun r m => (hn r m).1) e1 pa le l r1 r2 o1 o2 d2)
end
theorem ev_lenX {K : PySem.W.Frag} {σ : L2.St} {H : Hp} {te : TE} {x : V} {xs : List V} (h : Ev te σ H x) (hs : SeqX K H x xs) : Ev (tCB (fun xs H Q => ∃ x n, xs = [x] ∧ LenV K x H n ∧ Q (.int n) H) (tCons te tNil)) σ H (.int (xs.length : Int)) := by
  obtain ⟨a, rfl, q⟩ := hs
  rcases q with q | q
  · exact ev_lenL h q
  · exact ev_lenT h q
end KZ
namespace KZ
open PySem PySem.Spec PyProof.Rows L2 PySem.SeqAt Evl RZ
def rLenU (K : PySem.W.Frag) : List V → Hp → VK → Prop := fun xs H Q => (∃ x n, xs = [x] ∧ LenV K x H n ∧ Q (.int (n : Nat)) H) ∨ ∃ a kvs, xs = [V.ref a] ∧ H a = some (.dK kvs) ∧ Q (.int kvs.length) H
theorem call_lenU {X : Cx} : CallR X (.builtin "len") (rLenU X.K) := call_len.or call_lenD
section
variable {K : PySem.W.Frag} {σ : L2.St} {H H' : Hp} {te tl : TE} {t : TT} {x : V}
theorem ev_lenUX {xs : List V} (h : Ev te σ H x) (hs : SeqX K H x xs) : Ev (tCB (rLenU K) (tCons te tNil)) σ H (.int (xs.length : Int)) := fun H1 e Q q => by
  obtain ⟨a, rfl, s⟩ := hs
  refine h H1 e _ fun H2 e2 => .inl ⟨_, xs.length, rfl, ?_, q H2 e2⟩
  rcases s with s | s
  · exact .inl ⟨xs, ex_l (e.trans e2) s, rfl⟩
  · exact .inr ⟨xs, ex_t (e.trans e2) s, rfl⟩
theorem ev_lenUD {a : Addr} {kvs : List (Key × V)} (h : Ev te σ H (.ref a)) (hs : H a = some (.dK kvs)) : Ev (tCB (rLenU K) (tCons te tNil)) σ H (.int (kvs.length : Int)) := fun H1 e Q q =>
  h H1 e _ fun H2 e2 => .inr ⟨a, kvs, rfl, (e.trans e2) _ _ hs, q H2 e2⟩
/-- over a list that is made on the way -/
theorem lc_new {g : TG} {vs : List Nat} {xs : List V} {H0 : Hp} {Q : VK} (h : EvL tl σ H xs) (e : Ex H H0) (k : ∀ a H1, H0 a = none → Ex H0 H1 → H1 a = some (.lst xs) → tLc (fun _ H R => R (Itl K a) H) g t te vs σ H1 Q) : tLc (iList K tl) g t te vs σ H0 Q :=
  h H0 e _ fun a H1 ha e1 hx => ⟨a, rfl, ⟨xs, .inl (.inl hx)⟩, k a H1 ha e1 hx⟩
/-- a comprehension whose element is a new pair, with a test that always lets -/
theorem el_pairsT {wi : TI} {J : It} {xs : List V} {j : Nat} {vs : List Nat} (f g : V → V) (hw : ∀ H1, Ex H H1 → ∀ R : It → Hp → Prop, (∀ H2, Ex H1 H2 → R J H2) → wi σ H1 R) (F : Flat J H xs) (hz : xs.length ≤ 40000)
    (hwp : ∀ x, wipe ((wipe σ vs).set j (some x)) vs = wipe σ vs) (ht : ∀ x ∈ xs, EvT t ((wipe σ vs).set j (some x)) H true) (he : ∀ x ∈ xs, EvU te ((wipe σ vs).set j (some x)) H [f x, g x]) :
    ∀ H1, Ex H H1 → ∀ Q : VK, (∀ p H2 ts, H1 p = none → Ex H1 H2 → H2 p = some (.lst (ts.map V.ref)) → NewAt H1 H2 ts (xs.map f) (xs.map g) → (∀ t ∈ ts, t ≠ p) → Q (.ref p) H2) → tLc wi (gName j) t te vs σ H1 Q := fun H0 e Q q => hw H0 e _ fun H1 e1 Dl hD => by
  have e01 := e.trans e1
  refine lc_it xs.length (fun i H' => H1 Dl = none ∧ Ex H1 H' ∧ ∃ ts : List Addr, ts.length = i ∧ H' Dl = some (.lst (ts.map V.ref)) ∧ (∀ t ∈ ts, H1 t = none ∧ t ≠ Dl) ∧ ∀ (j : Nat) (t : Addr) (x : V), ts[j]? = some t → xs[j]? = some x → H' t = some (.tup [f x, g x]))
    ⟨hD, Ex.new hD, [], rfl, upd_same, fun t ht => (by cases ht), fun j t x h => (by simp at h)⟩ (fun i H' hi p => F.go i H' (e01.trans p.2.1) hi) (fun i x H' H'' hi p y => ?_) (fun H' p => F.stop H' (e01.trans p.2.1)) (fun H' p => ?_)
  · obtain ⟨rfl, hx⟩ := F.yld i H' x H'' (e01.trans p.2.1) hi y
    obtain ⟨p1, p2, ts, hl, p3, p4, p5⟩ := p
    refine ⟨hwp x, ht x (List.mem_of_getElem? hx) H'' (e01.trans p2) _ fun H3 e3 => ?_⟩
    rw [if_pos rfl]
    refine he x (List.mem_of_getElem? hx) H3 ((e01.trans p2).trans e3) _ fun r H4 hr e4 h4 => ⟨_, e4 Dl _ (e3 Dl _ p3), sz_lt (by rw [List.length_map]; omega), p1, Ex.mut ((p2.trans e3).trans e4) p1, ts ++ [r], by simp [hl], ?_, fun t ht => ?_, fun k t x' g1 g2 => ?_⟩
    · rw [List.map_append]
      exact upd_same
    · rcases List.mem_append.mp ht with ht | ht
      · exact p4 t ht
      · rw [List.mem_singleton.mp ht]
        exact ⟨fresh_back (p2.trans e3) hr, (ne_of_none (e3 _ _ p3) hr).symm⟩
    · by_cases hk : k < i
      · rw [List.getElem?_append_left (by omega)] at g1
        have hm := List.mem_of_getElem? g1
        rw [upd_ne (p4 t hm).2]
        exact e4 t _ (e3 t _ (p5 k t x' g1 g2))
      · have hk2 : k = i := by
          have := (List.getElem?_eq_some_iff.mp g1).1
          simp [hl] at this
          omega
        subst hk2
        rw [List.getElem?_append_right (by omega), hl] at g1
        simp at g1
        subst g1
        rw [hx] at g2
        cases g2
        rw [upd_ne (ne_of_none (e3 _ _ p3) hr).symm]
        exact h4
  · obtain ⟨p1, p2, ts, hl, p3, p4, p5⟩ := p
    refine q Dl H' ts (fresh_back e1 p1) (e1.trans p2) p3 ⟨by rw [List.length_map]; exact hl, fun j t x y g1 g2 g3 => ?_, fun t ht => fresh_back e1 (p4 t ht).1⟩ fun t ht => (p4 t ht).2
    rw [List.getElem?_map] at g2 g3
    cases g : xs[j]? with
    | none =>
      rw [g] at g2
      cases g2
    | some z =>
      rw [g] at g2 g3
      cases g2
      cases g3
      exact p5 j t z g1 g
/-- pairs.extend(what gives new pairs) -/
theorem s_extP {De : Ends} {p : Addr} {n a : Nat} {ts : List Addr} {us ws us2 ws2 : List V} {ds es ds2 es2 : List D} (hv : σ[a]? = some (some (.ref p))) (e0 : Ex H H') (hp0 : H p = none) (ln : Lf K H H' p n ts us ws ds es)
    (ht : ∀ Q : VK, (∀ q H2 ts2, H' q = none → Ex H' H2 → H2 q = some (.lst (ts2.map V.ref)) → NewAt H' H2 ts2 us2 ws2 → Q (.ref q) H2) → te σ H' Q)
    (l : us2.length = ws2.length) (r1 : RpA K H us2 ds2) (r2 : RpA K H ws2 es2) (o1 : ∀ d ∈ ds2, Ok d) (o2 : ∀ d ∈ es2, Ok d) (d2 : depA ds2 ≤ 60) (hz : n + ts.length + us2.length ≤ 50000)
    (k : ∀ H'' ts2, Ex H H'' → Lf K H H'' p n (ts ++ ts2) (us ++ us2) (ws ++ ws2) (ds ++ ds2) (es ++ es2) → De.nx σ H'') :
    tDrop (tBM K "list" rExtend (tVar a) (tCons te tNil)) De σ H' := by
  obtain ⟨zs, zl, g⟩ := ln.hl
  refine ⟨.ref p, hv, .inl ⟨rfl, _, .inl (.inl g)⟩, ht _ fun q H1 ts2 hq e1 h1q hN => ?_⟩
  have le : ts2.length = us2.length := hN.1
  refine ⟨p, q, zs ++ ts.map V.ref, ts2.map V.ref, rfl, rfl, e1 _ _ g, h1q, sz_of (by simp; omega), ?_⟩
  exact k _ ts2 (Ex.mut (e0.trans e1) hp0) (ln.push g hN.2.2 e1 hN.2.1 le l r1 r2 o1 o2 d2)
theorem q_extP {De : Ends} {tz : TS} {p : Addr} {n a : Nat} {ts : List Addr} {us ws us2 ws2 : List V} {ds es ds2 es2 : List D} (hv : σ[a]? = some (some (.ref p))) (e0 : Ex H H') (hp0 : H p = none) (ln : Lf K H H' p n ts us ws ds es)
    (ht : ∀ Q : VK, (∀ q H2 ts2, H' q = none → Ex H' H2 → H2 q = some (.lst (ts2.map V.ref)) → NewAt H' H2 ts2 us2 ws2 → Q (.ref q) H2) → te σ H' Q)
    (l : us2.length = ws2.length) (r1 : RpA K H us2 ds2) (r2 : RpA K H ws2 es2) (o1 : ∀ d ∈ ds2, Ok d) (o2 : ∀ d ∈ es2, Ok d) (d2 : depA ds2 ≤ 60) (hz : n + ts.length + us2.length ≤ 50000)
    (k : ∀ H'' ts2, Ex H H'' → Lf K H H'' p n (ts ++ ts2) (us ++ us2) (ws ++ ws2) (ds ++ ds2) (es ++ es2) → tz De σ H'') :
    tSeq (tDrop (tBM K "list" rExtend (tVar a) (tCons te tNil))) tz De σ H' := s_extP (De := { De with nx := tz De }) hv e0 hp0 ln ht l r1 r2 o1 o2 d2 hz k
theorem el_sortedD {a : Addr} {kvs : List (Key × V)} {ks : List Int} (h : Ev te σ H (.ref a)) (hd : Rd H a (.dK kvs)) (hk : kvs.map (·.1) = ks.map Sum.inl) (h64 : ks.length < 64) (hs : ks.Pairwise (· ≤ ·)) :
    EvL (tCB (fun xs H Q => ∃ (a : Addr) (kvs : List (Key × V)) (ks : List Int), xs = [.ref a] ∧ Rd H a (.dK kvs) ∧ kvs.map (·.1) = ks.map Sum.inl ∧ ks.length < 64 ∧
    ∀ (ys : List Int) (p : Addr), ys.Perm ks → ys.Pairwise (· ≤ ·) → H p = none → Q (.ref p) (upd H p (.lst (ys.map V.int)))) (tCons te tNil)) σ H (ks.map V.int) := fun H1 e Q q =>
  h H1 e _ fun H2 e2 => ⟨a, kvs, ks, rfl, ex_rd (e.trans e2) hd, hk, h64, fun ys p pm sy hp => by
    have : ys = ks := pm.eq_of_pairwise (fun x y _ _ h1 h2 => by omega) sy hs
    subst this
    exact q p _ (fresh_back e2 hp) (e2.trans (Ex.new hp)) upd_same⟩
end
theorem iota_le : ∀ n, (iota n).Pairwise (· ≤ ·) := fun n => by
  unfold iota
  rw [List.pairwise_map]
  exact List.Pairwise.imp (fun h => Int.ofNat_le.mpr (Nat.le_of_lt h)) List.pairwise_lt_range
theorem dkv_fst {ks : List Int} {xs : List V} (h : ks.length = xs.length) : (dkv ks xs).map (·.1) = ks.map Sum.inl := by
  unfold dkv
  rw [List.map_map, show ((fun x : Key × V => x.1) ∘ fun p : Int × V => ((Sum.inl p.1 : Key), p.2)) = Sum.inl ∘ Prod.fst from rfl, ← List.map_map, List.map_fst_zip (by omega)]
theorem dkv_length {ks : List Int} {xs : List V} (h : ks.length = xs.length) : (dkv ks xs).length = ks.length := by
  unfold dkv
  rw [List.length_map, List.length_zip]
  omega
end KZ
/-! What is new since a heap; enumerate; dicts of pairs; draws. -/
namespace KZ
open PySem PySem.Spec PyProof.Rows L2 PySem.SeqAt Evl RZ
/-- what stands in H' and did not in H -/
def nw (H H' : Hp) : Hp := fun a => if (H a).isNone then H' a else none
theorem nw_at {H H' : Hp} {a : Addr} (h : H a = none) : nw H H' a = H' a := by
  unfold nw
  rw [h]
  rfl
theorem nw_some {H H' : Hp} {a : Addr} {o : HO} (h : nw H H' a = some o) : H a = none ∧ H' a = some o := by
  unfold nw at h
  cases g : H a with
  | none =>
    rw [g] at h
    exact ⟨rfl, h⟩
  | some u =>
    rw [g] at h
    cases h
theorem nw_sub {H H' : Hp} : Ex (nw H H') H' := fun a o h => (nw_some h).2
theorem nw_to {H0 H H1 H' : Hp} (d : ∀ a, H a = none → H0 a = none) (e : ∀ a o, H a = none → H1 a = some o → H' a = some o) : Ex (nw H H1) (nw H0 H') := fun a o h => by
  obtain ⟨h1, h2⟩ := nw_some h
  rw [nw_at (d a h1)]
  exact e a o h1 h2
theorem nw_hm {b : Addr} {H H' : Hp} {o : HO} (hb : H b = some o) : Ex (nw H H') (Hm b H') := fun a x h => by
  obtain ⟨h1, h2⟩ := nw_some h
  have z : a ≠ b := fun z => by
    rw [z, hb] at h1
    cases h1
  rw [hm_ne z]
  exact h2
/-- a heap that keeps all but b: what is free behind was free ahead -/
theorem hm_dom {b : Addr} {H H' : Hp} {o : HO} (e : Ex (Hm b H) (Hm b H')) (hb : H' b = some o) : ∀ a, H' a = none → H a = none := fun a h => by
  have z : a ≠ b := fun z => by
    rw [z, hb] at h
    cases h
  cases g : H a with
  | none => rfl
  | some u =>
    rw [hm_to e z g] at h
    cases h
theorem ex_dom {H H' : Hp} (e : Ex H H') : ∀ a, H' a = none → H a = none := fun a h => fresh_back e h
section
variable {K : PySem.W.Frag} {σ : L2.St} {H : Hp} {te : TE} {tz : TS} {De : Ends}
/-- [(i, x) for i, x in enumerate(xs)] -/
theorem el_enumP {tA : TA} {a : Addr} {xs : List V} {j1 j2 : Nat} {vs : List Nat} (hA : EvA tA σ H [.ref a]) (hx : SqL K H a xs) (hz : xs.length ≤ 40000) (hwp : ∀ x y, wipe (((wipe σ vs).set j1 (some x)).set j2 (some y)) vs = wipe σ vs)
    (h1 : ∀ x y, (((wipe σ vs).set j1 (some x)).set j2 (some y))[j1]? = some (some x)) (h2 : ∀ x y, (((wipe σ vs).set j1 (some x)).set j2 (some y))[j2]? = some (some y)) :
    ∀ H1, Ex H H1 → ∀ Q : VK, (∀ p H2 ts, H1 p = none → Ex H1 H2 → H2 p = some (.lst (ts.map V.ref)) → NewAt H1 H2 ts ((iota xs.length).map V.int) xs → Q (.ref p) H2) → tLc (iEnum K tA) (gTup K 2 (gCons (gName j1) (gCons (gName j2) gNil))) tYes (tTup (tCons (tVar j1) (tCons (tVar j2) tNil))) vs σ H1 Q := fun H0 e Q q => hA H0 e _ fun H1 e1 => ⟨a, xs, rfl, ex_l (e.trans e1) hx, fun Dl hD => by
  have e01 := e.trans e1
  refine lc_it xs.length (fun i H' => H1 Dl = none ∧ Ex H1 H' ∧ ∃ ts : List Addr, ts.length = i ∧ H' Dl = some (.lst (ts.map V.ref)) ∧ (∀ t ∈ ts, H1 t = none ∧ t ≠ Dl) ∧ ∀ (j : Nat) (t : Addr) (x : V), ts[j]? = some t → xs[j]? = some x → H' t = some (.tup [.int ((j : Nat) : Int), x]))
    ⟨hD, Ex.new hD, [], rfl, upd_same, fun t ht => (by cases ht), fun j t x h => (by simp at h)⟩ (fun i H' hi p => ⟨xs, xs[i], ex_l (e01.trans p.2.1) hx, List.getElem?_eq_getElem hi⟩) (fun i v H' H'' hi p y => ?_) (fun H' p => ⟨xs, ex_l (e01.trans p.2.1) hx, Nat.le_refl _⟩) (fun H' p => ?_)
  · obtain ⟨p1, p2, ts, hl, p3, p4, p5⟩ := p
    obtain ⟨T, x, rfl, hT, rfl, f1⟩ := y
    have gx := f1 xs (ex_l (e01.trans p2) hx)
    have eT : Ex H' (upd H' T (.tup [.int ((i : Nat) : Int), x])) := Ex.new hT
    refine ⟨T, [.int ((i : Nat) : Int), x], rfl, .inl (.inl upd_same), rfl, _, [x], rfl, x, [], rfl, rfl, hwp _ _, yes_go ?_⟩
    refine ⟨_, h1 _ _, _, h2 _ _, sz_of (by simp), fun r hr => ?_⟩
    have hr2 := fresh_back eT hr
    have er : Ex (upd H' T (.tup [.int ((i : Nat) : Int), x])) (upd (upd H' T (.tup [.int ((i : Nat) : Int), x])) r (.tup [.int ((i : Nat) : Int), x])) := Ex.new hr
    have p3' := er _ _ (eT _ _ p3)
    refine ⟨_, p3', sz_lt (by rw [List.length_map]; omega), p1, Ex.mut ((p2.trans eT).trans er) p1, ts ++ [r], by simp [hl], ?_, fun t ht => ?_, fun k t x' g1 g2 => ?_⟩
    · rw [List.map_append]
      exact upd_same
    · rcases List.mem_append.mp ht with ht | ht
      · exact p4 t ht
      · rw [List.mem_singleton.mp ht]
        exact ⟨fresh_back p2 hr2, (ne_of_none p3 hr2).symm⟩
    · by_cases hk : k < i
      · rw [List.getElem?_append_left (by omega)] at g1
        have hm := List.mem_of_getElem? g1
        rw [upd_ne (p4 t hm).2]
        exact er t _ (eT t _ (p5 k t x' g1 g2))
      · have hk2 : k = i := by
          have := (List.getElem?_eq_some_iff.mp g1).1
          simp [hl] at this
          omega
        subst hk2
        rw [List.getElem?_append_right (by omega), hl] at g1
        simp at g1
        subst g1
        rw [gx] at g2
        cases g2
        rw [upd_ne (ne_of_none p3 hr2).symm]
        exact upd_same
  · obtain ⟨p1, p2, ts, hl, p3, p4, p5⟩ := p
    have li : (iota xs.length).length = xs.length := by simp [iota]
    refine q Dl H' ts (fresh_back e1 p1) (e1.trans p2) p3 ⟨by rw [List.length_map, li]; exact hl, fun j t x y g1 g2 g3 => ?_, fun t ht => fresh_back e1 (p4 t ht).1⟩
    have hj := (List.getElem?_eq_some_iff.mp g3).1
    rw [List.getElem?_map, iota, List.getElem?_map, List.getElem?_range hj] at g2
    cases g2
    exact p5 j t y g1 g3⟩
/-- x = _law_take(bag, many) -/
theorem q_take {i a : Nat} {b c : Addr} {many : Int} (hb : σ[a]? = some (some (.ref b))) (hB : Bag K H b c) (h0 : 0 < many) (h1 : many < 1073741824) (k : ∀ H' j, Ex (Hm b H) (Hm b H') → Bag K H' b c → 0 ≤ j → j < many → tz De (σ.set i (some (.int j))) H') :
    tSeq (tAsg (tCall (spTake K) [] E0 (tCons (tVar a) (tCons (tC (.int many)) tNil))) (gName i)) tz De σ H := ⟨.ref b, hb, b, c, many, rfl, h0, h1, hB, fun H' j e hB' a c => k H' j e hB' a c⟩
end
theorem mergeK_new : ∀ (more acc : List (Key × V)), (more.map (·.1)).Nodup → (∀ p ∈ more, ∀ q ∈ acc, q.1 ≠ p.1) → mergeK acc more = acc ++ more
  | [], acc, _, _ => by simp [mergeK]
  | p :: more, acc, nd, h => by
    have hn := List.nodup_cons.mp (show (p.1 :: more.map (·.1)).Nodup from nd)
    have h1 : putK acc p.1 p.2 = acc ++ [p] := by
      unfold putK
      rw [if_neg]
      intro z
      obtain ⟨q, hq, e⟩ := List.any_eq_true.mp z
      exact h p List.mem_cons_self q hq (of_decide_eq_true e)
    show mergeK (putK acc p.1 p.2) more = _
    rw [h1, mergeK_new more _ hn.2 (fun q hq r hr => ?_), List.append_assoc]
    · rfl
    · rcases List.mem_append.mp hr with hr | hr
      · exact h q (List.mem_cons_of_mem _ hq) r hr
      · rw [List.mem_singleton.mp hr]
        exact fun z => hn.1 (z ▸ List.mem_map_of_mem hq)
theorem iota_nodup (n : Nat) : (iota n).Nodup := by
  unfold iota
  exact List.Pairwise.map _ (fun a b h z => h (Int.ofNat.inj z)) List.nodup_range
theorem mergeK_dkv {ks : List Int} {xs : List V} (nd : ks.Nodup) (l : ks.length = xs.length) : mergeK [] (dkv ks xs) = dkv ks xs := by
  rw [mergeK_new _ _ ?_ (fun _ _ _ m => by cases m), List.nil_append]
  rw [dkv_fst l]
  exact List.Pairwise.map _ (fun a b h z => h (Sum.inl.inj z)) nd
/-- the bound of a value that is so deep -/
def wb : Nat → Nat
  | 0 => 1
  | n + 1 => 3 * wb n + 4
/-- a drawn value -/
def spValue (K : PySem.W.Frag) (n : Nat) : Sp := fun vs H Q _ => ∃ b c, vs = [.ref b, .int ((n : Nat) : Int)] ∧ Bag K H b c ∧ ∀ H' v d, Ex (Hm b H) (Hm b H') → Bag K H' b c → Rp K (nw H H') v d → Ok d → dep d ≤ n → wt d ≤ wb n → Q v H'
/-- what the def calls: itself, one less deep -/
def spVal' (K : PySem.W.Frag) : Nat → Sp
  | 0 => fun _ _ _ _ => False
  | n + 1 => spValue K n
theorem wtA_le {n : Nat} : ∀ {ds : List D}, (∀ d ∈ ds, wt d ≤ n) → wtA ds ≤ ds.length * n
  | [], _ => by simp [wtA]
  | d :: ds, h => by
    have h1 := h d List.mem_cons_self
    have h2 := wtA_le fun e m => h e (List.mem_cons_of_mem _ m)
    rw [wtA, List.length_cons, Nat.succ_mul]
    omega
theorem wb_pos : ∀ n, 1 ≤ wb n
  | 0 => Nat.le_refl _
  | n + 1 => by
    rw [wb]
    omega
section
variable {K : PySem.W.Frag} {σ : L2.St} {H : Hp} {te : TE} {tz : TS} {De : Ends}
theorem s_someL {a : Nat} {b c : Addr} {xs : List V} (hb : σ[a]? = some (some (.ref b))) (hB : Bag K H b c) (h : EvL te σ H xs) (h0 : 0 < xs.length) (h1 : xs.length ≤ 1000000) (k : ∀ H' v, Ex (Hm b H) (Hm b H') → Bag K H' b c → v ∈ xs → De.rt v H') :
    tRet (tCall (spSome K) [] E0 (tCons (tVar a) (tCons te tNil))) De σ H := ⟨.ref b, hb, h H (Ex.refl H) _ fun p H1 hp e h1p => ⟨b, c, p, xs, rfl, .inl (.inl (.inl (by
      obtain ⟨o, ho⟩ := hB.some_
      rw [hm_ne (ne_of_none ho hp).symm]
      exact h1p))), h0, h1, hB.mono e, fun H' j v e' hB' g => k H' v ((hm_mono e).trans e') hB' (List.mem_of_getElem? g)⟩⟩
end
theorem paired_at {K : PySem.W.Frag} {H : Hp} : ∀ {ts : List Addr} {ks : List Int} {xs : List V}, ts.length = ks.length → ks.length = xs.length → PairsAt H ts (ks.map V.int) xs → Paired (fun p (kv : Key × V) => SqT K H p [kV kv.1, kv.2]) ts (dkv ks xs)
  | [], [], [], _, _, _ => .nil
  | t :: ts, k :: ks, x :: xs, h1, h2, h => .cons (.inl (.inl (h 0 t (.int k) x rfl rfl rfl))) (paired_at (by simpa using h1) (by simpa using h2) (pairsAt_tail h))
theorem tcb1 {r : List V → Hp → VK → Prop} {te : TE} {σ : L2.St} {H : Hp} {Q : VK} (h : te σ H fun v H' => r [v] H' Q) : tCB r (tCons te tNil) σ H Q := h
end KZ
/-! Expressions whose value is a datum that is made on the way; lists of the law. -/
namespace KZ
open PySem PySem.Spec PyProof.Rows L2 PySem.SeqAt Evl RZ
/-- the value is the datum d, of new objects -/
def EvD (K : PySem.W.Frag) (te : TE) (σ : L2.St) (H : Hp) (d : D) : Prop := ∀ H1, Ex H H1 → ∀ Q : VK, (∀ v H2, Ex H1 H2 → Rp K (nw H1 H2) v d → Q v H2) → te σ H1 Q
def EvDA (K : PySem.W.Frag) (ta : TA) (σ : L2.St) (H : Hp) (ds : List D) : Prop := ∀ H1, Ex H H1 → ∀ Q : List V → Hp → Prop, (∀ vs H2, Ex H1 H2 → RpA K (nw H1 H2) vs ds → Q vs H2) → ta σ H1 Q
theorem nw_ex {H H1 H2 : Hp} (e : Ex H1 H2) : Ex (nw H H1) (nw H H2) := nw_to (fun _ h => h) fun a o _ h => e a o h
theorem nw_ex2 {H H1 H2 : Hp} (e : Ex H H1) : Ex (nw H1 H2) (nw H H2) := nw_to (fun a h => fresh_back e h) fun a o _ h => h
section
variable {K : PySem.W.Frag} {σ : L2.St} {H : Hp} {ta tb te : TE} {tr : TA} {x v : V}
theorem ed_v {d : D} (h : Ev te σ H v) (r : ∀ H, Rp K H v d) : EvD K te σ H d := fun H1 e Q q => h H1 e _ fun H2 e2 => q v H2 e2 (r _)
theorem ed_int {i : Int} : EvD K (tC (.int i)) σ H (.int i) := ed_v ev_c fun _ => .int i
theorem ed_str {s : Str} : EvD K (tC (.str s)) σ H (.str s) := ed_v ev_c fun _ => .str s
theorem ed_bl {b : Bool} : EvD K (tC (.bl b)) σ H (.bl b) := ed_v ev_c fun _ => .bl b
theorem ed_evbl {b : Bool} (h : Ev te σ H (.bl b)) : EvD K te σ H (.bl b) := ed_v h fun _ => .bl b
theorem da_nil : EvDA K tNil σ H [] := fun H1 _ _ q => q [] H1 (Ex.refl H1) .nil
theorem da_cons {d : D} {ds : List D} (h : EvD K ta σ H d) (h2 : EvDA K tr σ H ds) : EvDA K (tCons ta tr) σ H (d :: ds) := fun H1 e Q q =>
  h H1 e _ fun v H2 e2 r => h2 H2 (e.trans e2) _ fun vs H3 e3 rs => q (v :: vs) H3 (e2.trans e3) (.cons (r.mono (nw_ex e3)) (rs.mono (nw_ex2 e2)))
theorem ed_tup {ds : List D} (h : EvDA K tr σ H ds) (hz : ds.length ≤ 1000) : EvD K (tTup tr) σ H (.tup ds) := fun H1 e Q q =>
  h H1 e _ fun vs H2 e2 rs => ⟨sz_of (by have := rs.len; omega), fun p hp => q (.ref p) _ (e2.trans (Ex.new hp)) (.tup (.inl (.inl (by rw [nw_at (fresh_back e2 hp)]; exact upd_same))) (rs.mono (nw_ex (Ex.new hp))))⟩
theorem ed_lst {ds : List D} (h : EvDA K tr σ H ds) (hz : ds.length ≤ 1000) : EvD K (tLst tr) σ H (.lst ds) := fun H1 e Q q =>
  h H1 e _ fun vs H2 e2 rs => ⟨sz_of (by have := rs.len; omega), fun p hp => q (.ref p) _ (e2.trans (Ex.new hp)) (.lst (.inl (.inl (by rw [nw_at (fresh_back e2 hp)]; exact upd_same))) (rs.mono (nw_ex (Ex.new hp))))⟩
/-- a list, one behind the other, the first held -/
theorem el_catV {p : Addr} {xs ys : List V} (h1 : Ev ta σ H (.ref p)) (hp : H p = some (.lst xs)) (h2 : EvL tb σ H ys) (hz : xs.length + ys.length ≤ 100000) : EvL (tOp rCat ta tb) σ H (xs ++ ys) := fun H1 e Q q =>
  h1 H1 e _ fun H2 e2 => h2 H2 (e.trans e2) _ fun r H3 hr e3 h3r => ⟨p, r, xs, ys, rfl, rfl, ((e.trans e2).trans e3) _ _ hp, h3r, sz_of hz, fun l hl => q l _ (fresh_back (e2.trans e3) hl) ((e2.trans e3).trans (Ex.new hl)) upd_same⟩
/-- a call whose second argument is a new list -/
theorem ev_callVL {sp : Sp} {xs : List V} {z : V} (h1 : Ev ta σ H x) (h2 : EvL tb σ H xs) (hv : ∀ p H1, Ex H H1 → H1 p = some (.lst xs) → SpV sp [x, .ref p] H1 z) : Ev (tCall sp [] E0 (tCons ta (tCons tb tNil))) σ H z := fun H1 e Q q =>
  h1 H1 e _ fun H2 e2 => h2 H2 (e.trans e2) _ fun p H3 hp e3 h3 => hv p H3 ((e.trans e2).trans e3) h3 H3 (Ex.refl H3) _ (fun H4 e4 => q H4 ((e2.trans e3).trans e4)) _
/-- a call of two data that are made on the way -/
theorem ev_callDD {sp : Sp} {d e : D} {z : V} (h1 : EvD K ta σ H d) (h2 : EvD K tb σ H e) (hv : ∀ x y H1, Ex H H1 → Rp K H1 x d → Rp K H1 y e → SpV sp [x, y] H1 z) : Ev (tCall sp [] E0 (tCons ta (tCons tb tNil))) σ H z := fun H1 e1 Q q =>
  h1 H1 e1 _ fun x H2 e2 r => h2 H2 (e1.trans e2) _ fun y H3 e3 r2 => hv x y H3 ((e1.trans e2).trans e3) ((r.mono nw_sub).mono e3) (r2.mono nw_sub) H3 (Ex.refl H3) _ (fun H4 e4 => q H4 ((e2.trans e3).trans e4)) _
/-- the members that are let -/
def filt (g : D → Bool) (xs : List V) (ds : List D) : List V := ((xs.zip ds).filter fun p => g p.2).map (·.1)
end
theorem rpA_filt {K : PySem.W.Frag} {H : Hp} (g : D → Bool) : ∀ {xs : List V} {ds : List D}, RpA K H xs ds → RpA K H (filt g xs ds) (ds.filter g)
  | _, _, .nil => .nil
  | _, _, .cons (v := v) (d := d) (vs := vs) (ds := ds) h r => by
    have ih := rpA_filt g r
    unfold filt at ih ⊢
    rw [List.zip_cons_cons, List.filter_cons, List.filter_cons]
    cases g d with
    | true => exact .cons h ih
    | false => exact ih
theorem filt_take {g : D → Bool} {xs : List V} {ds : List D} {i : Nat} {x : V} {d : D} (h1 : xs[i]? = some x) (h2 : ds[i]? = some d) : filt g (xs.take (i + 1)) (ds.take (i + 1)) = filt g (xs.take i) (ds.take i) ++ if g d = true then [x] else [] := by
  unfold filt
  have l1 := (List.getElem?_eq_some_iff.mp h1).1
  have l2 := (List.getElem?_eq_some_iff.mp h2).1
  rw [List.take_succ, h1, List.take_succ, h2]
  show List.map (·.1) (List.filter (fun p => g p.2) ((xs.take i ++ [x]).zip (ds.take i ++ [d]))) = _
  rw [List.zip_append (by rw [List.length_take, List.length_take]; omega), List.filter_append, List.map_append]
  show _ ++ List.map (·.1) (List.filter (fun p => g p.2) [(x, d)]) = _
  rw [List.filter_cons]
  cases g d <;> simp
section
variable {K : PySem.W.Frag} {σ : L2.St} {H : Hp} {te : TE} {t : TT}
theorem el_filt {wi : TI} {J : It} {xs : List V} {ds : List D} {j : Nat} {vs : List Nat} (g : D → Bool) (hw : ∀ H1, Ex H H1 → ∀ R : It → Hp → Prop, (∀ H2, Ex H1 H2 → R J H2) → wi σ H1 R) (F : Flat J H xs) (r : RpA K H xs ds) (hz : xs.length ≤ 40000)
    (hwp : ∀ x, wipe ((wipe σ vs).set j (some x)) vs = wipe σ vs) (ht : ∀ x d, d ∈ ds → Rp K H x d → EvT t ((wipe σ vs).set j (some x)) H (g d)) (he : ∀ x, Ev te ((wipe σ vs).set j (some x)) H x) : EvL (tLc wi (gName j) t te vs) σ H (filt g xs ds) := fun H0 e Q q => hw H0 e _ fun H1 e1 Dl hD => by
  have hl := r.len
  have e01 := e.trans e1
  have fl : ∀ i, i ≤ xs.length → (filt g (xs.take i) (ds.take i)).length ≤ i := fun i hi => by
    unfold filt
    rw [List.length_map]
    refine Nat.le_trans (List.length_filter_le _ _) ?_
    rw [List.length_zip, List.length_take]
    omega
  refine lc_it xs.length (fun i H' => H1 Dl = none ∧ Ex H1 H' ∧ H' Dl = some (.lst (filt g (xs.take i) (ds.take i)))) ⟨hD, Ex.new hD, upd_same⟩ (fun i H' hi p => F.go i H' (e01.trans p.2.1) hi) (fun i x H' H'' hi p y => ?_) (fun H' p => F.stop H' (e01.trans p.2.1)) (fun H' p => ?_)
  · obtain ⟨rfl, hx⟩ := F.yld i H' x H'' (e01.trans p.2.1) hi y
    obtain ⟨p1, p2, p3⟩ := p
    obtain ⟨d, hd, rd⟩ := r.at hx
    have hs := filt_take (g := g) hx hd
    refine ⟨hwp x, ht x d (List.mem_of_getElem? hd) rd H'' (e01.trans p2) _ fun H3 e3 => ?_⟩
    cases hg : g d with
    | true =>
      rw [if_pos rfl]
      rw [hg, if_pos rfl] at hs
      refine he x H3 ((e01.trans p2).trans e3) _ fun H4 e4 => ⟨_, e4 Dl _ (e3 Dl _ p3), sz_lt (by have := fl i (by omega); omega), p1, Ex.mut ((p2.trans e3).trans e4) p1, ?_⟩
      rw [hs]
      exact upd_same
    | false =>
      rw [if_neg Bool.false_ne_true]
      rw [hg, if_neg Bool.false_ne_true, List.append_nil] at hs
      refine ⟨p1, p2.trans e3, ?_⟩
      rw [hs]
      exact e3 Dl _ p3
  · obtain ⟨p1, p2, p3⟩ := p
    rw [List.take_length, hl, List.take_length] at p3
    exact q Dl H' (fresh_back e1 p1) (e1.trans p2) p3
/-- .. of a new list -/
theorem el_filtN {tl : TE} {xs : List V} {ds : List D} {j : Nat} {vs : List Nat} (g : D → Bool) (h : EvL tl σ H xs) (r : RpA K H xs ds) (hz : xs.length ≤ 40000) (hwp : ∀ x, wipe ((wipe σ vs).set j (some x)) vs = wipe σ vs)
    (ht : ∀ x d H1, Ex H H1 → d ∈ ds → Rp K H1 x d → EvT t ((wipe σ vs).set j (some x)) H1 (g d)) (he : ∀ x H1, Ev te ((wipe σ vs).set j (some x)) H1 x) : EvL (tLc (iList K tl) (gName j) t te vs) σ H (filt g xs ds) := fun H0 e Q q =>
  lc_new h e fun a H1 ha e1 hx => el_filt (H := H1) g (fun H2 e2 R r => r H2 (Ex.refl _)) (flat_list (.inl (.inl hx))) (r.mono (e.trans e1)) hz hwp (fun x d m rd => ht x d H1 (e.trans e1) m rd) (fun x => he x H1) H1 (Ex.refl _) _ fun p H2 hp e2 h2 => q p H2 (fresh_back e1 hp) (e1.trans e2) h2
end
end KZ
/-! An __init__ that says super().__init__(..), its class over a class over ValueError; what it stores. -/
namespace KX
open PySem PySem.Spec PySem.W PySem.Calls PyProof.Rows
section
variable {prog : Program} {w : World} {A : Around} {E : Value → Shared → Prop} {h : Heap} {g : Array GenState} {d : Drawn} {t : Nat} {os : OsState}
variable {nm q : Str} {C N : Addr} {bs bm : List Value} {hdct : Bool} {sn : List Str} {sub : List Value} {ab : Bool} {col : Option Bool} {dd : Option Addr} {k0 k1 k2 k3 k5 : Option Value}
/-- the bound ValueError.__init__ is called: other args stand in the exception -/
theorem call_bound {u e t0 : Addr} {us : List Value} {Q : Value → Shared → Prop} (hC : h.get? C = some (excClassObj nm q C N bs bm hdct sn sub ab col dd k0 k1 k2 k3 k5 "ValueError.__new__"))
    (he : h.get? e = some (HandSPX.excO C t0)) (hu : h.get? u = some (kxs_mw "ValueError.__init__" e)) (hz : us.length ≤ sizeLine)
    (k : ∀ h' t1, (∀ b o, b ≠ e → h.get? b = some o → h'.get? b = some o) → h'.get? e = some (HandSPX.excO C t1) → Q .none ⟨h', g, d, t, os⟩) : wpAny (model prog w) A (call (.ref u) us) Q E ⟨h, g, d, t, os⟩ := by
  refine wpAny_call (codeAny_of_tree (show wpAny _ A.in1 (callAny (.ref u) ⟨us, []⟩) _ _ _ from ?_))
  have c1 : (Value.type "method-wrapper" == Value.type "method" || Value.type "method-wrapper" == Value.type "builtin_function_or_method" || Value.type "method-wrapper" == Value.type "method-wrapper") = true := by decide
  simp only [callAny]
  refine wpAny_bind (wpAny_load hu ?_)
  simp only [kxs_mw, c1, if_true]
  refine W.KFB.if_so (by decide) (wpAny_bind (check_bound_init F.excBase_ValueError.toExcCallFacts hC he rfl (wpAny_bind (wpAny_pure (wpAny_pure ⟨Code.quiet_builtin _ (by decide +kernel), codeAny_builtin F.excBase_ValueError.initEntry ?_⟩)))))
  rw [Around.under_plainId F.excBase_ValueError.init.plain _]
  wp_walk
  refine k _ h.objs.size (fun b o hb ho => (Heap.get?_update_other _ _ (Ne.symm hb)).trans (Heap.get?_push_of_some _ ho)) ?_
  rw [Heap.get?_update_self _ (Heap.get?_push_of_some _ he) rfl] <;> rfl
end
/-- what the written part says of such an __init__ at f, of the class at D, of instances of the class at C -/
structure SuI (prog : Program) (K : W.Frag) (mg : Str → Option Value) (f C D cc cda : Addr) (scope : Scope) : Prop where
  code : ∃ (ccl : Value) (cdd : Option Addr) (vs : Array Value) (ccs : Array (Option Value)) (file : Str) (tf : Tok), K.lookup cda = some ⟨ccl, cdd, .fields vs, ccs⟩ ∧ vs[2]? = some (.str file tf) ∧ ((prog.main.file : Str) == file) = true
  cell : ∃ (cl : Value) (cld : Option Addr) (csl : Array (Option Value)), K.lookup cc = some ⟨cl, cld, .cell (some (.ref D)), csl⟩
  clsD : ∃ cd, clsIn K D = some cd
  sub : mroIn K C (.ref D) = some true
  tp : nsIn K cStatics "thirdparty.any" = some none
  meth : ks_superIn K C D "__init__" = some (some (.builtin "ValueError.__init__"))
  isV : subIn K (.ref C) (.type "ValueError") = some true
  sup : mg "super" = none
  top : (prog.main.scope.names.lookup ("super" : Str)).isSome = false
  ks : scope.names.lookup ("super" : Str) = some .globalImplicit
  kc : scope.names.lookup ("__class__" : Str) = some .free
  kk : scope.kind = .function
section
variable {prog : Program} {w : World} {A : Around} {E : Value → Shared → Prop} {K : W.Frag} {mg : Str → Option Value} {base : Heap} {f C D cc cda L x t0 : Addr} {scope : Scope} {m : Str → Option Value} {qual : Str} {fd : FuncData} {body : List Stmt} {p0 p1 p2 p3 : Pos} {e1 : Expr} {es : List Expr} {us : List Value}
theorem su_base {s : Shared} {ar : Arg} {oc : Value} {od : Option Addr} {osl : Array (Option Value)} {whole : Sem Value} {Q : Value → Shared → Prop} (S : SuI prog K mg f C D cc cda scope) (M : L2.Mod K mg base) (bk : ∀ b o, base.get? b = some o → s.heap.get? b = some o)
    (hf : K.lookup f = some ⟨oc, od, .func fd, osl⟩) (hp : (fd.params.posonlyargs ++ fd.params.args).head? = some ar) (ha : scope.names.lookup ar.arg = some .local) (hn : s.heap.Ns L m) (hm : m ar.arg = some (.ref x)) (hx : s.heap.get? x = some (HandSPX.excO C t0))
    (k : ∀ h', h'.get? s.heap.objs.size = some (ks_superObj D x C) → (∀ b o, s.heap.get? b = some o → h'.get? b = some o) → Q (.ref s.heap.objs.size) { s with heap := h' }) :
    _root_.PySem.wpAt (model prog w) A (.func body (ksEnv qual scope L f (.ref cda) cc)) (attributeBase (.Call (.Name "super" p0) [] [] p1) "__init__" (ksEnv qual scope L f (.ref cda) cc) whole) Q E s := by
  obtain ⟨ccl, cdd, vs, ccs, file, tf, c1, c2, c3⟩ := S.code
  obtain ⟨cl, cld, csl, c4⟩ := S.cell
  obtain ⟨cd, hcd⟩ := S.clsD
  have X : K.In s.heap := M.kin.keeps bk
  obtain ⟨hh, g, d, t, os⟩ := s
  obtain ⟨oD, hD1, hD2⟩ : ∃ oD, hh.get? D = some oD ∧ oD.data = .cls cd := by
    unfold clsIn at hcd
    split at hcd
    · rename_i a1 a2 a3 a4 ho
      cases hcd
      exact ⟨_, X _ _ ho, rfl⟩
    · cases hcd
  obtain ⟨mb, hb1, hb2⟩ := M.blt
  refine ks_wpAt_super_base (env := ksEnv qual scope L f (.ref cda) cc) S.ks S.kc (by decide +kernel) rfl (X _ _ hf) rfl hp rfl (X _ _ c1) rfl c2 c3 S.top (ks_loadName_global S.kk S.ks (loadGlobal_builtin (env := ksEnv qual scope L f (.ref cda) cc) (M.glob.keeps bk) S.sup (hb1.keeps bk) ((hb2 _ (by decide +kernel)).trans PyProof.Rows.Boot.super) ⟨rfl, ?_⟩))
  refine wpAny_loadName_free S.kk S.kc rfl ⟨_, X _ _ c4, rfl⟩ (wpAny_loadName_local S.kk ha hn hm (ks_wpAny_isType_cls hD1 hD2 ⟨rfl, ?_⟩))
  exact ks_wpAny_call_super hD1 hD2 hx rfl (fun c e => by cases e) (looks_mroIn X S.sub) fun h' e kk => k h' e kk
/-- super().__init__(..) -/
theorem su_eval {s : Shared} {ar : Arg} {oc : Value} {od : Option Addr} {osl : Array (Option Value)} {pl : Sem Bool} {Q : Value → Shared → Prop} (S : SuI prog K mg f C D cc cda scope) (M : L2.Mod K mg base) (bk : ∀ b o, base.get? b = some o → s.heap.get? b = some o) (T : L2.OexC K C)
    (hf : K.lookup f = some ⟨oc, od, .func fd, osl⟩) (hp : (fd.params.posonlyargs ++ fd.params.args).head? = some ar) (ha : scope.names.lookup ar.arg = some .local) (hn : s.heap.Ns L m) (hm : m ar.arg = some (.ref x)) (hx : s.heap.get? x = some (HandSPX.excO C t0)) (hz : us.length ≤ sizeLine)
    (hargs : ∀ (s : Shared) (Q : List Value → Shared → Prop), s.heap.Ns L m → Q us s → wpAny (model prog w) A (spliced (backTo p3 (starEach (e1 :: es) (ksEnv qual scope L f (.ref cda) cc)))) Q E s) (hst : starEach (e1 :: es) (ksEnv qual scope L f (.ref cda) cc) = (false, eval e1 (ksEnv qual scope L f (.ref cda) cc)) :: starEach es (ksEnv qual scope L f (.ref cda) cc)) (hpl : (backTo p3 (starEach es (ksEnv qual scope L f (.ref cda) cc))).any (·.1) = false)
    (he : eval (.Call (.Attribute (.Call (.Name "super" p0) [] [] p1) "__init__" p2) (e1 :: es) [] p3) (ksEnv qual scope L f (.ref cda) cc) = (do
      let ov ← attributeBase (.Call (.Name "super" p0) [] [] p1) "__init__" (ksEnv qual scope L f (.ref cda) cc) (eval (.Call (.Name "super" p0) [] [] p1) (ksEnv qual scope L f (.ref cda) cc))
      standAt p2.atName
      let (fn, first) ← holding [ov] (getMethod ov "__init__" pl)
      callWith p3 fn first (backTo p3 (starEach (e1 :: es) (ksEnv qual scope L f (.ref cda) cc))) (backToKw p3 (keywordEach [] (ksEnv qual scope L f (.ref cda) cc)))))
    (k : ∀ s' t1, (∀ b o, b ≠ x → s.heap.get? b = some o → s'.heap.get? b = some o) → s'.heap.get? x = some (HandSPX.excO C t1) → s'.gens = s.gens → s'.os = s.os → Q .none s') :
    _root_.PySem.wpAt (model prog w) A (.func body (ksEnv qual scope L f (.ref cda) cc)) (eval (.Call (.Attribute (.Call (.Name "super" p0) [] [] p1) "__init__" p2) (e1 :: es) [] p3) (ksEnv qual scope L f (.ref cda) cc)) Q E s := by
  obtain ⟨nm, qn, N, bs, bm, sn, sub, ab, col, dd, k0, k1, k2, k3, k5, hC, hbm⟩ := T.cls
  have hcl : clsIn K C = some { name := nm, bases := bs, mro := .ref C :: bm, ns := N, qualname := qn, hasDict := true, slotNames := sn, subclasses := sub, abstract := ab, collection := col, hasDel := false } := by unfold clsIn; rw [hC] <;> rfl
  have X : K.In s.heap := M.kin.keeps bk
  rw [he]
  refine _root_.PySem.wpAt_bind (su_base S M bk hf hp ha hn hm hx fun h' hso kh => ?_)
  obtain ⟨hh, g, d, t, os⟩ := s
  have X' : K.In h' := X.keeps kh
  have I' : InstAt h' x (HandSPX.excO C t0) C none := ⟨kh _ _ hx, rfl, rfl, trivial⟩
  refine _root_.PySem.wpAt_of_wpAny (wpAny_bind (wpAny_standAt (wpAny_bind (wpAny_holding ?_))))
  have hm2 := S.meth
  unfold ks_superIn at hm2
  rw [hcl] at hm2
  refine kxs_getMethod kxs_ValueError hso (looks_opaque X' S.tp) (l₀ := .ref C :: bm) (fun A Q E s k q => wpAny_bind ((looks_clsIn X' hcl) A _ E s k (wpAny_pure q))) rfl X' hm2 (I'.type.andThen (looks_subIn X' S.isV)) (ks_ne X' I' hcl) (by decide +kernel) ?_
  have kp : ∀ b o, h'.get? b = some o → (h'.push (kxs_mw "ValueError.__init__" x)).get? b = some o := fun b o e => Heap.get?_push_of_some _ e
  have hu : (h'.push (kxs_mw "ValueError.__init__" x)).get? h'.objs.size = some (kxs_mw "ValueError.__init__" x) := Heap.get?_push_size _ rfl
  rw [hst] at hargs ⊢
  refine kxs_callWith (i := "ValueError.__init__") (x := x) (show (false || (backTo p3 (starEach es (ksEnv qual scope L f (.ref cda) cc))).any (·.1)) = false by rw [hpl] <;> rfl) (evalArgs_plain (hargs _ _ (hn.at fun o e => kp _ _ (kh _ _ e)) ⟨hu, ?_⟩))
  refine call_bound (kp _ _ (X' _ _ hC)) (kp _ _ (kh _ _ hx)) hu hz fun h2 t1 k2 hx2 => k _ t1 (fun b o hb e => k2 b o hb (kp _ _ (kh _ _ e))) hx2 rfl rfl
end
open L2
/-- an exception that has got its dict -/
theorem end_of {P : Program} {w : World} {fs : List Addr} {H : Hp} {h h3 : Heap} {a C dx t1 : Addr} {flds : List (Str × V)} {mA : Str → Option Value} (hok : HOk P w H h) (e : H a = some (exo a C none)) (kA : ∀ b o, b ≠ a → h.get? b = some o → h3.get? b = some o) (dn : h.objs.size ≤ dx)
    (hx : h3.get? a = some ({ cls := .ref C, dict := some dx, data := .fields #[.ref t1, .none, .none, .none, .bool false, .none] } : Obj)) (hn : h3.Ns1 dx mA) (rel : ∀ f, RelO (flds.lookup f) (mA f)) :
    Un fs [] H (upd (upd H dx (exd dx flds)) a (exo a C (some dx))) h h3 ∧ HOk P w (upd (upd H dx (exd dx flds)) a (exo a C (some dx))) h3 := by
  have hnd : H dx = none := hok.fresh dn
  have ltd : ∀ {b : Addr} {o : Obj}, h.get? b = some o → b ≠ dx := fun {b o} q => Nat.ne_of_lt (Nat.lt_of_lt_of_le (Heap.lt_size q) dn)
  have nota : ∀ {b : Addr}, H b = none → b ≠ a := fun {b} n z => by rw [z, e] at n; cases n
  refine ⟨⟨fun b o q n _ _ => kA b o (nota n) q, fun b o q n _ _ => ⟨o.slots, kA b o (nota n) q⟩, fun b o q n _ => by rw [upd_ne (nota n), upd_ne (ltd q)]; exact n, fun b o q _ => ?_, fun b xs q => by rw [upd_ne (at_ne e q exo_tup), upd_ne (ne_of_none q hnd)]; exact q, fun b o v q => by rw [upd_ne (at_ne e q exo_frz), upd_ne (ne_of_none q hnd)]; exact q,
    fun b ps q => ⟨#[], by rw [upd_ne (at_ne e q exo_tbl), upd_ne (ne_of_none q hnd), q]; simp⟩⟩, fun b o q => ?_⟩
  · rcases Classical.em (b = a) with z | z
    · exact ⟨_, z ▸ hx⟩
    · exact ⟨o, kA b o z q⟩
  · rcases Classical.em (b = a) with z | z
    · subst z
      rw [upd_same] at q
      cases q
      exact exo_ok hx
    · rw [upd_ne z] at q
      rcases Classical.em (b = dx) with z2 | z2
      · subst z2
        rw [upd_same] at q
        cases q
        exact exd_ok hn rel
      · rw [upd_ne z2] at q
        exact (hok b o q).stay (fun c v hc y => kA c v (hc.elim (fun hc => hc ▸ z) fun hc => at_ne e hc exo_own) y) (fun c hc => by rw [upd_ne (at_ne e hc exo_own), upd_ne (ne_of_none hc hnd)]; exact hc) (fun c xs hc => by rw [upd_ne (at_ne e hc exo_tup), upd_ne (ne_of_none hc hnd)]; exact hc)
/-- how the call super().__init__(..) is laid out -/
def SuEval (qual : Str) (scope : Scope) (f cda cc : Addr) (p0 p1 p2 p3 : Pos) (es : List Expr) : Prop := ∀ L : Addr, ∃ pl : Sem Bool, eval (.Call (.Attribute (.Call (.Name "super" p0) [] [] p1) "__init__" p2) es [] p3) (ksEnv qual scope L f (.ref cda) cc) = (do
  let ov ← attributeBase (.Call (.Name "super" p0) [] [] p1) "__init__" (ksEnv qual scope L f (.ref cda) cc) (eval (.Call (.Name "super" p0) [] [] p1) (ksEnv qual scope L f (.ref cda) cc))
  standAt p2.atName
  let (fn, first) ← holding [ov] (getMethod ov "__init__" pl)
  callWith p3 fn first (backTo p3 (starEach es (ksEnv qual scope L f (.ref cda) cc))) (backToKw p3 (keywordEach [] (ksEnv qual scope L f (.ref cda) cc))))
/-- the promise of such an __init__: what is stored, the last one first -/
def spInit (C : Addr) (xs : List Str) : Sp := fun vs H Q _ => ∃ a ys, vs = .ref a :: ys ∧ ys.length = xs.length ∧ H a = some (exo a C none) ∧ ∀ dx, H dx = none → dx ≠ a → Q .non (upd (upd H dx (exd dx (xs.zip ys).reverse)) a (exo a C (some dx)))
section
variable {P : Program} {w : World} {K : W.Frag} {mg : Str → Option Value} {base : Heap} {CX : CXT}
theorem init1 {k : Nat} {f C D cc cda : Addr} {qual x1 : Str} {params : Arguments} {scope : Scope} {dV kV doc pm ct oc : Value} {an od : Option Addr} {osl : Array (Option Value)} {p0 p1 p2 p3 p4 q1 r1 r2 r3 r4 : Pos}
    (S : SuI P K mg f C D cc cda scope) (T : OexC K C) (lk : K.lookup f = some ⟨oc, od, .func (ksFn "__init__" qual params [.Expr (.Call (.Attribute (.Call (.Name "super" p0) [] [] p1) "__init__" p2) [.Name x1 q1] [] p3) p4, .Assign [.Attribute (.Name "self" r1) x1 r2] (.Name x1 r3) r4] scope dV kV doc pm an (.ref cda) ct cc), osl⟩)
    (hcd : codeIn K (.ref cda) qual = true) (hp : ∃ ar, (params.posonlyargs ++ params.args).head? = some ar ∧ ar.arg = "self") (hs : scope.names.lookup ("self" : Str) = some .local) (h1 : scope.names.lookup x1 = some .local) (n1 : findIn K (.ref C) x1 = some none) (d1 : (x1 == ("__debug__" : Str)) = false) (ne1 : x1 ≠ "self")
    (hev : SuEval qual scope f cda cc p0 p1 p2 p3 [.Name x1 q1]) (hcell : ∀ x ∈ scope.names, x.2 ≠ .cell) (hco : scope.isCoroutine = false) (hgen : scope.isGenerator = false) :
    FnOk P w K mg base CX (k + 1) f (ksFn "__init__" qual params [.Expr (.Call (.Attribute (.Call (.Name "super" p0) [] [] p1) "__init__" p2) [.Name x1 q1] [] p3) p4, .Assign [.Attribute (.Name "self" r1) x1 r2] (.Name x1 r3) r4] scope dV kV doc pm an (.ref cda) ct cc) ["self", x1] (spInit C [x1]) := by
  refine ⟨fun vs H Q E ⟨a, ys, e, hl, _⟩ => by rw [e, List.length_cons, hl] <;> rfl, fun A outer s H args us vs Q E hr e0 hb r hsp => ?_⟩
  obtain ⟨a, ys, rfl, hl, ha, q⟩ := hsp
  obtain ⟨y1, rfl⟩ : ∃ y, ys = [y] := by
    match ys, hl with
    | [y], _ => exact ⟨y, rfl⟩
  obtain ⟨ua, u1, rfl, ra, ry⟩ := vals2 r
  cases (show ua = Value.ref a from ra)
  have KX : K.In s.heap := e0.mod.kin.keeps fun b o e => (e0.bs b o e).1
  obtain ⟨ar, har, hself⟩ := hp
  obtain ⟨nm, qn, N, bs, bm, sn, sub, ab, col, dd, k0, k1, k2, k3, k5, hC, hbm⟩ := T.cls
  have hcl : clsIn K C = some { name := nm, bases := bs, mro := .ref C :: bm, ns := N, qualname := qn, hasDict := true, slotNames := sn, subclasses := sub, abstract := ab, collection := col, hasDel := false } := by unfold clsIn; rw [hC] <;> rfl
  refine ks_codeAny_call_defAt hr.depth (KX _ _ lk) rfl (e0.mod.nolimit.keeps fun b o e => (e0.bs b o e).1) (codeRec_of KX hcd) rfl hb hcell (fun y hy => ?_) (fun h1' hns hk1 => ?_) hco hgen S.kk
  · rcases List.mem_cons.mp hy with z | z
    · rw [z]
      exact hs
    · rw [List.mem_singleton.mp z]
      exact h1
  show _root_.PySem.wpAt (model P w) _ (.func _ (ksEnv qual scope s.heap.objs.size f (.ref cda) cc)) (execs _ (ksEnv qual scope s.heap.objs.size f (.ref cda) cc)) _ _ _
  rw [execs_cons]
  refine _root_.PySem.wpAt_bind ?_
  rw [exec_Expr _ _ _ (by unfold interactive; simp [S.kk]) (by rfl)]
  refine _root_.PySem.wpAt_bind (_root_.PySem.wpAt_of_wpAny (wpAny_standAt (_root_.PySem.wpAt_bind ?_)))
  have ls : List.lookup ("self" : Str) (([("self" : Str), x1].zip [Value.ref a, u1]).reverse) = some (Value.ref a) := by
    have : (("self" : Str) == x1) = false := by simpa using Ne.symm ne1
    simp [List.lookup, this]
  have l1 : List.lookup x1 (([("self" : Str), x1].zip [Value.ref a, u1]).reverse) = some u1 := by simp [List.lookup]
  obtain ⟨t0, hx0⟩ := exo_at e0.hok ha
  have dself : (("self" : Str) == ("__debug__" : Str)) = false := by decide +kernel
  obtain ⟨pl, hpl⟩ := hev s.heap.objs.size
  refine su_eval S e0.mod (fun b o e => hk1 _ _ (e0.bs b o e).1) T lk har (by rw [hself]; exact hs) hns (by rw [hself]; exact ls) (hk1 _ _ hx0) (us := [u1]) (show (1 : Nat) ≤ sizeLine by decide) (fun s Q hn k => ?_) rfl rfl hpl (fun s' t1 kp hx' eg eo => ?_)
  · exact spliced_cons (wpAny_Name (wpAny_loadName_local S.kk h1 hn l1 (spliced_nil k)) d1)
  · refine _root_.PySem.wpAt_of_wpAny (wpAny_dropValue (_root_.PySem.wpAt_of_wpAny ?_))
    have kA : ∀ b o, b ≠ a → s.heap.get? b = some o → s'.heap.get? b = some o := fun b o hb e => kp b o hb (hk1 b o e)
    have aL : s.heap.objs.size ≠ a := (Nat.ne_of_lt (Heap.lt_size hx0)).symm
    have hns' := hns.at fun o e => kp _ o aL e
    have nb : ∀ b o, base.get? b = some o → b ≠ a := fun b o e z => by
      have := (e0.bs b o e).2
      rw [z, ha] at this
      cases this
    have X' : K.In s'.heap := e0.mod.kin.keeps fun b o e => kA b o (nb b o e) (e0.bs b o e).1
    refine wpAny_execs_cons (plainObj_wpAny_Assign_Attribute (wpAny_Name (wpAny_loadName_local S.kk h1 hns' l1 (wpAny_Name (wpAny_loadName_local S.kk hs hns' ls ?_) dself)) d1) rfl)
    obtain ⟨hp2, g2, dr2, t2, os2⟩ := s'
    refine set_plain X' (ox := { cls := .ref C, dict := none, data := .fields #[.ref t1, .none, .none, .none, .bool false, .none] }) (od := none) ⟨hx', rfl, rfl, trivial⟩ T.sa (PySem.HandSPX.exc_osa X' hx' hcl (show PySem.HandSPX.refsVE (.ref C :: bm) = true from hbm) rfl n1 fun h3 tk3 dx kp3 dn dne hx3 hn3 => ?_)
    have size2 : s.heap.objs.size ≤ hp2.objs.size := by
      obtain ⟨oL, _, _, hL, _⟩ := hns'
      exact Nat.le_of_lt (Heap.lt_size hL)
    have k3 : ∀ b o, b ≠ a → s.heap.get? b = some o → h3.get? b = some o := fun b o hb e => kp3 b o hb (kA b o hb e)
    have hdx : H dx = none := e0.hok.fresh (Nat.le_trans size2 dn)
    obtain ⟨U, O⟩ := end_of (fs := frs outer) (flds := [(x1, y1)]) e0.hok ha k3 (Nat.le_trans size2 dn) hx3 hn3 (relO_put (fs := []) ry fun g => True.intro)
    exact wpAny_pure ⟨.non, _, eo, by show AllBare g2; rw [show g2 = s.gens from eg]; exact e0.bare, U, O, rfl, q dx hdx dne⟩
theorem init2 {k : Nat} {f C D cc cda : Addr} {qual x1 x2 : Str} {params : Arguments} {scope : Scope} {dV kV doc pm ct oc : Value} {an od : Option Addr} {osl : Array (Option Value)} {p0 p1 p2 p3 p4 q1 q2 r1 r2 r3 r4 s1 s2 s3 s4 : Pos}
    (S : SuI P K mg f C D cc cda scope) (T : OexC K C) (lk : K.lookup f = some ⟨oc, od, .func (ksFn "__init__" qual params [.Expr (.Call (.Attribute (.Call (.Name "super" p0) [] [] p1) "__init__" p2) [.Name x1 q1, .Name x2 q2] [] p3) p4, .Assign [.Attribute (.Name "self" r1) x1 r2] (.Name x1 r3) r4, .Assign [.Attribute (.Name "self" s1) x2 s2] (.Name x2 s3) s4] scope dV kV doc pm an (.ref cda) ct cc), osl⟩)
    (hcd : codeIn K (.ref cda) qual = true) (hp : ∃ ar, (params.posonlyargs ++ params.args).head? = some ar ∧ ar.arg = "self") (hs : scope.names.lookup ("self" : Str) = some .local) (h1 : scope.names.lookup x1 = some .local) (n1 : findIn K (.ref C) x1 = some none) (d1 : (x1 == ("__debug__" : Str)) = false) (ne1 : x1 ≠ "self") (h2 : scope.names.lookup x2 = some .local) (n2 : findIn K (.ref C) x2 = some none) (d2 : (x2 == ("__debug__" : Str)) = false) (ne2 : x2 ≠ "self") (ne12 : x1 ≠ x2)
    (hev : SuEval qual scope f cda cc p0 p1 p2 p3 [.Name x1 q1, .Name x2 q2]) (hcell : ∀ x ∈ scope.names, x.2 ≠ .cell) (hco : scope.isCoroutine = false) (hgen : scope.isGenerator = false) :
    FnOk P w K mg base CX (k + 1) f (ksFn "__init__" qual params [.Expr (.Call (.Attribute (.Call (.Name "super" p0) [] [] p1) "__init__" p2) [.Name x1 q1, .Name x2 q2] [] p3) p4, .Assign [.Attribute (.Name "self" r1) x1 r2] (.Name x1 r3) r4, .Assign [.Attribute (.Name "self" s1) x2 s2] (.Name x2 s3) s4] scope dV kV doc pm an (.ref cda) ct cc) ["self", x1, x2] (spInit C [x1, x2]) := by
  refine ⟨fun vs H Q E ⟨a, ys, e, hl, _⟩ => by rw [e, List.length_cons, hl] <;> rfl, fun A outer s H args us vs Q E hr e0 hb r hsp => ?_⟩
  obtain ⟨a, ys, rfl, hl, ha, q⟩ := hsp
  obtain ⟨y1, y2, rfl⟩ : ∃ y z, ys = [y, z] := by
    match ys, hl with
    | [y, z], _ => exact ⟨y, z, rfl⟩
  obtain ⟨ua, u1, u2, rfl, ra, ry, ry2⟩ : ∃ a' b' c', us = [a', b', c'] ∧ RelV (V.ref a) a' ∧ RelV y1 b' ∧ RelV y2 c' := by
    cases r with
    | cons ra r => cases r with
      | cons rb r => cases r with
        | cons rc r => cases r with
          | nil => exact ⟨_, _, _, rfl, ra, rb, rc⟩
  cases (show ua = Value.ref a from ra)
  have KX : K.In s.heap := e0.mod.kin.keeps fun b o e => (e0.bs b o e).1
  obtain ⟨ar, har, hself⟩ := hp
  obtain ⟨nm, qn, N, bs, bm, sn, sub, ab, col, dd, k0, k1, k2, k3, k5, hC, hbm⟩ := T.cls
  have hcl : clsIn K C = some { name := nm, bases := bs, mro := .ref C :: bm, ns := N, qualname := qn, hasDict := true, slotNames := sn, subclasses := sub, abstract := ab, collection := col, hasDel := false } := by unfold clsIn; rw [hC] <;> rfl
  refine ks_codeAny_call_defAt hr.depth (KX _ _ lk) rfl (e0.mod.nolimit.keeps fun b o e => (e0.bs b o e).1) (codeRec_of KX hcd) rfl hb hcell (fun y hy => ?_) (fun h1' hns hk1 => ?_) hco hgen S.kk
  · rcases List.mem_cons.mp hy with z | z
    · rw [z]
      exact hs
    · rcases List.mem_cons.mp z with z | z
      · rw [z]
        exact h1
      · rw [List.mem_singleton.mp z]
        exact h2
  show _root_.PySem.wpAt (model P w) _ (.func _ (ksEnv qual scope s.heap.objs.size f (.ref cda) cc)) (execs _ (ksEnv qual scope s.heap.objs.size f (.ref cda) cc)) _ _ _
  rw [execs_cons]
  refine _root_.PySem.wpAt_bind ?_
  rw [exec_Expr _ _ _ (by unfold interactive; simp [S.kk]) (by rfl)]
  refine _root_.PySem.wpAt_bind (_root_.PySem.wpAt_of_wpAny (wpAny_standAt (_root_.PySem.wpAt_bind ?_)))
  have ls : List.lookup ("self" : Str) (([("self" : Str), x1, x2].zip [Value.ref a, u1, u2]).reverse) = some (Value.ref a) := by
    have a1 : (("self" : Str) == x1) = false := by simpa using Ne.symm ne1
    have a2 : (("self" : Str) == x2) = false := by simpa using Ne.symm ne2
    simp [List.lookup, a1, a2]
  have l1 : List.lookup x1 (([("self" : Str), x1, x2].zip [Value.ref a, u1, u2]).reverse) = some u1 := by
    have a1 : (x1 == x2) = false := by simpa using ne12
    simp [List.lookup, a1]
  have l2 : List.lookup x2 (([("self" : Str), x1, x2].zip [Value.ref a, u1, u2]).reverse) = some u2 := by simp [List.lookup]
  obtain ⟨t0, hx0⟩ := exo_at e0.hok ha
  have dself : (("self" : Str) == ("__debug__" : Str)) = false := by decide +kernel
  obtain ⟨pl, hpl⟩ := hev s.heap.objs.size
  refine su_eval S e0.mod (fun b o e => hk1 _ _ (e0.bs b o e).1) T lk har (by rw [hself]; exact hs) hns (by rw [hself]; exact ls) (hk1 _ _ hx0) (us := [u1, u2]) (show (2 : Nat) ≤ sizeLine by decide) (fun s Q hn k => ?_) rfl rfl hpl (fun s' t1 kp hx' eg eo => ?_)
  · exact spliced_cons (wpAny_Name (wpAny_loadName_local S.kk h1 hn l1 (spliced_cons (wpAny_Name (wpAny_loadName_local S.kk h2 hn l2 (spliced_nil k)) d2))) d1)
  · refine _root_.PySem.wpAt_of_wpAny (wpAny_dropValue (_root_.PySem.wpAt_of_wpAny ?_))
    have kA : ∀ b o, b ≠ a → s.heap.get? b = some o → s'.heap.get? b = some o := fun b o hb e => kp b o hb (hk1 b o e)
    have aL : s.heap.objs.size ≠ a := (Nat.ne_of_lt (Heap.lt_size hx0)).symm
    have hns' := hns.at fun o e => kp _ o aL e
    have nb : ∀ b o, base.get? b = some o → b ≠ a := fun b o e z => by
      have := (e0.bs b o e).2
      rw [z, ha] at this
      cases this
    have X' : K.In s'.heap := e0.mod.kin.keeps fun b o e => kA b o (nb b o e) (e0.bs b o e).1
    refine wpAny_execs_cons (plainObj_wpAny_Assign_Attribute (wpAny_Name (wpAny_loadName_local S.kk h1 hns' l1 (wpAny_Name (wpAny_loadName_local S.kk hs hns' ls ?_) dself)) d1) rfl)
    obtain ⟨hp2, g2, dr2, t2, os2⟩ := s'
    refine set_plain X' (ox := { cls := .ref C, dict := none, data := .fields #[.ref t1, .none, .none, .none, .bool false, .none] }) (od := none) ⟨hx', rfl, rfl, trivial⟩ T.sa (PySem.HandSPX.exc_osa X' hx' hcl (show PySem.HandSPX.refsVE (.ref C :: bm) = true from hbm) rfl n1 fun h3 tk3 dx kp3 dn dne hx3 hn3 => ?_)
    have size2 : s.heap.objs.size ≤ hp2.objs.size := by
      obtain ⟨oL, _, _, hL, _⟩ := hns'
      exact Nat.le_of_lt (Heap.lt_size hL)
    have k3 : ∀ b o, b ≠ a → s.heap.get? b = some o → h3.get? b = some o := fun b o hb e => kp3 b o hb (kA b o hb e)
    have hdx : H dx = none := e0.hok.fresh (Nat.le_trans size2 dn)
    have hns3 := hns'.at fun o e => kp3 _ o aL e
    have X3 : K.In h3 := e0.mod.kin.keeps fun b o e => k3 b o (nb b o e) (e0.bs b o e).1
    refine wpAny_execs_cons (plainObj_wpAny_Assign_Attribute (wpAny_Name (wpAny_loadName_local S.kk h2 hns3 l2 (wpAny_Name (wpAny_loadName_local S.kk hs hns3 ls ?_) dself)) d2) rfl)
    have rel3 : ∀ g, RelO (List.lookup g [(x1, y1)]) (if g = x1 then some u1 else none) := relO_put (fs := []) ry fun g => True.intro
    have hw := within_of rel3
    obtain ⟨oD, _, _, hoD, _, _⟩ := hn3.count hw
    refine set_plain X3 (ox := { cls := .ref C, dict := some dx, data := .fields #[.ref t1, .none, .none, .none, .bool false, .none] }) (od := some oD) ⟨hx3, rfl, rfl, hoD⟩ T.sa (PySem.OEX.osa_old X3 hx3 hn3 hw (show (1 : Nat) ≤ 1000 by decide) hcl (show PySem.HandSPX.refsVE (.ref C :: bm) = true from hbm) rfl n2 fun h4 tk4 kp4 hn4 => ?_)
    have ltd : ∀ {b : Addr} {o : Obj}, s.heap.get? b = some o → b ≠ dx := fun {b o} q => Nat.ne_of_lt (Nat.lt_of_lt_of_le (Heap.lt_size q) (Nat.le_trans size2 dn))
    have k4 : ∀ b o, b ≠ a → s.heap.get? b = some o → h4.get? b = some o := fun b o hb e => kp4 b o (ltd e) (k3 b o hb e)
    obtain ⟨U, O⟩ := end_of (fs := frs outer) (flds := [(x2, y2), (x1, y1)]) e0.hok ha k4 (Nat.le_trans size2 dn) (kp4 _ _ (Ne.symm dne) hx3) hn4 (relO_put ry2 rel3)
    exact wpAny_pure ⟨.non, _, eo, by show AllBare g2; rw [show g2 = s.gens from eg]; exact e0.bare, U, O, rfl, q dx hdx dne⟩
end
end KX
/-! Such exceptions as values: made, held, read, asked. -/
namespace KX
open PySem PySem.Spec PySem.W PyProof.Rows L2
/-- C(e, ..), held -/
def tNewE (C : Addr) (sp : Sp) (t : TA) : TE := fun σ H Q => t σ H fun vs H1 => vs.length ≤ 1000 ∧ ∀ a, H1 a = none → sp (.ref a :: vs) (upd H1 a (exo a C none)) (fun v H2 => v = .non ∧ Q (.ref a) H2) E0
section
variable {X : Cx} {e : Expr} {es : List Expr} {ta : TA} {p pos : Pos}
theorem pe_newE {x : Str} {C fI : Addr} {k : Nat} {fd : FuncData} {ps : List Str} {sp : Sp} (T : OexC X.K C) (iC : findIn X.K (.ref C) "__init__" = some (some (.ref fI))) (tI : typeIn X.K (.ref fI) = some (.type "function"))
    (F1 : FnOk X.prog X.w X.K X.mg X.base CX0 k fI fd ps sp) (hr : Room (k + 1) X.A) (hb : Binds X.K fd ps []) (hg : Gl X x) (hm : X.mg x = some (.ref C)) (ha : PA X (e :: es) ta)
    (hdb : (x == ("__debug__" : Str)) = false := by decide) (he : starEach (e :: es) X.env = (false, eval e X.env) :: starEach es X.env := by rfl) (hpl : (backTo pos (starEach es X.env)).any (·.1) = false := by rfl) :
    PE X (.Call (.Name x p) (e :: es) [] pos) (tNewE C sp ta) := by
  refine ⟨fun pins s σ H Q I h => wpAny_Call_Name_kw (ld_glob I hg hm ?_ hdb)⟩
  obtain ⟨nm, q, N, bs, bm, sn, sub, ab, col, dd, k0, k1, k2, k3, k5, hC, hbm⟩ := T.cls
  refine PySem.W.callWith_K (h₀ := X.base) I.ok.mod.kin T.kC (thn (ha.run pos pins s σ H _ I h) fun us s1 ⟨vs, H1, I1, r1, hz, q1⟩ => ⟨I1.kIn, show wpAny _ _ (call (.ref C) us) _ _ _ from ?_⟩) he hpl
  obtain ⟨hp, g, dr, tk, os⟩ := s1
  have up1 : hp.objs.size ≤ hp.objs.size + 1 := Nat.le_succ _
  have free1 : H1 (hp.objs.size + 1) = none := I1.hok.fresh up1
  have hq := q1 (hp.objs.size + 1) free1
  have got : ((hp.push (kdv_tup us)).push (HandSPX.excO C hp.objs.size)).get? (hp.objs.size + 1) = some (HandSPX.excO C hp.objs.size) := by heap_get
  have I2 : Inv X pins σ (upd H1 (hp.objs.size + 1) (exo (hp.objs.size + 1) C none)) ⟨(hp.push (kdv_tup us)).push (HandSPX.excO C hp.objs.size), g, dr, tk, os⟩ :=
    I1.laid (t' := tk) (a := hp.objs.size + 1) (o := exo (hp.objs.size + 1) C none) (h' := (hp.push (kdv_tup us)).push (HandSPX.excO C hp.objs.size)) (fun b o e => Heap.get?_push_of_some _ (Heap.get?_push_of_some _ e)) up1 (exo_ok got)
  have r2 : Vals (V.ref (hp.objs.size + 1) :: vs) (Value.ref (hp.objs.size + 1) :: us) := .cons rfl r1
  have len2 : (Value.ref (hp.objs.size + 1) :: us).length = ps.length := by rw [← r2.length, F1.len _ _ _ _ hq]
  have lenU : us.length ≤ sizeLine := by rw [← r1.length]; exact Nat.le_trans hz (by decide)
  refine wpAny_call (HandSPX.call_own F.excBase_ValueError (fun Y => HandSPX.refsVE_contains Y bm hbm) (I1.kIn _ _ hC) (looks_findIn I1.kIn iC) (fun self => bind_fn I1.kIn self tI) lenU
    (codeAny_mono (F1.run _ X.stack _ _ ⟨Value.ref (hp.objs.size + 1) :: us, []⟩ (Value.ref (hp.objs.size + 1) :: us) _ _ E0 (hr.make C us []) (I2.env0.make C us []) (by have := hb _ (Value.ref (hp.objs.size + 1) :: us) I2.kIn (by rw [List.append_nil]; exact len2); rwa [List.append_nil] at this) r2 hq) fun r s' hq' => ?_))
  cases r with
  | error er => exact pass0 pins σ _ _ er s' I2 hq'
  | ok fl =>
    cases fl with
    | ret u =>
      obtain ⟨v, H2, I3, rv, ev, q3⟩ := I2.after hq'
      subst ev
      exact ⟨rv, .ref _, H2, I3, rfl, q3⟩
    | next => exact False.elim hq'
    | brk => exact False.elim hq'
    | cont => exact False.elim hq'
end
/-- C(), no __init__ of its own -/
def tNewE0 (C : Addr) : TE := fun _ H Q => ∀ a, H a = none → Q (.ref a) (upd H a (exo a C none))
section
variable {X : Cx} {p pos : Pos}
theorem pe_newE0 {C : Addr} {bmB : List Value} {B newId initId : String} {x : Str} (F : ExcBaseFacts B newId initId bmB) (q : excIn X.K C bmB newId = true) (hm : X.mg x = some (.ref C)) (kC : keepIn X.K (.ref C) = true) (hg : Gl X x) (hdb : (x == ("__debug__" : Str)) = false := by decide) :
    PE X (.Call (.Name x p) [] [] pos) (tNewE0 C) := by
  refine ⟨fun pins s σ H Q I h => wpAny_Call_Name_kw (ld_glob I hg hm (callWith_K0 I.kIn kC ?_) hdb)⟩
  obtain ⟨bm, N, nm, qn, bs, hdct, sn, sub, ab, col, dd, k0, k1, k2, k3, k5, mN, hC, hN, hni, T⟩ := exc_obj I.kIn q
  refine wpAny_call_exc_subT F T hC hN hni (fun h' a hm => ?_) (show (0 : Nat) ≤ sizeLine from Nat.zero_le _)
  have free1 : H a = none := I.hok.gone hm.new
  obtain ⟨t, ht, _, _⟩ := hm.there
  exact ⟨.ref a, _, I.laidN hm.keeps hm.new free1 (exo_ok ht), rfl, h a free1⟩
end
/-- at a: an exception of the class at C, what is stored in it -/
def ExAt (H : Hp) (a C : Addr) : Option (List (Str × V)) → Prop
  | none => H a = some (exo a C none)
  | some l => ∃ dx, H a = some (exo a C (some dx)) ∧ H dx = some (exd dx l)
theorem exAt_mono {H H' : Hp} {a C : Addr} {fs : Option (List (Str × V))} (e : Evl.Ex H H') (h : ExAt H a C fs) : ExAt H' a C fs := by
  cases fs with
  | none => exact e _ _ h
  | some l =>
    obtain ⟨dx, h1, h2⟩ := h
    exact ⟨dx, e _ _ h1, e _ _ h2⟩
section
variable {X : Cx} {pins : List (Addr × Obj)} {σ : L2.St} {H : Hp} {s : Shared}
theorem inst_ex {a C : Addr} {fs : Option (List (Str × V))} (I : Inv X pins σ H s) (h : ExAt H a C fs) : ∃ ox od, InstAt s.heap a ox C od ∧ (∀ n, shadowIn od n = some (((fs.getD []).lookup n).isSome)) ∧
    ∀ l, fs = some l → ∃ (o : Obj) (mA : Str → Option Value), od = some o ∧ (∀ n, lookIn n o = some (mA n)) ∧ ∀ f, RelO (l.lookup f) (mA f) := by
  cases fs with
  | none =>
    obtain ⟨t1, ho⟩ := exo_at I.hok h
    exact ⟨_, none, ⟨ho, rfl, rfl, trivial⟩, fun n => rfl, fun l z => by cases z⟩
  | some l =>
    obtain ⟨dx, h1, h2⟩ := h
    obtain ⟨t1, ho⟩ := exo_at I.hok h1
    obtain ⟨mA, hns, rel⟩ := exd_at I.hok h2
    obtain ⟨od, hod, hl⟩ := lookIn_ns hns
    refine ⟨_, some od, ⟨ho, rfl, rfl, hod⟩, fun n => ?_, fun l' z => ⟨od, mA, rfl, hl, by cases z; exact rel⟩⟩
    show (lookIn n od).map (·.isSome) = _
    rw [hl n]
    have := rel n
    show some (mA n).isSome = some ((l.lookup n).isSome)
    cases e1 : l.lookup n with
    | none =>
      rw [e1] at this
      cases e2 : mA n with
      | none => rfl
      | some u =>
        rw [e2] at this
        exact this.elim
    | some v =>
      rw [e1] at this
      cases e2 : mA n with
      | none =>
        rw [e2] at this
        exact this.elim
      | some u => rfl
end
/-- isinstance(e, c) -/
def rIsO (K : Frag) : List V → Hp → VK → Prop := fun xs H Q => ∃ (a C : Addr) (fs : Option (List (Str × V))) (c : V) (cv : Value) (b : Bool), xs = [.ref a, c] ∧ ExAt H a C fs ∧ ExcC K C ∧ (∀ u, RelV c u → u = cv) ∧ kitOne K (.ref C) cv = some b ∧ Q (.bl b) H
theorem hasDict_cls {K : Frag} {C : Addr} (h : hasDictIn K C = true) : (clsIn K C).isSome = true := by
  obtain ⟨cd, hc, _⟩ := any_some h
  rw [hc] <;> rfl
theorem call_isO {X : Cx} : CallR X (.builtin "isinstance") (rIsO X.K) := by
  intro pins s σ H xs us Q I r h
  obtain ⟨a, C, fs, c, cv, b, rfl, ha, T, hcv, e, q⟩ := h
  obtain ⟨u1, u2, rfl, r1, r2⟩ := vals2 r
  cases (show u1 = Value.ref a from r1)
  cases hcv _ r2
  obtain ⟨ox, od, J, _⟩ := inst_ex I ha
  exact kia_one (kitx_exc (hasDict_cls T.hd) T.hg T.hk T.hs T.ha T.hn T.ht T.hm) I.kIn J e (fun z => nomatch z) fun tk => ⟨.bl b, H, I.tok tk, rfl, q⟩
/-- e.n, n stored -/
def tXo (K : Frag) (n : Str) (te : TE) : TE := fun σ H Q => te σ H fun x H1 => ∃ a C fs v, x = .ref a ∧ ExAt H1 a C (some fs) ∧ ExcC K C ∧ findIn K (.ref C) n = some none ∧ fs.lookup n = some v ∧ Q v H1
theorem pe_xo {X : Cx} {e : Expr} {te : TE} {pos : Pos} {n : Str} (he : PE X e te) (hb : attributeBase e n X.env (eval e X.env) = eval e X.env := by rfl) : PE X (.Attribute e n pos) (tXo X.K n te) := by
  refine ⟨fun pins s σ H Q I h => attr_of hb (thn (he.run pins s σ H _ I h) fun u s1 hh => ?_)⟩
  obtain ⟨x, H1, I1, rx, a, C, fs, v, rfl, ha, T, hno, l, q⟩ := hh
  cases (show u = Value.ref a from rx)
  obtain ⟨ox, od, J, _, h2⟩ := inst_ex I1 ha
  obtain ⟨o, mA, rfl, hl, rel⟩ := h2 fs rfl
  obtain ⟨u, hu, ru⟩ := RelO.some_of (v := v) (o := mA n) (by rw [← l]; exact rel n)
  exact HandSPX.exc_get I1.kIn J T.hg T.hk T.hs (findObj_own T.hd hno rfl (by rw [hl, hu])) (handed_of ru) ⟨v, H1, I1.tok _, ru, q⟩
/-- e.m(), m a def of the class -/
def tMethE (K : Frag) (m : Str) (f : Addr) (sp : Sp) (te : TE) : TE := fun σ H Q => te σ H fun x H1 => ∃ a C fs, x = .ref a ∧ ExAt H1 a C fs ∧ ExcC K C ∧ findIn K (.ref C) m = some (some (.ref f)) ∧ ((fs.getD []).lookup m).isSome = false ∧ sp [.ref a] H1 Q E0
theorem pe_methE0 {X : Cx} {o : Expr} {ta : TE} {m : Str} {f : Addr} {fd : FuncData} {ps : List Str} {sp : Sp} {k : Nat} {apos pos : Pos} {pl : Sem Bool} (he : PE X o ta) (F : FnOk X.prog X.w X.K X.mg X.base CX0 k f fd ps sp) (hr : Room k X.A) (hb : Binds X.K fd ps []) (tf : isFn X.K (.ref f) = true) (kp : keepIn X.K (.ref f) = true)
    (ht : eval (.Call (.Attribute o m apos) [] [] pos) X.env = (do
      let ov ← eval o X.env
      standAt apos.atName
      let (f, first) ← holding [ov] (getMethod ov m pl)
      callWith pos f first (backTo pos (starEach [] X.env)) (backToKw pos (keywordEach [] X.env))) := by rfl) : PE X (.Call (.Attribute o m apos) [] [] pos) (tMethE X.K m f sp ta) := by
  refine ⟨fun pins s σ H Q I h => methodCall_KW (pl := pl) (thn (he.run pins s σ H _ I h) fun u s1 hh => ?_) ht⟩
  obtain ⟨x, H1, I1, rx, a, C, fs, rfl, ha, T, hf, hs, q⟩ := hh
  cases (show u = Value.ref a from rx)
  obtain ⟨ox, od, J, h2, _⟩ := inst_ex I1 ha
  obtain ⟨mm, fr⟩ := I1.fr
  refine method_exc fr I1.ok.mod.kin J T.hg T.hk hf tf (by rw [h2 m, hs]) ?_
  exact callWith_K0 (first := [.ref a]) I1.kIn kp (run_fn (us := [.ref a]) (vs := [.ref a]) F hr hb .nil pass0 I1 (.cons rfl .nil) (by simpa using q))
end KX
namespace KX
open PySem PySem.Spec PySem.W PySem.Calls PyProof.Rows L2 Builtin Builtin.ObjectAttr Builtin.Getset_descriptor
/-- what is asked of a class for its name -/
structure CName (K : Frag) (C : Addr) (nm : Str) : Prop where
  sl : ∃ (o : Obj) (tk : Tok), K.lookup C = some o ∧ o.slots[2]? = some (some (.str nm tk))
  ty : typeIn K (.ref C) = some (.type "type")
  cl : findCls K (.ref C) (.type "type") "__name__" = some (.get (.builtin "getset_descriptor.__get__") (.builtin "type.__name__") (.ref C) (.type "type"))
  op : nsIn K cStatics "thirdparty.any" = some none
section
variable {prog : Program} {w : World} {A : Around} {E : Value → Shared → Prop} {s : Shared} {K : Frag} {x C : Addr} {ox : Obj} {od : Option Obj}
theorem cls_attr {expr : Bool} {Q : Value → Shared → Prop} (X : K.In s.heap) (I : InstAt s.heap x ox C od) (T : ExcC K C) (h : Q (.ref C) { s with toks := s.toks + 1 }) : wpAny (model prog w) A (getAttr (.ref x) "__class__" expr) Q E s := by
  have hf : findObj K C od "__class__" = some (.bind (.builtin "getset_descriptor.__get__") (.builtin "object.__class__")) := findObj_dataE (hasDict_cls T.hd) T.ha T.hn T.ht
  obtain ⟨hp, g, d, t, os⟩ := s
  have ty := I.type (M := model prog w)
  have n1 : (onTheHeap (Value.ref C) && Value.builtin "BaseException.__getattribute__" == Value.builtin "object.__getattribute__") = false := by
    rw [show (Value.builtin "BaseException.__getattribute__" == Value.builtin "object.__getattribute__") = false by decide +kernel] <;> rfl
  have n0 : (expr && onTheHeap (Value.builtin "BaseException.__getattribute__")) = false := by cases expr <;> rfl
  unfold getAttr getAttrBy
  refine wpAny_bind (wpAny_mkText (wpAny_holding (wpAny_bind (ty.at (wpAny_bind ((looks_findIn (M := model prog w) X T.hg).at (show wpAny _ _ (if (onTheHeap (Value.ref C) && Value.builtin "BaseException.__getattribute__" == Value.builtin "object.__getattribute__") = true then _ else _) _ _ _ from ?_)))))))
  rw [n1, if_neg Bool.false_ne_true]
  unfold getAttrByItsOwn hookBefore
  refine wpAny_bind ?_
  rw [if_pos (show onTheHeap (Value.ref C) = true from rfl)]
  refine (looks_findIn (M := model prog w) X T.hk).at (wpAny_bind (wpAny_attempt (wpAny_holding ?_)))
  unfold callGetattribute
  rw [n0, if_neg Bool.false_ne_true]
  unfold boundAndCalled
  rw [PySem.F.excAttr_ValueError.ga.bind (.ref x)]
  refine wpAny_bind (wpAny_pure (show wpAny _ _ (call (.builtin "BaseException.__getattribute__") [.ref x, .str "__class__" t]) _ _ _ from wpAny_call (codeAny_call_builtin PySem.F.excAttr_ValueError.ga.plain PySem.F.entry_bexc_ga ?_)))
  refine @check_slot (model prog w) _ _ ⟨hp, g, d, t + 1, os⟩ "BaseException.__getattribute__" "BaseException" "__getattribute__" (.ref x) [.str "__class__" t] [] _ (by decide +kernel) (by decide +kernel) (ty.andThen (looks_subIn X T.hs)) (PySem.F.args_bexc_ga (.ref x) (.str "__class__" t)) ?_
  unfold Builtin.«object.__getattribute__»
  refine wpAny_bind (wpAny_of_eq (a := ((Value.ref x : Value), [Value.str "__class__" t])) (by first | rfl | (simp only [slotArgs]; rfl)) (wpAny_bind (wpAny_pure (wpAny_bind (ty.at (wpAny_bind ((looks_find (M := model prog w) X I hf).at (wpAny_bind (wpAny_holding (wpAny_call (class_get (s := ⟨hp, g, d, t + 1, os⟩) (ox := ox) (od := od) X I T.hm ?_)))))))))))
  refine wpAny_pure (show wpAny _ _ (handedOut (.ref C)) _ _ _ from ?_)
  rw [handedOut_of (show handedIn (.ref C) = true from rfl)]
  first | exact wpAny_pure h | exact wpAny_pure (wpAny_pure h)
theorem name_dga (d tp : Value) (C : Addr) : descrGetArgs ⟨[d, .ref C, tp], []⟩ = pure (d, some (.ref C), given tp) := by kernel_rfl
theorem name_get {R : Result → Shared → Prop} {tp : Value} {nm : Str} (X : K.In s.heap) (N : CName K C nm) (h : ∀ tk, R (.ok (.ret (.str nm tk))) s) : codeAny (model prog w) A (.call (.builtin "getset_descriptor.__get__") ⟨[.builtin "type.__name__", .ref C, tp], []⟩) R s := by
  obtain ⟨o, tk, hC, hs⟩ := N.sl
  obtain ⟨hh, g, dr, t, os⟩ := s
  have L0 : Looks (model prog w) hh (typeOf (.ref C)) (.type "type") := looks_typeIn X N.ty
  have L1 : Looks (model prog w) hh (isSubtype (.type "type") (.type "type")) true := Looks.of_pure (by rw [isSubtype_type]; kernel_rfl)
  refine codeAny_call_builtin KF.slot_gs.plain KF.entry_gs (KF.slot_gs.check _ _ _ _ _ _ _ _ ktyn_type (KF.args_gs _ _ _) ?_)
  unfold Builtin.«getset_descriptor.__get__» descrGet
  rw [name_dga]
  refine wpAny_bind (wpAny_pure ?_)
  unfold descrGetter descrCheckInstance descrNameAndClass isInstance
  simp only [ktyn_owner]
  repeat lk
  refine ⟨Code.quiet_builtin _ (by decide +kernel), codeAny_builtin ktyn_entry ?_⟩
  unfold Builtin.«type.__name__» keptObject PySem.slotAt
  dsimp only
  refine wpAny_bind (wpAny_bind (wpAny_loadPart (X _ _ hC) ?_))
  rw [hs]
  exact wpAny_pure (show wpAny _ _ (ret (Value.str nm tk)) _ _ _ from wpAny_pure (h tk))
theorem name_attr {expr : Bool} {Q : Value → Shared → Prop} {nm : Str} (X : K.In s.heap) (N : CName K C nm) (h : ∀ tk u, Q (.str nm tk) { s with toks := u }) : wpAny (model prog w) A (getAttr (.ref C) "__name__" expr) Q E s := by
  refine cls_open X (looks_opaque X N.op) (looks_typeIn X N.ty) type_tga (looks_hook X (r := none) (by rfl)) (by show subIn K _ _ = _; rfl) N.cl (show wpAny _ _ (do ret (← holding [Value.builtin "type.__name__"] (call (.builtin "getset_descriptor.__get__") [.builtin "type.__name__", .ref C, .type "type"]))) _ _ _ from ?_)
  refine wpAny_bind (wpAny_holding (wpAny_call (name_get (s := { s with toks := s.toks + 1 }) X N fun tk => ?_)))
  exact wpAny_pure (handed_on rfl (h _ _))
end
/-- e.__class__.__name__ -/
def tClsName (K : Frag) (te : TE) : TE := fun σ H Q => te σ H fun x H1 => ∃ a C fs nm, x = .ref a ∧ ExAt H1 a C fs ∧ ExcC K C ∧ CName K C nm ∧ Q (.str nm) H1
theorem pe_clsName {X : Cx} {e : Expr} {te : TE} {p1 p2 : Pos} (he : PE X e te) (hb : attributeBase e "__class__" X.env (eval e X.env) = eval e X.env := by rfl) (hb2 : attributeBase (.Attribute e "__class__" p1) "__name__" X.env (eval (.Attribute e "__class__" p1) X.env) = eval (.Attribute e "__class__" p1) X.env := by rfl) :
    PE X (.Attribute (.Attribute e "__class__" p1) "__name__" p2) (tClsName X.K te) := by
  refine ⟨fun pins s σ H Q I h => attr_of hb2 (attr_of hb (thn (he.run pins s σ H _ I h) fun u s1 hh => ?_))⟩
  obtain ⟨x, H1, I1, rx, a, C, fs, nm, rfl, ha, T, N, q⟩ := hh
  cases (show u = Value.ref a from rx)
  obtain ⟨ox, od, J, _⟩ := inst_ex I1 ha
  exact cls_attr I1.kIn J T (name_attr (s := { s1 with toks := s1.toks + 1 }) I1.kIn N fun tk u => ⟨.str nm, H1, I1.tok u, ⟨tk, rfl⟩, q⟩)
end KX
/-! Readings for exceptions held, and loops over zip of lists. -/
namespace KX
open PySem PySem.Spec PyProof.Rows L2 Evl KZ RZ
section
variable {K : PySem.W.Frag} {σ : L2.St} {H : Hp} {ta : TA} {te tb : TE}
theorem ev_isO {a C : Addr} {fs : Option (List (Str × V))} {c : V} {cv : Value} {b : Bool} (h : Ev te σ H (.ref a)) (ha : ExAt H a C fs) (T : ExcC K C) (hc : ∀ u, RelV c u → u = cv) (e : PySem.W.kitOne K (.ref C) cv = some b) : Ev (tCB (rIsO K) (tCons te (tCons (tC c) tNil))) σ H (.bl b) := fun H1 e1 Q q =>
  h H1 e1 _ fun H2 e2 => ⟨a, C, fs, c, cv, b, rfl, exAt_mono (e1.trans e2) ha, T, hc, e, q H2 e2⟩
theorem ev_methE {a C f : Addr} {fs : Option (List (Str × V))} {m : Str} {sp : Sp} {z : V} (h : Ev te σ H (.ref a)) (ha : ExAt H a C fs) (T : ExcC K C) (hf : PySem.W.findIn K (.ref C) m = some (some (.ref f))) (hn : ((fs.getD []).lookup m).isSome = false) (hv : SpV sp [.ref a] H z) : Ev (tMethE K m f sp te) σ H z := fun H1 e1 Q q =>
  h H1 e1 _ fun H2 e2 => ⟨a, C, fs, rfl, exAt_mono (e1.trans e2) ha, T, hf, hn, hv H2 (e1.trans e2) Q (fun H3 e3 => q H3 (e2.trans e3)) _⟩
/-- a list whose parts are told one by one -/
theorem q_lstA {i : Nat} {tz : TS} {De : Ends} (h : ta σ H fun xs H1 => xs.length ≤ sizeLine ∧ ∀ p, H1 p = none → tz De (σ.set i (some (.ref p))) (upd H1 p (.lst xs))) : tSeq (tAsg (tLst ta) (gName i)) tz De σ H := h
theorem ca_new {C : Addr} {xs : List Str} {tr : TA} {Pr : List V → Hp → Prop} {Q : List V → Hp → Prop} (h : ∀ Q' : List V → Hp → Prop, (∀ ys H1, Ex H H1 → Pr ys H1 → Q' ys H1) → ta σ H Q') (hP : ∀ ys H1, Pr ys H1 → ys.length = xs.length ∧ ys.length ≤ 1000)
    (k : ∀ ys a H1 H2, Pr ys H1 → Ex H H1 → Ex H1 H2 → ExAt H2 a C (some (xs.zip ys).reverse) → tr σ H2 fun zs H3 => Q (.ref a :: zs) H3) : tCons (tNewE C (spInit C xs) ta) tr σ H Q :=
  h _ fun ys H2 e2 hp => ⟨(hP ys H2 hp).2, fun a ha => ⟨a, ys, rfl, (hP ys H2 hp).1, upd_same, fun dx hdx hne => ⟨rfl, k ys a H2 _ hp e2 (fun b o hb => by
    have nb : b ≠ a := ne_of_none hb ha
    have hd2 : H2 dx = none := by rw [upd_ne hne] at hdx; exact hdx
    rw [upd_ne nb, upd_ne (ne_of_none hb hd2), upd_ne nb]
    exact hb) ⟨dx, upd_same, by rw [upd_ne hne, upd_same]⟩⟩⟩⟩
/-- .. of plain values -/
theorem ca_newV {C : Addr} {xs : List Str} {tr : TA} {ys : List V} {Q : List V → Hp → Prop} (h : EvA ta σ H ys) (hl : ys.length = xs.length) (hz : ys.length ≤ 1000) (k : ∀ a H2, Ex H H2 → ExAt H2 a C (some (xs.zip ys).reverse) → tr σ H2 fun zs H3 => Q (.ref a :: zs) H3) : tCons (tNewE C (spInit C xs) ta) tr σ H Q :=
  ca_new (Pr := fun zs _ => zs = ys) (fun Q' q => h H (Ex.refl H) _ fun H1 e => q ys H1 e rfl) (fun zs _ z => by rw [z]; exact ⟨hl, hz⟩) fun zs a H1 H2 hp e1 e2 x => k a H2 (e1.trans e2) (by rw [← hp]; exact x)
theorem ca_new0 {C : Addr} {tr : TA} {Q : List V → Hp → Prop} (k : ∀ a H2, Ex H H2 → ExAt H2 a C none → tr σ H2 fun zs H3 => Q (.ref a :: zs) H3) : tCons (tNewE0 C) tr σ H Q := fun a ha => k a _ (Ex.new ha) upd_same
theorem ev_callLD {sp : Sp} {xs : List V} {d : D} {z : V} {td : TE} (h1 : EvL tb σ H xs) (h2 : EvD K td σ H d) (hv : ∀ p y H1, Ex H H1 → H1 p = some (.lst xs) → Rp K H1 y d → SpV sp [.ref p, y] H1 z) : Ev (tCall sp [] E0 (tCons tb (tCons td tNil))) σ H z := fun H1 e1 Q q =>
  h1 H1 e1 _ fun p H2 hp e2 h2p => h2 H2 (e1.trans e2) _ fun y H3 e3 r2 => hv p y H3 ((e1.trans e2).trans e3) (e3 _ _ h2p) (r2.mono nw_sub) H3 (Ex.refl H3) _ (fun H4 e4 => q H4 ((e2.trans e3).trans e4)) _
/-- for x, y in zip(xs, ys), lists of one length -/
theorem q_forZ {tu tz : TS} {De : Ends} {a b : Addr} {xs ys : List V} {i1 i2 j1 j2 : Nat} (h1 : σ[i1]? = some (some (.ref a))) (h2 : σ[i2]? = some (some (.ref b))) (ha : SqL K H a xs) (hb : SqL K H b ys) (l : xs.length = ys.length) (Pv : Nat → L2.St → Hp → Prop) (h0 : Pv 0 σ H)
    (hl : ∀ i σ' H', Pv i σ' H' → SqL K H' a xs ∧ SqL K H' b ys) (hs : ∀ i x y σ' H', xs[i]? = some x → ys[i]? = some y → Pv i σ' H' → ∀ H2, Ex H' H2 → tu { De with nx := Pv (i + 1), ct := Pv (i + 1), bk := tz De } ((σ'.set j1 (some x)).set j2 (some y)) H2) (hd : ∀ σ' H', Pv xs.length σ' H' → tz De σ' H') :
    tSeq (tFor (iZipA K (tCons (tVar i1) (tCons (tVar i2) tNil))) (gTup K 2 (gCons (gName j1) (gCons (gName j2) gNil))) tu) tz De σ H := by
  refine ⟨.ref a, h1, .ref b, h2, a, b, xs, ys, rfl, .inl ⟨ha, hb, fun i m σ' H' => m = xs.length - i ∧ i ≤ xs.length ∧ Pv i σ' H', ⟨_, rfl, Nat.zero_le _, h0⟩, ?_⟩⟩
  rintro i m σ' H' ⟨rfl, hi, p⟩
  obtain ⟨sa, sb⟩ := hl i σ' H' p
  by_cases hlt : i < xs.length
  · refine .inr ⟨⟨xs, ys, xs[i], ys[i]'(by omega), sa, sb, List.getElem?_eq_getElem _, List.getElem?_eq_getElem _⟩, Pv (i + 1), fun σ2 H2 p2 => ⟨xs.length - (i + 1), by omega, rfl, hlt, p2⟩, fun v H2 y => ?_⟩
    obtain ⟨T, x, y, rfl, hT, rfl, f1, f2⟩ := y
    exact ⟨T, [x, y], rfl, .inl (.inl upd_same), rfl, x, [y], rfl, y, [], rfl, rfl, hs i x y σ' H' (f1 xs sa) (f2 ys sb) p _ (Ex.new hT)⟩
  · have e : i = xs.length := by omega
    subst e
    exact .inl ⟨⟨xs, ys, sa, sb, .inl (Nat.le_refl _)⟩, hd σ' H' p⟩
end
end KX
/-! A set of texts: its members as a list, how one is put in; set(t) of a tuple of texts; sorted of it. -/
namespace KS
open PySem PySem.Spec PyProof.Rows L2
def keyS (e : Int × Value) : Str := match e.2 with
  | .str k _ => k
  | _ => Str.empty
def GoodS (w : World) (e : Int × Value) : Prop := ∃ k t, e.2 = Value.str k t ∧ e.1 = hashStr w k
/-- at a: a set of the texts ks -/
def SetS (w : World) (h : Heap) (a : Addr) (ks : List Str) : Prop := ks.Nodup ∧ ks.length < 2000 ∧ ∃ (o : Obj) (es : Array (Int × Value)) (ep : Nat) (t : SetTable),
  h.get? a = some o ∧ o.ExactSet ∧ o.data = .set es ep t ∧ (∀ e ∈ es.toList, GoodS w e) ∧ (es.toList.map keyS).Perm ks ∧ t.fits es.size = true ∧ Ris t.place.toList ∧ (w.params.followText "set-order" = true ∨ t.led = true)
theorem SetS.moved {w : World} {h h' : Heap} {a : Addr} {ks : List Str} (S : SetS w h a ks) (k : ∀ o, h.get? a = some o → h'.get? a = some o) : SetS w h' a ks := by
  obtain ⟨s1, s2, o, es, ep, t, ho, rest⟩ := S
  exact ⟨s1, s2, o, es, ep, t, k o ho, rest⟩
theorem goodS_elems {P : Program} {w : World} {l : List (Int × Value)} (g : ∀ e ∈ l, GoodS w e) : ElemsOf (strKind P w) l := fun e he => by
  obtain ⟨k, t, e1, e2⟩ := g e he
  exact ⟨⟨k, by rw [e1]; exact strKind_is P w k t, e2⟩, by rw [e1] <;> rfl⟩
theorem keyS_is {P : Program} {w : World} {e : Int × Value} {k : Str} (g : GoodS w e) : (strKind P w).is k e.2 = true ↔ keyS e = k := by
  obtain ⟨k0, t, e1, _⟩ := g
  unfold keyS
  rw [e1]
  constructor
  · intro z
    have z : Value.isStrOf k (Value.str k0 t) = true := z
    obtain ⟨t', z'⟩ := Value.isStrOf_shape z
    cases z'
    rfl
  · intro z
    have z : k0 = k := z
    rw [z]
    exact strKind_is P w k t
section
variable {P : Program} {w : World} {A : Around} {E : Value → Shared → Prop} {s : Shared} {a : Addr} {ks : List Str}
theorem few_of {n : Nat} (h : n < 2000) : n < scanBound := Nat.lt_trans h (by decide)
/-- what is behind the search for a place -/
theorem put_tail {g : Bool → Sem Unit} (hg : ∀ (b : Bool) (s₁ : Shared) (Q' : Unit → Shared → Prop), Q' () s₁ → wpAny (model P w) A (g b) Q' E s₁) {o : Obj} {es es1 : Array (Int × Value)} {ep : Nat} {t t2 : SetTable} (ho : s.heap.get? a = some o) (hex : o.ExactSet) (hd : o.data = .set es ep t) (g1 : ∀ e ∈ es1.toList, GoodS w e)
    (p1 : (es1.toList.map keyS).Perm ks) (nd : ks.Nodup) (few : ks.length < 2000) (f2 : t2.fits es1.size = true) (r2 : Ris t2.place.toList) (l2 : w.params.followText "set-order" = true ∨ t2.led = true) {was : Bool} {R : Option Bool → Shared → Prop} (k : ∀ h', Heap.SameBut a s.heap h' → SetS w h' a ks → R (some true) { s with heap := h' }) :
    wpAny (model P w) A (do
        storeSet a es1 t2
        if (!was && t2.tooFull) = true then do
            g (relayAll t2 es1 (SetTable.grown es1.size)).2.2
            storeSet a (relayAll t2 es1 (SetTable.grown es1.size)).1 (relayAll t2 es1 (SetTable.grown es1.size)).2.1
            pure (some true)
          else pure (some true)) R E s := by
  have z1 : es1.size = ks.length := by rw [← p1.length_eq, List.length_map, Array.length_toList]
  have b1 : es1.size < scanBound := z1 ▸ few_of few
  refine wpAny_bind (wpAny_storeSet_of ho hd ?_ (fits_of_scanBound b1))
  have ho1 := store_at (es' := es1) (t' := t2) ho hd
  have sb1 := Heap.SameBut.update s.heap a (Obj.putSet es1 t2)
  by_cases full : (!was && t2.tooFull) = true
  · rw [if_pos full]
    obtain ⟨pm, f3, r3, l3⟩ := And.intro (relayAll_perm t2 es1 (SetTable.grown es1.size)) (And.intro (relayAll_fits t2 es1 (SetTable.grown es1.size)) (And.intro (relayAll_ris t2 es1 (SetTable.grown es1.size)) (relayAll_led t2 es1 (SetTable.grown es1.size))))
    generalize relayAll t2 es1 (SetTable.grown es1.size) = Y at pm f3 r3 l3 ⊢
    obtain ⟨es2, t3, gave⟩ := Y
    dsimp only at pm f3 r3 l3 ⊢
    have z2 : es2.size = es1.size := by rw [← Array.length_toList, pm.length_eq, Array.length_toList]
    refine wpAny_bind (hg _ _ _ (wpAny_bind (wpAny_storeSet_of ho1 rfl (wpAny_pure (k _ (sb1.trans (Heap.SameBut.update _ a _)) ⟨nd, few, _, es2, _, t3, store_at (es' := es2) (t' := t3) ho1 rfl, hex, rfl, fun e he => g1 e (pm.mem_iff.mp he), (pm.map keyS).trans p1, f3, r3, l2.imp id fun y => l3.trans y⟩)) (fits_of_scanBound (z2 ▸ b1)))))
  · rw [if_neg full]
    exact wpAny_pure (k _ sb1 ⟨nd, few, _, es1, _, t2, ho1, hex, rfl, g1, p1, f2, r2, l2⟩)
/-- the members with one more -/
def withK (ks : List Str) (k : Str) : List Str := if k ∈ ks then ks else k :: ks
/-- one is put in -/
theorem put_text {k : Str} {tk : Tok} {Q : Bool → Shared → Prop} (S : SetS w s.heap a ks) (room : ks.length + 1 < 2000) (hQ : ∀ h' b, Heap.SameBut a s.heap h' → SetS w h' a (withK ks k) → Q b { s with heap := h' }) :
    wpAny (model P w) A (setAddHashed a (.str k tk) ((strKind P w).hash k)) Q E s := by
  obtain ⟨nd, few, o, es, ep, t, ho, hex, hd, g, pk, hf, hr, hl⟩ := S
  have sz : es.size = ks.length := by rw [← pk.length_eq, List.length_map, Array.length_toList]
  have own : (strKind P w).is k (.str k tk) = true := strKind_is P w k tk
  have scan : (Value.str k tk).scannable = true := rfl
  have els : ElemsOf (strKind P w) es.toList := goodS_elems g
  have mem : ∀ j, j ∈ ks ↔ ∃ e ∈ es.toList, (strKind P w).is j e.2 = true := fun j => by
    rw [← pk.mem_iff, List.mem_map]
    exact ⟨fun ⟨e, he, z⟩ => ⟨e, he, (keyS_is (g e he)).2 z⟩, fun ⟨e, he, z⟩ => ⟨e, he, (keyS_is (g e he)).1 z⟩⟩
  unfold setAddHashed setAddHashedIn
  refine wpAny_holding (wpAny_bind (wpAny_setState_of ho hd hf (show wpAny _ _ _ _ _ _ from ?_)))
  dsimp only
  rw [byScan_of scan (sz ▸ few_of few) els]
  simp only [↓reduceIte]
  unfold setAddByScan
  refine wpAny_bind (wpAny_bind (wpAny_rule (wpAny_bind (wpAny_setScan_of own ho hd hf els ?_))))
  cases hfi : List.findIdx? (fun e => (strKind P w).is k e.2) es.toList with
  | some j =>
    obtain ⟨hj, pj, _⟩ := List.findIdx?_eq_some_iff_getElem.mp hfi
    have hk : k ∈ ks := (mem k).2 ⟨es.toList[j], List.getElem_mem hj, pj⟩
    refine wpAny_pure (wpAny_pure (hQ s.heap _ (Heap.SameBut.refl a s.heap) ?_))
    unfold withK
    rw [if_pos hk]
    exact ⟨nd, few, o, es, ep, t, ho, hex, hd, g, pk, hf, hr, hl⟩
  | none =>
    have hk : k ∉ ks := fun z => by
      obtain ⟨e, he, q⟩ := (mem k).1 z
      have c := List.findIdx?_eq_none_iff.mp hfi e he
      rw [q] at c
      cases c
    have wk : withK ks k = k :: ks := if_neg hk
    have way : ∀ (b : Bool) {s₁ : Shared} {Q' : Unit → Shared → Prop}, Q' () s₁ → wpAny (model P w) A (match b with | true => rule "set.scan.the-table-gave-way" | false => pure ()) Q' E s₁ := fun b s₁ Q' q => by
      cases b
      · exact wpAny_pure q
      · exact wpAny_rule q
    obtain ⟨pm, f1, r1, l1⟩ := And.intro (layNew_perm t es ((strKind P w).hash k) (.str k tk)) (And.intro (layNew_fits t es ((strKind P w).hash k) (.str k tk)) (And.intro (layNew_ris t es ((strKind P w).hash k) (.str k tk) hr) (layNew_led t es ((strKind P w).hash k) (.str k tk))))
    dsimp only
    generalize layNew t es ((strKind P w).hash k) (.str k tk) = Y at pm f1 r1 l1 ⊢
    obtain ⟨es1, t1, was, gave⟩ := Y
    dsimp only at pm f1 r1 l1 ⊢
    rw [Array.toList_push] at pm
    have pc : es1.toList.Perm (((strKind P w).hash k, Value.str k tk) :: es.toList) := pm.trans (List.perm_append_singleton _ _)
    have p1 : (es1.toList.map keyS).Perm (k :: ks) := (pc.map keyS).trans (List.Perm.cons k pk)
    have g1 : ∀ e ∈ es1.toList, GoodS w e := fun e he => (List.mem_cons.mp (pc.mem_iff.mp he)).elim (fun z => z ▸ ⟨k, tk, rfl, rfl⟩) (g e)
    have nd1 : (k :: ks).Nodup := List.nodup_cons.mpr ⟨hk, nd⟩
    have few1 : (k :: ks).length < 2000 := room
    have led1 : w.params.followText "set-order" = true ∨ t1.led = true := hl.imp id fun z => l1.trans z
    have fin : ∀ h', Heap.SameBut a s.heap h' → SetS w h' a (k :: ks) → Q true { s with heap := h' } := fun h' sb r => hQ h' true sb (wk ▸ r)
    refine wpAny_bind (way _ ?_)
    split
    · refine wpAny_bind ?_
      rw [hashByValue_scannable 8 scan]
      refine wpAny_pure (put_tail (fun b s₁ Q' q => way b q) ho hex hd g1 p1 nd1 few1 ?_ ?_ ?_ fun h' sb r => wpAny_pure (fin h' sb r))
      · first | (split <;> first | exact f1 | exact SetTable.fits_plain_off f1) | exact f1
      · first | (split <;> exact r1) | exact r1
      · first | (split <;> exact led1) | exact led1
    · refine wpAny_bind (wpAny_pure ?_)
      simp only [↓reduceIte]
      exact put_tail (fun b s₁ Q' q => way b q) ho hex hd g1 p1 nd1 few1 f1 r1 led1 fun h' sb r => wpAny_pure (fin h' sb r)
end
end KS
/-! set(t) of a tuple of texts, and sorted of such a set. -/
namespace KS
open PySem PySem.Spec PyProof.Rows L2
/-- a set as it is made -/
abbrev bareSet (w : World) : Obj := { cls := .type "set", dict := none, data := .set #[] 0 (.fresh 0 0 (!w.params.followText "set-order")) }
/-- the texts so far -/
def Part (w : World) (h : Heap) (a : Addr) (xs : List Str) (i : Nat) : Prop := ∃ ks, SetS w h a ks ∧ ks.length ≤ i ∧ ∀ k, k ∈ ks ↔ k ∈ xs.take i
theorem Part.moved {w : World} {h h' : Heap} {a : Addr} {xs : List Str} {i : Nat} (S : Part w h a xs i) (k : ∀ o, h.get? a = some o → h'.get? a = some o) : Part w h' a xs i := by
  obtain ⟨ks, s, l, m⟩ := S
  exact ⟨ks, s.moved k, l, m⟩
theorem part_new {w : World} {h : Heap} {a : Addr} {xs : List Str} (e : h.get? a = some (bareSet w)) : Part w h a xs 0 := by
  refine ⟨[], ⟨.nil, by decide, _, #[], 0, _, e, ⟨rfl, rfl, rfl⟩, rfl, ?_, ?_, rfl, List.Pairwise.nil, ?_⟩, Nat.le_refl _, ?_⟩
  · intro e he
    simp at he
  · simp
  · show _ ∨ (!w.params.followText "set-order") = true
    cases w.params.followText "set-order" <;> simp
  · intro k
    simp
section
variable {P : Program} {w : World} {A : Around} {E : Value → Shared → Prop} {s : Shared}
/-- the loop behind set(t) -/
theorem fill {I : Addr} {fp wr : List Addr} {G : Array GenState → Array GenState → Prop} {Pv : Nat → Value → Prop} {St : Nat → Shared → Prop} {R : Result → Shared → Prop} (xs : List Str)
    (W : WalksS P w A.in1 I fp wr G xs.length Pv St) (T : Addr) (far : T ∉ fp) (few : xs.length < 1900) (hv : ∀ (i : Nat) v, Pv i v → ∃ k t, xs[i]? = some k ∧ v = .str k t) :
    ∀ (m i : Nat) (s : Shared), i + m = xs.length → St i s → Part w s.heap T xs i → (∀ s', Moved (T :: wr) G s s' → Part w s'.heap T xs xs.length → R (.ok (.ret .none)) s') → codeAny (model P w) A (.builtin "set.update.loop" ⟨[.ref T, .ref I], []⟩) R s := by
  have far2 : T ∉ wr := fun z => far (W.sub _ z)
  have up : ∀ b ∈ wr, b ∈ T :: wr := fun b z => List.mem_cons_of_mem _ z
  intro m
  induction m with
  | zero =>
    intro i s e st S k
    obtain rfl : i = xs.length := by omega
    refine codeAny_builtin F.entry_set_update_loop ?_
    rw [Around.under_plainId F.plain_set_update_loop _]
    show wpAny _ A.in1 (pyNext (.ref I) >>= _) _ _ s
    refine wpAny_bind (W.done s _ _ st fun s' mv => ?_)
    exact wpAny_pure (k s' (mv.mono up) (S.moved fun o z => mv.heap T o far2 z))
  | succ m ih =>
    intro i s e st S k
    have lt : i < xs.length := by omega
    refine codeAny_builtin F.entry_set_update_loop ?_
    rw [Around.under_plainId F.plain_set_update_loop _]
    show wpAny _ A.in1 (pyNext (.ref I) >>= _) _ _ s
    refine wpAny_bind (W.item i s _ _ lt st fun v s' pv st' mv => ?_)
    obtain ⟨z, t, hz, rfl⟩ := hv i v pv
    obtain ⟨ks, S1, l1, m1⟩ := S.moved fun o e => mv.heap T o far2 e
    show wpAny _ A.in1 (holding [Value.str z t] (setAdd T (.str z t)) >>= _) _ _ s'
    refine wpAny_bind (wpAny_holding ?_)
    unfold setAdd
    refine wpAny_holding (wpAny_bind ((strKind P w).pyHash (k := z) (strKind_is _ _ _ _) ?_))
    refine put_text (s := { s' with toks := s'.toks + 1 }) S1 (by omega) fun h' b sb S2 => ?_
    have S3 : Part w h' T xs (i + 1) := by
      refine ⟨_, S2, ?_, fun q => ?_⟩
      · unfold withK
        split
        · omega
        · simp only [List.length_cons]
          omega
      · have e1 : xs.take (i + 1) = xs.take i ++ [z] := by rw [List.take_add_one, hz] <;> rfl
        rw [e1, List.mem_append, List.mem_singleton, ← m1 q]
        unfold withK
        split
        · rename_i hin
          exact ⟨.inl, fun y => y.elim id fun y => y ▸ hin⟩
        · rw [List.mem_cons]
          exact Or.comm
    refine wpAny_pure ⟨plainId_quiet F.plain_set_update_loop _, ih (i + 1) _ (by omega) (W.frame _ s' _ _ st' (Nat.le_succ _) fun c hc o e => ?_) S3 fun s'' mv2 S4 => ?_⟩
    · rw [sb.2 c fun y => far (y ▸ hc)]
      exact e
    · refine k s'' (Moved.trans W.gtrans ((mv.mono up).then_heap (Nat.le_succ _) fun c o hc e => ?_) mv2) S4
      rw [sb.2 c fun y => hc (y ▸ List.mem_cons_self)]
      exact e
end
section
variable {P : Program} {w : World} {A : Around} {E : Value → Shared → Prop} {s : Shared}
theorem bare_at (w : World) (h : Heap) : (h.push (bareSet w)).get? h.objs.size = some (bareSet w) := Heap.get?_push_size _ rfl
/-- set(t), t a tuple of texts -/
theorem call_tuple {l : Addr} {its : Array Value} (xs : List Str) {Q : Value → Shared → Prop} (calm : A.handled = none) (tl : s.heap.IsTuple l its) (len : its.size = xs.length) (few : xs.length < 1900) (vals : ∀ (i : Nat) (v : Value), its[i]? = some v → ∃ k t, xs[i]? = some k ∧ v = Value.str k t)
    (fin : ∀ (h' : Heap) (tk : Nat), Part w h' s.heap.objs.size xs xs.length → (∀ b o, s.heap.get? b = some o → h'.get? b = some o) → Q (.ref s.heap.objs.size) { s with heap := h', toks := tk }) :
    wpAny (model P w) A (call (.type "set") [.ref l]) Q E s := by
  obtain ⟨c, tl2, mr⟩ := F.called_set.mro
  obtain ⟨made, sub, nt, cc, tc⟩ := And.intro F.called_set.made (And.intro F.called_set.sub (And.intro F.called_set.notType (And.intro F.called_set.canCreate (F.typeCall_set_1 (.ref l)))))
  refine wpAny_call (codeAny_of_tree (show wpAny _ _ (callAny (.type "set") _) _ _ _ from wpAny_pure ⟨Code.quiet_builtin _ (by decide +kernel), codeAny_builtin F.entry_type_call ?_⟩))
  rw [Around.under_plain (weight_type_call_type "set" [.ref l] []) rfl]
  repeat (any_goals (first | wp_step | assumption))
  refine codeAny_mono (code_set_led1 (.ref l) (E := E) (Q₁ := fun v z => v = .ref s.heap.objs.size ∧ z = { s with heap := s.heap.push (bareSet w) }) ⟨rfl, rfl⟩) fun r s₁ hr => ?_
  rcases r with e | fl
  · exact hr
  cases fl with
  | ret obj =>
    obtain ⟨rfl, rfl⟩ := hr
    have hS := bare_at w s.heap
    have hT : Shared.TypeIs { s with heap := s.heap.push (bareSet w) } (.ref s.heap.objs.size) "set" := ⟨_, hS, rfl⟩
    obtain ⟨li, bi⟩ := And.intro F.called_set.init.lookup (F.called_set.init.bind (.ref s.heap.objs.size))
    repeat (any_goals (first | wp_step | assumption))
    refine codeAny_mono (codeAny_call_builtin (R := wants (fun r z => r = .none ∧ ∃ h' tk, z = { s with heap := h', toks := tk } ∧ Part w h' s.heap.objs.size xs xs.length ∧ ∀ b o, s.heap.get? b = some o → h'.get? b = some o) E) F.called_set.init.plain F.entry_set_init (check_set_init_1 hT ?_)) fun r₂ s₂ hr₂ => ?_
    · have tl0 := id tl
      obtain ⟨⟨ocls, odict, odata, oslots⟩, ol, cl, nl, dl⟩ := tl
      dsimp only at cl dl
      subst cl
      subst dl
      have ol2 : (s.heap.push (bareSet w)).get? l = some ⟨.type "tuple", odict, .seq its nl, oslots⟩ := Heap.get?_push_of_some _ ol
      obtain ⟨b1, b2, b3⟩ := And.intro F.sub_tuple_set (And.intro F.sub_tuple_frozenset (show (Value.type "tuple" == Value.type "dict") = false by decide))
      have tl1 : (s.heap.push (bareSet w)).IsTuple l its := ⟨_, ol2, rfl, nl, rfl⟩
      unfold Builtin.«set.__init__» noKeywords Builtin.Frozenset.updateFrom
      generalize hPI : pyIter = PI
      wp_walk
      subst hPI
      refine wpAny_pyIter_tuple tl1 (wpAny_bind (wpAny_runValue ?_))
      have lS : l < s.heap.objs.size := Heap.lt_size ol
      have hz : (s.heap.push (bareSet w)).objs.size = s.heap.objs.size + 1 := Heap.size_push ..
      have neI : l ≠ (s.heap.push (bareSet w)).objs.size := by
        rw [hz]
        exact Nat.ne_of_lt (Nat.lt_succ_of_lt lS)
      have far : s.heap.objs.size ∉ [(s.heap.push (bareSet w)).objs.size, l] := by
        rw [hz]
        simp only [List.mem_cons, List.not_mem_nil, or_false]
        exact fun z => z.elim (Nat.ne_of_lt (Nat.lt_succ_self _)) (Nat.ne_of_gt lS)
      have W := (Walks.tuple (prog := P) (w := w) (A := A.in1.in1.in1) (by simp [calm]) (s.heap.push (bareSet w)).objs.size l neI its).toS
      rw [len] at W
      refine fill xs W s.heap.objs.size far few vals xs.length 0 _ (Nat.zero_add _) ⟨⟨_, Heap.get?_push_size _ rfl, rfl, rfl⟩, tl1.push _⟩ (part_new (Heap.get?_push_of_some _ hS)) fun s' mv S => ?_
      obtain ⟨h', g2, d', tk', os'⟩ := s'
      obtain ⟨m0, m1, m2, m3, _⟩ := mv
      dsimp only at m1 m2 m3
      have m1 : g2 = s.gens := m1
      have m2 : d' = s.drawn := m2
      have m3 : os' = s.os := m3
      subst m1
      subst m2
      subst m3
      show wpAny _ _ _ _ _ _
      refine wpAny_pure ?_
      show wpAny _ _ (ret Value.none) _ _ _
      refine wpAny_pure ⟨rfl, h', tk', rfl, S, fun b o e => m0 b o ?_ (Heap.get?_push_of_some _ (Heap.get?_push_of_some _ e))⟩
      have lb := Heap.lt_size e
      rw [hz]
      simp only [List.mem_cons, List.not_mem_nil, or_false]
      exact fun z => z.elim (Nat.ne_of_lt lb) (Nat.ne_of_lt (Nat.lt_succ_of_lt lb))
    · rcases r₂ with e | fl₂
      · exact hr₂
      cases fl₂ with
      | ret r =>
        obtain ⟨rfl, h', tk, rfl, S, kk⟩ := hr₂
        repeat (any_goals (first | wp_step | assumption))
        exact fin _ _ S kk
      | _ => exact hr₂.elim
  | _ => exact hr.elim
end
end KS
/-! sorted of a set of texts; the rules. -/
namespace KS
open PySem PySem.Spec PyProof.Rows L2
theorem texts_at : ∀ {us : List Value} {xs : List Str}, StrsAre us xs → ∀ (i : Nat) (v : Value), us[i]? = some v → ∃ k t, xs[i]? = some k ∧ v = Value.str k t
  | _, _, .nil, i, v, e => by simp at e
  | _, _, .cons x t r, 0, v, e => by
    simp at e
    exact ⟨x, t, rfl, e.symm⟩
  | _, _, .cons x t r, i + 1, v, e => by
    obtain ⟨k, u, a, b⟩ := texts_at r i v (by simpa using e)
    exact ⟨k, u, by simpa using a, b⟩
section
variable {P : Program} {w : World} {A : Around} {E : Value → Shared → Prop} {s : Shared} {a : Addr} {ks : List Str}
/-- sorted(found) -/
theorem sorted_texts {Q : Value → Shared → Prop} (S : SetS w s.heap a ks) (calm : A.handled = none)
    (fin : ∀ s' p (out : Array Value) (c : Nat) (ys : List Str), (∀ b o, s.heap.get? b = some o → s'.heap.get? b = some o) → s'.gens = s.gens → s'.os = s.os → s.heap.objs.size ≤ p → s'.heap.get? p = some (seqObj "list" out c) → StrsAre out.toList ys → ys.Perm ks → sortedS ys = true → Q (.ref p) s') :
    wpAny (model P w) A (call (.builtin "sorted") [.ref a]) Q E s := by
  obtain ⟨nd, lt, o, es, ep, t, ho, hex, hd, g, pk, hf, hr, hl⟩ := S
  have z : es.size = ks.length := by rw [← pk.length_eq, List.length_map, Array.length_toList]
  refine Calls.call_function_entry kind_sorted plain_sorted entry_sorted (args_sorted1 _) ?_
  unfold Builtin.«sorted»
  refine wpAny_bind (m := checkCount "sorted" 1 1 _) (wpAny_pure (wpAny_bind (collect_set (A := A.in1) calm ⟨o, ho, hex.1, hd⟩ hf (z ▸ few_of lt) hr hl fun s1 vs k1 hz g1 o1 pm => ?_)))
  have vl : vs.length = ks.length := by rw [pm.length_eq, List.length_map, Array.length_toList, z]
  have good : ∀ v ∈ vs, ∃ x t, v = Value.str x t := fun v hv => by
    obtain ⟨e, he, q⟩ := List.mem_map.mp (pm.mem_iff.mp hv)
    obtain ⟨k, t, q2, _⟩ := g e he
    exact ⟨k, t, q ▸ q2⟩
  have hS := strsAre_map vs good
  have ps : (vs.map strOf).Perm ks := by
    have q := pm.map strOf
    rw [List.map_map] at q
    refine q.trans (.trans (.of_eq (List.map_congr_left fun e he => ?_)) pk)
    obtain ⟨k, t, q2, _⟩ := g e he
    show strOf e.2 = keyS e
    unfold keyS
    rw [q2] <;> rfl
  refine wpAny_bind (wpAny_newList ?_ (by rw [vl, sizeLine_eq]; omega))
  have at1 : (s1.heap.push (seqObj "list" vs.toArray 0)).get? s1.heap.objs.size = some (seqObj "list" vs.toArray 0) := Heap.get?_push_size _ rfl
  refine wpAny_bind (wpAny_holding (wpAny_call_entry slot_list_sort ⟨_, at1, rfl⟩ entry_list_sort (list_sort_treeKAny strKind_oneLt at1 hS.keysOf (fun v₁ v₂ rest e => keyKind_strs (by rw [← e]; exact hS)) (by rw [vl, sizeLine_eq]; omega) fun st' hp hs => ⟨_, rfl, ?_⟩) (args_list_sort _)))
  obtain ⟨ys, y1, y2, y3⟩ := sorted_out_str hS hp hs
  obtain ⟨c, hc⟩ := sortedHeap_at (vs := vs) (out := (arrOf st').map (·.2)) at1
  refine wpAny_pure ⟨_, rfl, fin _ _ _ c ys (fun b u e => ?_) g1 o1 hz hc y1 (y2.trans ps) y3⟩
  have old := k1 b u e
  have lt2 := Heap.lt_size old
  show (sortedHeap (s1.heap.push (seqObj "list" vs.toArray 0)) s1.heap.objs.size vs _).get? b = some u
  rw [sortedHeap_old (Nat.ne_of_lt lt2) (by rw [size_push']; exact Nat.lt_succ_of_lt lt2)]
  exact Heap.get?_push_of_some _ old
end
/-- the set of texts at a -/
def TextO (w : World) (a : Addr) (ks : List Str) : HO := .ext fun h => SetS w h a ks
section
variable {X : Cx}
theorem textO_new {w : World} {P : Program} {H : Hp} {h : Heap} {a : Addr} {ks : List Str} (S : SetS w h a ks) : ObjOk P w H h a (TextO w a ks) := by
  have ⟨_, _, o, _, _, _, ho, _⟩ := S
  exact ⟨S, ⟨o, ho⟩, fun _ _ z k => SetS.moved z k⟩
/-- set(t) of a tuple of texts -/
def rSetTexts (K : PySem.W.Frag) (w : World) : List V → Hp → VK → Prop := fun vs H Q => ∃ (p : Addr) (xs : List Str), vs = [.ref p] ∧ SqT K H p (xs.map V.str) ∧ xs.length < 1900 ∧
  ∀ (q : Addr) (ks : List Str), H q = none → ks.Nodup → ks.length ≤ xs.length → (∀ k, k ∈ ks ↔ k ∈ xs) → Q (.ref q) (upd H q (TextO w q ks))
theorem cr_setTexts (calm : X.calm = true) : CallR X (.type "set") (rSetTexts X.K X.w) := by
  intro pins s σ H vs us Q I r h
  obtain ⟨p, xs, rfl, hq, few, k⟩ := h
  rw [Vals.ref1 r]
  obtain ⟨its, rv, pt, _⟩ := I.tuple hq
  have len : its.toArray.size = xs.length := by
    have z := rv.length
    rw [List.length_map] at z
    rw [List.size_toArray]
    exact z.symm
  have hs := strs_of_vals rv
  refine call_tuple xs (I.ok.hd calm) (show s.heap.IsTuple p its.toArray from pt) len few (fun i v e => ?_) fun h' tk S kept => ?_
  · exact texts_at hs i v (by rw [← Array.getElem?_toList] at e; exact e)
  · obtain ⟨ks, S1, l1, m1⟩ := S
    rw [List.take_length] at m1
    exact ⟨.ref _, upd H s.heap.objs.size (TextO X.w s.heap.objs.size ks), I.laid (t' := tk) kept (Nat.le_refl _) (textO_new S1), rfl, k _ ks (I.hok.fresh (Nat.le_refl _)) S1.1 l1 m1⟩
/-- set(t) of a tuple of ints -/
def rSetInts (K : PySem.W.Frag) (w : World) : List V → Hp → VK → Prop := fun vs H Q => ∃ (p : Addr) (ns : List Int), vs = [.ref p] ∧ SqT K H p (ns.map V.int) ∧ ns.length < 1900 ∧
  ∀ (q : Addr) (c : Nat), H q = none → c ≤ ns.length → Q (.ref q) (upd H q (SetO w q (fun j => decide (j ∈ ns)) c))
theorem cr_setInts (calm : X.calm = true) : CallR X (.type "set") (rSetInts X.K X.w) := by
  intro pins s σ H vs us Q I r h
  obtain ⟨p, ns, rfl, hq, few, k⟩ := h
  rw [Vals.ref1 r]
  obtain ⟨its, rv, pt, _⟩ := I.tuple hq
  have hi : IntsAre its.toArray.toList ns := ints_of_vals rv
  refine call_set_tupI ns (I.ok.hd calm) (show s.heap.IsTuple p its.toArray from pt) hi (by unfold scanBound; omega) fun h' tk c R cl kept => ?_
  exact ⟨.ref _, upd H s.heap.objs.size (SetO X.w s.heap.objs.size (fun j => decide (j ∈ ns)) c), I.laid (t' := tk) kept (Nat.le_refl _) (setO_new R), rfl, k _ c (I.hok.fresh (Nat.le_refl _)) cl⟩
/-- sorted of a set of texts -/
def rSortTexts (w : World) : List V → Hp → VK → Prop := fun vs H Q => ∃ (a : Addr) (ks : List Str), vs = [V.ref a] ∧ H a = some (TextO w a ks) ∧
  ∀ (ys : List Str) (p : Addr), ys.Perm ks → sortedS ys = true → H p = none → Q (.ref p) (upd H p (.lst (ys.map V.str)))
theorem cr_sortTexts (calm : X.calm = true) : CallR X (.builtin "sorted") (rSortTexts X.w) := by
  intro pins s σ H vs us Q I r h
  obtain ⟨a, ks, rfl, ha, k⟩ := h
  have S : SetS X.w s.heap a ks := (I.hok a _ ha).1
  rw [Vals.ref1 r]
  refine sorted_texts S (I.ok.hd calm) fun s' p out c ys kept g o hp at1 y1 y2 y3 => ?_
  have new : H p = none := I.hok.fresh hp
  have len : (ys.map V.str).length ≤ sizeLine := by
    have z := S.2.1
    rw [List.length_map, y2.length_eq, sizeLine_eq]
    omega
  have J : Inv X pins σ (upd H p (.lst (ys.map V.str))) { s with heap := s'.heap, gens := s'.gens, drawn := s'.drawn, toks := s'.toks } :=
    I.call (ch := []) (Un.laid kept hp new) (I.hok.laid kept hp ⟨len, out.toList, c, vals_of_strs y1, at1⟩) (by rw [g]; exact I.bare) (fun _ z => nomatch z)
  have same : s' = { s with heap := s'.heap, gens := s'.gens, drawn := s'.drawn, toks := s'.toks } := by
    obtain ⟨h1, h2, h3, h4, h5⟩ := s'
    dsimp only at o
    subst o
    rfl
  rw [same]
  exact ⟨.ref p, _, J, rfl, k ys p y2 y3 new⟩
end
section
variable {P : Program} {w : World} {A : Around} {E : Value → Shared → Prop} {s : Shared} {a : Addr}
/-- sorted of a set of ints, of any size -/
theorem sorted_ints {S : Int → Bool} {n : Nat} {Q : Value → Shared → Prop} (R : SetR w s.heap a S n) (calm : A.handled = none) (few : n < 2000)
    (fin : ∀ s' p (out : Array Value) (c : Nat) (ns : List Int), (∀ b o, s.heap.get? b = some o → s'.heap.get? b = some o) → s'.gens = s.gens → s'.os = s.os → s.heap.objs.size ≤ p → s'.heap.get? p = some (seqObj "list" out c) → IntsAre out.toList ns → ns.Pairwise (· < ·) → (∀ k, k ∈ ns ↔ S k = true) → ns.length = n → Q (.ref p) s') :
    wpAny (model P w) A (call (.builtin "sorted") [.ref a]) Q E s := by
  obtain ⟨o, es, ep, t, ho, hex, hd, g, nd, mem, sb, hf, sz, hr, hl⟩ := R
  refine Calls.call_function_entry kind_sorted plain_sorted entry_sorted (args_sorted1 _) ?_
  unfold Builtin.«sorted»
  refine wpAny_bind (m := checkCount "sorted" 1 1 _) (wpAny_pure (wpAny_bind (collect_set (A := A.in1) calm ⟨o, ho, hex.1, hd⟩ hf sb hr hl fun s1 vs k1 hz g1 o1 pm => ?_)))
  have vl : vs.length = n := by rw [pm.length_eq, List.length_map, Array.length_toList, sz]
  have good : ∀ v ∈ vs, ∃ x t, v = Value.int x t := fun v hv => by
    obtain ⟨e, he, q⟩ := List.mem_map.mp (pm.mem_iff.mp hv)
    obtain ⟨k, t, q2, _⟩ := g e he
    exact ⟨k, t, q ▸ q2⟩
  have hI := ints_of vs good
  have ps : (vs.map Builtin.Re.reRawOf).Perm (es.toList.map keyOf) := by
    have q := pm.map Builtin.Re.reRawOf
    rw [List.map_map] at q
    exact q
  refine wpAny_bind (wpAny_newList ?_ (by rw [vl, sizeLine_eq]; omega))
  have at1 : (s1.heap.push (seqObj "list" vs.toArray 0)).get? s1.heap.objs.size = some (seqObj "list" vs.toArray 0) := Heap.get?_push_size _ rfl
  refine wpAny_bind (wpAny_holding (wpAny_call_entry slot_list_sort ⟨_, at1, rfl⟩ entry_list_sort (list_sort_treeAny at1 hI (by rw [vl, sizeLine_eq]; omega) fun out ns y1 y2 y3 => ⟨_, rfl, ?_⟩) (args_list_sort _)))
  obtain ⟨c, hc⟩ := sortedHeap_at (vs := vs) (out := out) at1
  have pn := y2.trans ps
  refine wpAny_pure ⟨_, rfl, fin _ _ _ c ns (fun b u e => ?_) g1 o1 hz hc y1 (lt_of_le_nodup ns y3 (pn.nodup_iff.mpr nd)) (fun k => by rw [pn.mem_iff, ← mem k]) (by rw [pn.length_eq, List.length_map, Array.length_toList, sz])⟩
  have old := k1 b u e
  have lt2 := Heap.lt_size old
  show (sortedHeap (s1.heap.push (seqObj "list" vs.toArray 0)) s1.heap.objs.size vs _).get? b = some u
  rw [sortedHeap_old (Nat.ne_of_lt lt2) (by rw [size_push']; exact Nat.lt_succ_of_lt lt2)]
  exact Heap.get?_push_of_some _ old
end
section
variable {X : Cx}
/-- sorted of a set of ints -/
def rSortInts (w : World) : List V → Hp → VK → Prop := fun vs H Q => ∃ (a : Addr) (S : Int → Bool) (n : Nat), vs = [V.ref a] ∧ H a = some (SetO w a S n) ∧ n < 2000 ∧
  ∀ (ns : List Int) (p : Addr), ns.Pairwise (· < ·) → (∀ k : Int, k ∈ ns ↔ S k = true) → H p = none → Q (.ref p) (upd H p (.lst (ns.map V.int)))
theorem cr_sortInts (calm : X.calm = true) : CallR X (.builtin "sorted") (rSortInts X.w) := by
  intro pins s σ H vs us Q I r h
  obtain ⟨a, S, n, rfl, ha, few, k⟩ := h
  rw [Vals.ref1 r]
  refine sorted_ints (setO_get I ha) (I.ok.hd calm) few fun s' p out c ns kept g o hp at1 y1 y2 y3 y4 => ?_
  have new : H p = none := I.hok.fresh hp
  have len : (ns.map V.int).length ≤ sizeLine := by
    rw [List.length_map, y4, sizeLine_eq]
    omega
  have J : Inv X pins σ (upd H p (.lst (ns.map V.int))) { s with heap := s'.heap, gens := s'.gens, drawn := s'.drawn, toks := s'.toks } :=
    I.call (ch := []) (Un.laid kept hp new) (I.hok.laid kept hp ⟨len, out.toList, c, vals_of_ints y1, at1⟩) (by rw [g]; exact I.bare) (fun _ z => nomatch z)
  have same : s' = { s with heap := s'.heap, gens := s'.gens, drawn := s'.drawn, toks := s'.toks } := by
    obtain ⟨h1, h2, h3, h4, h5⟩ := s'
    dsimp only at o
    subst o
    rfl
  rw [same]
  exact ⟨.ref p, _, J, rfl, k ns p y2 y3 new⟩
end
end KS
namespace K5
open PySem PySem.Spec PyProof.Rows L2 Evl KZ RZ
def top (i : Nat) : Stmt := PySem.Challenge.pw_casetape_k05_errors_forms_and_the_same.main.body.getD i (.Pass ⟨0, 0, 0, 0⟩)
/-- a def that tells a truth of one value -/
def spB (K : PySem.W.Frag) (p : D → Bool) : Sp := fun vs H Q _ => ∃ x d, vs = [x] ∧ Rp K H x d ∧ Ok d ∧ RetV (.bl (p d)) H Q
theorem spB_len {K : PySem.W.Frag} {p : D → Bool} : ∀ vs H Q E, spB K p vs H Q E → vs.length = 1 := fun vs H Q E ⟨_, _, e, _⟩ => by rw [e]; rfl
theorem spv_B {K : PySem.W.Frag} {p : D → Bool} {H : Hp} {x : V} {d : D} (r : Rp K H x d) (ok : Ok d) : SpV (spB K p) [x] H (.bl (p d)) := fun H1 e Q q E => ⟨x, d, rfl, r.mono e, ok, q⟩
def isInt (d : D) : Bool := isI d && !isB d
def within (d : D) (a b : Int) : Bool := match d with
  | .int i => decide (a ≤ i) && decide (i ≤ b)
  | _ => false
def spWithin (K : PySem.W.Frag) : Sp := fun vs H Q _ => ∃ x d a b, vs = [x, .int a, .int b] ∧ Rp K H x d ∧ Ok d ∧ RetV (.bl (within d a b)) H Q
abbrev letters : Str := "abcdefghijklmnopqrstuvwxyz"
abbrev keys : List Str := ["table", "holes", "cases", "cell", "says", "to", "none"]
def nameS (s : Str) : Bool := (decide ((1 : Int) ≤ (s.length : Int)) && decide ((s.length : Int) ≤ 8)) && !inV (.str s) (keys.map V.str) && s.cps.toList.all fun c => decide (c ∈ letters.cps.toList)
def isNm : D → Bool
  | .str s => nameS s
  | _ => false
def allD (p : D → Bool) : D → Bool
  | .tup ds => ds.all p
  | _ => false
def byteD : D → Bool
  | .int i => decide (0 ≤ i) && decide (i ≤ 255)
  | _ => false
def ltD : D → D → Bool
  | .int i, .int j => decide (i < j)
  | .str s, .str u => decide (s.cps.toList < u.cps.toList)
  | _, _ => false
def riseL (ds : List D) : Bool := (List.zipWith ltD ds ds.tail).all id
def riseD : D → Bool
  | .tup ds => (ds.all isInt || ds.all isNm) && riseL ds
  | _ => false
def sortD : D → Str
  | .bl _ => "truth"
  | .tup _ => "tuple"
  | .lst _ => "list"
  | .dic _ _ => "dict"
  | _ => "other"
structure Cst (K : PySem.W.Frag) (mg : Str → Option Value) : Prop where
  letters : ∃ t, mg "LETTERS" = some (.str letters t)
  keys : ∃ a, mg "KEYS" = some (.ref a) ∧ ∀ H, SqT K H a (keys.map V.str)
  signs : ∃ t, mg "MOST_SIGNS" = some (.int 8 t)
  byte : ∃ t, mg "MOST_BYTE" = some (.int 255 t)
section
variable {P : Program} {w : World} {K : PySem.W.Frag} {mg : Str → Option Value} {base : Heap}
abbrev s_is_integer : Stmt := top 5
abbrev N_is_integer : List Str := ["thing"]
theorem sc_is_integer : FnScope N_is_integer ["thing"] (defScope s_is_integer) := ⟨rfl, rfl, rfl, by decide +kernel, rfl, by decide +kernel, by decide +kernel⟩
theorem ok_is_integer {f : Addr} {fd : FuncData} (F : Fun K "is_integer" "is_integer" s_is_integer f fd) (B : Blt mg) : FnOk P w K mg base CX0 1 f fd ["thing"] (spB K isInt) := by
  refine F.ok sc_is_integer spB_len (fun cdv A outer s H vs Q E hr h => ?_)
  obtain ⟨x, d, rfl, r, ok, k⟩ := h
  refine ⟨_, (pss_one (ps_ret (pe_and (p_isi rfl rfl B.isinstance B.int bb_int (pv 0)) (pe_one (pe_not (p_isi rfl rfl B.isinstance B.bool bb_bool (pv 0))))))), ?_⟩
  exact s_ret (ev_andV (ev_isi (ev_var rfl) r (kit_int _ _)) fun _ => ev_notV (ev_isi (ev_var rfl) r (kit_bool _ _))) k
abbrev s_law_is_int : Stmt := top 33
abbrev N_law_is_int : List Str := ["thing"]
theorem sc_law_is_int : FnScope N_law_is_int ["thing"] (defScope s_law_is_int) := ⟨rfl, rfl, rfl, by decide +kernel, rfl, by decide +kernel, by decide +kernel⟩
theorem ok_law_is_int {f : Addr} {fd : FuncData} (F : Fun K "_law_is_int" "_law_is_int" s_law_is_int f fd) (B : Blt mg) : FnOk P w K mg base CX0 1 f fd ["thing"] (spB K isInt) := by
  refine F.ok sc_law_is_int spB_len (fun cdv A outer s H vs Q E hr h => ?_)
  obtain ⟨x, d, rfl, r, ok, k⟩ := h
  refine ⟨_, (pss_one (ps_ret (pe_and (p_isi rfl rfl B.isinstance B.int bb_int (pv 0)) (pe_one (pe_not (p_isi rfl rfl B.isinstance B.bool bb_bool (pv 0))))))), ?_⟩
  exact s_ret (ev_andV (ev_isi (ev_var rfl) r (kit_int _ _)) fun _ => ev_notV (ev_isi (ev_var rfl) r (kit_bool _ _))) k
theorem int_of {K : PySem.W.Frag} {H : Hp} {x : V} {d : D} (r : Rp K H x d) (h : isInt d = true) : ∃ i, x = .int i ∧ d = .int i := by
  cases r with
  | int i => exact ⟨i, rfl, rfl⟩
  | _ => cases h
abbrev s_is_within : Stmt := top 6
abbrev N_is_within : List Str := ["thing", "least", "most"]
theorem sc_is_within : FnScope N_is_within ["thing", "least", "most"] (defScope s_is_within) := ⟨rfl, rfl, rfl, by decide +kernel, rfl, by decide +kernel, by decide +kernel⟩
theorem ok_is_within {f : Addr} {fd : FuncData} (F : Fun K "is_within" "is_within" s_is_within f fd) (C_is_integer : Cal P w K mg base 1 "is_integer" ["thing"] (spB K isInt)) : FnOk P w K mg base CX0 2 f fd ["thing", "least", "most"] (spWithin K) := by
  refine F.ok sc_is_within (fun vs H Q E ⟨_, _, _, _, e, _⟩ => by rw [e]; rfl) (fun cdv A outer s H vs Q E hr h => ?_)
  obtain ⟨x, d, a, b, rfl, r, ok, k⟩ := h
  refine ⟨_, (pss_one (ps_ret (pe_and (pcal C_is_integer hr (by decide) rfl (pa_cons (pv 0) pa_nil)) (pe_one (pe_chain op_le op_le (pv 1) (pv 0) (pv 2)))))), ?_⟩
  have hc : ∀ v, Ev (tCall (spB K isInt) [] E0 (tCons (tVar 0) tNil)) (start N_is_within [x, .int a, .int b]) H (.bl v) ↔ Ev (tCall (spB K isInt) [] E0 (tCons (tVar 0) tNil)) (start N_is_within [x, .int a, .int b]) H (.bl v) := fun _ => Iff.rfl
  by_cases hi : isInt d = true
  · obtain ⟨i, rfl, rfl⟩ := int_of r hi
    refine s_ret (ev_andV (b := decide (a ≤ i) && decide (i ≤ b)) (ev_call0 (ea_cons (ev_var rfl) ea_nil) (spv_B r ok)) fun _ => ?_) k
    exact ev_chain (ev_var rfl) (ev_var rfl) rv_le (fun _ => ev_var rfl) fun _ => rv_le
  · have e : within d a b = (isInt d && false) := by
      rw [Bool.and_false]
      cases d with
      | int i => exact absurd rfl hi
      | _ => rfl
    refine s_ret (ev_is (ev_andV (b := false) (ev_call0 (ea_cons (ev_var rfl) ea_nil) (spv_B r ok)) fun z => absurd z hi) (by rw [e])) k
abbrev s_is_string : Stmt := top 7
abbrev N_is_string : List Str := ["thing"]
theorem sc_is_string : FnScope N_is_string ["thing"] (defScope s_is_string) := ⟨rfl, rfl, rfl, by decide +kernel, rfl, by decide +kernel, by decide +kernel⟩
theorem ok_is_string {f : Addr} {fd : FuncData} (F : Fun K "is_string" "is_string" s_is_string f fd) (B : Blt mg) : FnOk P w K mg base CX0 1 f fd ["thing"] (spB K isS) := by
  refine F.ok sc_is_string spB_len (fun cdv A outer s H vs Q E hr h => ?_)
  obtain ⟨x, d, rfl, r, ok, k⟩ := h
  refine ⟨_, (pss_one (ps_ret (p_isi rfl rfl B.isinstance B.str bb_str (pv 0)))), ?_⟩
  exact s_ret (ev_isi (ev_var rfl) r (kit_str _ _)) k
theorem str_of {K : PySem.W.Frag} {H : Hp} {x : V} {d : D} (r : Rp K H x d) (h : isS d = true) : ∃ s, x = .str s ∧ d = .str s := by
  cases r with
  | str s => exact ⟨s, rfl, rfl⟩
  | _ => cases h
theorem tup_of {K : PySem.W.Frag} {H : Hp} {x : V} {d : D} (r : Rp K H x d) (h : isT d = true) : ∃ a xs ds, x = .ref a ∧ d = .tup ds ∧ SqT K H a xs ∧ RpA K H xs ds := by
  cases r with
  | tup q rs => exact ⟨_, _, _, rfl, rfl, q, rs⟩
  | _ => cases h
theorem keys_flat : (keys.map V.str).all flatV = true := by decide +kernel
abbrev s_is_name : Stmt := top 8
abbrev N_is_name : List Str := ["thing", "sign"]
theorem sc_is_name : FnScope N_is_name ["thing"] (defScope s_is_name) := ⟨rfl, rfl, rfl, by decide +kernel, rfl, by decide +kernel, by decide +kernel⟩
theorem ok_is_name {f : Addr} {fd : FuncData} (F : Fun K "is_name" "is_name" s_is_name f fd) (B : Blt mg) (T : Cst K mg) (C_is_string : Cal P w K mg base 1 "is_string" ["thing"] (spB K isS)) : FnOk P w K mg base CX0 2 f fd ["thing"] (spB K isNm) := by
  refine F.ok sc_is_name spB_len (fun cdv A outer s H vs Q E hr h => ?_)
  obtain ⟨x, d, rfl, r, ok, k⟩ := h
  obtain ⟨tl, gL⟩ := T.letters
  obtain ⟨ak, gK, qK⟩ := T.keys
  obtain ⟨ts, gS⟩ := T.signs
  refine ⟨_, (pss_cons (ps_if (PW.pt (pw_or (pt_not (pt_val (pcal C_is_string hr (by decide) rfl (pa_cons (pv 0) pa_nil)))) (pw_or (pt_not (pt_chain op_le op_le pe_int (pe_callB call_len rfl B.len bb_len (pa_cons (pv 0) pa_nil)) (pe_glob (v := .int 8) rfl gS ⟨_, rfl⟩))) (pw_or1 (pt_cmpR op_in_seq (pv 0) (pe_glob (v := .ref ak) rfl gK rfl) rfl)))))
    (pss_one (ps_ret pe_bl))
    pss_nil)
  (pss_one (ps_ret (pe_callB (cr_all rfl) rfl B.all bb_all (pa_cons (pe_lc rfl sc_is_name.nd (pi_str (pv 0)) (blkOk_by (own := [("sign", 1)]) (N := N_is_name) (sc := defScope s_is_name) (by decide +kernel)) (fun _ _ _ _ _ => (pg_name (i := 1) sc_is_name.nd rfl (Or.inl rfl) (Or.inr rfl))) (fun _ _ _ _ _ => pts_nil) (fun _ _ _ _ _ => (pe_cmpR op_in_sign (pv 1) (pe_glob (v := .str letters) rfl gL ⟨_, rfl⟩) rfl))) pa_nil))))), ?_⟩
  by_cases hs : isS d = true
  · obtain ⟨s0, rfl, rfl⟩ := str_of r hs
    have hl : s0.length ≤ 1000 := by
      cases ok with
      | str h => exact h
    refine q_when (b := !isS (.str s0) || ((!(decide ((1 : Int) ≤ (s0.length : Int)) && decide ((s0.length : Int) ≤ 8))) || inV (.str s0) (keys.map V.str))) (et_or (et_not (et_B (ev_call0 (ea_cons (ev_var rfl) ea_nil) (spv_B r ok)))) fun _ =>
      et_or (et_not (et_test (ev_chain ev_c (ev_lenS (ev_var rfl) (by omega)) rv_le (fun _ => ev_c) fun _ => rv_le))) fun _ => et_test (ev_op (ev_var rfl) ev_c (rv_isT (qK H) rfl keys_flat))) (fun hb H1 e1 => s_ret ev_c fun H2 e2 => ?_) (fun hb H1 e1 => ?_)
    · have en : isNm (.str s0) = false := by
        show nameS s0 = false
        unfold nameS
        have e0 : (!isS (.str s0)) = false := rfl
        rw [e0, Bool.false_or] at hb
        cases h1 : (decide ((1 : Int) ≤ (s0.length : Int)) && decide ((s0.length : Int) ≤ 8)) with
        | false => simp
        | true =>
          rw [h1, Bool.not_true, Bool.false_or] at hb
          rw [hb]
          simp
      rw [← en]
      exact k H2 (e1.trans e2)
    · have e0 : (!isS (.str s0)) = false := rfl
      rw [e0, Bool.false_or] at hb
      have en : isNm (.str s0) = (s0.cps.toList.map fun c => decide (c ∈ letters.cps.toList)).all id := by
        show nameS s0 = _
        unfold nameS
        cases h1 : (decide ((1 : Int) ≤ (s0.length : Int)) && decide ((s0.length : Int) ≤ 8)) with
        | false =>
          rw [h1] at hb
          cases hb
        | true =>
          rw [h1, Bool.not_true, Bool.false_or] at hb
          rw [hb, List.all_map]
          simp [Function.comp_def]
      refine s_ret (ev_is (ev_all (bs := s0.cps.toList.map fun c => decide (c ∈ letters.cps.toList)) ?_) (by rw [en])) fun H2 e2 => k H2 (e1.trans e2)
      have hz : (s0.cps.toList.map fun c => V.str ⟨#[c]⟩).length ≤ 40000 := by
        rw [List.length_map]
        have : s0.cps.toList.length = s0.length := by simp [Str.length]
        omega
      have em : ((s0.cps.toList.map fun c => decide (c ∈ letters.cps.toList)).map V.bl) = (s0.cps.toList.map fun c => V.str ⟨#[c]⟩).map (fun v => match v with
        | .str z => V.bl (decide (z.cps.toList.head?.getD 0 ∈ letters.cps.toList))
        | _ => .non) := by
        rw [List.map_map, List.map_map]
        rfl
      rw [em]
      refine el_lcN _ (w_str (ev_var rfl)) (flat_str s0) hz (fun _ => rfl) fun v hv => ?_
      obtain ⟨c, _, rfl⟩ := List.mem_map.mp hv
      exact ev_op (ev_var rfl) ev_c rv_inSign
  · refine q_when (b := !isS d || false) (et_or (et_not (et_B (ev_call0 (ea_cons (ev_var rfl) ea_nil) (spv_B r ok)))) fun z => absurd z (by simp [hs])) (fun hb H1 e1 => s_ret ev_c fun H2 e2 => ?_) (fun hb => absurd hb (by simp [hs]))
    have en : isNm d = false := by
      cases d with
      | str s => exact absurd rfl hs
      | _ => rfl
    rw [← en]
    exact k H2 (e1.trans e2)
/-- are_all(thing, fits), fits one of the defs that S knows -/
def spAll (K : PySem.W.Frag) (S : Addr → Option Sp) : Sp := fun vs H Q _ => ∃ x f d p, vs = [x, .ref f] ∧ Rp K H x d ∧ Ok d ∧ S f = some (spB K p) ∧ dep d ≤ 60 ∧ wt d ≤ 1000 ∧ RetV (.bl (allD p d)) H Q
theorem ok_mem {ds : List D} (ok : Ok (.tup ds)) : ∀ d ∈ ds, Ok d := by
  cases ok with
  | tup h => exact h
theorem len_wt (ds : List D) : ds.length ≤ wtA ds := by
  induction ds with
  | nil => exact Nat.le_refl _
  | cons d r ih =>
    have h : 1 ≤ wt d := by cases d <;> simp [wt]
    show r.length + 1 ≤ wt d + wtA r
    omega
theorem len_tup {ds : List D} (h : wt (.tup ds) ≤ 1000) : ds.length ≤ 1000 := by
  have := len_wt ds
  simp only [wt] at h
  omega
abbrev s_are_all : Stmt := top 9
abbrev N_are_all : List Str := ["thing", "fits", "member"]
theorem sc_are_all : FnScope N_are_all ["thing", "fits"] (defScope s_are_all) := ⟨rfl, rfl, rfl, by decide +kernel, rfl, by decide +kernel, by decide +kernel⟩
theorem ok_are_all {f : Addr} {fd : FuncData} {S : Addr → Option Sp} (F : Fun K "are_all" "are_all" s_are_all f fd) (B : Blt mg) (A_fits : ∀ f sp, S f = some sp → Held P w K mg base 2 f sp) : FnOk P w K mg base CX0 3 f fd ["thing", "fits"] (spAll K S) := by
  refine F.ok sc_are_all (fun vs H Q E ⟨_, _, _, _, e, _⟩ => by rw [e]; rfl) (fun cdv A outer s H vs Q E hr h => ?_)
  obtain ⟨x, g, d, p, rfl, r, ok, hS, hd, hw, k⟩ := h
  refine ⟨_, (pss_one (ps_ret (pe_and (p_isi rfl rfl B.isinstance B.tuple bb_tuple (pv 0)) (pe_one (pe_callB (cr_all rfl) rfl B.all bb_all (pa_cons (pe_lc rfl sc_are_all.nd (pi_tup (pv 0)) (blkOk_by (own := [("member", 2)]) (N := N_are_all) (sc := defScope s_are_all) (by decide +kernel)) (fun _ _ _ _ _ => (pg_name (i := 2) sc_are_all.nd rfl (Or.inl rfl) (Or.inr rfl))) (fun _ _ _ _ _ => pts_nil) (fun _ _ _ _ _ => (pe_callA (i := 1) A_fits (hr.mono (by decide)) rfl (by first | exact Or.inl rfl | exact Or.inr (Or.inl rfl) | exact Or.inr (Or.inr rfl)) (pa_cons (pv 2) pa_nil)))) pa_nil)))))), ?_⟩
  by_cases ht : isT d = true
  · obtain ⟨a, xs, ds, rfl, rfl, hq, rs⟩ := tup_of r ht
    have hz : xs.length ≤ 40000 := by
      have := rs.len
      have := len_tup hw
      omega
    refine s_ret (ev_is (ev_andV (ev_isi (ev_var rfl) r (kit_tuple _ _)) fun _ => ev_all (bs := ds.map p) ?_) (by show V.bl (true && _) = V.bl (ds.all p); rw [Bool.true_and, List.all_map]; rfl)) k
    rw [List.map_map]
    exact el_data (fun d => V.bl (p d)) (w_tup (ev_var rfl) hq) (flat_tup hq) rs hz (fun _ => rfl) fun x d hd rd => ev_callA rfl hS (ea_cons (ev_var rfl) ea_nil) (spv_B rd (ok_mem ok d hd))
  · have en : allD p d = (isT d && false) := by
      rw [Bool.and_false]
      cases d with
      | tup ds => exact absurd rfl ht
      | _ => rfl
    exact s_ret (ev_is (ev_andV (b := false) (ev_isi (ev_var rfl) r (kit_tuple _ _)) fun z => absurd z ht) (by rw [en])) k
/-- of data that are not too large -/
def spC (K : PySem.W.Frag) (p : D → Bool) : Sp := fun vs H Q _ => ∃ x d, vs = [x] ∧ Rp K H x d ∧ Ok d ∧ dep d ≤ 60 ∧ wt d ≤ 1000 ∧ RetV (.bl (p d)) H Q
theorem spC_len {K : PySem.W.Frag} {p : D → Bool} : ∀ vs H Q E, spC K p vs H Q E → vs.length = 1 := fun vs H Q E ⟨_, _, e, _⟩ => by rw [e]; rfl
theorem spv_C {K : PySem.W.Frag} {p : D → Bool} {H : Hp} {x : V} {d : D} (r : Rp K H x d) (ok : Ok d) (hd : dep d ≤ 60) (hw : wt d ≤ 1000) : SpV (spC K p) [x] H (.bl (p d)) := fun H1 e Q q E => ⟨x, d, rfl, r.mono e, ok, hd, hw, q⟩
theorem spv_All {K : PySem.W.Frag} {S : Addr → Option Sp} {p : D → Bool} {H : Hp} {x : V} {d : D} {f : Addr} (r : Rp K H x d) (ok : Ok d) (hd : dep d ≤ 60) (hw : wt d ≤ 1000) (hS : S f = some (spB K p)) : SpV (spAll K S) [x, .ref f] H (.bl (allD p d)) := fun H1 e Q q E => ⟨x, f, d, p, rfl, r.mono e, ok, hS, hd, hw, q⟩
abbrev s_are_integers : Stmt := top 10
abbrev N_are_integers : List Str := ["thing"]
theorem sc_are_integers : FnScope N_are_integers ["thing"] (defScope s_are_integers) := ⟨rfl, rfl, rfl, by decide +kernel, rfl, by decide +kernel, by decide +kernel⟩
theorem ok_are_integers {f g : Addr} {fd : FuncData} {S : Addr → Option Sp} (F : Fun K "are_integers" "are_integers" s_are_integers f fd) (mI : mg "is_integer" = some (.ref g)) (hS : S g = some (spB K isInt)) (C_are_all : Cal P w K mg base 3 "are_all" ["thing", "fits"] (spAll K S)) : FnOk P w K mg base CX0 4 f fd ["thing"] (spC K (allD isInt)) := by
  refine F.ok sc_are_integers spC_len (fun cdv A outer s H vs Q E hr h => ?_)
  obtain ⟨x, d, rfl, r, ok, hd, hw, k⟩ := h
  refine ⟨_, (pss_one (ps_ret (pcal C_are_all hr (by decide) rfl (pa_cons (pv 0) (pa_cons (pe_glob (v := .ref g) rfl mI rfl) pa_nil))))), ?_⟩
  exact s_ret (ev_call0 (ea_cons (ev_var rfl) (ea_cons ev_c ea_nil)) (spv_All r ok hd hw hS)) k
abbrev s_are_names : Stmt := top 11
abbrev N_are_names : List Str := ["thing"]
theorem sc_are_names : FnScope N_are_names ["thing"] (defScope s_are_names) := ⟨rfl, rfl, rfl, by decide +kernel, rfl, by decide +kernel, by decide +kernel⟩
theorem ok_are_names {f g : Addr} {fd : FuncData} {S : Addr → Option Sp} (F : Fun K "are_names" "are_names" s_are_names f fd) (mI : mg "is_name" = some (.ref g)) (hS : S g = some (spB K isNm)) (C_are_all : Cal P w K mg base 3 "are_all" ["thing", "fits"] (spAll K S)) : FnOk P w K mg base CX0 4 f fd ["thing"] (spC K (allD isNm)) := by
  refine F.ok sc_are_names spC_len (fun cdv A outer s H vs Q E hr h => ?_)
  obtain ⟨x, d, rfl, r, ok, hd, hw, k⟩ := h
  refine ⟨_, (pss_one (ps_ret (pcal C_are_all hr (by decide) rfl (pa_cons (pv 0) (pa_cons (pe_glob (v := .ref g) rfl mI rfl) pa_nil))))), ?_⟩
  exact s_ret (ev_call0 (ea_cons (ev_var rfl) (ea_cons ev_c ea_nil)) (spv_All r ok hd hw hS)) k
abbrev s_are_bytes : Stmt := top 12
abbrev N_are_bytes : List Str := ["thing", "one"]
theorem sc_are_bytes : FnScope N_are_bytes ["thing"] (defScope s_are_bytes) := ⟨rfl, rfl, rfl, by decide +kernel, rfl, by decide +kernel, by decide +kernel⟩
theorem ok_are_bytes {f : Addr} {fd : FuncData} (F : Fun K "are_bytes" "are_bytes" s_are_bytes f fd) (B : Blt mg) (T : Cst K mg) (C_are_integers : Cal P w K mg base 4 "are_integers" ["thing"] (spC K (allD isInt))) : FnOk P w K mg base CX0 5 f fd ["thing"] (spC K (allD byteD)) := by
  refine F.ok sc_are_bytes spC_len (fun cdv A outer s H vs Q E hr h => ?_)
  obtain ⟨x, d, rfl, r, ok, hd, hw, k⟩ := h
  obtain ⟨tb, gB⟩ := T.byte
  refine ⟨_, (pss_one (ps_ret (pe_and (pcal C_are_integers hr (by decide) rfl (pa_cons (pv 0) pa_nil)) (pe_one (pe_callB (cr_all rfl) rfl B.all bb_all (pa_cons (pe_lc rfl sc_are_bytes.nd (pi_tup (pv 0)) (blkOk_by (own := [("one", 1)]) (N := N_are_bytes) (sc := defScope s_are_bytes) (by decide +kernel)) (fun _ _ _ _ _ => (pg_name (i := 1) sc_are_bytes.nd rfl (Or.inl rfl) (Or.inr rfl))) (fun _ _ _ _ _ => pts_nil) (fun _ _ _ _ _ => (pe_chain op_le op_le pe_int (pv 1) (pe_glob (v := .int 255) rfl gB ⟨_, rfl⟩)))) pa_nil)))))), ?_⟩
  by_cases hi : allD isInt d = true
  · have ht : isT d = true := by
      cases d with
      | tup ds => rfl
      | _ => cases hi
    obtain ⟨a, xs, ds, rfl, rfl, hq, rs⟩ := tup_of r ht
    have hz : xs.length ≤ 40000 := by
      have := rs.len
      have := len_tup hw
      omega
    have hi' : ∀ d ∈ ds, isInt d = true := List.all_eq_true.mp hi
    refine s_ret (ev_is (ev_andV (ev_call0 (ea_cons (ev_var rfl) ea_nil) (spv_C r ok hd hw)) fun _ => ev_all (bs := ds.map byteD) ?_) (by rw [hi, Bool.true_and, List.all_map]; rfl)) k
    rw [List.map_map]
    refine el_data (fun d => V.bl (byteD d)) (w_tup (ev_var rfl) hq) (flat_tup hq) rs hz (fun _ => rfl) fun x d hd rd => ?_
    obtain ⟨i, rfl, rfl⟩ := int_of rd (hi' d hd)
    exact ev_chain ev_c (ev_var rfl) rv_le (fun _ => ev_c) fun _ => rv_le
  · have en : allD byteD d = (allD isInt d && false) := by
      rw [Bool.and_false]
      cases d with
      | tup ds =>
        cases hb : allD byteD (.tup ds) with
        | false => rfl
        | true =>
          refine absurd (List.all_eq_true.mpr fun d m => ?_) hi
          have := List.all_eq_true.mp hb d m
          cases d with
          | int i => rfl
          | _ => cases this
      | _ => rfl
    exact s_ret (ev_is (ev_andV (b := false) (ev_call0 (ea_cons (ev_var rfl) ea_nil) (spv_C r ok hd hw)) fun z => absurd z hi) (by rw [en])) k
abbrev s_sort_of : Stmt := top 14
abbrev N_sort_of : List Str := ["thing"]
theorem sc_sort_of : FnScope N_sort_of ["thing"] (defScope s_sort_of) := ⟨rfl, rfl, rfl, by decide +kernel, rfl, by decide +kernel, by decide +kernel⟩
theorem ok_sort_of {f : Addr} {fd : FuncData} (F : Fun K "sort_of" "sort_of" s_sort_of f fd) (B : Blt mg) : FnOk P w K mg base CX0 1 f fd ["thing"] (fun vs H Q _ => ∃ x d, vs = [x] ∧ Rp K H x d ∧ RetV (.str (sortD d)) H Q) := by
  refine F.ok sc_sort_of (fun vs H Q E ⟨_, _, e, _⟩ => by rw [e]; rfl) (fun cdv A outer s H vs Q E hr h => ?_)
  obtain ⟨x, d, rfl, r, k⟩ := h
  refine ⟨_, (pss_cons (ps_if (pt_val (p_isi rfl rfl B.isinstance B.bool bb_bool (pv 0)))
    (pss_one (ps_ret pe_str))
    pss_nil)
  (pss_cons (ps_if (pt_val (p_isi2 rfl rfl rfl B.isinstance B.tuple B.list bb_tuple bb_list (pv 0)))
    (pss_one (ps_ret (pe_ifExp (pt_val (p_isi rfl rfl B.isinstance B.tuple bb_tuple (pv 0))) pe_str pe_str)))
    pss_nil)
  (pss_one (ps_ret (pe_ifExp (pt_val (p_isi rfl rfl B.isinstance B.dict bb_dict (pv 0))) pe_str pe_str))))), ?_⟩
  refine q_when (b := isB d) (et_B (ev_isi (ev_var rfl) r (kit_bool _ _))) (fun hb H1 e1 => s_ret ev_c fun H2 e2 => ?_) (fun hb H1 e1 => ?_)
  · have en : sortD d = "truth" := by
      cases d with
      | bl _ => rfl
      | _ => cases hb
    rw [← en]
    exact k H2 (e1.trans e2)
  · have r1 := r.mono e1
    refine q_when (b := isT d || isL d) (et_B (ev_isi2 (ev_var rfl) r1 (kit_tuple _ _) (kit_list _ _))) (fun hc H2 e2 => s_ret (ev_if (b := isT d) (v := .str (sortD d)) (et_B (ev_isi (ev_var rfl) (r1.mono e2) (kit_tuple _ _))) (fun ht => ev_is ev_c ?_) (fun ht => ev_is ev_c ?_)) fun H3 e3 => k H3 ((e1.trans e2).trans e3))
      (fun hc H2 e2 => s_ret (ev_if (b := isM d) (v := .str (sortD d)) (et_B (ev_isi (ev_var rfl) (r1.mono e2) (kit_dict _ _))) (fun ht => ev_is ev_c ?_) (fun ht => ev_is ev_c ?_)) fun H3 e3 => k H3 ((e1.trans e2).trans e3))
    all_goals cases d <;> first | rfl | (exfalso; revert ht hc hb; simp [isT, isL, isM, isB])
abbrev s_do_rise : Stmt := top 13
abbrev N_do_rise : List Str := ["thing", "one", "other"]
theorem sc_do_rise : FnScope N_do_rise ["thing"] (defScope s_do_rise) := ⟨rfl, rfl, rfl, by decide +kernel, rfl, by decide +kernel, by decide +kernel⟩
theorem ok_do_rise {f : Addr} {fd : FuncData} (F : Fun K "do_rise" "do_rise" s_do_rise f fd) (B : Blt mg) (C_are_integers : Cal P w K mg base 4 "are_integers" ["thing"] (spC K (allD isInt))) (C_are_names : Cal P w K mg base 4 "are_names" ["thing"] (spC K (allD isNm))) : FnOk P w K mg base CX0 5 f fd ["thing"] (spC K riseD) := by
  refine F.ok sc_do_rise spC_len (fun cdv A outer s H vs Q E hr h => ?_)
  obtain ⟨x, d, rfl, r, ok, hd, hw, k⟩ := h
  refine ⟨_, (pss_cons (ps_if (PW.pt (pw_and (pt_not (pt_val (pcal C_are_integers hr (by decide) rfl (pa_cons (pv 0) pa_nil)))) (pw_and1 (pt_not (pt_val (pcal C_are_names hr (by decide) rfl (pa_cons (pv 0) pa_nil)))))))
    (pss_one (ps_ret pe_bl))
    pss_nil)
  (pss_one (ps_ret (pe_callB (cr_all rfl) rfl B.all bb_all (pa_cons (pe_lc rfl sc_do_rise.nd (pi_zipA rfl B.zip (pa_cons (pv 0) (pa_cons (pe_slice sl_tupA (pv 0) (po_some pe_int) po_none) pa_nil))) (blkOk_by (own := [("one", 1), ("other", 2)]) (N := N_do_rise) (sc := defScope s_do_rise) (by decide +kernel)) (fun _ _ _ _ _ => (pg_names2 (K := K) rfl rfl (pg_name (i := 1) sc_do_rise.nd rfl (Or.inl rfl) (Or.inr rfl)) (pg_name (i := 2) sc_do_rise.nd rfl (Or.inl rfl) (Or.inr rfl)))) (fun _ _ _ _ _ => pts_nil) (fun _ _ _ _ _ => (pe_cmpR (op_lt.or op_lt_str) (pv 1) (pv 2) (nomark _)))) pa_nil))))), ?_⟩
  refine q_when (b := !allD isInt d && !allD isNm d) (et_and (et_not (et_B (ev_call0 (ea_cons (ev_var rfl) ea_nil) (spv_C r ok hd hw)))) fun _ => et_not (et_B (ev_call0 (ea_cons (ev_var rfl) ea_nil) (spv_C r ok hd hw)))) (fun hb H1 e1 => s_ret ev_c fun H2 e2 => ?_) (fun hb H1 e1 => ?_)
  · have en : riseD d = false := by
      cases d with
      | tup ds =>
        have h1 : ds.all isInt = false := by
          cases h : ds.all isInt with
          | false => rfl
          | true =>
            rw [show allD isInt (.tup ds) = ds.all isInt from rfl, h] at hb
            cases hb
        have h2 : ds.all isNm = false := by
          rw [show allD isInt (.tup ds) = ds.all isInt from rfl, h1, show allD isNm (.tup ds) = ds.all isNm from rfl] at hb
          simpa using hb
        show ((ds.all isInt || ds.all isNm) && riseL ds) = false
        rw [h1, h2]
        rfl
      | _ => rfl
    rw [← en]
    exact k H2 (e1.trans e2)
  · have ht : isT d = true := by
      cases d with
      | tup ds => rfl
      | _ => cases hb
    obtain ⟨a, xs, ds, rfl, rfl, hq, rs⟩ := tup_of r ht
    have hl := rs.len
    have hn := len_tup hw
    have hor : (ds.all isInt || ds.all isNm) = true := by
      have hb' : (!ds.all isInt && !ds.all isNm) = false := hb
      cases h1 : ds.all isInt with
      | true => rfl
      | false =>
        rw [h1] at hb'
        simpa using hb'
    have hlt : ∀ (x y : V) (d e : D), d ∈ ds → e ∈ ds → Rp K H1 x d → Rp K H1 y e → RV (fun x y H Q => rI0 (fun i j => V.bl (decide (i < j))) x y H Q ∨ (∃ i j, x = .str i ∧ y = .str j ∧ Q (.bl (decide (i.cps.toList < j.cps.toList))) H)) x y H1 (.bl (ltD d e)) := by
      intro x y d e md me rd re
      cases h1 : ds.all isInt with
      | true =>
        obtain ⟨i, rfl, rfl⟩ := int_of rd (List.all_eq_true.mp h1 d md)
        obtain ⟨j, rfl, rfl⟩ := int_of re (List.all_eq_true.mp h1 e me)
        exact rv_l rv_lt
      | false =>
        rw [h1, Bool.false_or] at hor
        have s1 : isS d = true := by
          have := List.all_eq_true.mp hor d md
          cases d <;> first | rfl | cases this
        have s2 : isS e = true := by
          have := List.all_eq_true.mp hor e me
          cases e <;> first | rfl | cases this
        obtain ⟨i, rfl, rfl⟩ := str_of rd s1
        obtain ⟨j, rfl, rfl⟩ := str_of re s2
        exact rv_r rv_ltS
    have ec : cutV xs (some 1) none = xs.drop 1 := by
      unfold cutV
      rw [show (some (1 : Int)) = some ((1 : Nat) : Int) from rfl, HT.sIx_nat, HT.sIx_none]
      by_cases h0 : xs.length = 0
      · have : xs = [] := List.length_eq_zero_iff.mp h0
        subst this
        rfl
      · rw [show min 1 xs.length = 1 by omega, List.take_of_length_le (by simp)]
    have em : (List.zipWith ltD ds ds.tail).map V.bl = List.zipWith (fun x y => V.bl (match x, y with
      | .int i, .int j => decide (i < j)
      | .str s, .str u => decide (s.cps.toList < u.cps.toList)
      | _, _ => false)) xs (xs.drop 1) := by
      apply List.ext_getElem?
      intro i
      rw [List.getElem?_map, List.getElem?_zipWith, List.getElem?_zipWith, List.getElem?_drop, List.getElem?_tail]
      cases g1 : xs[i]? with
      | none =>
        have : ds[i]? = none := by
          rw [List.getElem?_eq_none_iff] at g1 ⊢
          omega
        rw [this]
        rfl
      | some x =>
        obtain ⟨d, g2, rd⟩ := rs.at g1
        rw [g2]
        cases g3 : xs[1 + i]? with
        | none =>
          have : ds[i + 1]? = none := by
            rw [List.getElem?_eq_none_iff] at g3 ⊢
            omega
          rw [this]
          rfl
        | some y =>
          obtain ⟨e, g4, re⟩ := rs.at g3
          rw [Nat.add_comm] at g4
          rw [g4]
          show some (V.bl (ltD d e)) = some (V.bl _)
          have md := List.mem_of_getElem? g2
          have me := List.mem_of_getElem? g4
          cases h1 : ds.all isInt with
          | true =>
            obtain ⟨i, rfl, rfl⟩ := int_of rd (List.all_eq_true.mp h1 d md)
            obtain ⟨j, rfl, rfl⟩ := int_of re (List.all_eq_true.mp h1 e me)
            rfl
          | false =>
            rw [h1, Bool.false_or] at hor
            have s1 : isS d = true := by
              have := List.all_eq_true.mp hor d md
              cases d <;> first | rfl | cases this
            have s2 : isS e = true := by
              have := List.all_eq_true.mp hor e me
              cases e <;> first | rfl | cases this
            obtain ⟨i, rfl, rfl⟩ := str_of rd s1
            obtain ⟨j, rfl, rfl⟩ := str_of re s2
            rfl
    refine s_ret (ev_is (ev_all (bs := List.zipWith ltD ds ds.tail) ?_) (by show V.bl (riseL ds) = V.bl ((ds.all isInt || ds.all isNm) && riseL ds); rw [hor, Bool.true_and])) fun H2 e2 => k H2 (e1.trans e2)
    rw [em]
    refine el_zipT _ (fun H2 e2 Q2 q2 => ?_) (ex_t e1 hq) (by omega) (fun _ _ => rfl) fun i x y gx gy => ?_
    · refine ⟨.ref a, rfl, ?_⟩
      refine et_slT (σ := _) (ev_var rfl) (eo_some ev_c) eo_none (ex_t e1 hq) H2 e2 _ fun p H3 e3 hs => ?_
      rw [ec] at hs
      exact q2 p H3 e3 hs
    · obtain ⟨d, g2, rd⟩ := rs.at gx
      rw [List.getElem?_drop] at gy
      obtain ⟨e, g4, re⟩ := rs.at gy
      have md := List.mem_of_getElem? g2
      have me := List.mem_of_getElem? g4
      have h := hlt x y d e md me (rd.mono e1) (re.mono e1)
      refine ev_op (ev_var rfl) (ev_var rfl) (rv_is h ?_)
      cases h1 : ds.all isInt with
      | true =>
        obtain ⟨i, rfl, rfl⟩ := int_of rd (List.all_eq_true.mp h1 d md)
        obtain ⟨j, rfl, rfl⟩ := int_of re (List.all_eq_true.mp h1 e me)
        rfl
      | false =>
        rw [h1, Bool.false_or] at hor
        have s1 : isS d = true := by
          have := List.all_eq_true.mp hor d md
          cases d <;> first | rfl | cases this
        have s2 : isS e = true := by
          have := List.all_eq_true.mp hor e me
          cases e <;> first | rfl | cases this
        obtain ⟨i, rfl, rfl⟩ := str_of rd s1
        obtain ⟨j, rfl, rfl⟩ := str_of re s2
        rfl
end
end K5
namespace K5
open PySem PySem.Spec PyProof.Rows L2 Evl KZ RZ

section
variable {K : PySem.W.Frag} {σ : L2.St} {H : Hp} {td ty : TE} {a : Addr} {kvs : List (Key × V)} {k : Int} {v : V}
theorem ev_dget (h : Ev td σ H (.ref a)) (h2 : Ev ty σ H (.int k)) (hd : Rd H a (.dK kvs)) (hv : valV kvs (Sum.inl k) = some v) : Ev (tDGet td ty) σ H v := fun H1 e Q q =>
  h H1 e _ fun H2 e2 => h2 H2 (e.trans e2) _ fun H3 e3 => ⟨a, v, rfl, .inl ⟨kvs, Sum.inl k, ex_rd ((e.trans e2).trans e3) hd, rfl, hv.symm⟩, q H3 (e2.trans e3)⟩
theorem ev_if' {t : TT} {ta tb : TE} {b : Bool} {Q : VK} (h : EvT t σ H b) (h1 : b = true → ∀ H1, Ex H H1 → ta σ H1 Q) (h2 : b = false → ∀ H1, Ex H H1 → tb σ H1 Q) : tIf t ta tb σ H Q := h H (Ex.refl H) _ fun H1 e => by
  cases b with
  | true =>
    show ta σ H1 Q
    exact h1 rfl H1 e
  | false =>
    show tb σ H1 Q
    exact h2 rfl H1 e
end
/-- the couples of the parts of two values of one sort -/
inductive PartsV (K : PySem.W.Frag) (H : Hp) : D → V → V → List V → List V → Prop
  | lst {x y : V} {ds : List D} {us ws : List V} : SeqX K H x us → SeqX K H y ws → PartsV K H (.lst ds) x y us ws
  | tup {x y : V} {ds : List D} {us ws : List V} : SeqX K H x us → SeqX K H y ws → PartsV K H (.tup ds) x y us ws
  | dic {a b : Addr} {ks : List Int} {ds : List D} {xs ys : List V} : H a = some (.dK (dkv ks xs)) → H b = some (.dK (dkv ks ys)) → ks.length = xs.length → ks.length = ys.length → ks.Nodup → PartsV K H (.dic ks ds) (.ref a) (.ref b) (ks.map V.int ++ xs) (ks.map V.int ++ ys)
  | flat {d : D} {x y : V} : isSeq d = false → PartsV K H d x y [] []
theorem PartsV.mono {K : PySem.W.Frag} {H H' : Hp} {d : D} {x y : V} {us ws : List V} (e : Ex H H') (h : PartsV K H d x y us ws) : PartsV K H' d x y us ws := by
  cases h with
  | lst h1 h2 => exact .lst (h1.mono e) (h2.mono e)
  | tup h1 h2 => exact .tup (h1.mono e) (h2.mono e)
  | dic h1 h2 l1 l2 n => exact .dic (e _ _ h1) (e _ _ h2) l1 l2 n
  | flat h => exact .flat h
def spParts (K : PySem.W.Frag) : Sp := fun vs H Q _ => ∃ x y d us ws, vs = [x, y] ∧ Rp K H x d ∧ PartsV K H d x y us ws ∧ us.length = ws.length ∧ us.length ≤ 2000 ∧
  ∀ p H' ts, H p = none → Ex H H' → H' p = some (.lst (ts.map V.ref)) → NewAt H H' ts us ws → (∀ t ∈ ts, t ≠ p) → Q (.ref p) H'
theorem valV_dkv : ∀ {ks : List Int} {xs : List V} {j : Nat} {k : Int} {v : V}, ks.Nodup → ks[j]? = some k → xs[j]? = some v → valV (dkv ks xs) (Sum.inl k) = some v
  | [], _, _, _, _, _, h, _ => by simp at h
  | _ :: _, [], _, _, _, _, _, h => by simp at h
  | k0 :: ks, v0 :: xs, 0, k, v, _, h1, h2 => by
    simp at h1 h2
    subst h1 h2
    exact valV_pos rfl
  | k0 :: ks, v0 :: xs, j + 1, k, v, hn, h1, h2 => by
    have m : k ∈ ks := List.mem_of_getElem? (by simpa using h1)
    have ne : ¬ (Sum.inl k0 : Key) = Sum.inl k := fun z => (List.nodup_cons.mp hn).1 (Sum.inl.inj z ▸ m)
    have e2 : valV (dkv (k0 :: ks) (v0 :: xs)) (Sum.inl k) = valV (dkv ks xs) (Sum.inl k) := by
      show valV ((Sum.inl k0, v0) :: dkv ks xs) (Sum.inl k) = _
      exact valV_neg ne
    rw [e2]
    exact valV_dkv (List.nodup_cons.mp hn).2 (by simpa using h1) (by simpa using h2)
theorem dkv_keys {ks : List Int} {xs : List V} (h : ks.length = xs.length) : ((dkv ks xs).map fun kv => kV kv.1) = ks.map V.int := by
  unfold dkv
  rw [List.map_map]
  have e : (fun kv : Key × V => kV kv.1) ∘ (fun p : Int × V => ((Sum.inl p.1 : Key), p.2)) = V.int ∘ Prod.fst := rfl
  rw [e, ← List.map_map, List.map_fst_zip (by omega)]
/-- the value behind a key -/
def atK (ks : List Int) (xs : List V) (x : V) : V := match x with
  | .int k => (valV (dkv ks xs) (Sum.inl k)).getD .non
  | _ => .non
theorem map_atK {ks : List Int} {xs : List V} (hn : ks.Nodup) (h : ks.length = xs.length) : (ks.map V.int).map (atK ks xs) = xs := by
  rw [List.map_map]
  apply List.ext_getElem?
  intro i
  rw [List.getElem?_map]
  cases g : ks[i]? with
  | none =>
    have : xs[i]? = none := by
      rw [List.getElem?_eq_none_iff] at g ⊢
      omega
    rw [this]
    rfl
  | some k =>
    have hi := (List.getElem?_eq_some_iff.mp g).1
    have g2 : xs[i]? = some (xs[i]'(by omega)) := List.getElem?_eq_getElem _
    rw [g2]
    show some ((valV (dkv ks xs) (Sum.inl k)).getD .non) = _
    rw [valV_dkv hn g g2]
    rfl
theorem valV_at {ks : List Int} {xs : List V} (hn : ks.Nodup) (h : ks.length = xs.length) {x : V} (hx : x ∈ ks.map V.int) : ∃ k, x = .int k ∧ valV (dkv ks xs) (Sum.inl k) = some (atK ks xs x) := by
  obtain ⟨k, hk, rfl⟩ := List.mem_map.mp hx
  obtain ⟨i, g⟩ := List.getElem?_of_mem hk
  have hi := (List.getElem?_eq_some_iff.mp g).1
  have g2 : xs[i]? = some (xs[i]'(by omega)) := List.getElem?_eq_getElem _
  have e := valV_dkv hn g g2
  refine ⟨k, rfl, ?_⟩
  show _ = some ((valV (dkv ks xs) (Sum.inl k)).getD .non)
  rw [e]
  rfl
/-! ### locks -/
theorem ex_lock {H H' : Hp} {d : Addr} {u o : HO} (hd : H d = some u) (e : Ex (upd H d o) H') : Ex H (upd H' d u) := fun a x ha => by
  by_cases z : a = d
  · subst z
    rw [upd_same, ← hd, ha]
  · rw [upd_ne z]
    exact e a x (by rw [upd_ne z]; exact ha)
theorem fresh_lock {H : Hp} {d p : Addr} {o : HO} (h : upd H d o p = none) : H p = none ∧ p ≠ d := by
  have z : p ≠ d := fun z => by
    rw [z, upd_same] at h
    cases h
  rw [upd_ne z] at h
  exact ⟨h, z⟩
theorem newAt_lock {H H' : Hp} {d : Addr} {u o : HO} {ts : List Addr} {us ws : List V} (h : NewAt (upd H d o) H' ts us ws) : NewAt H (upd H' d u) ts us ws := by
  obtain ⟨h1, h2, h3⟩ := h
  refine ⟨h1, fun j t x y g1 g2 g3 => ?_, fun t ht => (fresh_lock (h3 t ht)).1⟩
  rw [upd_ne (fresh_lock (h3 t (List.mem_of_getElem? g1))).2]
  exact h2 j t x y g1 g2 g3
theorem newAt_app {H H1 H2 : Hp} {ts ts' : List Addr} {us us' ws ws' : List V} (h : NewAt H H1 ts us ws) (e : Ex H1 H2) (h' : NewAt H H2 ts' us' ws') (l : us.length = ws.length) : NewAt H H2 (ts ++ ts') (us ++ us') (ws ++ ws') := by
  obtain ⟨a1, a2, a3⟩ := h
  obtain ⟨b1, b2, b3⟩ := h'
  refine ⟨by simp [a1, b1], fun j t x y g1 g2 g3 => ?_, fun t ht => (List.mem_append.mp ht).elim (a3 t) (b3 t)⟩
  by_cases hj : j < ts.length
  · rw [List.getElem?_append_left hj] at g1
    rw [List.getElem?_append_left (by omega)] at g2 g3
    exact e _ _ (a2 j t x y g1 g2 g3)
  · rw [List.getElem?_append_right (by omega)] at g1 g2 g3
    have l1 : j - us.length = j - ts.length := by omega
    have l2 : j - ws.length = j - ts.length := by omega
    rw [l1] at g2
    rw [l2] at g3
    exact b2 _ t x y g1 g2 g3
theorem newAt_back {H0 H H' : Hp} {ts : List Addr} {us ws : List V} (e : Ex H0 H) (h : NewAt H H' ts us ws) : NewAt H0 H' ts us ws := ⟨h.1, h.2.1, fun t ht => fresh_back e (h.2.2 t ht)⟩
theorem newAt_mono {H H1 H2 : Hp} {ts : List Addr} {us ws : List V} (e : Ex H1 H2) (h : NewAt H H1 ts us ws) : NewAt H H2 ts us ws := ⟨h.1, fun j t x y g1 g2 g3 => e _ _ (h.2.1 j t x y g1 g2 g3), h.2.2⟩
theorem s_retOp {r : R2} {ta tb : TE} {D : Ends} {σ : L2.St} {H : Hp} {x : V} (h : Ev ta σ H x) (k : ∀ H1, Ex H H1 → tb σ H1 fun y H2 => r x y H2 D.rt) : tRet (tOp r ta tb) D σ H := h H (Ex.refl H) _ k
section
variable {P : Program} {w : World} {K : PySem.W.Frag} {mg : Str → Option Value} {base : Heap}
abbrev s_part_pairs : Stmt := top 15
abbrev N_part_pairs : List Str := ["one", "other", "found", "part", "its"]
theorem sc_part_pairs : FnScope N_part_pairs ["one", "other"] (defScope s_part_pairs) := ⟨rfl, rfl, rfl, by decide +kernel, rfl, by decide +kernel, by decide +kernel⟩
theorem ok_part_pairs {f : Addr} {fd : FuncData} (F : Fun K "part_pairs" "part_pairs" s_part_pairs f fd) (B : Blt mg) : FnOk P w K mg base CX0 1 f fd ["one", "other"] (spParts K) := by
  refine F.ok sc_part_pairs (fun vs H Q E ⟨_, _, _, _, _, e, _⟩ => by rw [e]; rfl) (fun cdv A outer s H vs Q E hr h => ?_)
  obtain ⟨x, y, d, us, ws, rfl, rx, hp, hl, hn, k⟩ := h
  have hu := hu_of hr
  refine ⟨_, (pss_cons (ps_if (pt_val (p_isi rfl rfl B.isinstance B.dict bb_dict (pv 0)))
    (pss_cut (ps_alt (ps_lock (ps_lock (ps_setLc2 (i := 2) rfl sc_part_pairs.nd rfl rfl (sw_true rfl rfl rfl (by decide +kernel)) (pi_keys (pv 0)) (blkOk_by (own := [("part", 3), ("its", 4)]) (N := N_part_pairs) (sc := defScope s_part_pairs) (by decide +kernel)) (vs1 := [4]) (by decide) (fun _ _ _ _ _ => (pg_name (i := 3) sc_part_pairs.nd rfl (Or.inl rfl) (Or.inr rfl))) (fun _ _ _ _ _ => pts_nil) (fun _ _ _ _ _ => (pi_keys (pv 1))) (fun _ _ _ _ _ => (pg_name (i := 4) sc_part_pairs.nd rfl (Or.inl rfl) (Or.inr rfl))) (fun _ _ _ _ _ => (pts_one (pt_cmpR op_eq (pv 3) (pv 4) (nomark _)))) (fun _ _ _ _ _ => (pe_tup (pa_cons (pv 3) (pa_cons (pv 4) pa_nil))))))) (ps_lock (ps_setLc2 (i := 2) rfl sc_part_pairs.nd rfl rfl (sw_true rfl rfl rfl (by decide +kernel)) (pi_keys (pv 0)) (blkOk_by (own := [("part", 3), ("its", 4)]) (N := N_part_pairs) (sc := defScope s_part_pairs) (by decide +kernel)) (vs1 := [4]) (by decide) (fun _ _ _ _ _ => (pg_name (i := 3) sc_part_pairs.nd rfl (Or.inl rfl) (Or.inr rfl))) (fun _ _ _ _ _ => pts_nil) (fun _ _ _ _ _ => (pi_keys (pv 1))) (fun _ _ _ _ _ => (pg_name (i := 4) sc_part_pairs.nd rfl (Or.inl rfl) (Or.inr rfl))) (fun _ _ _ _ _ => (pts_one (pt_cmpR op_eq (pv 3) (pv 4) (nomark _)))) (fun _ _ _ _ _ => (pe_tup (pa_cons (pv 3) (pa_cons (pv 4) pa_nil)))))))
      (pss_one (ps_lock (ps_ret (pe_op op_cat (pv 2) (pe_lc rfl sc_part_pairs.nd (pi_keys (pv 0)) (blkOk_by (own := [("part", 3)]) (N := N_part_pairs) (sc := defScope s_part_pairs) (by decide +kernel)) (fun _ _ _ _ _ => (pg_name (i := 3) sc_part_pairs.nd rfl (Or.inl rfl) (Or.inr rfl))) (fun _ _ _ _ _ => pts_nil) (fun _ _ _ _ _ => (pe_tup (pa_cons (pe_dget hu (pv 0) (pv 3) (fun _ _ => rfl)) (pa_cons (pe_dget hu (pv 1) (pv 3) (fun _ _ => rfl)) pa_nil)))))))))
      )
    pss_nil)
  (pss_one (ps_ret (pe_ifExp (pt_val (p_isi2 rfl rfl rfl B.isinstance B.tuple B.list bb_tuple bb_list (pv 0))) (p_listzip rfl rfl B.list B.zip rfl (pa_cons (pv 0) (pa_cons (pv 1) pa_nil))) (pe_lst pa_nil))))), ?_⟩
  refine q_when (et_B (ev_isi (ev_var rfl) rx (kit_dict _ _))) (fun hb H1 e1 => ?_) (fun hb H1 e1 => ?_)
  · have hp1 := hp.mono e1
    cases hp1 with
    | lst h1 h2 => cases hb
    | tup h1 h2 => cases hb
    | flat h =>
      exfalso
      revert h hb
      cases d <;> intro h hb <;> first | (cases h; done) | (cases hb; done)
    | dic h1 h2 l1 l2 nd =>
      rename_i a b ks ds xs ys
      have hz : ks.length ≤ 2000 := by
        have : (ks.map V.int ++ xs).length ≤ 2000 := hn
        simp only [List.length_append, List.length_map] at this
        omega
      have hk : ∀ {c : Addr} {o : Obj} {zs : List V}, ks.length = zs.length → ∀ {G : Hp}, G c = some (.frz o (.dK (dkv ks zs))) → Flat (Itk c o (dkv ks zs)) G (ks.map V.int) := fun l _ g => dkv_keys l ▸ flat_keys g
      have same : ∀ {σ : L2.St} {G : Hp} {m n : Nat} {i j : Int}, σ[m]? = some (some (.int i)) → σ[n]? = some (some (.int j)) → EvT (tTest (tOp rEq (tVar m) (tVar n))) σ G (decide (i = j)) := fun {σ G m n i j} g1 g2 => et_is (et_test (ev_op (ev_var g1) (ev_var g2) (rv_eq rfl))) (by
        by_cases z : i = j
        · rw [z, decide_eq_true rfl, decide_eq_true rfl]
        · rw [decide_eq_false z, decide_eq_false fun y => z (V.int.inj y)])
      have pair : ∀ {σ : L2.St} {G : Hp} {m n : Nat} {u v : V}, σ[m]? = some (some u) → σ[n]? = some (some v) → EvU (tTup (tCons (tVar m) (tCons (tVar n) tNil))) σ G [u, v] := fun g1 g2 => eu_tup (ea_cons (ev_var g1) (ea_cons (ev_var g2) ea_nil)) (by simp)
      refine q_cut (M := fun σ' H' => ∃ p ts, σ' = [some (.ref a), some (.ref b), some (.ref p), none, none] ∧ H1 p = none ∧ Ex H1 H' ∧ H' p = some (.lst (ts.map V.ref)) ∧ NewAt H1 H' ts (ks.map V.int) (ks.map V.int) ∧ ∀ t ∈ ts, t ≠ p) ?_ ?_
      · by_cases hab : a = b
        · subst hab
          refine .inr ⟨a, _, h1, trivial, fun od => ?_⟩
          refine el_keys2 (H := upd H1 a (.frz od (.dK (dkv ks xs)))) (w_keys (ev_var rfl) upd_same) (hk l1 upd_same) (hk l1 upd_same) nd (by omega) (fun x H3 e3 => w_keys (ev_var rfl) (e3 _ _ upd_same) H3 (Ex.refl _)) (fun x => rfl) (fun x y => rfl) (fun i j => same rfl rfl) (fun i j => pair rfl rfl) _ (Ex.refl _) _ fun p H2 ts hp e2 h2p hN ht => ?_
          obtain ⟨p0, pa⟩ := fresh_lock hp
          exact ⟨e2 _ _ upd_same, p, ts, rfl, p0, ex_lock h1 e2, by rw [upd_ne pa]; exact h2p, newAt_lock hN, ht⟩
        · refine .inl ⟨a, _, h1, trivial, fun od => ⟨b, _, (upd_ne (Ne.symm hab)).trans h2, trivial, fun od2 => ?_⟩⟩
          have ha2 : upd (upd H1 a (.frz od (.dK (dkv ks xs)))) b (.frz od2 (.dK (dkv ks ys))) a = some (.frz od (.dK (dkv ks xs))) := by rw [upd_ne hab, upd_same]
          refine el_keys2 (H := upd (upd H1 a (.frz od (.dK (dkv ks xs)))) b (.frz od2 (.dK (dkv ks ys)))) (w_keys (ev_var rfl) ha2) (hk l1 ha2) (hk l2 upd_same) nd (by omega) (fun x H3 e3 => w_keys (ev_var rfl) (e3 _ _ upd_same) H3 (Ex.refl _)) (fun x => rfl) (fun x y => rfl) (fun i j => same rfl rfl) (fun i j => pair rfl rfl) _ (Ex.refl _) _ fun p H2 ts hp e2 h2p hN ht => ?_
          obtain ⟨p1, pb⟩ := fresh_lock hp
          obtain ⟨p0, pa⟩ := fresh_lock p1
          have e3 := ex_lock ((upd_ne (Ne.symm hab)).trans h2) e2
          exact ⟨e2 _ _ upd_same, e3 _ _ upd_same, p, ts, rfl, p0, ex_lock h1 e3, by rw [upd_ne pa, upd_ne pb]; exact h2p, newAt_lock (newAt_lock hN), ht⟩
      · rintro _ H2 ⟨p, ts, rfl, p0, e2, h2p, hN, ht⟩
        have h1' := e2 _ _ h1
        have h2' := e2 _ _ h2
        refine ⟨a, _, h1', trivial, fun od => ?_⟩
        have pa : p ≠ a := (ne_of_none h1 p0).symm
        refine s_retOp (ev_var rfl) fun H4 e4 => ?_
        have ha4 := e4 _ _ (upd_same : upd H2 a (.frz od (.dK (dkv ks xs))) a = _)
        have hb4 : Rd H4 b (.dK (dkv ks ys)) := by
          by_cases hab : a = b
          · subst hab
            have : dkv ks xs = dkv ks ys := HO.dK.inj (Option.some.inj (h1.symm.trans h2))
            rw [← this]
            exact .inr ⟨od, ha4⟩
          · exact .inl (e4 _ _ (by rw [upd_ne (Ne.symm hab)]; exact h2'))
        refine el_pairs (H := H4) (atK ks xs) (atK ks ys) (w_keys (ev_var rfl) ha4) (hk l1 ha4) (by simp; omega) (fun x => rfl) (fun x hx => ?_) _ (Ex.refl _) _ fun q H3 ts' hq e3 h3q hN' ht' => ?_
        · obtain ⟨c, rfl, g1⟩ := valV_at nd l1 hx
          obtain ⟨c', z, g2⟩ := valV_at nd l2 hx
          cases z
          exact eu_tup (ea_cons (ev_dget (ev_var rfl) (ev_var rfl) (.inr ⟨od, ha4⟩) g1) (ea_cons (ev_dget (ev_var rfl) (ev_var rfl) hb4 g2) ea_nil)) (by simp)
        · rw [map_atK nd l1, map_atK nd l2] at hN'
          have h3p : H3 p = some (.lst (ts.map V.ref)) := e3 _ _ (e4 _ _ (by rw [upd_ne pa]; exact h2p))
          have szz : (ts.map V.ref).length + (ts'.map V.ref).length ≤ sizeLine := by
            have n1 := hN.1
            have n2 := hN'.1
            simp only [List.length_map] at n1 ⊢
            exact Nat.le_trans (show ts.length + ts'.length ≤ 10000 by omega) (by decide)
          refine ⟨p, q, ts.map V.ref, ts'.map V.ref, rfl, rfl, h3p, h3q, szz, fun r hr => ?_⟩
          have hr2 := fresh_lock (fresh_back (e4.trans e3) hr)
          have hr1 := fresh_back e2 hr2.1
          have e3r : Ex H3 (upd H3 r (.lst (ts.map V.ref ++ ts'.map V.ref))) := Ex.new hr
          have e2f := ex_lock h1' ((e4.trans e3).trans e3r)
          refine ⟨e3r _ _ (e3 _ _ ha4), k r _ (ts ++ ts') (fresh_back e1 hr1) (e1.trans (e2.trans e2f)) ?_ (newAt_back e1 (newAt_app hN e2f (newAt_back e2 (newAt_lock (newAt_mono e3r (newAt_back e4 hN')))) rfl)) fun t ht2 z => ?_⟩
          · rw [upd_ne hr2.2, upd_same, List.map_append]
          · subst z
            rcases List.mem_append.mp ht2 with m | m
            · obtain ⟨j, g⟩ := List.getElem?_of_mem m
              have hj := (List.getElem?_eq_some_iff.mp g).1
              have l : j < (ks.map V.int).length := by rw [← hN.1]; exact hj
              have := hN.2.1 j t _ _ g (List.getElem?_eq_getElem l) (List.getElem?_eq_getElem l)
              rw [hr2.1] at this
              cases this
            · obtain ⟨j, g⟩ := List.getElem?_of_mem m
              have hj := (List.getElem?_eq_some_iff.mp g).1
              have := hN'.2.1 j t _ _ g (List.getElem?_eq_getElem (by rw [← hN'.1]; exact hj)) (List.getElem?_eq_getElem (by rw [← l2, l1, ← hN'.1]; exact hj))
              rw [hr] at this
              cases this
  · have both : ∀ {us ws : List V} {x y : V} {H : Hp} {Q : VK}, SeqX K H x us → SeqX K H y ws → us.length = ws.length → (∀ p H' ts, H p = none → Ex H H' → H' p = some (.lst (ts.map V.ref)) → NewAt H H' ts us ws → (∀ t ∈ ts, t ≠ p) → Q (.ref p) H') → kZip K x y H Q := fun h1 h2 l k => ⟨_, _, h1, h2, fun p H' ts g1 g2 g3 g4 g5 g6 => k p H' ts g1 g2 g3 ⟨by omega, g5, fun t ht => (g6 t ht).1⟩ fun t ht => (g6 t ht).2⟩
    refine ev_if' (et_B (ev_isi2 (ev_var rfl) (rx.mono e1) (kit_tuple _ _) (kit_list _ _))) (fun ht H2 e2 => ?_) (fun ht H2 e2 => ?_)
    · refine ea_cons (ev_var rfl) (ea_cons (ev_var rfl) ea_nil) H2 (Ex.refl H2) _ fun H3 e3 => ⟨x, y, rfl, ?_⟩
      have e13 := (e1.trans e2).trans e3
      have hp1 := hp.mono e13
      cases hp1 with
      | lst h1 h2 => exact both h1 h2 hl fun p H' ts g1 g2 g3 g4 g5 => k p H' ts (fresh_back e13 g1) (e13.trans g2) g3 (newAt_back e13 g4) g5
      | tup h1 h2 => exact both h1 h2 hl fun p H' ts g1 g2 g3 g4 g5 => k p H' ts (fresh_back e13 g1) (e13.trans g2) g3 (newAt_back e13 g4) g5
      | flat h =>
        exfalso
        revert h ht
        cases d <;> intro h ht <;> first | (cases h; done) | (cases ht; done)
      | dic h1 h2 l1 l2 nd => cases hb
    · have e12 := e1.trans e2
      have hp1 := hp.mono e12
      cases hp1 with
      | lst h1 h2 => cases ht
      | tup h1 h2 => cases ht
      | dic h1 h2 l1 l2 nd => cases hb
      | flat h =>
        refine el_lst ea_nil (by simp) H2 (Ex.refl H2) _ fun p H3 hp3 e3 h3 => k p H3 [] (fresh_back e12 hp3) (e12.trans e3) h3 ⟨rfl, fun j t x y g => (by simp at g), fun t ht => (by cases ht)⟩ fun t ht => (by cases ht)
end
end K5
namespace K5
open PySem PySem.Spec PyProof.Rows L2 Evl KZ RZ
/-- the same, kind by kind -/
noncomputable def sm (d e : D) : Bool := @decide (d = e) (Classical.propDecidable _)
theorem sm_t {d e : D} (h : d = e) : sm d e = true := @decide_eq_true _ (Classical.propDecidable _) h
theorem sm_f {d e : D} (h : d ≠ e) : sm d e = false := @decide_eq_false _ (Classical.propDecidable _) h
theorem sm_iff {d e : D} : sm d e = true ↔ d = e := ⟨fun h => @of_decide_eq_true _ (Classical.propDecidable _) h, sm_t⟩
theorem eqvA_len : ∀ {xs ys : List D}, eqvA xs ys = true → xs.length = ys.length
  | [], [], _ => rfl
  | [], _ :: _, h => by simp [eqvA] at h
  | _ :: _, [], h => by simp [eqvA] at h
  | x :: xs, y :: ys, h => by
    rw [eqvA] at h
    rw [List.length_cons, List.length_cons, eqvA_len (Bool.and_eq_true_iff.mp h).2]
theorem rpA_ints {K : PySem.W.Frag} {H : Hp} : ∀ ks : List Int, RpA K H (ks.map V.int) (ks.map D.int)
  | [] => .nil
  | k :: ks => .cons (.int k) (rpA_ints ks)
theorem wtA_app : ∀ {ds es : List D}, wtA (ds ++ es) = wtA ds + wtA es
  | [], es => by simp [wtA]
  | d :: ds, es => by
    rw [List.cons_append, wtA, wtA, wtA_app]
    omega
theorem wtA_ints : ∀ ks : List Int, wtA (ks.map D.int) = ks.length
  | [] => rfl
  | k :: ks => by
    rw [List.map_cons, wtA, wtA_ints, List.length_cons, show wt (.int k) = 1 by simp [wt]]
    omega
theorem depA_app : ∀ {ds es : List D}, depA (ds ++ es) = max (depA ds) (depA es)
  | [], es => by simp [depA]
  | d :: ds, es => by
    rw [List.cons_append, depA, depA, depA_app]
    omega
theorem depA_ints : ∀ ks : List Int, depA (ks.map D.int) = 0
  | [] => rfl
  | k :: ks => by
    rw [List.map_cons, depA, depA_ints, show dep (.int k) = 0 by simp [dep]]
    rfl
theorem wt_pos : ∀ d : D, 1 ≤ wt d
  | .non | .bl _ | .int _ | .str _ => Nat.le_refl _
  | .tup _ => by rw [wt]; omega
  | .lst _ => by rw [wt]; omega
  | .dic _ _ => by rw [wt]; omega
theorem wtA_len : ∀ ds : List D, ds.length ≤ wtA ds
  | [] => Nat.le_refl _
  | d :: ds => by
    have := wt_pos d
    have := wtA_len ds
    rw [List.length_cons, wtA]
    omega
theorem parts_of {K : PySem.W.Frag} {H : Hp} {x y : V} {d e : D} (sx : Rp K H x d) (sy : Rp K H y e) (okd : Ok d) (oke : Ok e) (hs : sortD d = sortD e) (hq : eqv d e = true) :
    ∃ us ws ds es, PartsV K H d x y us ws ∧ us.length = ws.length ∧ RpA K H us ds ∧ RpA K H ws es ∧ (ds = es ↔ d = e) ∧ wtA ds + 1 ≤ wt d ∧ (∀ d' ∈ ds, Ok d') ∧ (∀ e' ∈ es, Ok e') ∧ depA ds ≤ dep d := by
  have none_ : isSeq d = false → d = e → ∃ us ws ds es, PartsV K H d x y us ws ∧ us.length = ws.length ∧ RpA K H us ds ∧ RpA K H ws es ∧ (ds = es ↔ d = e) ∧ wtA ds + 1 ≤ wt d ∧ (∀ d' ∈ ds, Ok d') ∧ (∀ e' ∈ es, Ok e') ∧ depA ds ≤ dep d :=
    fun h z => ⟨[], [], [], [], .flat h, rfl, .nil, .nil, ⟨fun _ => z, fun _ => rfl⟩, wt_pos d, (fun _ m => by cases m), (fun _ m => by cases m), Nat.zero_le _⟩
  cases sx with
  | non => cases sy <;> first | exact none_ rfl rfl | exact absurd hs (by decide +kernel) | (simp [eqv] at hq)
  | bl b =>
    cases sy with
    | bl c =>
      have : b = c := by simpa [eqv] using hq
      exact none_ rfl (by rw [this])
    | _ => exact absurd hs (by simp only [sortD]; decide +kernel)
  | int i =>
    cases sy with
    | int j =>
      have : i = j := by simpa [eqv] using hq
      exact none_ rfl (by rw [this])
    | non => simp [eqv] at hq
    | str s => simp [eqv] at hq
    | _ => exact absurd hs (by simp only [sortD]; decide +kernel)
  | str s =>
    cases sy with
    | str t =>
      have : s = t := by simpa [eqv] using hq
      exact none_ rfl (by rw [this])
    | non => simp [eqv] at hq
    | int j => simp [eqv] at hq
    | _ => exact absurd hs (by simp only [sortD]; decide +kernel)
  | lst h r =>
    cases sy with
    | lst h2 r2 =>
      have l := eqvA_len (show eqvA _ _ = true from hq)
      cases okd with
      | lst okd =>
        cases oke with
        | lst oke => exact ⟨_, _, _, _, .lst ⟨_, rfl, .inl h⟩ ⟨_, rfl, .inl h2⟩, by rw [r.len, r2.len, l], r, r2, ⟨fun z => by rw [z], fun z => D.lst.inj z⟩, by rw [wt]; omega, okd, oke, by rw [dep]; omega⟩
    | _ => exact absurd hs (by simp only [sortD]; decide +kernel)
  | tup h r =>
    cases sy with
    | tup h2 r2 =>
      have l := eqvA_len (show eqvA _ _ = true from hq)
      cases okd with
      | tup okd =>
        cases oke with
        | tup oke => exact ⟨_, _, _, _, .tup ⟨_, rfl, .inr h⟩ ⟨_, rfl, .inr h2⟩, by rw [r.len, r2.len, l], r, r2, ⟨fun z => by rw [z], fun z => D.tup.inj z⟩, by rw [wt]; omega, okd, oke, by rw [dep]; omega⟩
    | _ => exact absurd hs (by simp only [sortD]; decide +kernel)
  | dic h l r =>
    cases sy with
    | dic h2 l2 r2 =>
      cases okd with
      | dic okd n1 nd ik =>
        cases oke with
        | dic oke n2 nd2 ik2 =>
          rename_i a ks xs ds b ls ys es
          have ll : ds.length = es.length := by
            rw [eqv] at hq
            have := (Bool.and_eq_true_iff.mp hq).1
            have := of_decide_eq_true this
            omega
          have hk : ks = ls := by rw [ik, ik2, ll]
          subst hk
          refine ⟨_, _, _, _, .dic h h2 l l2 nd, by simp [← l, ← l2], (rpA_ints ks).app r, (rpA_ints ks).app r2, ⟨fun z => ?_, fun z => ?_⟩, ?_, fun d' m => ?_, fun d' m => ?_, ?_⟩
          · rw [List.append_cancel_left z]
          · rw [(D.dic.inj z).2]
          · rw [wtA_app, wtA_ints, wt]
            omega
          · rcases List.mem_append.mp m with m | m
            · obtain ⟨i, _, rfl⟩ := List.mem_map.mp m
              exact .int i
            · exact okd d' m
          · rcases List.mem_append.mp m with m | m
            · obtain ⟨i, _, rfl⟩ := List.mem_map.mp m
              exact .int i
            · exact oke d' m
          · rw [depA_app, depA_ints, dep]
            omega
    | _ => exact absurd hs (by simp only [sortD]; decide +kernel)
end K5
namespace K5
open PySem PySem.Spec PyProof.Rows L2 Evl KZ RZ
theorem rpA_snoc {K : PySem.W.Frag} {H : Hp} : ∀ {us : List V} {u : V} {ds : List D}, RpA K H (us ++ [u]) ds → ∃ ds' d, ds = ds' ++ [d] ∧ RpA K H us ds' ∧ Rp K H u d
  | [], u, _, .cons h .nil => ⟨[], _, rfl, .nil, h⟩
  | v :: us, u, _, .cons h r => by
    obtain ⟨ds', d, rfl, r1, r2⟩ := rpA_snoc r
    exact ⟨_ :: ds', d, rfl, .cons h r1, r2⟩
theorem snoc_of {α : Type} {l : List α} (h : 0 < l.length) : ∃ l' a, l = l' ++ [a] := by
  rcases List.eq_nil_or_concat l with z | ⟨l', a, z⟩
  · rw [z] at h
    cases h
  · exact ⟨l', a, by simpa using z⟩
theorem et_list {K : PySem.W.Frag} {σ : L2.St} {H : Hp} {ta : TE} {p : Addr} {xs : List V} (h : Ev ta σ H (.ref p)) (hs : SqL K H p xs) : EvT (fun σ H Q => ta σ H fun x H' => ∃ k, TruV K x H' k ∧ Q k H') σ H (!xs.isEmpty) := fun H1 e Q q =>
  h H1 e _ fun H2 e2 => ⟨_, .inl ⟨xs, ex_l (e.trans e2) hs, rfl⟩, q H2 e2⟩
/-- a line of couples -/
structure Ln (K : PySem.W.Frag) (H H' : Hp) (p : Addr) (ts : List Addr) (us ws : List V) (ds es : List D) : Prop where
  hl : H' p = some (.lst (ts.map V.ref))
  tl : ts.length = us.length
  wl : us.length = ws.length
  pa : PairsAt H' ts us ws
  ne : ∀ t ∈ ts, t ≠ p
  ru : RpA K H us ds
  rw : RpA K H ws es
  okd : ∀ d ∈ ds, Ok d
  oke : ∀ e ∈ es, Ok e
  dd : depA ds ≤ 60
theorem pairsAt_app {H : Hp} {ts ts' : List Addr} {us us' ws ws' : List V} (h : PairsAt H ts us ws) (h' : PairsAt H ts' us' ws') (l : ts.length = us.length) (l2 : us.length = ws.length) : PairsAt H (ts ++ ts') (us ++ us') (ws ++ ws') := fun j t x y g1 g2 g3 => by
  by_cases hj : j < ts.length
  · rw [List.getElem?_append_left hj] at g1
    rw [List.getElem?_append_left (by omega)] at g2 g3
    exact h j t x y g1 g2 g3
  · rw [List.getElem?_append_right (by omega)] at g1 g2 g3
    have l1 : j - us.length = j - ts.length := by omega
    have l3 : j - ws.length = j - ts.length := by omega
    rw [l1] at g2
    rw [l3] at g3
    exact h' _ t x y g1 g2 g3
theorem pairsAt_left {H : Hp} {ts ts' : List Addr} {us us' ws ws' : List V} (h : PairsAt H (ts ++ ts') (us ++ us') (ws ++ ws')) (l : ts.length = us.length) (l2 : us.length = ws.length) : PairsAt H ts us ws := fun j t x y g1 g2 g3 => by
  have hj := (List.getElem?_eq_some_iff.mp g1).1
  exact h j t x y (by rw [List.getElem?_append_left hj]; exact g1) (by rw [List.getElem?_append_left (by omega)]; exact g2) (by rw [List.getElem?_append_left (by omega)]; exact g3)
theorem pairsAt_last {H : Hp} {ts : List Addr} {us ws : List V} {t : Addr} {u w : V} (h : PairsAt H (ts ++ [t]) (us ++ [u]) (ws ++ [w])) (l : ts.length = us.length) (l2 : us.length = ws.length) : H t = some (.tup [u, w]) :=
  h ts.length t u w (by simp) (by simp [l]) (by simp [l, l2])
def spSort (K : PySem.W.Frag) : Sp := fun vs H Q _ => ∃ x d, vs = [x] ∧ Rp K H x d ∧ RetV (.str (sortD d)) H Q
theorem spv_sort {K : PySem.W.Frag} {H : Hp} {x : V} {d : D} (r : Rp K H x d) : SpV (spSort K) [x] H (.str (sortD d)) := fun H1 e Q q E => ⟨x, d, rfl, r.mono e, q⟩
def spSame (K : PySem.W.Frag) : Sp := fun vs H Q _ => ∃ x y d e, vs = [x, y] ∧ Rp K H x d ∧ Rp K H y e ∧ Ok d ∧ Ok e ∧ dep d ≤ 60 ∧ wt d ≤ 1000 ∧ RetV (.bl (sm d e)) H Q
theorem spv_same {K : PySem.W.Frag} {H : Hp} {x y : V} {d e : D} (r : Rp K H x d) (r2 : Rp K H y e) (ok : Ok d) (ok2 : Ok e) (h1 : dep d ≤ 60) (h2 : wt d ≤ 1000) : SpV (spSame K) [x, y] H (.bl (sm d e)) := fun H1 e Q q E => ⟨x, y, d, _, rfl, r.mono e, r2.mono e, ok, ok2, h1, h2, q⟩
theorem q_lst1 {te : TE} {tz : TS} {D : Ends} {σ : L2.St} {H : Hp} {i : Nat} {xs : List V} (h : EvU te σ H xs) (k : ∀ t p H1, H t = none → H p = none → t ≠ p → Ex H H1 → H1 t = some (.tup xs) → H1 p = some (.lst [.ref t]) → tz D (σ.set i (some (.ref p))) H1) :
    tSeq (tAsg (tLst (tCons te tNil)) (gName i)) tz D σ H := h H (Ex.refl H) _ fun t H1 ht e h1 => ⟨sz_of (by simp), fun p hp => k t p _ ht (fresh_back e hp) (ne_of_none h1 hp) (e.trans (Ex.new hp)) (by rw [upd_ne (ne_of_none h1 hp)]; exact h1) upd_same⟩
section
variable {P : Program} {w : World} {K : PySem.W.Frag} {mg : Str → Option Value} {base : Heap}
abbrev s_are_same : Stmt := top 16
abbrev N_are_same : List Str := ["one", "other", "line", "mine", "its"]
theorem sc_are_same : FnScope N_are_same ["one", "other"] (defScope s_are_same) := ⟨rfl, rfl, rfl, by decide +kernel, rfl, by decide +kernel, by decide +kernel⟩
theorem ok_are_same {f : Addr} {fd : FuncData} (F : Fun K "are_same" "are_same" s_are_same f fd) (B : Blt mg) (C_sort_of : Cal P w K mg base 1 "sort_of" ["thing"] (spSort K)) (C_part_pairs : Cal P w K mg base 1 "part_pairs" ["one", "other"] (spParts K)) :
    FnOk P w K mg base CX0 2 f fd ["one", "other"] (spSame K) := by
  refine F.ok sc_are_same (fun vs H Q E ⟨_, _, _, _, e, _⟩ => by rw [e]; rfl) (fun cdv A outer s H vs Q E hr h => ?_)
  obtain ⟨x, y, d, e, rfl, rx, ry, ok, ok2, hd, hw, k⟩ := h
  refine ⟨_, (pss_cons (ps_set (i := 2) sc_are_same.nd rfl (Or.inl rfl) (pe_lst (pa_cons (pe_tup (pa_cons (pv 0) (pa_cons (pv 1) pa_nil))) pa_nil)))
  (pss_cons (ps_while PassesOwn.never (pt_truth (pv 2) (by intro _; rfl))
    (pss_cons (ps_asg (pe_bm0 PySem.F.plainAttrs_list PySem.F.slot_list_pop PySem.F.type_list_pop mt_pop (pv 2)) (pg_names2 (K := K) rfl rfl (pg_name (i := 3) sc_are_same.nd rfl (Or.inl rfl) (Or.inr rfl)) (pg_name (i := 4) sc_are_same.nd rfl (Or.inl rfl) (Or.inr rfl))))
  (pss_cons (ps_if (PW.pt (pw_or (pt_cmpR op_ne (pcal C_sort_of hr (by decide) rfl (pa_cons (pv 3) pa_nil)) (pcal C_sort_of hr (by decide) rfl (pa_cons (pv 4) pa_nil)) (nomark _)) (pw_or1 (pt_cmpR (op_neZ hr.units) (pv 3) (pv 4) (nomark _)))))
    (pss_one (ps_ret pe_bl))
    pss_nil)
  (pss_one (ps_expr (pe_bm PySem.F.plainAttrs_list PySem.F.slot_list_extend PySem.F.type_list_extend mt_extend (pv 2) (pa_cons (pcal C_part_pairs hr (by decide) rfl (pa_cons (pv 3) (pa_cons (pv 4) pa_nil))) pa_nil)))))))
  (pss_one (ps_ret pe_bl)))), ?_⟩
  refine q_lst1 (eu_tup (ea_cons (ev_var rfl) (ea_cons (ev_var rfl) ea_nil)) (by simp)) fun t0 p0 H0 ht0 hp0 hne0 e0 h0t h0p => ?_
  refine q_while (fun m σ' H' => ∃ o3 o4 ts us ws ds es, σ' = [some x, some y, some (.ref p0), o3, o4] ∧ Ex H H' ∧ Ln K H H' p0 ts us ws ds es ∧ wtA ds = m ∧ m ≤ 1000 ∧ (ds = es ↔ d = e)) (wt d)
    ⟨none, none, [t0], [x], [y], [d], [e], rfl, e0, ⟨h0p, rfl, rfl, fun j t a b g1 g2 g3 => ?_, fun t ht => by rw [List.mem_singleton.mp ht]; exact hne0, .cons rx .nil, .cons ry .nil, fun d' m => by rw [List.mem_singleton.mp m]; exact ok, fun d' m => by rw [List.mem_singleton.mp m]; exact ok2, by rw [depA, depA]; omega⟩, by rw [wtA, wtA]; omega, hw, ⟨fun z => (List.cons.inj z).1, fun z => by rw [z]⟩⟩ ?_
  · cases j with
    | zero =>
      simp at g1 g2 g3
      subst g1 g2 g3
      exact h0t
    | succ j => simp at g1
  rintro m _ H' ⟨o3, o4, ts, us, ws, ds, es, rfl, e1, ln, rfl, hm, iff1⟩
  refine ⟨!(ts.map V.ref).isEmpty, et_list (ev_var rfl) (.inl (.inl ln.hl)), fun hb H1 e2 => ?_, fun hb H1 e2 => ?_⟩
  · have hpos : 0 < ts.length := by
      cases ts with
      | nil => simp at hb
      | cons _ _ => simp
    have tl := ln.tl
    have wl := ln.wl
    obtain ⟨ts, t, rfl⟩ := snoc_of hpos
    obtain ⟨us, u, rfl⟩ := snoc_of (l := us) (by omega)
    obtain ⟨ws, v, rfl⟩ := snoc_of (l := ws) (by omega)
    obtain ⟨ds, du, rfl, rus, ru⟩ := rpA_snoc ln.ru
    obtain ⟨es, ev, rfl, rws, rv⟩ := rpA_snoc ln.rw
    have tl' : ts.length = us.length := by simpa using tl
    have wl' : us.length = ws.length := by simpa using wl
    have hpt : p0 ≠ t := (ln.ne t (by simp)).symm
    have h1p := e2 _ _ ln.hl
    have h1t := e2 _ _ (pairsAt_last ln.pa tl' wl')
    have okd := ln.okd du (by simp)
    have oke := ln.oke ev (by simp)
    have dd : dep du ≤ 60 := by
      have := ln.dd
      rw [depA_app, depA, depA] at this
      omega
    have hwt : wtA (ds ++ [du]) = wtA ds + wt du := by
      rw [wtA_app, wtA, wtA]
      omega
    refine ⟨fun σ' H' => ∃ m', m' < wtA (ds ++ [du]) ∧ ∃ o3 o4 ts us ws ds es, σ' = [some x, some y, some (.ref p0), o3, o4] ∧ Ex H H' ∧ Ln K H H' p0 ts us ws ds es ∧ wtA ds = m' ∧ m' ≤ 1000 ∧ (ds = es ↔ d = e), fun _ _ h => h, ?_⟩
    refine ⟨.ref p0, rfl, .inl ⟨rfl, _, .inl (.inl h1p)⟩, p0, _, .ref t, rfl, rfl, h1p, by simp, t, [u, v], rfl, .inl (.inl (by rw [upd_ne hpt.symm]; exact h1t)), rfl, u, [v], rfl, v, [], rfl, rfl, ?_⟩
    have e3 : Ex H (upd H1 p0 (.lst ((ts ++ [t]).map V.ref).dropLast)) := Ex.mut (e1.trans e2) hp0
    refine q_when (b := !decide (V.str (sortD du) = V.str (sortD ev)) || !eqv du ev) (et_or (et_test (ev_op (ev_call0 (ea_cons (ev_var rfl) ea_nil) (spv_sort (ru.mono e3))) (ev_call0 (ea_cons (ev_var rfl) ea_nil) (spv_sort (rv.mono e3))) (rv_ne rfl))) (fun hc => et_test (ev_op (ev_var rfl) (ev_var rfl) (rv_neZ (ru.mono e3) (rv.mono e3) okd dd ?_)))) (fun hc H3 e4 => ?_) (fun hc H3 e4 => ?_)
    · have hs : sortD du = sortD ev := by
        have := of_decide_eq_true (by simpa using hc : decide (V.str (sortD du) = V.str (sortD ev)) = true)
        exact V.str.inj this
      revert hs
      cases du <;> cases ev <;> intro hs <;> first | rfl | exact absurd hs (by simp only [sortD]; decide +kernel)
    · have hne : du ≠ ev := fun z => by
        subst z
        rw [eqv_refl okd] at hc
        simp at hc
      have hne2 : d ≠ e := fun z => hne (by
        have := iff1.mpr z
        exact (List.append_inj' this rfl).2 |> List.cons.inj |>.1)
      rw [sm_f hne2] at k
      exact s_ret ev_c fun H4 e5 => k H4 ((e3.trans e4).trans e5)
    · obtain ⟨c1, c2⟩ := Bool.or_eq_false_iff.mp hc
      have hs : sortD du = sortD ev := by
        have := of_decide_eq_true (by simpa using c1 : decide (V.str (sortD du) = V.str (sortD ev)) = true)
        exact V.str.inj this
      have hq : eqv du ev = true := by simpa using c2
      have e03 := e3.trans e4
      obtain ⟨us2, ws2, ds2, es2, pv2, l2, r2, r2', iff2, hw2, ok3, ok4, dd2⟩ := parts_of ru rv okd oke hs hq
      have l2z : us2.length ≤ 2000 := by
        have := wtA_len ds2
        have := r2.len
        omega
      have h3p : H3 p0 = some (.lst (ts.map V.ref)) := by
        have := e4 p0 _ (upd_same : upd H1 p0 (.lst ((ts ++ [t]).map V.ref).dropLast) p0 = _)
        rw [this, List.map_append]
        simp
      have h3t : ∀ r o, r ≠ p0 → H' r = some o → H3 r = some o := fun r o hr h => e4 _ _ (by rw [upd_ne hr]; exact e2 _ _ h)
      refine ⟨.ref p0, rfl, .inl ⟨rfl, _, .inl (.inl h3p)⟩, u, rfl, v, rfl, u, v, du, us2, ws2, rfl, ru.mono e03, pv2.mono e03, l2, l2z, fun q H4 ts2 hq4 e5 h4q hN hne => ?_⟩
      have h4p := e5 _ _ h3p
      have len1 := wtA_len ds
      have len2 := ln.ru.len
      have len3 := rus.len
      have len4 := r2.len
      have len5 := wtA_len ds2
      have pne : ∀ r ∈ ts2, r ≠ p0 := fun r m z => by
        have := hN.2.2 r m
        rw [z, h3p] at this
        cases this
      refine ⟨p0, q, ts.map V.ref, ts2.map V.ref, rfl, rfl, h4p, h4q, sz_of (by simp [hN.1]; omega), wtA (ds ++ ds2), by rw [hwt, wtA_app]; omega, some u, some v, ts ++ ts2, us ++ us2, ws ++ ws2, ds ++ ds2, es ++ es2, rfl, Ex.mut (e03.trans e5) hp0, ?_, rfl, by rw [wtA_app]; omega, ?_⟩
      · refine ⟨by rw [upd_same, List.map_append], by simp [tl', hN.1], by simp [wl', l2], pairsAt_app (fun j r a b g1 g2 g3 => ?_) (fun j r a b g1 g2 g3 => ?_) tl' wl', fun r m => ?_, rus.app r2, rws.app r2', fun d' m => ?_, fun d' m => ?_, ?_⟩
        · have hr := ln.ne r (List.mem_append_left _ (List.mem_of_getElem? g1))
          rw [upd_ne hr]
          exact e5 _ _ (h3t r _ hr (pairsAt_left ln.pa tl' wl' j r a b g1 g2 g3))
        · rw [upd_ne (pne r (List.mem_of_getElem? g1))]
          exact hN.2.1 j r a b g1 g2 g3
        · rcases List.mem_append.mp m with m | m
          · exact ln.ne r (List.mem_append_left _ m)
          · exact pne r m
        · rcases List.mem_append.mp m with m | m
          · exact ln.okd d' (List.mem_append_left _ m)
          · exact ok3 d' m
        · rcases List.mem_append.mp m with m | m
          · exact ln.oke d' (List.mem_append_left _ m)
          · exact ok4 d' m
        · have := ln.dd
          rw [depA_app, depA, depA] at this
          rw [depA_app]
          omega
      · have la : ds.length = es.length := by rw [← rus.len, ← rws.len, wl']
        rw [← iff1]
        constructor
        · intro z
          obtain ⟨z1, z2⟩ := List.append_inj z la
          rw [z1, iff2.mp z2]
        · intro z
          obtain ⟨z1, z2⟩ := List.append_inj z la
          rw [z1, iff2.mpr (List.cons.inj z2).1]
  · have z : ts = [] := by
      cases ts with
      | nil => rfl
      | cons _ _ => simp at hb
    subst z
    have lu := ln.tl
    have lw := ln.wl
    have l1 := ln.ru.len
    have l3 := ln.rw.len
    have z1 : ds = [] := List.length_eq_zero_iff.mp (by simp at lu; omega)
    have z2 : es = [] := List.length_eq_zero_iff.mp (by simp at lu; omega)
    rw [sm_t (iff1.mp (by rw [z1, z2]))] at k
    exact s_ret ev_c fun H4 e5 => k H4 ((e1.trans e2).trans e5)
end
end K5
namespace K5
open PySem PySem.Spec PyProof.Rows L2 Evl KZ RZ
section
variable {P : Program} {w : World} {K : PySem.W.Frag} {mg : Str → Option Value} {base : Heap}
abbrev s_law_bag : Stmt := top 30
abbrev N_law_bag : List Str := ["script", "cell"]
theorem sc_law_bag : FnScope N_law_bag ["script"] (defScope s_law_bag) := ⟨rfl, rfl, rfl, by decide +kernel, rfl, by decide +kernel, by decide +kernel⟩
theorem ok_law_bag {f : Addr} {fd : FuncData} (F : Fun K "_law_bag" "_law_bag" s_law_bag f fd) (B : Blt mg) : FnOk P w K mg base CX0 1 f fd ["script"] (spBag K) := by
  refine F.ok sc_law_bag (fun vs H Q E ⟨_, _, e, _⟩ => by rw [e]; rfl) (fun cdv A outer s H vs Q E hr h => ?_)
  obtain ⟨a, cs, rfl, hs, hz, k⟩ := h
  refine ⟨_, (pss_one (ps_ret (pe_lst (pa_cons pe_int (pa_cons pe_int (pa_cons pe_int (pa_cons (pe_lc rfl sc_law_bag.nd (pi_list (pe_slice sl_list (pv 0) po_none (po_some pe_int))) (blkOk_by (own := [("cell", 1)]) (N := N_law_bag) (sc := defScope s_law_bag) (by decide +kernel)) (fun _ _ _ _ _ => (pg_name (i := 1) sc_law_bag.nd rfl (Or.inl rfl) (Or.inr rfl))) (fun _ _ _ _ _ => pts_nil) (fun _ _ _ _ _ => (pe_callB call_abs rfl B.abs bb_abs (pa_cons (pv 1) pa_nil)))) pa_nil))))))), ?_⟩
  obtain ⟨g, hg⟩ : ∃ g : Nat → Int, ∀ i x, (cutV (cs.map V.int) none (some 63))[i]? = some x → x = V.int (g i) := ⟨fun i => match (cutV (cs.map V.int) none (some 63))[i]? with
    | some (.int z) => z
    | _ => 0, fun i x h => by
      have hm := List.mem_of_mem_drop (List.mem_of_mem_take (List.mem_of_getElem? h))
      obtain ⟨z, _, rfl⟩ := List.mem_map.mp hm
      dsimp only
      rw [h]⟩
  have hl : (cutV (cs.map V.int) none (some 63)).length ≤ 40000 := Nat.le_trans (cutV_length _ _ _) (by rw [List.length_map]; exact hz)
  refine s_bagL (el_lcNL (fun _ => true) (fun i => .int (if g i < 0 then -(g i) else g i)) (el_sl (ev_var rfl) eo_none (eo_some ev_c) hs) hl (fun _ => rfl) (fun i x H1 _ _ => et_yes) (fun i x H1 _ hx _ => ?_)) fun c H1 hc e1 h1c b hb => ?_
  · cases hg i x hx
    exact ev_abs (ev_var rfl)
  · have hcb : c ≠ b := ne_of_none h1c hb
    refine k b c _ (fresh_back e1 hb) hc (e1.trans (Ex.new hb)) ⟨((List.range (cutV (cs.map V.int) none (some 63)).length).filter fun _ => true).map (fun i => if g i < 0 then -(g i) else g i), 0, 1234567891, 0, upd_same, ?_, ?_⟩
    · rw [hm_upd, List.map_map]
      rw [hm_ne hcb]
      exact h1c
    · rw [List.length_map]
      refine Nat.le_trans (List.length_filter_le _ _) ?_
      rw [List.length_range]
      exact hl
abbrev s_law_take : Stmt := top 31
abbrev N_law_take : List Str := ["bag", "many", "cell", "stirred", "value", "begin", "second"]
theorem sc_law_take : FnScope N_law_take ["bag", "many"] (defScope s_law_take) := ⟨rfl, rfl, rfl, by decide +kernel, rfl, by decide +kernel, by decide +kernel⟩
theorem ok_law_take {f : Addr} {fd : FuncData} (F : Fun K "_law_take" "_law_take" s_law_take f fd) (B : Blt mg) : FnOk P w K mg base CX0 1 f fd ["bag", "many"] (spTake K) := by
  refine F.ok sc_law_take (fun vs H Q E ⟨_, _, _, e, _⟩ => by rw [e]; rfl) (fun cdv A outer s H vs Q E hr h => ?_)
  obtain ⟨b, c, many, rfl, hm0, hm1, ⟨cs, x0, x1, x2, hB⟩, k⟩ := h
  refine ⟨_, (pss_cut (ps_if (pt_cmpR op_eq (pe_ix ix_seq (pv 0) pe_int (fun _ _ => rfl)) pe_int (nomark _))
    (pss_cons (ps_set (i := 2) sc_law_take.nd rfl (Or.inl rfl) (pe_ix ix_seq (pe_op op_cat (pe_slice sl_list (pe_ix ix_seq (pv 0) pe_int (fun _ _ => rfl)) (po_some (pe_ix ix_seq (pv 0) pe_int (fun _ _ => rfl))) po_none) (pe_lst (pa_cons pe_int pa_nil))) pe_int (fun _ _ => rfl)))
  (pss_cons (ps_augS (pv 0) pe_int get_list pe_int ip_add set_list)
  (pss_cut (ps_if (pt_cmpR op_ge (pv 2) (pe_op op_pow pe_int pe_int) (nomark _))
    (pss_one (ps_asg (pv 2) (pg_sub (pv 0) pe_int set_list)))
    pss_nil)
  (pss_cons (ps_set (i := 3) sc_law_take.nd rfl (Or.inl rfl) (pe_op op_add (pe_op op_add (pe_op op_mul (pe_ix ix_seq (pv 0) pe_int (fun _ _ => rfl)) pe_int) (pe_op op_mod (pe_callTy call_int1 rfl B.int bb_int (pa_cons (pv 2) pa_nil)) pe_int)) (pe_op op_mul pe_int (pe_ix ix_seq (pv 0) pe_int (fun _ _ => rfl)))))
  (pss_one (ps_asg (pe_op op_mod (pe_callTy call_int1 rfl B.int bb_int (pa_cons (pv 3) pa_nil)) pe_int) (pg_sub (pv 0) pe_int set_list)))))))
    pss_nil)
  (pss_cons (ps_if (pt_cmpR op_gt (pe_ix ix_seq (pv 0) pe_int (fun _ _ => rfl)) pe_int (nomark _))
    (pss_cons (ps_set (i := 4) sc_law_take.nd rfl (Or.inl rfl) (pe_op op_mod (pe_callTy call_int1 rfl B.int bb_int (pa_cons (pe_ix ix_seq (pv 0) pe_int (fun _ _ => rfl)) pa_nil)) (pv 1)))
  (pss_cons (ps_asg (pe_op op_fdiv (pe_callTy call_int1 rfl B.int bb_int (pa_cons (pe_ix ix_seq (pv 0) pe_int (fun _ _ => rfl)) pa_nil)) (pv 1)) (pg_sub (pv 0) pe_int set_list))
  (pss_one (ps_ret (pv 4)))))
    pss_nil)
  (pss_cons (ps_set (i := 5) sc_law_take.nd rfl (Or.inl rfl) (pe_op op_mod (pe_callTy call_int1 rfl B.int bb_int (pa_cons (pe_op op_mul (pe_op op_add (pe_ix ix_seq (pv 0) pe_int (fun _ _ => rfl)) pe_int) pe_int) pa_nil)) pe_int))
  (pss_cons (ps_set (i := 6) sc_law_take.nd rfl (Or.inl rfl) (pe_op op_mod (pe_callTy call_int1 rfl B.int bb_int (pa_cons (pe_op op_mul (pe_op op_mod (pe_callTy call_int1 rfl B.int bb_int (pa_cons (pe_op op_mul (pv 5) (pv 5)) pa_nil)) pe_int) pe_int) pa_nil)) pe_int))
  (pss_one (ps_ret (pe_op op_mod (pe_callTy call_int1 rfl B.int bb_int (pa_cons (pe_op op_fdiv (pv 6) pe_int) pa_nil)) (pv 1)))))))), ?_⟩
  refine q_cut (M := fun σ' H' => ∃ o2 o3 x0 x1 x2, σ' = [some (.ref b), some (.int many), o2, o3, none, none, none] ∧ Ex (Hm b H) (Hm b H') ∧ BagAt K H' b c cs x0 x1 x2) ?_ ?_
  · refine s_when (b := decide (V.int x0 = V.int 0)) (et_test (ev_op (ev_op (ev_var rfl) ev_c (rv_ixLs (j := 0) (bag_l hB) rfl)) ev_c (rv_eq rfl))) (fun hb H1 e1 => ?_) (fun hb H1 e1 => ⟨none, none, x0, x1, x2, rfl, hm_mono e1, hB.mono e1⟩)
    have B1 := hB.mono e1
    obtain ⟨z, hz⟩ := head_int (cs := cs) (lo := some x2) (hi := none)
    refine q_asg (v := .int z) (ev_ixN (j := 0) (el_cat (el_sl (ev_op (ev_var rfl) ev_c (rv_ixLs (j := 3) (bag_l B1) rfl)) (eo_some (ev_op (ev_var rfl) ev_c (rv_ixLs (j := 2) (bag_l B1) rfl))) eo_none (cells_at B1)) (el_lst (ea_cons ev_c ea_nil) (by simp)) ?_) (fun _ _ => ev_c) hz) fun H2 e2 => ?_
    · have := cutV_length (cs.map V.int) (some x2) none
      rw [List.length_map] at this
      have := hB.len
      simp only [List.length_singleton]
      omega
    have B2 := B1.mono e2
    have h2 := hm_mono (b := b) (e1.trans e2)
    refine ⟨.ref b, rfl, b, _, 2, .int x2, rfl, rfl, bag_l B2, by decide, rfl, x2, 1, rfl, rfl, b, _, 2, 2, rfl, rfl, B2.at_, rfl, ?_⟩
    refine q_cut (M := fun σ' H' => ∃ x0 x1 x2, σ' = [some (.ref b), some (.int many), some (.int z), none, none, none, none] ∧ Ex (Hm b H) (Hm b H') ∧ BagAt K H' b c cs x0 x1 x2) ?_ ?_
    · have B3 : BagAt K (upd H2 b (.lst [.int x0, .int x1, .int (x2 + 1), .ref c])) b c cs x0 x1 (x2 + 1) := B2.put
      refine s_when (b := decide ((10 : Int) ^ (18 : Int).toNat ≤ z)) (et_test (ev_op (ev_var rfl) (ev_op ev_c ev_c (rv_I ⟨by decide, by decide, by decide⟩)) rv_ge)) (fun hc H3 e3 => ?_) (fun hc H3 e3 => ⟨x0, x1, x2 + 1, rfl, h2.trans (by have := hm_mono (b := b) e3; rwa [hm_upd] at this), B3.mono e3⟩)
      refine s_setL (j := 0) (e3 _ _ B3.at_) (ev_var rfl) (ev_var rfl) ev_c (by simp) fun H4 e4 => ⟨z, x1, x2 + 1, rfl, ?_, ((B3.mono e3).mono e4).put⟩
      have := hm_mono (b := b) (e3.trans e4)
      rw [hm_upd] at this
      rw [hm_upd]
      exact h2.trans this
    · rintro _ H3 ⟨y0, y1, y2, rfl, h3, B3⟩
      refine q_asg (ev_op (ev_op (ev_op (ev_op (ev_var rfl) ev_c (rv_ixLs (j := 1) (bag_l B3) rfl)) ev_c (rv_I (.inr ⟨by decide, by decide⟩))) (ev_op (ev_int1 (ev_var rfl)) ev_c (rv_I (by decide))) rv_add) (ev_op ev_c (ev_op (ev_var rfl) ev_c (rv_ixLs (j := 2) (bag_l B3) rfl)) (rv_I (.inl ⟨by decide, by decide⟩))) rv_add) fun H4 e4 => ?_
      refine s_setL (j := 1) (e4 _ _ B3.at_) (ev_op (ev_int1 (ev_var rfl)) ev_c (rv_I (by decide))) (ev_var rfl) ev_c (by simp) fun H5 e5 => ⟨_, _, y0, _, y2, rfl, ?_, ((B3.mono e4).mono e5).put⟩
      rw [hm_upd]
      exact h3.trans (hm_mono (e4.trans e5))
  · rintro _ H1 ⟨o2, o3, y0, y1, y2, rfl, h1, B1⟩
    refine q_when (b := decide (0 < y0)) (et_test (ev_op (ev_op (ev_var rfl) ev_c (rv_ixLs (j := 0) (bag_l B1) rfl)) ev_c rv_gt)) (fun hb H2 e2 => ?_) (fun hb H2 e2 => ?_)
    · have B2 := B1.mono e2
      refine q_asg (ev_op (ev_int1 (ev_op (ev_var rfl) ev_c (rv_ixLs (j := 0) (bag_l B2) rfl))) (ev_var rfl) (rv_I hm0)) fun H3 e3 => ?_
      have B3 := B2.mono e3
      refine q_setL (j := 0) B3.at_ (ev_op (ev_int1 (ev_op (ev_var rfl) ev_c (rv_ixLs (j := 0) (bag_l B3) rfl))) (ev_var rfl) (rv_I ⟨hm0, hm1⟩)) (ev_var rfl) ev_c (by simp) fun H4 e4 => ?_
      refine s_ret (ev_var rfl) fun H5 e5 => k H5 _ ?_ ⟨cs, _, _, _, ((B3.mono e4).put).mono e5⟩ (Int.emod_nonneg _ (by omega)) (Int.emod_lt_of_pos _ hm0)
      have := hm_mono (b := b) e5
      rw [hm_upd] at this
      exact h1.trans ((hm_mono ((e2.trans e3).trans e4)).trans this)
    · have B2 := B1.mono e2
      refine q_asg (ev_op (ev_int1 (ev_op (ev_op (ev_op (ev_var rfl) ev_c (rv_ixLs (j := 1) (bag_l B2) rfl)) ev_c rv_add) ev_c (rv_I (.inr ⟨by decide, by decide⟩)))) ev_c (rv_I (by decide))) fun H3 e3 => ?_
      have hb0 : 0 ≤ (y1 + 1) * 39373 % 1000000007 := Int.emod_nonneg _ (by decide)
      have hb1 : (y1 + 1) * 39373 % 1000000007 < 1000000007 := Int.emod_lt_of_pos _ (by decide)
      refine q_asg (ev_op (ev_int1 (ev_op (ev_op (ev_int1 (ev_op (ev_var rfl) (ev_var rfl) (rv_I (.inr ⟨by omega, by omega⟩)))) ev_c (rv_I (by decide))) ev_c (rv_I (.inr ⟨by decide, by decide⟩)))) ev_c (rv_I (by decide))) fun H4 e4 => ?_
      refine s_ret (ev_op (ev_int1 (ev_op (ev_var rfl) ev_c (rv_I ⟨by decide, by decide⟩))) (ev_var rfl) (rv_I hm0)) fun H5 e5 => k H5 _ ?_ ⟨cs, _, _, _, ((B2.mono e3).mono e4).mono e5⟩ (Int.emod_nonneg _ (by omega)) (Int.emod_lt_of_pos _ hm0)
      exact h1.trans (hm_mono (((e2.trans e3).trans e4).trans e5))
abbrev s_law_some : Stmt := top 32
abbrev N_law_some : List Str := ["bag", "things"]
theorem sc_law_some : FnScope N_law_some ["bag", "things"] (defScope s_law_some) := ⟨rfl, rfl, rfl, by decide +kernel, rfl, by decide +kernel, by decide +kernel⟩
theorem ok_law_some {f : Addr} {fd : FuncData} (F : Fun K "_law_some" "_law_some" s_law_some f fd) (B : Blt mg) (C_law_take : Cal P w K mg base 1 "_law_take" ["bag", "many"] (spTake K)) : FnOk P w K mg base CX0 2 f fd ["bag", "things"] (spSome K) := by
  refine F.ok sc_law_some (fun vs H Q E ⟨_, _, _, _, e, _⟩ => by rw [e]; rfl) (fun cdv A outer s H vs Q E hr h => ?_)
  obtain ⟨b, c, a, xs, rfl, hs, hp, hz, hB, k⟩ := h
  refine ⟨_, (pss_one (ps_ret (pe_ix ix_seq (pv 1) (pcal C_law_take hr (by decide) rfl (pa_cons (pv 0) (pa_cons (pe_callB call_len rfl B.len bb_len (pa_cons (pv 1) pa_nil)) pa_nil))) (fun _ _ => rfl)))), ?_⟩
  have hB0 := hB
  have hs2 : SqL K H a xs ∨ SqT K H a xs := hs.imp (ex_l hm_sub) (ex_t hm_sub)
  refine s_retOp (ev_var rfl) fun H1 e1 => ?_
  have hl : Ev (tCB (fun xs H Q => ∃ x n, xs = [x] ∧ LenV K x H n ∧ Q (.int n) H) (tCons (tVar 1) tNil)) (L2.start N_law_some [.ref b, .ref a]) H1 (.int (xs.length : Int)) := hs2.elim (fun h => ev_lenL (ev_var rfl) (ex_l e1 h)) fun h => ev_lenT (ev_var rfl) (ex_t e1 h)
  refine ea_cons (ev_var rfl) (ea_cons hl ea_nil) H1 (Ex.refl H1) _ fun H2 e2 => ⟨b, c, (xs.length : Int), rfl, by omega, by omega, hB.mono (e1.trans e2), fun H' j hx hb' h0 h1 => ?_⟩
  have e12 := hm_mono (b := b) (e1.trans e2)
  obtain ⟨n, rfl⟩ := Int.eq_ofNat_of_zero_le h0
  have hn : n < xs.length := by omega
  have hv : xs[n]? = some xs[n] := List.getElem?_eq_getElem hn
  rcases hs with h | h
  · exact rv_ixLs (ex_l ((e12.trans hx).trans hm_sub) h) hv H' (Ex.refl H') _ fun H3 e3 => k H3 n _ ((e12.trans hx).trans (hm_mono e3)) (hb'.mono e3) hv
  · exact rv_ixTs (ex_t ((e12.trans hx).trans hm_sub) h) hv H' (Ex.refl H') _ fun H3 e3 => k H3 n _ ((e12.trans hx).trans (hm_mono e3)) (hb'.mono e3) hv
end
end K5
namespace K5
open PySem PySem.Spec PyProof.Rows L2 Evl KZ RZ
def spAmong (K : PySem.W.Frag) : Sp := fun vs H Q _ => ∃ x a xs d ds, vs = [x, .ref a] ∧ Rp K H x d ∧ SqL K H a xs ∧ RpA K H xs ds ∧ Ok d ∧ (∀ e ∈ ds, Ok e) ∧ dep d ≤ 60 ∧ wt d ≤ 1000 ∧ ds.length ≤ 40000 ∧ RetV (.bl (ds.any (sm d))) H Q
/-- the law's number of a kind -/
def kindD : D → Int
  | .bl _ => 0
  | .int _ => 1
  | .str _ => 2
  | .tup _ => 3
  | .lst _ => 4
  | .dic _ _ => 5
  | .non => -1
def spKind (K : PySem.W.Frag) : Sp := fun vs H Q _ => ∃ x d, vs = [x] ∧ Rp K H x d ∧ RetV (.int (kindD d)) H Q
theorem spv_kind {K : PySem.W.Frag} {H : Hp} {x : V} {d : D} (r : Rp K H x d) : SpV (spKind K) [x] H (.int (kindD d)) := fun H1 e Q q E => ⟨x, d, rfl, r.mono e, q⟩
def spKeys : Sp := fun vs H Q _ => vs = [] ∧ RetL (keys.map V.str) H Q
theorem spl_keys {H : Hp} : SpL spKeys [] H (keys.map V.str) := fun H1 e Q q E => ⟨rfl, q⟩
section
variable {P : Program} {w : World} {K : PySem.W.Frag} {mg : Str → Option Value} {base : Heap}
abbrev s_is_among : Stmt := top 17
abbrev N_is_among : List Str := ["thing", "some", "one"]
theorem sc_is_among : FnScope N_is_among ["thing", "some"] (defScope s_is_among) := ⟨rfl, rfl, rfl, by decide +kernel, rfl, by decide +kernel, by decide +kernel⟩
theorem ok_is_among {f : Addr} {fd : FuncData} (F : Fun K "is_among" "is_among" s_is_among f fd) (B : Blt mg) (C_are_same : Cal P w K mg base 2 "are_same" ["one", "other"] (spSame K)) : FnOk P w K mg base CX0 3 f fd ["thing", "some"] (spAmong K) := by
  refine F.ok sc_is_among (fun vs H Q E ⟨_, _, _, _, _, e, _⟩ => by rw [e]; rfl) (fun cdv A outer s H vs Q E hr h => ?_)
  obtain ⟨x, a, xs, d, ds, rfl, r, hs, rs, ok, oks, hd, hw, hz, k⟩ := h
  refine ⟨_, (pss_one (ps_ret (pe_callB (cr_any rfl) rfl B.any bb_any (pa_cons (pe_lc rfl sc_is_among.nd (pi_list (pv 1)) (blkOk_by (own := [("one", 2)]) (N := N_is_among) (sc := defScope s_is_among) (by decide +kernel)) (fun _ _ _ _ _ => (pg_name (i := 2) sc_is_among.nd rfl (Or.inl rfl) (Or.inr rfl))) (fun _ _ _ _ _ => pts_nil) (fun _ _ _ _ _ => (pcal C_are_same hr (by decide) rfl (pa_cons (pv 0) (pa_cons (pv 2) pa_nil))))) pa_nil)))), ?_⟩
  refine s_ret (ev_is (ev_any (bs := ds.map (sm d)) ?_) (by rw [List.any_map]; rfl)) k
  rw [List.map_map]
  exact el_data (fun e => V.bl (sm d e)) (w_list (ev_var rfl) hs) (flat_list hs) rs (by have := rs.len; omega) (fun _ => rfl) fun y e he re => ev_call0 (ea_cons (ev_var rfl) (ea_cons (ev_var rfl) ea_nil)) (spv_same r re ok (oks e he) hd hw)
abbrev s_law_keys : Stmt := top 35
abbrev N_law_keys : List Str := []
theorem sc_law_keys : FnScope N_law_keys [] (defScope s_law_keys) := ⟨rfl, rfl, rfl, by decide +kernel, rfl, by decide +kernel, by decide +kernel⟩
theorem ok_law_keys {f : Addr} {fd : FuncData} (F : Fun K "_law_keys" "_law_keys" s_law_keys f fd) : FnOk P w K mg base CX0 1 f fd [] spKeys := by
  refine F.ok sc_law_keys (fun vs H Q E ⟨e, _⟩ => by rw [e]; rfl) (fun cdv A outer s H vs Q E hr h => ?_)
  obtain ⟨rfl, k⟩ := h
  refine ⟨_, (pss_one (ps_ret (pe_words pe_str))), ?_⟩
  exact s_retL (el_words ev_c (by decide +kernel) (by decide +kernel)) k
abbrev s_law_kind : Stmt := top 38
abbrev N_law_kind : List Str := ["thing"]
theorem sc_law_kind : FnScope N_law_kind ["thing"] (defScope s_law_kind) := ⟨rfl, rfl, rfl, by decide +kernel, rfl, by decide +kernel, by decide +kernel⟩
theorem ok_law_kind {f : Addr} {fd : FuncData} (F : Fun K "_law_kind" "_law_kind" s_law_kind f fd) (B : Blt mg) : FnOk P w K mg base CX0 1 f fd ["thing"] (spKind K) := by
  refine F.ok sc_law_kind (fun vs H Q E ⟨_, _, e, _⟩ => by rw [e]; rfl) (fun cdv A outer s H vs Q E hr h => ?_)
  obtain ⟨x, d, rfl, r, k⟩ := h
  refine ⟨_, (pss_cons (ps_if (pt_val (p_isi rfl rfl B.isinstance B.bool bb_bool (pv 0)))
    (pss_one (ps_ret pe_int))
    pss_nil)
  (pss_cons (ps_if (pt_val (p_isi rfl rfl B.isinstance B.int bb_int (pv 0)))
    (pss_one (ps_ret pe_int))
    pss_nil)
  (pss_cons (ps_if (pt_val (p_isi rfl rfl B.isinstance B.str bb_str (pv 0)))
    (pss_one (ps_ret pe_int))
    pss_nil)
  (pss_cons (ps_if (pt_val (p_isi2 rfl rfl rfl B.isinstance B.tuple B.list bb_tuple bb_list (pv 0)))
    (pss_one (ps_ret (pe_op op_add pe_int (pe_callTy call_int1 rfl B.int bb_int (pa_cons (p_isi rfl rfl B.isinstance B.list bb_list (pv 0)) pa_nil)))))
    pss_nil)
  (pss_one (ps_ret (pe_ifExp (pt_val (p_isi rfl rfl B.isinstance B.dict bb_dict (pv 0))) pe_int (pe_un un_neg pe_int)))))))), ?_⟩
  refine q_when (b := isB d) (et_B (ev_isi (ev_var rfl) r (kit_bool _ _))) (fun h1 H1 e1 => s_ret (v := .int (kindD d)) (ev_is ev_c ?_) fun H2 e2 => k H2 (e1.trans e2)) fun h1 H1 e1 => ?_
  · cases d <;> first | rfl | cases h1
  refine q_when (b := isI d) (et_B (ev_isi (ev_var rfl) (r.mono e1) (kit_int _ _))) (fun h2 H2 e2 => s_ret (v := .int (kindD d)) (ev_is ev_c ?_) fun H3 e3 => k H3 ((e1.trans e2).trans e3)) fun h2 H2 e2 => ?_
  · cases d <;> first | rfl | (cases h2; done) | (cases h1; done)
  refine q_when (b := isS d) (et_B (ev_isi (ev_var rfl) (r.mono (e1.trans e2)) (kit_str _ _))) (fun h3 H3 e3 => s_ret (v := .int (kindD d)) (ev_is ev_c ?_) fun H4 e4 => k H4 (((e1.trans e2).trans e3).trans e4)) fun h3 H3 e3 => ?_
  · cases d <;> first | rfl | (cases h3; done)
  have r3 := r.mono ((e1.trans e2).trans e3)
  refine q_when (b := isT d || isL d) (et_B (ev_isi2 (ev_var rfl) r3 (kit_tuple _ _) (kit_list _ _))) (fun h4 H4 e4 => s_ret (v := .int (kindD d)) (ev_is (ev_op ev_c (ev_intb (ev_isi (ev_var rfl) (r3.mono e4) (kit_list _ _))) rv_add) ?_) fun H5 e5 => k H5 ((((e1.trans e2).trans e3).trans e4).trans e5)) fun h4 H4 e4 => ?_
  · cases d <;> first | rfl | (cases h4; done)
  refine s_ret (v := .int (kindD d)) (ev_if (b := isM d) (et_B (ev_isi (ev_var rfl) (r3.mono e4) (kit_dict _ _))) (fun h5 => ev_is ev_c ?_) fun h5 => ev_is (ev_un ev_c ru_neg) ?_) fun H5 e5 => k H5 ((((e1.trans e2).trans e3).trans e4).trans e5)
  · cases d <;> first | rfl | (cases h5; done)
  · cases d <;> first | rfl | (cases h5; done) | (cases h4; done) | (cases h3; done) | (cases h2; done) | (cases h1; done)
abbrev s_law_named : Stmt := top 36
abbrev N_law_named : List Str := ["thing", "sign"]
theorem sc_law_named : FnScope N_law_named ["thing"] (defScope s_law_named) := ⟨rfl, rfl, rfl, by decide +kernel, rfl, by decide +kernel, by decide +kernel⟩
theorem ok_law_named {f : Addr} {fd : FuncData} (F : Fun K "_law_named" "_law_named" s_law_named f fd) (B : Blt mg) (C_law_keys : Cal P w K mg base 1 "_law_keys" [] spKeys) : FnOk P w K mg base CX0 2 f fd ["thing"] (spB K isNm) := by
  refine F.ok sc_law_named spB_len (fun cdv A outer s H vs Q E hr h => ?_)
  obtain ⟨x, d, rfl, r, ok, k⟩ := h
  refine ⟨_, (pss_cons (ps_if (PW.pt (pw_or (pt_not (pt_val (p_isi rfl rfl B.isinstance B.str bb_str (pv 0)))) (pw_or (pt_not (pt_chain op_le op_le pe_int (pe_callB call_len rfl B.len bb_len (pa_cons (pv 0) pa_nil)) pe_int)) (pw_or1 (pt_cmpR op_in_seq (pv 0) (pcal0 C_law_keys hr (by decide) rfl) rfl)))))
    (pss_one (ps_ret pe_bl))
    pss_nil)
  (pss_one (ps_ret (pe_cmpR (op_eqZ hr.units) (pe_lc rfl sc_law_named.nd (pi_str (pv 0)) (blkOk_by (own := [("sign", 1)]) (N := N_law_named) (sc := defScope s_law_named) (by decide +kernel)) (fun _ _ _ _ _ => (pg_name (i := 1) sc_law_named.nd rfl (Or.inl rfl) (Or.inr rfl))) (fun _ _ _ _ _ => (pts_one (pt_cmpR op_notIn_sign (pv 1) pe_str rfl))) (fun _ _ _ _ _ => pe_int)) (pe_lst pa_nil) (nomark _))))), ?_⟩
  by_cases hs : isS d = true
  · obtain ⟨s0, rfl, rfl⟩ := str_of r hs
    have hl : s0.length ≤ 1000 := by
      cases ok with
      | str h => exact h
    refine q_when (b := !isS (.str s0) || ((!(decide ((1 : Int) ≤ (s0.length : Int)) && decide ((s0.length : Int) ≤ 8))) || inV (.str s0) (keys.map V.str))) (et_or (et_not (et_B (ev_isi (ev_var rfl) r (kit_str _ _)))) fun _ =>
      et_or (et_not (et_test (ev_chain ev_c (ev_lenS (ev_var rfl) (by omega)) rv_le (fun _ => ev_c) fun _ => rv_le))) fun _ => et_test (ev_opL (ev_var rfl) (el_call0 ea_nil spl_keys) fun p H1 h1 _ => rv_isL (.inl (.inl h1)) rfl keys_flat)) (fun hb H1 e1 => s_ret ev_c fun H2 e2 => ?_) (fun hb H1 e1 => ?_)
    · have en : isNm (.str s0) = false := by
        show nameS s0 = false
        unfold nameS
        have e0 : (!isS (.str s0)) = false := rfl
        rw [e0, Bool.false_or] at hb
        cases h1 : (decide ((1 : Int) ≤ (s0.length : Int)) && decide ((s0.length : Int) ≤ 8)) with
        | false => simp
        | true =>
          rw [h1, Bool.not_true, Bool.false_or] at hb
          rw [hb]
          simp
      rw [← en]
      exact k H2 (e1.trans e2)
    · have e0 : (!isS (.str s0)) = false := rfl
      rw [e0, Bool.false_or] at hb
      have hz : (s0.cps.toList.map fun c => V.str ⟨#[c]⟩).length ≤ 40000 := by
        rw [List.length_map]
        have : s0.cps.toList.length = s0.length := by simp [Str.length]
        omega
      let g : V → Bool := fun v => match v with
        | .str z => !decide (z.cps.toList.head?.getD 0 ∈ letters.cps.toList)
        | _ => false
      have en : (((s0.cps.toList.map fun c => V.str ⟨#[c]⟩).filter g).map fun _ => D.int 1).isEmpty = isNm (.str s0) := by
        show _ = nameS s0
        unfold nameS
        cases h1 : (decide ((1 : Int) ≤ (s0.length : Int)) && decide ((s0.length : Int) ≤ 8)) with
        | false =>
          rw [h1] at hb
          cases hb
        | true =>
          rw [h1, Bool.not_true, Bool.false_or] at hb
          rw [hb, Bool.true_and, Bool.not_false, Bool.true_and, map_empty, filter_empty, List.all_map]
          congr 1
          funext c
          show (!!decide (c ∈ letters.cps.toList)) = _
          rw [Bool.not_not]
      refine s_ret (ev_is (ev_eqNil (xs := (((s0.cps.toList.map fun c => V.str ⟨#[c]⟩).filter g).map fun _ => V.int 1)) (el_lcF g (fun _ => .int 1) (w_str (ev_var rfl)) (flat_str s0) hz (fun _ => rfl) (fun v hv => ?_) fun v hv _ => ev_c) el_nil (rpA_rep (fun _ => .int 1) _) (fun d' m => ?_) ?_) (by rw [en])) fun H2 e2 => k H2 (e1.trans e2)
      · obtain ⟨c, _, rfl⟩ := List.mem_map.mp hv
        exact et_test (ev_op (ev_var rfl) ev_c rv_niSign)
      · obtain ⟨_, _, rfl⟩ := List.mem_map.mp m
        exact .int 1
      · refine depA_le fun d' m => ?_
        obtain ⟨_, _, rfl⟩ := List.mem_map.mp m
        exact Nat.zero_le _
  · refine q_when (b := !isS d || false) (et_or (et_not (et_B (ev_isi (ev_var rfl) r (kit_str _ _)))) fun z => absurd z (by simp [hs])) (fun hb H1 e1 => s_ret ev_c fun H2 e2 => ?_) (fun hb => absurd hb (by simp [hs]))
    have en : isNm d = false := by
      cases d with
      | str s => exact absurd rfl hs
      | _ => rfl
    rw [← en]
    exact k H2 (e1.trans e2)
end
end K5
namespace K5
open PySem PySem.Spec PyProof.Rows L2 Evl KZ RZ
/-- the same told twice is alike -/
def spAlike (K : PySem.W.Frag) : Sp := fun vs H Q _ => ∃ x y d, vs = [x, y] ∧ Rp K H x d ∧ Rp K H y d ∧ Ok d ∧ dep d ≤ 60 ∧ wt d ≤ 1000 ∧ RetV (.bl true) H Q
theorem wtA_app' {ds es : List D} : wtA (ds ++ es) = wtA ds + wtA es := wtA_app
/-- what a list or a tuple holds -/
theorem seq_of {K : PySem.W.Frag} {H : Hp} {x : V} {d : D} (r : Rp K H x d) (h : (isT d || isL d) = true) (ok : Ok d) : ∃ us ds, SeqX K H x us ∧ RpA K H us ds ∧ wtA ds + 1 = wt d ∧ (∀ d' ∈ ds, Ok d') ∧ depA ds ≤ dep d ∧ (d = .tup ds ∨ d = .lst ds) := by
  cases r with
  | lst q rs => exact ⟨_, _, ⟨_, rfl, .inl q⟩, rs, by rw [wt], by cases ok; assumption, by rw [dep]; omega, .inr rfl⟩
  | tup q rs => exact ⟨_, _, ⟨_, rfl, .inr q⟩, rs, by rw [wt], by cases ok; assumption, by rw [dep]; omega, .inl rfl⟩
  | _ => cases h
section
variable {P : Program} {w : World} {K : PySem.W.Frag} {mg : Str → Option Value} {base : Heap}
abbrev s_law_alike : Stmt := top 34
abbrev N_law_alike : List Str := ["found", "due", "pairs", "at", "one", "other"]
theorem sc_law_alike : FnScope N_law_alike ["found", "due"] (defScope s_law_alike) := ⟨rfl, rfl, rfl, by decide +kernel, rfl, by decide +kernel, by decide +kernel⟩
theorem ok_law_alike {f : Addr} {fd : FuncData} (F : Fun K "_law_alike" "_law_alike" s_law_alike f fd) (B : Blt mg) : FnOk P w K mg base CX0 1 f fd ["found", "due"] (spAlike K) := by
  refine F.ok sc_law_alike (fun vs H Q E ⟨_, _, _, e, _⟩ => by rw [e]; rfl) (fun cdv A outer s H vs Q E hr h => ?_)
  obtain ⟨x, y, d, rfl, rx, ry, ok, hd, hw, k⟩ := h
  refine ⟨_, (pss_cons (ps_par (i := 2) (j := 3) (by rfl) sc_law_alike.nd rfl rfl (by decide) rfl rfl (pa_cons (pe_lst (pa_cons (pe_tup (pa_cons (pv 0) (pa_cons (pv 1) pa_nil))) pa_nil)) (pa_cons pe_int pa_nil)) (by rfl))
  (pss_cons (ps_while PassesOwn.never (pt_cmpR op_lt (pv 3) (pe_callB call_len rfl B.len bb_len (pa_cons (pv 2) pa_nil)) (nomark _))
    (pss_cons (ps_asg (pe_ix ix_seq (pv 2) (pv 3) (fun _ _ => rfl)) (pg_names2 (K := K) rfl rfl (pg_name (i := 4) sc_law_alike.nd rfl (Or.inl rfl) (Or.inr rfl)) (pg_name (i := 5) sc_law_alike.nd rfl (Or.inl rfl) (Or.inr rfl))))
  (pss_cons (ps_aug (i := 3) sc_law_alike.nd rfl (Or.inl rfl) pe_int ip_add)
  (pss_cons (ps_if (PW.pt (pw_or (pt_cmpR op_ne (p_isi rfl rfl B.isinstance B.bool bb_bool (pv 4)) (p_isi rfl rfl B.isinstance B.bool bb_bool (pv 5)) (nomark _)) (pw_or1 (pt_cmpR op_ne (p_isi rfl rfl B.isinstance B.str bb_str (pv 4)) (p_isi rfl rfl B.isinstance B.str bb_str (pv 5)) (nomark _)))))
    (pss_one (ps_ret pe_bl))
    pss_nil)
  (pss_cons (ps_if (pt_cmpR op_ne (p_isi2 rfl rfl rfl B.isinstance B.tuple B.list bb_tuple bb_list (pv 4)) (p_isi2 rfl rfl rfl B.isinstance B.tuple B.list bb_tuple bb_list (pv 5)) (nomark _))
    (pss_one (ps_ret pe_bl))
    pss_nil)
  (pss_one (ps_if (pt_val (p_isi2 rfl rfl rfl B.isinstance B.tuple B.list bb_tuple bb_list (pv 4)))
    (pss_cons (ps_if (PW.pt (pw_or (pt_cmpR op_ne (p_isi rfl rfl B.isinstance B.tuple bb_tuple (pv 4)) (p_isi rfl rfl B.isinstance B.tuple bb_tuple (pv 5)) (nomark _)) (pw_or1 (pt_cmpR op_ne (pe_callB call_len rfl B.len bb_len (pa_cons (pv 4) pa_nil)) (pe_callB call_len rfl B.len bb_len (pa_cons (pv 5) pa_nil)) (nomark _)))))
    (pss_one (ps_ret pe_bl))
    pss_nil)
  (pss_one (ps_expr (pe_bm PySem.F.plainAttrs_list PySem.F.slot_list_extend PySem.F.type_list_extend mt_extend (pv 2) (pa_cons (p_listzip rfl rfl B.list B.zip rfl (pa_cons (pv 4) (pa_cons (pv 5) pa_nil))) pa_nil)))))
    (pss_one (ps_if (pt_cmpR (op_neZ hr.units) (pv 4) (pv 5) (nomark _))
    (pss_one (ps_ret pe_bl))
    pss_nil)))))))))
  (pss_one (ps_ret pe_bl)))), ?_⟩
  refine q_par1 (eu_tup (ea_cons (ev_var rfl) (ea_cons (ev_var rfl) ea_nil)) (by simp)) fun t0 p0 H0 ht0 hp0 hne0 e0 h0t h0p => ?_
  refine q_while (fun m σ' H' => ∃ o4 o5 n ts us ws ds, σ' = [some x, some y, some (.ref p0), some (.int ((n : Nat) : Int)), o4, o5] ∧ Ex H H' ∧ Lf K H H' p0 n ts us ws ds ds ∧ wtA ds = m ∧ n + wtA ds ≤ 1000) (wt d)
    ⟨none, none, 0, [t0], [x], [y], [d], rfl, e0, Lf.first h0t h0p hne0 rx ry ok ok hd, by rw [wtA, wtA]; omega, by rw [wtA, wtA]; omega⟩ ?_
  rintro m _ H' ⟨o4, o5, n, ts, us, ws, ds, rfl, e1, ln, rfl, hm⟩
  obtain ⟨zs, zl, g⟩ := ln.hl
  have lt1 := ln.tl
  have lr := ln.ru.len
  have lw := wtA_len ds
  refine ⟨decide ((n : Int) < ((zs ++ ts.map V.ref).length : Int)), et_test (ev_op (ev_var rfl) (ev_lenL (ev_var rfl) (.inl (.inl g))) rv_lt), fun hb H1 e2 => ?_, fun hb H1 e2 => s_ret ev_c fun H4 e5 => k H4 ((e1.trans e2).trans e5)⟩
  have hpos : 0 < ts.length := by
    have := of_decide_eq_true hb
    simp at this
    omega
  cases ts with
  | nil => cases hpos
  | cons t ts =>
  have wl := ln.wl
  cases us with
  | nil => cases lt1
  | cons u us =>
  cases ws with
  | nil => cases wl
  | cons v ws =>
  cases ds with
  | nil => cases lr
  | cons du ds =>
  obtain ⟨⟨xs, gx, gt⟩, ht, ru, rv, oku, _, dd⟩ := ln.next
  have hwt : wtA (du :: ds) = wt du + wtA ds := by rw [wtA]
  rw [hwt] at hm ⊢
  have e12 := e1.trans e2
  refine ⟨fun σ' H' => ∃ m', m' < wt du + wtA ds ∧ ∃ o4 o5 n ts us ws ds, σ' = [some x, some y, some (.ref p0), some (.int ((n : Nat) : Int)), o4, o5] ∧ Ex H H' ∧ Lf K H H' p0 n ts us ws ds ds ∧ wtA ds = m' ∧ n + wtA ds ≤ 1000, fun _ _ h => h, ?_⟩
  refine q_pair (ev_op (ev_var rfl) (ev_var rfl) (rv_ixLs (.inl (.inl (e2 _ _ gx))) gt)) (.inl (.inl (e2 _ _ ht))) fun H2 e3 => ?_
  refine q_aug rfl ev_c fun H3 e4 => ?_
  have e14 := e12.trans (e3.trans e4)
  have bne : ∀ {b : Bool}, (!decide (V.bl b = V.bl b)) = false := fun {b} => by simp
  refine q_when (b := false || false) (et_or (et_is (et_test (ev_op (ev_isi (ev_var rfl) (ru.mono e14) (kit_bool _ _)) (ev_isi (ev_var rfl) (rv.mono e14) (kit_bool _ _)) (rv_ne rfl))) bne) fun _ => et_is (et_test (ev_op (ev_isi (ev_var rfl) (ru.mono e14) (kit_str _ _)) (ev_isi (ev_var rfl) (rv.mono e14) (kit_str _ _)) (rv_ne rfl))) bne) (fun z => by cases z) fun _ H4 e5 => ?_
  have e15 := e14.trans e5
  refine q_when (b := false) (et_is (et_test (ev_op (ev_isi2 (ev_var rfl) (ru.mono e15) (kit_tuple _ _) (kit_list _ _)) (ev_isi2 (ev_var rfl) (rv.mono e15) (kit_tuple _ _) (kit_list _ _)) (rv_ne rfl))) bne) (fun z => by cases z) fun _ H5 e6 => ?_
  have e16 := e15.trans e6
  have eL : Ex H' H5 := e2.trans (e3.trans (e4.trans (e5.trans e6)))
  refine s_if (b := isT du || isL du) (et_B (ev_isi2 (ev_var rfl) (ru.mono e16) (kit_tuple _ _) (kit_list _ _))) (fun hq H6 e7 => ?_) (fun hq H6 e7 => ?_)
  · obtain ⟨us2, ds2, sx, r2, hw2, ok2, d2, hds⟩ := seq_of ru hq oku
    obtain ⟨ws2, ds3, sy, r3, _, _, _, hds3⟩ := seq_of rv hq oku
    have : ds3 = ds2 := by
      rcases hds with z | z <;> rcases hds3 with z2 | z2 <;> rw [z] at z2
      · exact (D.tup.inj z2).symm
      · cases z2
      · cases z2
      · exact (D.lst.inj z2).symm
    subst this
    have l2 := r2.len
    have l3 := r3.len
    have e17 := e16.trans e7
    have wl2 := wtA_len ds3
    refine q_when (b := false || false) (et_or (et_is (et_test (ev_op (ev_isi (ev_var rfl) (ru.mono e17) (kit_tuple _ _)) (ev_isi (ev_var rfl) (rv.mono e17) (kit_tuple _ _)) (rv_ne rfl))) bne) fun _ => et_is (et_test (ev_op (ev_lenX (ev_var rfl) (sx.mono e17)) (ev_lenX (ev_var rfl) (sy.mono e17)) (rv_ne rfl))) (by rw [l2, l3]; simp)) (fun z => by cases z) fun _ H7 e8 => ?_
    refine s_zipL rfl rfl rfl (e17.trans e8) hp0 (ln.skip.mono (eL.trans (e7.trans e8))) sx sy (by omega) r2 r3 ok2 ok2 (by omega) ?_ fun H8 ts2 e9 ln2 => ⟨wtA ds + wtA ds3, by omega, _, _, n + 1, _, _, _, _, rfl, e9, ln2, by rw [wtA_app], by rw [wtA_app]; omega⟩
    have := ln.skip.tl
    have := ln.skip.ru.len
    have := wtA_len ds
    omega
  · refine s_when (b := false) (et_is (et_test (ev_op (ev_var rfl) (ev_var rfl) (rv_neZ (ru.mono (e16.trans e7)) (rv.mono (e16.trans e7)) oku dd ?_))) (by rw [eqv_refl oku]; rfl)) (fun z => by cases z) fun _ H7 e8 => ⟨wtA ds, by have := wt_pos du; omega, _, _, n + 1, _, _, _, _, rfl, (e16.trans e7).trans e8, ln.skip.mono (eL.trans (e7.trans e8)), rfl, by have := wt_pos du; omega⟩
    cases du <;> rfl
end
end K5
namespace K5
open PySem PySem.Spec PyProof.Rows L2 Evl KZ RZ
def spSameL (K : PySem.W.Frag) : Sp := fun vs H Q _ => ∃ x y d e, vs = [x, y] ∧ Rp K H x d ∧ Rp K H y e ∧ Ok d ∧ Ok e ∧ dep d ≤ 60 ∧ wt d ≤ 120 ∧ RetV (.bl (sm d e)) H Q
theorem spv_sameL {K : PySem.W.Frag} {H : Hp} {x y : V} {d e : D} (r : Rp K H x d) (r2 : Rp K H y e) (ok : Ok d) (ok2 : Ok e) (h1 : dep d ≤ 60) (h2 : wt d ≤ 120) : SpV (spSameL K) [x, y] H (.bl (sm d e)) := fun H1 e Q q E => ⟨x, y, d, _, rfl, r.mono e, r2.mono e, ok, ok2, h1, h2, q⟩
theorem dic_of {K : PySem.W.Frag} {H : Hp} {x : V} {d : D} (r : Rp K H x d) (h : isM d = true) (ok : Ok d) : ∃ a xs ds, x = .ref a ∧ d = .dic (iota ds.length) ds ∧ H a = some (.dK (dkv (iota ds.length) xs)) ∧ (iota ds.length).length = xs.length ∧ RpA K H xs ds ∧ (∀ d' ∈ ds, Ok d') ∧ (iota ds.length).Nodup := by
  cases r with
  | dic hh l rs =>
    cases ok with
    | dic oks l2 nd ik =>
      subst ik
      exact ⟨_, _, _, rfl, rfl, hh, l, rs, oks, nd⟩
  | _ => cases h
theorem iota_len (n : Nat) : (iota n).length = n := by simp [iota]
section
variable {P : Program} {w : World} {K : PySem.W.Frag} {mg : Str → Option Value} {base : Heap}
abbrev s_law_same : Stmt := top 39
abbrev N_law_same : List Str := ["one", "other", "pairs", "at", "left", "right", "key"]
theorem sc_law_same : FnScope N_law_same ["one", "other"] (defScope s_law_same) := ⟨rfl, rfl, rfl, by decide +kernel, rfl, by decide +kernel, by decide +kernel⟩
theorem ok_law_same {f : Addr} {fd : FuncData} (F : Fun K "_law_same" "_law_same" s_law_same f fd) (B : Blt mg) (C_law_kind : Cal P w K mg base 1 "_law_kind" ["thing"] (spKind K)) : FnOk P w K mg base CX0 2 f fd ["one", "other"] (spSameL K) := by
  refine F.ok sc_law_same (fun vs H Q E ⟨_, _, _, _, e, _⟩ => by rw [e]; rfl) (fun cdv A outer s H vs Q E hr h => ?_)
  obtain ⟨x, y, d, e, rfl, rx, ry, ok, ok2, hd, hw, k⟩ := h
  have hu := hu_of hr
  refine ⟨_, (pss_cons (ps_par (i := 2) (j := 3) (by rfl) sc_law_same.nd rfl rfl (by decide) rfl rfl (pa_cons (pe_lst (pa_cons (pe_tup (pa_cons (pv 0) (pa_cons (pv 1) pa_nil))) pa_nil)) (pa_cons pe_int pa_nil)) (by rfl))
  (pss_cons (ps_while PassesOwn.never (pt_cmpR op_lt (pv 3) (pe_callB call_lenU rfl B.len bb_len (pa_cons (pv 2) pa_nil)) (nomark _))
    (pss_cons (ps_asg (pe_ix ix_seq (pv 2) (pv 3) (fun _ _ => rfl)) (pg_names2 (K := K) rfl rfl (pg_name (i := 4) sc_law_same.nd rfl (Or.inr rfl) (Or.inl rfl)) (pg_name (i := 5) sc_law_same.nd rfl (Or.inr rfl) (Or.inl rfl))))
  (pss_cons (ps_aug (i := 3) sc_law_same.nd rfl (Or.inl rfl) pe_int ip_add)
  (pss_cons (ps_if (pt_cmpR op_ne (pcal C_law_kind hr (by decide) rfl (pa_cons (pv 4) pa_nil)) (pcal C_law_kind hr (by decide) rfl (pa_cons (pv 5) pa_nil)) (nomark _))
    (pss_one (ps_ret pe_bl))
    pss_nil)
  (pss_one (ps_if (pt_val (p_isi rfl rfl B.isinstance B.dict bb_dict (pv 4)))
    (pss_cons (ps_if (pt_cmpR op_ne (pe_callB call_lenU rfl B.len bb_len (pa_cons (pv 4) pa_nil)) (pe_callB call_lenU rfl B.len bb_len (pa_cons (pv 5) pa_nil)) (nomark _))
    (pss_one (ps_ret pe_bl))
    pss_nil)
  (pss_cons (ps_expr (pe_bm PySem.F.plainAttrs_list PySem.F.slot_list_extend PySem.F.type_list_extend mt_extend (pv 2) (pa_cons (pe_lc rfl sc_law_same.nd (pi_list (pe_callB (call_sortedDI rfl) rfl B.sorted bb_sorted (pa_cons (pv 4) pa_nil))) (blkOk_by (own := [("key", 6)]) (N := N_law_same) (sc := defScope s_law_same) (by decide +kernel)) (fun _ _ _ _ _ => (pg_name (i := 6) sc_law_same.nd rfl (Or.inl rfl) (Or.inr rfl))) (fun _ _ _ _ _ => (pts_one (pt_cmp (pc_din hu (pv 6) (pv 5)) rfl))) (fun _ _ _ _ _ => (pe_tup (pa_cons (pe_dget hu (pv 4) (pv 6) (fun _ _ => rfl)) (pa_cons (pe_dget hu (pv 5) (pv 6) (fun _ _ => rfl)) pa_nil))))) pa_nil)))
  (pss_one (ps_if (pt_cmpR (op_neZ hr.units) (pe_lock (pe_lc rfl sc_law_same.nd (pi_keys (pv 4)) (blkOk_by (own := [("key", 6)]) (N := N_law_same) (sc := defScope s_law_same) (by decide +kernel)) (fun _ _ _ _ _ => (pg_name (i := 6) sc_law_same.nd rfl (Or.inl rfl) (Or.inr rfl))) (fun _ _ _ _ _ => (pts_one (pt_cmp (pc_dnotin hu (pv 6) (pv 5)) rfl))) (fun _ _ _ _ _ => pe_int))) (pe_lst pa_nil) (nomark _))
    (pss_one (ps_ret pe_bl))
    pss_nil))))
    (pss_one (ps_if (pt_val (p_isi2 rfl rfl rfl B.isinstance B.tuple B.list bb_tuple bb_list (pv 4)))
    (pss_cons (ps_if (pt_cmpR op_ne (pe_callB call_lenU rfl B.len bb_len (pa_cons (pv 4) pa_nil)) (pe_callB call_lenU rfl B.len bb_len (pa_cons (pv 5) pa_nil)) (nomark _))
    (pss_one (ps_ret pe_bl))
    pss_nil)
  (pss_one (ps_expr (pe_bm PySem.F.plainAttrs_list PySem.F.slot_list_extend PySem.F.type_list_extend mt_extend (pv 2) (pa_cons (p_listzip rfl rfl B.list B.zip rfl (pa_cons (pv 4) (pa_cons (pv 5) pa_nil))) pa_nil)))))
    (pss_one (ps_if (pt_cmpR (op_neZ hr.units) (pv 4) (pv 5) (nomark _))
    (pss_one (ps_ret pe_bl))
    pss_nil))))))))))
  (pss_one (ps_ret pe_bl)))), ?_⟩
  refine q_par1 (eu_tup (ea_cons (ev_var rfl) (ea_cons (ev_var rfl) ea_nil)) (by simp)) fun t0 p0 H0 ht0 hp0 hne0 e0 h0t h0p => ?_
  refine q_while (fun m σ' H' => ∃ o4 o5 n ts us ws ds es, σ' = [some x, some y, some (.ref p0), some (.int ((n : Nat) : Int)), o4, o5, none] ∧ Ex H H' ∧ Lf K H H' p0 n ts us ws ds es ∧ wtA ds = m ∧ n + wtA ds ≤ 120 ∧ (ds = es ↔ d = e)) (wt d)
    ⟨none, none, 0, [t0], [x], [y], [d], [e], rfl, e0, Lf.first h0t h0p hne0 rx ry ok ok2 hd, by rw [wtA, wtA]; omega, by rw [wtA, wtA]; omega, ⟨fun z => (List.cons.inj z).1, fun z => by rw [z]⟩⟩ ?_
  rintro m _ H' ⟨o4, o5, n, ts, us, ws, ds, es, rfl, e1, ln, rfl, hm, iff1⟩
  obtain ⟨zs, zl, g⟩ := ln.hl
  have lt1 := ln.tl
  have lr := ln.ru.len
  have lr2 := ln.rw.len
  have wl := ln.wl
  have lw := wtA_len ds
  refine ⟨decide ((n : Int) < ((zs ++ ts.map V.ref).length : Int)), et_test (ev_op (ev_var rfl) (ev_lenUX (ev_var rfl) ⟨_, rfl, .inl (.inl (.inl g))⟩) rv_lt), fun hb H1 e2 => ?_, fun hb H1 e2 => ?_⟩
  rotate_left
  · have hz : ts.length = 0 := by
      have := of_decide_eq_false hb
      simp at this
      omega
    have z1 : ds = [] := List.length_eq_zero_iff.mp (by omega)
    have z2 : es = [] := List.length_eq_zero_iff.mp (by omega)
    rw [sm_t (iff1.mp (by rw [z1, z2]))] at k
    exact s_ret ev_c fun H4 e5 => k H4 ((e1.trans e2).trans e5)
  have hpos : 0 < ts.length := by
    have := of_decide_eq_true hb
    simp at this
    omega
  cases ts with
  | nil => cases hpos
  | cons t ts =>
  cases us with
  | nil => cases lt1
  | cons u us =>
  cases ws with
  | nil => cases wl
  | cons v ws =>
  cases ds with
  | nil => cases lr
  | cons du ds =>
  cases es with
  | nil => cases lr2
  | cons ev es =>
  obtain ⟨⟨xs, gx, gt⟩, ht, ru, rv, oku, okv, dd⟩ := ln.next
  have hwt : wtA (du :: ds) = wt du + wtA ds := by rw [wtA]
  have lde : ds.length = es.length := by
    simp at lr lr2 wl
    omega
  rw [hwt] at hm ⊢
  have e12 := e1.trans e2
  have fls : du ≠ ev → RetV (.bl false) H Q := fun z => by
    have : d ≠ e := fun q => z (List.cons.inj (iff1.mpr q)).1
    rwa [sm_f this] at k
  let Nx : L2.St → Hp → Prop := fun σ' H' => ∃ m', m' < wt du + wtA ds ∧ ∃ o4 o5 n ts us ws ds es, σ' = [some x, some y, some (.ref p0), some (.int ((n : Nat) : Int)), o4, o5, none] ∧ Ex H H' ∧ Lf K H H' p0 n ts us ws ds es ∧ wtA ds = m' ∧ n + wtA ds ≤ 120 ∧ (ds = es ↔ d = e)
  have next : ∀ {us2 ws2 : List V} {ds2 es2 : List D}, ds2.length = es2.length → wtA ds2 + 1 ≤ wt du → (ds2 = es2 ↔ du = ev) → ∀ (ts2 : List Addr) (H8 : Hp) (o4 o5 : Option V), Ex H H8 → Lf K H H8 p0 (n + 1) (ts ++ ts2) (us ++ us2) (ws ++ ws2) (ds ++ ds2) (es ++ es2) → Nx [some x, some y, some (.ref p0), some (.int ((n : Int) + 1)), o4, o5, none] H8 :=
    fun {us2 ws2 ds2 es2} l2 w2 i2 ts2 H8 o4 o5 e8 ln2 => ⟨wtA ds + wtA ds2, by omega, o4, o5, n + 1, _, _, _, _, _, rfl, e8, ln2, by rw [wtA_app], by rw [wtA_app]; omega, by
      rw [← iff1]
      constructor
      · intro z
        obtain ⟨z1, z2⟩ := List.append_inj z lde
        rw [z1, i2.mp z2]
      · intro z
        rw [(List.cons.inj z).2, i2.mpr (List.cons.inj z).1]⟩
  refine ⟨Nx, fun _ _ h => h, ?_⟩
  refine q_pair (ev_op (ev_var rfl) (ev_var rfl) (rv_ixLs (.inl (.inl (e2 _ _ gx))) gt)) (.inl (.inl (e2 _ _ ht))) fun H2 e3 => ?_
  refine q_aug rfl ev_c fun H3 e4 => ?_
  have e14 := e12.trans (e3.trans e4)
  refine q_when (b := !decide (V.int (kindD du) = V.int (kindD ev))) (et_test (ev_op (ev_call0 (ea_cons (ev_var rfl) ea_nil) (spv_kind (ru.mono e14))) (ev_call0 (ea_cons (ev_var rfl) ea_nil) (spv_kind (rv.mono e14))) (rv_ne rfl))) (fun hb H4 e5 => s_ret ev_c fun H5 e6 => fls (fun z => ?_) H5 (e14.trans (e5.trans e6))) fun hb H4 e5 => ?_
  · subst z
    simp at hb
  have hk : kindD du = kindD ev := by
    have := of_decide_eq_true (by simpa using hb : decide (V.int (kindD du) = V.int (kindD ev)) = true)
    exact V.int.inj this
  have e15 := e14.trans e5
  have eL : Ex H' H4 := e2.trans (e3.trans (e4.trans e5))
  have lsk := ln.skip.tl
  have lsr := ln.skip.ru.len
  have lwd := wtA_len ds
  refine s_if (b := isM du) (et_B (ev_isi (ev_var rfl) (ru.mono e15) (kit_dict _ _))) (fun hq H5 e6 => ?_) (fun hq H5 e6 => ?_)
  · have hq2 : isM ev = true := by
      revert hk hq
      cases du <;> cases ev <;> simp [kindD, isM]
    obtain ⟨a, xs1, ds1, rfl, z1, ha, l1, r1, oks1, nd1⟩ := dic_of ru hq oku
    obtain ⟨b, xs2, ds2, rfl, z2, hb2, l2, r2, oks2, nd2⟩ := dic_of rv hq2 okv
    have e16 := e15.trans e6
    have ll1 := iota_len ds1.length
    have ll2 := iota_len ds2.length
    refine q_when (b := !decide (V.int ((dkv (iota ds1.length) xs1).length : Int) = V.int ((dkv (iota ds2.length) xs2).length : Int))) (et_test (ev_op (ev_lenUD (ev_var rfl) (e16 _ _ ha)) (ev_lenUD (ev_var rfl) (e16 _ _ hb2)) (rv_ne rfl))) (fun hb H6 e7 => s_ret ev_c fun H7 e8 => fls (fun z => ?_) H7 ((e16.trans e7).trans e8)) fun hb H6 e7 => ?_
    · rw [z1, z2] at z
      have := (D.dic.inj z).2
      subst this
      simp [dkv_length l1, dkv_length l2] at hb
    · have hl : ds1.length = ds2.length := by
        have := of_decide_eq_true (by simpa using hb : decide (V.int ((dkv (iota ds1.length) xs1).length : Int) = V.int ((dkv (iota ds2.length) xs2).length : Int)) = true)
        have := V.int.inj this
        rw [dkv_length l1, dkv_length l2] at this
        omega
      rw [← hl] at hb2 l2 nd2
      have e17 := e16.trans e7
      have few : ds1.length < 64 := by
        have h1 := wtA_len ds1
        have h2 : wt du = wtA ds1 + (iota ds1.length).length + 1 := by rw [z1, wt]
        omega
      have eL6 : Ex H' H6 := eL.trans (e6.trans e7)
      have hk : ∀ {c : Addr} {o : Obj} {zs : List V}, (iota ds1.length).length = zs.length → ∀ {G : Hp}, G c = some (.frz o (.dK (dkv (iota ds1.length) zs))) → Flat (Itk c o (dkv (iota ds1.length) zs)) G ((iota ds1.length).map V.int) := fun l _ g => dkv_keys l ▸ flat_keys g
      have ha6 := e17 _ _ ha
      have hb6 := e17 _ _ hb2
      have len1 := r1.len
      have len2 := r2.len
      refine q_extP rfl e17 hp0 (ln.skip.mono eL6) (us2 := xs1) (ws2 := xs2) (fun Q q => ?_) (by omega) r1 r2 oks1 oks2 (by rw [z1, dep] at dd; omega) (by omega) fun H8 ts2 e9 ln2 => ?_
      · refine lc_new (el_sortedD (ev_var rfl) (.inl ha6) (dkv_fst l1) (by rw [ll1]; exact few) (iota_le _)) (Ex.refl _) fun c H7 hc e8 h7 => ?_
        refine el_pairsT (atK (iota ds1.length) xs1) (atK (iota ds1.length) xs2) (fun H9 e9 R r => r H9 (Ex.refl _)) (flat_list (.inl (.inl h7))) (by rw [List.length_map]; omega) (fun _ => rfl) (fun z hz => ?_) (fun z hz => ?_) H7 (Ex.refl _) _ fun q1 H9 ts2 hq1 e9 h9 hN _ => ?_
        · obtain ⟨c1, rfl, g1⟩ := valV_at nd1 l1 hz
          obtain ⟨c2, z4, g2⟩ := valV_at nd1 l2 hz
          cases z4
          exact et_is (et_B (ev_din (ev_var rfl) (ev_var rfl) (.inl (e8 _ _ hb6)))) (by rw [g2]; rfl)
        · obtain ⟨c1, rfl, g1⟩ := valV_at nd1 l1 hz
          obtain ⟨c2, z4, g2⟩ := valV_at nd1 l2 hz
          cases z4
          exact eu_tup (ea_cons (ev_dget (ev_var rfl) (ev_var rfl) (.inl (e8 _ _ ha6)) g1) (ea_cons (ev_dget (ev_var rfl) (ev_var rfl) (.inl (e8 _ _ hb6)) g2) ea_nil)) (by simp)
        · rw [map_atK nd1 l1, map_atK nd1 l2] at hN
          exact q q1 H9 ts2 (fresh_back e8 hq1) (e8.trans e9) h9 (newAt_back e8 hN)
      · have ha8 := e9 _ _ ha
        have hb8 := e9 _ _ hb2
        have el0 : EvL (tLockE (tLc (iKeys (tVar 4)) (gName 6) (tB (tDNotIn (tVar 6) (tVar 5))) (tC (.int 1)) [6])) [some x, some y, some (.ref p0), some (.int ((n : Int) + 1)), some (.ref a), some (.ref b), none] H8 [] := by
          refine el_lock ha8 trivial fun od => ?_
          have hb9 : Rd (upd H8 a (.frz od (.dK (dkv (iota ds1.length) xs1)))) b (.dK (dkv (iota ds1.length) xs2)) := by
            by_cases z : b = a
            · subst z
              have e : dkv (iota ds1.length) xs1 = dkv (iota ds1.length) xs2 := HO.dK.inj (Option.some.inj (ha8.symm.trans hb8))
              rw [e]
              exact .inr ⟨od, upd_same⟩
            · exact .inl (by rw [upd_ne z]; exact hb8)
          have := el_lcF (te := tC (.int 1)) (t := tB (tDNotIn (tVar 6) (tVar 5))) (vs := [6]) (j := 6) (σ := [some x, some y, some (.ref p0), some (.int ((n : Int) + 1)), some (.ref a), some (.ref b), none]) (fun _ => false) (fun _ => V.int 1) (w_keys (tl := tVar 4) (ev_var rfl) (upd_same : upd H8 a (.frz od (.dK (dkv (iota ds1.length) xs1))) a = _)) (hk l1 upd_same) (by rw [List.length_map]; omega) (fun _ => rfl) (fun z hz => ?_) fun z hz _ => ev_c
          · have z0 : ((iota ds1.length).map V.int).filter (fun _ => false) = [] := List.filter_eq_nil_iff.mpr fun _ _ h => by cases h
            rw [z0] at this
            exact this
          · obtain ⟨c1, rfl, g1⟩ := valV_at nd1 l2 hz
            exact et_is (et_B (ev_dnin (ev_var rfl) (ev_var rfl) hb9)) (by rw [g1]; rfl)
        refine s_when (b := false) (et_is (et_test (ev_neNil el0 el_nil .nil (fun _ m => by cases m) (Nat.zero_le _))) rfl) (fun z => by cases z) fun _ H9 e10 => ?_
        refine next (by omega) ?_ ⟨fun z => ?_, fun z => ?_⟩ ts2 H9 _ _ (e9.trans e10) (ln2.mono e10)
        · have : wt du = wtA ds1 + (iota ds1.length).length + 1 := by rw [z1, wt]
          omega
        · rw [z1, z2, z]
        · rw [z1, z2] at z
          exact (D.dic.inj z).2
  · have e16 := e15.trans e6
    have eL5 : Ex H' H5 := eL.trans e6
    refine s_if (b := isT du || isL du) (et_B (ev_isi2 (ev_var rfl) (ru.mono e16) (kit_tuple _ _) (kit_list _ _))) (fun hs H6 e7 => ?_) (fun hs H6 e7 => ?_)
    · have hs2 : (isT ev || isL ev) = true := by
        revert hk hs
        cases du <;> cases ev <;> simp [kindD, isT, isL]
      obtain ⟨us2, ds2, sx, r2, hw2, ok2', d2, hds⟩ := seq_of ru hs oku
      obtain ⟨ws2, es2, sy, r3, _, ok3', _, hes⟩ := seq_of rv hs2 okv
      have iff2 : ds2 = es2 ↔ du = ev := by
        rcases hds with z | z <;> rcases hes with z2 | z2 <;> rw [z, z2] <;> rw [z, z2] at hk
        · exact ⟨fun q => by rw [q], fun q => D.tup.inj q⟩
        · exact absurd hk (by simp only [kindD]; decide)
        · exact absurd hk (by simp only [kindD]; decide)
        · exact ⟨fun q => by rw [q], fun q => D.lst.inj q⟩
      have e17 := e16.trans e7
      have len2 := r2.len
      have len3 := r3.len
      have wl2 := wtA_len ds2
      refine q_when (b := !decide (V.int (us2.length : Int) = V.int (ws2.length : Int))) (et_test (ev_op (ev_lenUX (ev_var rfl) (sx.mono e17)) (ev_lenUX (ev_var rfl) (sy.mono e17)) (rv_ne rfl))) (fun hb H7 e8 => s_ret ev_c fun H8 e9 => fls (fun z => ?_) H8 ((e17.trans e8).trans e9)) fun hb H7 e8 => ?_
      · rw [iff2.mpr z] at len2
        rw [len2, len3] at hb
        simp at hb
      · have hl : us2.length = ws2.length := by
          have := of_decide_eq_true (by simpa using hb : decide (V.int (us2.length : Int) = V.int (ws2.length : Int)) = true)
          have := V.int.inj this
          omega
        exact s_zipL rfl rfl rfl (e17.trans e8) hp0 (ln.skip.mono (eL5.trans (e7.trans e8))) sx sy hl r2 r3 ok2' ok3' (by omega) (by omega) fun H8 ts2 e9 ln2 => next (by omega) (by omega) iff2 ts2 H8 _ _ e9 ln2
    · have ss : sameSort du ev = true := by
        revert hk hs hq
        cases du <;> cases ev <;> simp [kindD, isT, isL, isM, sameSort, isSeq]
      refine s_when (b := !eqv du ev) (et_test (ev_op (ev_var rfl) (ev_var rfl) (rv_neZ (ru.mono (e16.trans e7)) (rv.mono (e16.trans e7)) oku dd ss))) (fun hb H7 e8 => s_ret ev_c fun H8 e9 => fls (fun z => ?_) H8 (((e16.trans e7).trans e8).trans e9)) fun hb H7 e8 => ?_
      · subst z
        rw [eqv_refl oku] at hb
        cases hb
      · have he : du = ev := by
          have hb2 : eqv du ev = true := by simpa using hb
          revert hk hs hq hb2
          cases du <;> cases ev <;> simp [kindD, isT, isL, isM, eqv]
        exact next (ds2 := []) (es2 := []) (us2 := []) (ws2 := []) rfl (by have := wt_pos du; rw [wtA]; omega) ⟨fun _ => he, fun _ => rfl⟩ [] H7 _ _ ((e16.trans e7).trans e8) (by simpa using ln.skip.mono (eL5.trans (e7.trans e8)))
end
end K5
namespace K5
open PySem PySem.Spec PyProof.Rows L2 Evl KZ RZ
def atoms : List D := [.int 0, .int 1, .bl true, .bl false, .non, .str "a", .str "cell", .str "B", .str "abcdefghi", .int (-1), .int ((10 : Int) ^ (20 : Int).toNat), .str "", .int 255, .int 256]
def atomV : D → V
  | .int i => .int i
  | .bl b => .bl b
  | .str s => .str s
  | _ => .non
theorem atom_rp {K : PySem.W.Frag} {H : Hp} : ∀ d ∈ atoms, Rp K H (atomV d) d ∧ Ok d ∧ dep d = 0 ∧ wt d = 1 := by
  have hi : ∀ i, Rp K H (atomV (.int i)) (.int i) ∧ Ok (.int i) ∧ dep (.int i) = 0 ∧ wt (.int i) = 1 := fun i => ⟨.int i, .int i, by simp [dep], by simp [wt]⟩
  have hb : ∀ i, Rp K H (atomV (.bl i)) (.bl i) ∧ Ok (.bl i) ∧ dep (.bl i) = 0 ∧ wt (.bl i) = 1 := fun i => ⟨.bl i, .bl i, by simp [dep], by simp [wt]⟩
  have hs : ∀ s : Str, s.length ≤ 1000 → Rp K H (atomV (.str s)) (.str s) ∧ Ok (.str s) ∧ dep (.str s) = 0 ∧ wt (.str s) = 1 := fun s h => ⟨.str s, .str h, by simp [dep], by simp [wt]⟩
  have hn : Rp K H (atomV .non) .non ∧ Ok .non ∧ dep .non = 0 ∧ wt .non = 1 := ⟨.non, .non, by simp [dep], by simp [wt]⟩
  intro d m
  simp only [atoms, List.mem_cons, List.not_mem_nil, or_false] at m
  rcases m with rfl | rfl | rfl | rfl | rfl | rfl | rfl | rfl | rfl | rfl | rfl | rfl | rfl | rfl
  all_goals first | exact hi _ | exact hb _ | exact hn | exact hs _ (by decide +kernel)
section
variable {P : Program} {w : World} {K : PySem.W.Frag} {mg : Str → Option Value} {base : Heap}
abbrev s_law_value : Stmt := top 37
abbrev N_law_value : List Str := ["bag", "depth", "way", "some", "turn", "at", "one"]
theorem sc_law_value : FnScope N_law_value ["bag", "depth"] (defScope s_law_value) := ⟨rfl, rfl, rfl, by decide +kernel, rfl, by decide +kernel, by decide +kernel⟩
theorem ok_law_value (n : Nat) {f : Addr} {fd : FuncData} (F : Fun K "_law_value" "_law_value" s_law_value f fd) (B : Blt mg) (C_law_take : Cal P w K mg base 1 "_law_take" ["bag", "many"] (spTake K)) (C_law_some : Cal P w K mg base 2 "_law_some" ["bag", "things"] (spSome K))
    (C_law_value : Cal P w K mg base (n + 2) "_law_value" ["bag", "depth"] (spVal' K n)) : FnOk P w K mg base CX0 (n + 3) f fd ["bag", "depth"] (spValue K n) := by
  refine F.ok sc_law_value (fun vs H Q E ⟨_, _, e, _⟩ => by rw [e]; rfl) (fun cdv A outer s H vs Q E hr h => ?_)
  obtain ⟨b, c, rfl, hB, k⟩ := h
  have hu := hu_of hr
  refine ⟨_, (pss_cons (ps_set (i := 2) sc_law_value.nd rfl (Or.inl rfl) (pcal C_law_take hr (by omega) rfl (pa_cons (pv 0) (pa_cons pe_int pa_nil))))
  (pss_cons (ps_if (PW.pt (pw_or (pt_cmpR op_lt (pv 2) pe_int (nomark _)) (pw_or1 (pt_cmpR op_eq (pv 1) pe_int (nomark _)))))
    (pss_one (ps_ret (pcal C_law_some hr (by omega) rfl (pa_cons (pv 0) (pa_cons (pe_lst (pa_cons pe_int (pa_cons pe_int (pa_cons pe_bl (pa_cons pe_bl (pa_cons pe_non (pa_cons pe_str (pa_cons pe_str (pa_cons pe_str (pa_cons pe_str (pa_cons (pe_un un_neg pe_int) (pa_cons (pe_op op_pow pe_int pe_int) (pa_cons pe_str (pa_cons pe_int (pa_cons pe_int pa_nil))))))))))))))) pa_nil)))))
    pss_nil)
  (pss_cons (ps_setLc (i := 3) rfl sc_law_value.nd rfl rfl (sw_true rfl rfl rfl (by decide +kernel)) (pi_range1 rfl B.range (pa_cons (pcal C_law_take hr (by omega) rfl (pa_cons (pv 0) (pa_cons pe_int pa_nil))) pa_nil)) (blkOk_by (own := [("turn", 4)]) (N := N_law_value) (sc := defScope s_law_value) (by decide +kernel)) (fun _ _ _ _ _ => (pg_name (i := 4) sc_law_value.nd rfl (Or.inl rfl) (Or.inr rfl))) (fun _ _ _ _ _ => pts_nil) (fun _ _ _ _ _ => (pcal C_law_value hr (by omega) rfl (pa_cons (pv 0) (pa_cons (pe_op op_sub (pv 1) pe_int) pa_nil)))))
  (pss_cons (ps_if (pt_cmpR op_lt (pv 2) pe_int (nomark _))
    (pss_one (ps_ret (pe_callTy call_tuple_of rfl B.tuple bb_tuple (pa_cons (pv 3) pa_nil))))
    pss_nil)
  (pss_one (ps_ret (pe_ifExp (pt_cmpR op_eq (pv 2) pe_int (nomark _)) (pv 3) (pe_callTy (call_dictP rfl) rfl B.dict bb_dict (pa_cons (pe_lc rfl sc_law_value.nd (pi_enum rfl B.enumerate (pa_cons (pv 3) pa_nil)) (blkOk_by (own := [("at", 5), ("one", 6)]) (N := N_law_value) (sc := defScope s_law_value) (by decide +kernel)) (fun _ _ _ _ _ => (pg_names2 (K := K) rfl rfl (pg_name (i := 5) sc_law_value.nd rfl (Or.inl rfl) (Or.inr rfl)) (pg_name (i := 6) sc_law_value.nd rfl (Or.inl rfl) (Or.inr rfl)))) (fun _ _ _ _ _ => pts_nil) (fun _ _ _ _ _ => (pe_tup (pa_cons (pv 5) (pa_cons (pv 6) pa_nil))))) pa_nil))))))))), ?_⟩
  refine q_take rfl hB (by decide) (by decide) fun H1 j e1 hB1 j0 j9 => ?_
  obtain ⟨ob, hob⟩ := hB1.some_
  refine q_when (b := decide (j < 3) || decide (V.int ((n : Nat) : Int) = V.int 0)) (et_or (et_test (ev_op (ev_var rfl) ev_c rv_lt)) fun _ => et_test (ev_op (ev_var rfl) ev_c (rv_eq rfl))) (fun hb H2 e2 => ?_) (fun hb H2 e2 => ?_)
  · have hB2 := hB1.mono e2
    refine s_someL (xs := atoms.map atomV) rfl hB2 (el_lst (ea_cons ev_c (ea_cons ev_c (ea_cons ev_c (ea_cons ev_c (ea_cons ev_c (ea_cons ev_c (ea_cons ev_c (ea_cons ev_c (ea_cons ev_c (ea_cons (ev_un ev_c ru_neg) (ea_cons (ev_op ev_c ev_c (rv_I ⟨by decide, by decide, by decide⟩)) (ea_cons ev_c (ea_cons ev_c (ea_cons ev_c ea_nil)))))))))))))) (by decide)) (by decide) (by decide) fun H3 v e3 hB3 m => ?_
    obtain ⟨d, hd, rfl⟩ := List.mem_map.mp m
    obtain ⟨r1, r2, r3, r4⟩ := atom_rp (K := K) (H := nw H H3) d hd
    exact k H3 _ d ((e1.trans (hm_mono e2)).trans e3) hB3 r1 r2 (by omega) (by have := wb_pos n; omega)
  · have hB2 := hB1.mono e2
    have e02 : Ex (Hm b H) (Hm b H2) := e1.trans (hm_mono e2)
    obtain ⟨m, rfl⟩ : ∃ m, n = m + 1 := by
      cases n with
      | zero => simp at hb
      | succ m => exact ⟨m, rfl⟩
    refine ⟨.ref b, rfl, b, c, 4, rfl, by decide, by decide, hB2, fun H3 j2 e3 hB3 a0 a4 => ⟨j2, rfl, by omega, by omega, fun Dl hD => ?_⟩⟩
    obtain ⟨ob3, hob3⟩ := hB3.some_
    have hDb : Dl ≠ b := (ne_of_none hob3 hD).symm
    have hDc : Dl ≠ c := by
      obtain ⟨_, oc, hoc⟩ := hB3.cell
      exact (ne_of_none hoc hD).symm
    refine lc_range (n := j2.toNat) (fun i H' => H3 Dl = none ∧ Ex (Hm b H3) (Hm b H') ∧ Bag K H' b c ∧ ∃ vs ds, H' Dl = some (.lst vs) ∧ vs.length = i ∧ RpA K (Hm Dl (nw H3 H')) vs ds ∧ ∀ d ∈ ds, Ok d ∧ dep d ≤ m ∧ wt d ≤ wb m)
      ⟨hD, hm_mono (Ex.new hD), hB3.mono (Ex.new hD), [], [], upd_same, rfl, .nil, fun _ m => by cases m⟩ (fun i H' hi p => ?_) (fun H' p => ?_)
    · obtain ⟨p1, p2, p3, vs, ds, p4, p5, p6, p7⟩ := p
      refine ⟨rfl, yes_go ?_⟩
      have en : (((m + 1 : Nat) : Int) - 1) = ((m : Nat) : Int) := by omega
      refine ⟨.ref b, rfl, _, rfl, _, _, rfl, rfl, b, c, by show [V.ref b, V.int (((m + 1 : Nat) : Int) - 1)] ++ [] = _; rw [en]; rfl, p3, fun H4 v d e4 hB4 r4 ok4 d4 w4 => ?_⟩
      have h4D := hm_to e4 hDb p4
      obtain ⟨ob', hob'⟩ := p3.some_
      obtain ⟨ob4, hob4⟩ := hB4.some_
      have dm := hm_dom p2 hob'
      refine ⟨vs, h4D, sz_lt (by rw [p5]; omega), p1, ?_, ?_, vs ++ [v], ds ++ [d], upd_same, by simp [p5], ?_, fun d' m' => ?_⟩
      · have : Ex (Hm b H3) (Hm b (upd H4 Dl (.lst (vs ++ [v])))) := fun a o h => by
          have h' := (p2.trans e4) a o h
          have za : a ≠ Dl := fun z => by
            rw [z, hm_ne hDb, p1] at h
            cases h
          by_cases zb : a = b
          · rw [zb, hm_self] at h
            cases h
          · rw [hm_ne zb] at h' ⊢
            rw [upd_ne za]
            exact h'
        exact this
      · exact hB4.other hDb hDc
      · refine RpA.app (RpA.mono (fun a o h => ?_) p6) (.cons (Rp.mono (fun a o h => ?_) r4) .nil)
        · have za : a ≠ Dl := fun z => by
            rw [z, hm_self] at h
            cases h
          rw [hm_ne za] at h ⊢
          obtain ⟨h1, h2⟩ := nw_some h
          rw [nw_at h1, upd_ne za]
          exact hm_to e4 (fun z => by rw [z, hob3] at h1; cases h1) h2
        · obtain ⟨h1, h2⟩ := nw_some h
          have za : a ≠ Dl := fun z => by
            rw [z, p4] at h1
            cases h1
          rw [hm_ne za, nw_at (dm a h1), upd_ne za]
          exact h2
      · rcases List.mem_append.mp m' with m' | m'
        · exact p7 d' m'
        · rw [List.mem_singleton.mp m']
          exact ⟨ok4, d4, w4⟩
    · obtain ⟨p1, p2, p3, vs, ds, p4, p5, p6, p7⟩ := p
      have hl : ds.length ≤ 3 := by
        have := p6.len
        omega
      obtain ⟨ob5, hob5⟩ := p3.some_
      have h03 := hm_dom (e02.trans e3) hob3
      have h3D : H Dl = none := h03 Dl p1
      have okd : ∀ d ∈ ds, Ok d := fun d m' => (p7 d m').1
      have depd : depA ds + 1 ≤ m + 1 := Nat.succ_le_succ (depA_le fun d m' => (p7 d m').2.1)
      have wtd : wtA ds ≤ 3 * wb m := Nat.le_trans (wtA_le fun d m' => (p7 d m').2.2) (Nat.mul_le_mul_right _ hl)
      have RA : ∀ Hf, Ex H' Hf → RpA K (nw H Hf) vs ds := fun Hf ef => RpA.mono (fun a o h => by
        have za : a ≠ Dl := fun z => by
          rw [z, hm_self] at h
          cases h
        rw [hm_ne za] at h
        obtain ⟨h1, h2⟩ := nw_some h
        rw [nw_at (h03 a h1)]
        exact ef _ _ h2) p6
      have eH : Ex (Hm b H) (Hm b H') := (e02.trans e3).trans p2
      refine q_when (b := decide (j < 7)) (et_test (ev_op (ev_var rfl) ev_c rv_lt)) (fun hc H6 e6 => ?_) (fun hc H6 e6 => ?_)
      · refine ⟨.ref Dl, rfl, Dl, vs, rfl, .inl ⟨.inl (.inl (e6 _ _ p4)), fun l hl6 => ?_⟩⟩
        have el : Ex H6 (upd H6 l (.tup vs)) := Ex.new hl6
        have hl0 : H l = none := hm_dom (eH.trans (hm_mono e6)) (e6 _ _ hob5) l hl6
        exact k _ _ (.tup ds) (eH.trans (hm_mono (e6.trans el))) (p3.mono (e6.trans el)) (.tup (.inl (.inl (by rw [nw_at hl0]; exact upd_same))) (RA _ (e6.trans el))) (.tup okd) (by rw [dep]; exact depd) (by rw [wt, wb]; omega)
      · refine ev_if' (b := decide (V.int j = V.int 7)) (et_test (ev_op (ev_var rfl) ev_c (rv_eq rfl))) (fun h7 H7 e7 => ?_) (fun h7 H7 e7 => ?_)
        · have e67 := e6.trans e7
          exact ⟨.ref Dl, rfl, k _ _ (.lst ds) (eH.trans (hm_mono e67)) (p3.mono e67) (.lst (.inl (.inl (by rw [nw_at h3D]; exact e67 _ _ p4))) (RA _ e67)) (.lst okd) (by rw [dep]; exact depd) (by rw [wt, wb]; omega)⟩
        · have e67 := e6.trans e7
          refine tcb1 ?_
          refine el_enumP (H := H7) (K := K) (j1 := 5) (j2 := 6) (vs := [5, 6]) (σ := [some (.ref b), some (.int (((m + 1 : Nat)) : Int)), some (.int j), some (.ref Dl), none, none, none]) (tA := tCons (tVar 3) tNil) (ea_cons (ev_var rfl) ea_nil) (.inl (.inl (e67 _ _ p4))) (by have := p6.len; omega) (fun _ _ => rfl) (fun _ _ => rfl) (fun _ _ => rfl) H7 (Ex.refl _) _ fun q H8 ts hq e8 h8 hN => ?_
          have ln : (iota vs.length).length = vs.length := by simp [iota]
          refine ⟨q, ts, dkv (iota vs.length) vs, rfl, .inl (.inl h8), paired_at (by have := hN.1; rw [List.length_map] at this; exact this) ln hN.2.1, fun r hr => ?_⟩
          rw [mergeK_dkv (iota_nodup _) ln]
          have er : Ex H8 (upd H8 r (.dK (dkv (iota vs.length) vs))) := Ex.new hr
          have e6r := e67.trans (e8.trans er)
          have hr0 : H r = none := hm_dom (eH.trans (hm_mono (e67.trans e8))) ((e67.trans e8) _ _ hob5) r hr
          have lv := p6.len
          exact k _ _ (.dic (iota vs.length) ds) (eH.trans (hm_mono e6r)) (p3.mono e6r) (.dic (by rw [nw_at hr0]; exact upd_same) ln (RA _ e6r)) (.dic okd (by rw [ln, lv]) (iota_nodup _) (by rw [lv])) (by rw [dep]; exact depd) (by rw [wt, wb, ln]; omega)
end
end K5
namespace K5
open PySem PySem.Spec PyProof.Rows L2 Evl KZ RZ KX
def clsBody : Stmt → List Stmt
  | .ClassDef _ _ _ b .. => b
  | _ => []
/-- the i-th method of the class at top n -/
abbrev mth (n i : Nat) : Stmt := ((clsBody (top n))[i]?).getD (.Pass ⟨0, 0, 0, 0⟩)
abbrev s_word : Stmt := mth 19 0
abbrev N_word : List Str := ["self"]
theorem sc_word : FnScope N_word ["self"] (defScope s_word) := ⟨rfl, rfl, rfl, by decide +kernel, rfl, by decide +kernel, by decide +kernel⟩
/-- an exception's own word -/
def spWord (K : PySem.W.Frag) : Sp := fun vs H Q _ => ∃ a C fs nm, vs = [.ref a] ∧ ExAt H a C fs ∧ ExcC K C ∧ CName K C nm ∧ nm.length ≤ 1000 ∧ RetV (.str nm) H Q
section
variable {P : Program} {w : World} {K : PySem.W.Frag} {mg : Str → Option Value} {base : Heap}
theorem ok_word {f : Addr} {fd : FuncData} (F : Fun K "word" "TapeError.word" s_word f fd) : FnOk P w K mg base CX0 1 f fd ["self"] (spWord K) := by
  refine F.ok sc_word (fun vs H Q E ⟨_, _, _, _, e, _⟩ => by rw [e]; rfl) (fun cdv A outer s H vs Q E hr h => ?_)
  obtain ⟨a, C, fs, nm, rfl, ha, T, N, hz, k⟩ := h
  refine ⟨_, (pss_one (ps_ret (pe_joined1 (pe_fmt (pe_clsName (pv 0)))))), ?_⟩
  exact ⟨.ref a, rfl, a, C, fs, nm, rfl, ha, T, N, .inl ⟨nm, rfl, sz_of (by omega), k H (Ex.refl H)⟩⟩
/-- the facts of K of a class of errors with its own __init__ -/
structure ErrC (P : Program) (w : World) (K : PySem.W.Frag) (mg : Str → Option Value) (base : Heap) (C : Addr) (nm : Str) (xs : List Str) : Prop where
  g : mg nm = some (.ref C)
  T : OexC K C
  x : ExcC K C
  n : CName K C nm
  no : ∀ y ∈ xs, PySem.W.findIn K (.ref C) y = some none
  ini : ∃ (fI : Addr) (fd : FuncData), PySem.W.findIn K (.ref C) "__init__" = some (some (.ref fI)) ∧ PySem.W.typeIn K (.ref fI) = some (.type "function") ∧ FnOk P w K mg base CX0 1 fI fd ("self" :: xs) (spInit C xs) ∧ Binds K fd ("self" :: xs) []
end
section
variable {X : Cx} {ta : TA} {e : Expr} {es : List Expr} {p pos : Pos}
theorem pe_err {k' : Nat} {C : Addr} {x : Str} {xs : List Str} (Z : ErrC X.prog X.w X.K X.mg X.base C x xs) (hr : Room (k' + 2) X.A) (hg : Gl X x) (ha : PA X (e :: es) ta)
    (hdb : (x == ("__debug__" : Str)) = false := by decide) (he : starEach (e :: es) X.env = (false, eval e X.env) :: starEach es X.env := by rfl) (hpl : (backTo pos (starEach es X.env)).any (·.1) = false := by rfl) :
    PE X (.Call (.Name x p) (e :: es) [] pos) (tNewE C (spInit C xs) ta) := by
  obtain ⟨fI, fd, h1, h2, F1, hb⟩ := Z.ini
  exact pe_newE Z.T h1 h2 F1 (hr.mono (by omega)) hb hg Z.g ha hdb he hpl
end
section
variable {K : PySem.W.Frag} {σ : L2.St} {H : Hp}
/-- a new error stands at its address -/
theorem ee_new {C : Addr} {xs : List Str} {ta : TA} {ys : List V} (h : EvA ta σ H ys) (hl : ys.length = xs.length) (hz : ys.length ≤ 1000) : ∀ H1, Ex H H1 → ∀ Q : VK, (∀ a H2, H1 a = none → Ex H1 H2 → ExAt H2 a C (some (xs.zip ys).reverse) → Q (.ref a) H2) → tNewE C (spInit C xs) ta σ H1 Q := fun H1 e Q q =>
  h H1 e _ fun H2 e2 => ⟨hz, fun a ha => ⟨a, ys, rfl, hl, upd_same, fun dx hdx hne => ⟨rfl, q a _ (fresh_back e2 ha) (e2.trans fun b o hb => by
    have nb : b ≠ a := ne_of_none hb ha
    have hd2 : H2 dx = none := by rw [upd_ne hne] at hdx; exact hdx
    rw [upd_ne nb, upd_ne (ne_of_none hb hd2), upd_ne nb]
    exact hb) ⟨dx, upd_same, by rw [upd_ne hne, upd_same]⟩⟩⟩⟩
theorem ee_new0 {C : Addr} : ∀ H1, Ex H H1 → ∀ Q : VK, (∀ a H2, H1 a = none → Ex H1 H2 → ExAt H2 a C none → Q (.ref a) H2) → tNewE0 C σ H1 Q := fun H1 e Q q => fun a ha => q a _ ha (Ex.new ha) upd_same
theorem ev_xo {te : TE} {n : Str} {a C : Addr} {fs : List (Str × V)} {v : V} (h : Ev te σ H (.ref a)) (ha : ExAt H a C (some fs)) (T : ExcC K C) (hno : PySem.W.findIn K (.ref C) n = some none) (l : fs.lookup n = some v) : Ev (tXo K n te) σ H v := fun H1 e Q q =>
  h H1 e _ fun H2 e2 => ⟨a, C, fs, v, rfl, exAt_mono (e.trans e2) ha, T, hno, l, q H2 e2⟩
end
end K5
namespace K5
open PySem PySem.Spec PyProof.Rows L2 Evl KZ RZ KX
def spLaw (K : PySem.W.Frag) : Sp := fun vs H Q _ => ∃ (a : Addr) (ns : List Int), vs = [.ref a] ∧ SqL K H a (ns.map V.int) ∧ ns.length ≤ 63 ∧ ∀ H', Q (.bl true) H'
/-- what the def law calls -/
structure Calls (P : Program) (w : World) (K : PySem.W.Frag) (mg : Str → Option Value) (base : Heap) : Prop where
  law_bag : Cal P w K mg base 1 "_law_bag" ["script"] (spBag K)
  law_take : Cal P w K mg base 1 "_law_take" ["bag", "many"] (spTake K)
  law_some : Cal P w K mg base 2 "_law_some" ["bag", "things"] (spSome K)
  law_value : Cal P w K mg base 6 "_law_value" ["bag", "depth"] (spValue K 3)
  law_is_int : Cal P w K mg base 1 "_law_is_int" ["thing"] (spB K isInt)
  law_named : Cal P w K mg base 2 "_law_named" ["thing"] (spB K isNm)
  law_rises : Cal P w K mg base 3 "_law_rises" ["thing"] (spC K riseD)
  law_alike : Cal P w K mg base 1 "_law_alike" ["found", "due"] (spAlike K)
  law_same : Cal P w K mg base 2 "_law_same" ["one", "other"] (spSameL K)
  law_keys : Cal P w K mg base 1 "_law_keys" [] spKeys
  is_integer : Cal P w K mg base 1 "is_integer" ["thing"] (spB K isInt)
  is_name : Cal P w K mg base 2 "is_name" ["thing"] (spB K isNm)
  is_within : Cal P w K mg base 2 "is_within" ["thing", "least", "most"] (spWithin K)
  are_integers : Cal P w K mg base 4 "are_integers" ["thing"] (spC K (allD isInt))
  are_names : Cal P w K mg base 4 "are_names" ["thing"] (spC K (allD isNm))
  do_rise : Cal P w K mg base 5 "do_rise" ["thing"] (spC K riseD)
  are_bytes : Cal P w K mg base 5 "are_bytes" ["thing"] (spC K (allD byteD))
  are_same : Cal P w K mg base 2 "are_same" ["one", "other"] (spSame K)
  is_among : Cal P w K mg base 3 "is_among" ["thing", "some"] (spAmong K)
/-- the errors -/
structure Errs (P : Program) (w : World) (K : PySem.W.Frag) (mg : Str → Option Value) (base : Heap) (CT fW : Addr) (cs : List Addr) : Prop where
  gT : mg "TapeError" = some (.ref CT)
  kT : PySem.W.keepIn K (.ref CT) = true
  vE : mg "ValueError" = none
  n8 : ∃ c0 c1 c2 c3 c4 c5 c6 c7 c8, cs = [c0, c1, c2, c3, c4, c5, c6, c7, c8] ∧ ErrC P w K mg base c0 "BadText" ["line", "column"] ∧ ErrC P w K mg base c1 "BadBook" ["at", "fault"] ∧ ErrC P w K mg base c2 "BadBytes" ["at", "fault"] ∧ ErrC P w K mg base c3 "BadEntry" ["index", "fault"] ∧
    ErrC P w K mg base c4 "NoName" ["name"] ∧ ErrC P w K mg base c5 "NoCommand" ["line"] ∧ ErrC P w K mg base c6 "Refused" ["why"] ∧ ErrC P w K mg base c8 "TooMany" ["what", "limit"] ∧
    (mg "Nothing" = some (.ref c7) ∧ PySem.W.excIn K c7 [.type "ValueError", .type "Exception", .type "BaseException", .type "object"] "ValueError.__new__" = true ∧ PySem.W.keepIn K (.ref c7) = true ∧ ExcC K c7 ∧ CName K c7 "Nothing")
  isT : ∀ c ∈ cs, PySem.W.kitOne K (.ref c) (.ref CT) = some true
  isV : ∀ c ∈ cs, PySem.W.kitOne K (.ref c) (.type "ValueError") = some true
  wd : ∀ c ∈ cs, PySem.W.findIn K (.ref c) "word" = some (some (.ref fW))
  tw : PySem.W.isFn K (.ref fW) = true
  kw : PySem.W.keepIn K (.ref fW) = true
  fw : ∃ fd, FnOk P w K mg base CX0 1 fW fd ["self"] (spWord K) ∧ Binds K fd ["self"] []
/-- the law's own things -/
def fixed : List D := [.tup [.int 1, .int 2], .tup [.int 2, .int 2], .tup [.str "a", .str "b"], .tup [.str "b", .str "a"], .tup [], .tup [.int 0, .int 255], .tup [.int 256], .tup [.str "cell"]]
theorem fixed_ok : ∀ d ∈ fixed, Ok d ∧ dep d ≤ 3 ∧ wt d ≤ 79 := by
  have hi : ∀ i, Ok (.int i) := fun i => .int i
  have hs : ∀ s : Str, s.length ≤ 1000 → Ok (.str s) := fun s h => .str h
  intro d m
  simp only [fixed, List.mem_cons, List.not_mem_nil, or_false] at m
  rcases m with rfl | rfl | rfl | rfl | rfl | rfl | rfl | rfl
  all_goals refine ⟨.tup fun d' m' => ?_, by simp [dep, depA], by simp [wt, wtA]⟩
  all_goals simp only [List.mem_cons, List.not_mem_nil, or_false] at m'
  all_goals first
    | (rcases m' with rfl | rfl <;> first | exact hi _ | exact hs _ (by decide +kernel))
    | (subst m'; first | exact hi _ | exact hs _ (by decide +kernel))
    | exact m'.elim
theorem ed_fixed {K : PySem.W.Frag} {σ : L2.St} {H : Hp} : EvDA K (tCons (tTup (tCons (tC (.int 1)) (tCons (tC (.int 2)) tNil))) (tCons (tTup (tCons (tC (.int 2)) (tCons (tC (.int 2)) tNil))) (tCons (tTup (tCons (tC (.str "a")) (tCons (tC (.str "b")) tNil))) (tCons (tTup (tCons (tC (.str "b")) (tCons (tC (.str "a")) tNil)))
    (tCons (tTup tNil) (tCons (tTup (tCons (tC (.int 0)) (tCons (tC (.int 255)) tNil))) (tCons (tTup (tCons (tC (.int 256)) tNil)) (tCons (tTup (tCons (tC (.str "cell")) tNil)) tNil)))))))) σ H fixed :=
  da_cons (ed_tup (da_cons ed_int (da_cons ed_int da_nil)) (by simp)) (da_cons (ed_tup (da_cons ed_int (da_cons ed_int da_nil)) (by simp)) (da_cons (ed_tup (da_cons ed_str (da_cons ed_str da_nil)) (by simp)) (da_cons (ed_tup (da_cons ed_str (da_cons ed_str da_nil)) (by simp))
    (da_cons (ed_tup da_nil (by simp)) (da_cons (ed_tup (da_cons ed_int (da_cons ed_int da_nil)) (by simp)) (da_cons (ed_tup (da_cons ed_int da_nil) (by simp)) (da_cons (ed_tup (da_cons ed_str da_nil) (by simp)) da_nil)))))))
theorem spv_alike {K : PySem.W.Frag} {H : Hp} {x y : V} {d : D} (r : Rp K H x d) (r2 : Rp K H y d) (ok : Ok d) (h1 : dep d ≤ 60) (h2 : wt d ≤ 1000) : SpV (spAlike K) [x, y] H (.bl true) := fun H1 e Q q E => ⟨x, y, d, rfl, r.mono e, r2.mono e, ok, h1, h2, q⟩
/-- a list of truths -/
def blD (bs : List Bool) : D := .lst (bs.map D.bl)
theorem rpA_bls {K : PySem.W.Frag} {H : Hp} : ∀ bs : List Bool, RpA K H (bs.map V.bl) (bs.map D.bl)
  | [] => .nil
  | b :: bs => .cons (.bl b) (rpA_bls bs)
theorem rp_bls {K : PySem.W.Frag} {H : Hp} {p : Addr} {bs : List Bool} (h : H p = some (.lst (bs.map V.bl))) : Rp K H (.ref p) (blD bs) := .lst (.inl (.inl h)) (rpA_bls bs)
theorem dep_bls : ∀ bs : List Bool, depA (bs.map D.bl) = 0
  | [] => rfl
  | b :: bs => by
    rw [List.map_cons, depA, dep_bls, show dep (.bl b) = 0 by simp [dep]]
    rfl
theorem wt_bls : ∀ bs : List Bool, wtA (bs.map D.bl) = bs.length
  | [] => rfl
  | b :: bs => by
    rw [List.map_cons, wtA, wt_bls, List.length_cons, show wt (.bl b) = 1 by simp [wt]]
    omega
theorem ok_bls (bs : List Bool) : Ok (blD bs) := .lst fun d m => by
  obtain ⟨b, _, rfl⟩ := List.mem_map.mp m
  exact .bl b
theorem spv_alikeB {K : PySem.W.Frag} {H : Hp} {p q : Addr} {bs : List Bool} (h : H p = some (.lst (bs.map V.bl))) (h2 : H q = some (.lst (bs.map V.bl))) (hz : bs.length ≤ 100) : SpV (spAlike K) [.ref p, .ref q] H (.bl true) :=
  spv_alike (rp_bls h) (rp_bls h2) (ok_bls bs) (by rw [blD, dep, dep_bls]; decide) (by rw [blD, wt, wt_bls]; omega)
/-- what the law's some holds -/
def membs : D → List D
  | .tup ds => ds
  | _ => [.non]
theorem membs_ok {d : D} (ok : Ok d) (dd : dep d ≤ 3) (w : wt d ≤ 79) : (∀ e ∈ membs d, Ok e) ∧ depA (membs d) ≤ 3 ∧ wtA (membs d) ≤ 79 := by
  have h1 : (∀ e ∈ [D.non], Ok e) ∧ depA [D.non] ≤ 3 ∧ wtA [D.non] ≤ 79 := ⟨fun e m => by rw [List.mem_singleton.mp m]; exact .non, by decide, by decide⟩
  cases d with
  | tup ds =>
    cases ok with
    | tup ok =>
      rw [dep] at dd
      rw [wt] at w
      exact ⟨ok, by show depA ds ≤ 3; omega, by show wtA ds ≤ 79; omega⟩
  | _ => exact h1
theorem membs_all {p : D → Bool} (hp : p .non = false) (d : D) : ((membs d).filter fun e => !p e).isEmpty = allD p d := by
  have h1 : ([D.non].filter fun e => !p e).isEmpty = false := by rw [List.filter_cons, hp]; rfl
  cases d with
  | tup ds =>
    show (ds.filter fun e => !p e).isEmpty = ds.all p
    rw [filter_empty]
    congr 1
    funext e
    rw [Bool.not_not]
  | _ => exact h1
theorem some_ev {K : PySem.W.Frag} {σ : L2.St} {H : Hp} {x : V} {d : D} (hx : σ[3]? = some (some x)) (r : Rp K H x d) : ∀ H1, Ex H H1 → ∀ Q : VK, (∀ sv ys H2, Ex H1 H2 → SqT K H2 sv ys → RpA K H2 ys (membs d) → Q (.ref sv) H2) →
    tIf (tB (tCB (rIsi K) (tCons (tVar 3) (tCons (tC (.ty "tuple")) tNil)))) (tVar 3) (tTup (tCons (tC .non) tNil)) σ H1 Q := fun H1 e Q q => by
  refine ev_if' (b := isT d) (et_B (ev_isi (ev_var hx) (r.mono e) (kit_tuple _ _))) (fun ht H2 e2 => ?_) (fun ht H2 e2 => ?_)
  · obtain ⟨a, xs, ds, rfl, rfl, hq, rs⟩ := tup_of r ht
    exact ⟨_, hx, q a xs H2 e2 (ex_t (e.trans e2) hq) (rs.mono (e.trans e2))⟩
  · have em : membs d = [.non] := by cases d <;> first | rfl | (cases ht; done)
    refine eu_tup (ea_cons ev_c ea_nil) (by simp) H2 (Ex.refl H2) _ fun p H3 hp e3 h3 => q p [.non] H3 (e2.trans e3) (.inl (.inl h3)) (by rw [em]; exact .cons .non .nil)
theorem any_filter {α : Type} (p : α → Bool) : ∀ l : List α, l.any p = !(l.filter p).isEmpty
  | [] => rfl
  | x :: l => by
    rw [List.any_cons, List.filter_cons, any_filter p l]
    cases p x <;> simp
theorem sm_comm (d e : D) : sm d e = sm e d := by
  by_cases h : d = e
  · rw [h]
  · rw [sm_f h, sm_f fun z => h z.symm]
theorem spv_within {K : PySem.W.Frag} {H : Hp} {x : V} {d : D} {a b : Int} (r : Rp K H x d) (ok : Ok d) : SpV (spWithin K) [x, .int a, .int b] H (.bl (within d a b)) := fun H1 e Q q E => ⟨x, d, a, b, rfl, r.mono e, ok, q⟩
theorem spv_among {K : PySem.W.Frag} {H : Hp} {x : V} {a : Addr} {xs : List V} {d : D} {ds : List D} (r : Rp K H x d) (h : SqL K H a xs) (rs : RpA K H xs ds) (ok : Ok d) (oks : ∀ e ∈ ds, Ok e) (h1 : dep d ≤ 60) (h2 : wt d ≤ 1000) (hz : ds.length ≤ 40000) : SpV (spAmong K) [x, .ref a] H (.bl (ds.any (sm d))) :=
  fun H1 e Q q E => ⟨x, a, xs, d, ds, rfl, r.mono e, ex_l e h, rs.mono e, ok, oks, h1, h2, hz, q⟩
/-- an error that is held, and its word -/
structure Held1 (K : PySem.W.Frag) (CT fW : Addr) (H : Hp) (a : Addr) (nm : Str) : Prop where
  ex : ∃ C fs, ExAt H a C fs ∧ ExcC K C ∧ CName K C nm ∧ PySem.W.kitOne K (.ref C) (.ref CT) = some true ∧ PySem.W.kitOne K (.ref C) (.type "ValueError") = some true ∧ PySem.W.findIn K (.ref C) "word" = some (some (.ref fW)) ∧ ((fs.getD []).lookup ("word" : Str)).isSome = false
  sz : nm.length ≤ 1000
theorem Held1.mono {K : PySem.W.Frag} {CT fW : Addr} {H H' : Hp} {a : Addr} {nm : Str} (e : Ex H H') (h : Held1 K CT fW H a nm) : Held1 K CT fW H' a nm := by
  obtain ⟨⟨C, fs, h1, h2⟩, h3⟩ := h
  exact ⟨⟨C, fs, exAt_mono e h1, h2⟩, h3⟩
theorem spv_word {K : PySem.W.Frag} {H : Hp} {a C : Addr} {fs : Option (List (Str × V))} {nm : Str} (h : ExAt H a C fs) (T : ExcC K C) (N : CName K C nm) (hz : nm.length ≤ 1000) : SpV (spWord K) [.ref a] H (.str nm) := fun H1 e Q q E => ⟨a, C, fs, nm, rfl, exAt_mono e h, T, N, hz, q⟩
abbrev words4 : List Str := ["a", "zzzzzzzz", "cells", "wind"]
theorem words_sz : ∀ s ∈ keys ++ words4, s.length ≤ 1000 := by decide +kernel
theorem bb_VE : bootBuiltins "ValueError" = some (.type "ValueError") := PyProof.Rows.Boot.«ValueError»
section
variable {P : Program} {w : World} {K : PySem.W.Frag} {mg : Str → Option Value} {base : Heap}
abbrev s_law : Stmt := top 41
abbrev N_law : List Str := ["script", "bag", "things", "thing", "told", "some", "due", "other", "low", "word", "made", "words", "error", "turn", "one"]
theorem sc_law : FnScope N_law ["script"] (defScope s_law) := ⟨rfl, rfl, rfl, by decide +kernel, rfl, by decide +kernel, by decide +kernel⟩
theorem ok_law {f CT fW : Addr} {cs : List Addr} {fd : FuncData} (F : Fun K "law" "law" s_law f fd) (B : Blt mg) (C : Calls P w K mg base) (Z : Errs P w K mg base CT fW cs) : FnOk P w K mg base CX0 7 f fd ["script"] (spLaw K) := by
  refine F.ok sc_law (fun vs H Q E ⟨_, _, e, _⟩ => by rw [e]; rfl) (fun cdv A outer s H vs Q E hr h => ?_)
  obtain ⟨a, ns, rfl, hS, hns, k⟩ := h
  obtain ⟨gT, kT, vE, ⟨c0, c1, c2, c3, c4, c5, c6, c7, c8, rfl, Z0, Z1, Z2, Z3, Z4, Z5, Z6, Z8, g7, q7, k7, x7, n7⟩, isT, isV, wd, tw, kw, fdw, Fw, bw⟩ := Z
  refine ⟨_, (pss_cons (ps_set (i := 1) sc_law.nd rfl (Or.inr rfl) (pcal C.law_bag hr (by decide) rfl (pa_cons (pv 0) pa_nil)))
  (pss_cut (ps_set (i := 2) sc_law.nd rfl (Or.inl rfl) (pe_op op_cat (pe_lc rfl sc_law.nd (pi_range1 rfl B.range (pa_cons pe_int pa_nil)) (blkOk_by (own := [("turn", 13)]) (N := N_law) (sc := defScope s_law) (by decide +kernel)) (fun _ _ _ _ _ => (pg_name (i := 13) sc_law.nd rfl (Or.inl rfl) (Or.inr rfl))) (fun _ _ _ _ _ => pts_nil) (fun _ _ _ _ _ => (pcal C.law_value hr (by decide) rfl (pa_cons (pv 1) (pa_cons pe_int pa_nil))))) (pe_lst (pa_cons (pe_tup (pa_cons pe_int (pa_cons pe_int pa_nil))) (pa_cons (pe_tup (pa_cons pe_int (pa_cons pe_int pa_nil))) (pa_cons (pe_tup (pa_cons pe_str (pa_cons pe_str pa_nil))) (pa_cons (pe_tup (pa_cons pe_str (pa_cons pe_str pa_nil))) (pa_cons (pe_tup pa_nil) (pa_cons (pe_tup (pa_cons pe_int (pa_cons pe_int pa_nil))) (pa_cons (pe_tup (pa_cons pe_int pa_nil)) (pa_cons (pe_tup (pa_cons pe_str pa_nil)) pa_nil)))))))))))
  (pss_cons (ps_for PassesOwn.never rfl (pi_list (pv 2)) (pg_name (i := 3) sc_law.nd rfl (Or.inr rfl) (Or.inl rfl))
    (pss_cons (ps_set (i := 4) sc_law.nd rfl (Or.inl rfl) (pe_lst (pa_cons (pcal C.is_integer hr (by decide) rfl (pa_cons (pv 3) pa_nil)) (pa_cons (pcal C.is_name hr (by decide) rfl (pa_cons (pv 3) pa_nil)) (pa_cons (pcal C.are_integers hr (by decide) rfl (pa_cons (pv 3) pa_nil)) (pa_cons (pcal C.are_names hr (by decide) rfl (pa_cons (pv 3) pa_nil)) (pa_cons (pcal C.do_rise hr (by decide) rfl (pa_cons (pv 3) pa_nil)) (pa_cons (pcal C.are_bytes hr (by decide) rfl (pa_cons (pv 3) pa_nil)) pa_nil))))))))
  (pss_cons (ps_set (i := 5) sc_law.nd rfl (Or.inl rfl) (pe_ifExp (pt_val (p_isi rfl rfl B.isinstance B.tuple bb_tuple (pv 3))) (pv 3) (pe_tup (pa_cons pe_non pa_nil))))
  (pss_cons (ps_set (i := 6) sc_law.nd rfl (Or.inl rfl) (pe_lst (pa_cons (pcal C.law_is_int hr (by decide) rfl (pa_cons (pv 3) pa_nil)) (pa_cons (pcal C.law_named hr (by decide) rfl (pa_cons (pv 3) pa_nil)) (pa_cons (pe_cmpR (op_eqZ hr.units) (pe_lc rfl sc_law.nd (pi_tup (pv 5)) (blkOk_by (own := [("one", 14)]) (N := N_law) (sc := defScope s_law) (by decide +kernel)) (fun _ _ _ _ _ => (pg_name (i := 14) sc_law.nd rfl (Or.inl rfl) (Or.inr rfl))) (fun _ _ _ _ _ => (pts_one (pt_not (pt_val (pcal C.law_is_int hr (by decide) rfl (pa_cons (pv 14) pa_nil)))))) (fun _ _ _ _ _ => (pv 14))) (pe_lst pa_nil) (nomark _)) (pa_cons (pe_cmpR (op_eqZ hr.units) (pe_lc rfl sc_law.nd (pi_tup (pv 5)) (blkOk_by (own := [("one", 14)]) (N := N_law) (sc := defScope s_law) (by decide +kernel)) (fun _ _ _ _ _ => (pg_name (i := 14) sc_law.nd rfl (Or.inl rfl) (Or.inr rfl))) (fun _ _ _ _ _ => (pts_one (pt_not (pt_val (pcal C.law_named hr (by decide) rfl (pa_cons (pv 14) pa_nil)))))) (fun _ _ _ _ _ => (pv 14))) (pe_lst pa_nil) (nomark _)) pa_nil))))))
  (pss_cons (ps_set (i := 6) sc_law.nd rfl (Or.inl rfl) (pe_op op_cat (pv 6) (pe_lst (pa_cons (pcal C.law_rises hr (by decide) rfl (pa_cons (pv 3) pa_nil)) (pa_cons (pe_cmpR (op_eqZ hr.units) (pe_lc rfl sc_law.nd (pi_tup (pv 5)) (blkOk_by (own := [("one", 14)]) (N := N_law) (sc := defScope s_law) (by decide +kernel)) (fun _ _ _ _ _ => (pg_name (i := 14) sc_law.nd rfl (Or.inl rfl) (Or.inr rfl))) (fun _ _ _ _ _ => (pts_one (PW.pt (pw_or (pt_not (pt_val (pcal C.law_is_int hr (by decide) rfl (pa_cons (pv 14) pa_nil)))) (pw_or1 (pt_not (pt_chain op_le op_le pe_int (pv 14) pe_int))))))) (fun _ _ _ _ _ => (pv 14))) (pe_lst pa_nil) (nomark _)) pa_nil)))))
  (pss_cons (ps_if (pt_not (pt_val (pcal C.law_alike hr (by decide) rfl (pa_cons (pv 4) (pa_cons (pv 6) pa_nil)))))
    (pss_one (ps_ret pe_bl))
    pss_nil)
  (pss_cons (ps_set (i := 7) sc_law.nd rfl (Or.inl rfl) (pcal C.law_some hr (by decide) rfl (pa_cons (pv 1) (pa_cons (pv 2) pa_nil))))
  (pss_cons (ps_if (pt_not (pt_val (pcal C.law_alike hr (by decide) rfl (pa_cons (pe_lst (pa_cons (pcal C.are_same hr (by decide) rfl (pa_cons (pv 3) (pa_cons (pv 7) pa_nil))) (pa_cons (pcal C.are_same hr (by decide) rfl (pa_cons (pv 3) (pa_cons (pv 3) pa_nil))) pa_nil))) (pa_cons (pe_lst (pa_cons (pcal C.law_same hr (by decide) rfl (pa_cons (pv 3) (pa_cons (pv 7) pa_nil))) (pa_cons pe_bl pa_nil))) pa_nil)))))
    (pss_one (ps_ret pe_bl))
    pss_nil)
  (pss_cons (ps_if (pt_not (pt_val (pcal C.law_alike hr (by decide) rfl (pa_cons (pcal C.is_among hr (by decide) rfl (pa_cons (pv 3) (pa_cons (pe_slice sl_list (pv 2) po_none (po_some pe_int)) pa_nil))) (pa_cons (pe_cmpR (op_neZ hr.units) (pe_lc rfl sc_law.nd (pi_list (pe_slice sl_list (pv 2) po_none (po_some pe_int))) (blkOk_by (own := [("one", 14)]) (N := N_law) (sc := defScope s_law) (by decide +kernel)) (fun _ _ _ _ _ => (pg_name (i := 14) sc_law.nd rfl (Or.inl rfl) (Or.inr rfl))) (fun _ _ _ _ _ => (pts_one (pt_val (pcal C.law_same hr (by decide) rfl (pa_cons (pv 14) (pa_cons (pv 3) pa_nil)))))) (fun _ _ _ _ _ => (pv 14))) (pe_lst pa_nil) (nomark _)) pa_nil)))))
    (pss_one (ps_ret pe_bl))
    pss_nil)
  (pss_cons (ps_set (i := 8) sc_law.nd rfl (Or.inl rfl) (pe_op op_sub (pcal C.law_take hr (by decide) rfl (pa_cons (pv 1) (pa_cons pe_int pa_nil))) pe_int))
  (pss_one (ps_if (pt_not (pt_val (pcal C.law_alike hr (by decide) rfl (pa_cons (pcal C.is_within hr (by decide) rfl (pa_cons (pv 3) (pa_cons (pv 8) (pa_cons (pe_op op_add (pv 8) pe_int) pa_nil)))) (pa_cons (pe_and (pcal C.law_is_int hr (by decide) rfl (pa_cons (pv 3) pa_nil)) (pe_one (pe_chain op_le op_le (pv 8) (pv 3) (pe_op op_add (pv 8) pe_int)))) pa_nil)))))
    (pss_one (ps_ret pe_bl))
    pss_nil))))))))))))
  (pss_cons (ps_for PassesOwn.never rfl (pi_list (pe_op op_cat (pcal0 C.law_keys hr (by decide) rfl) (pe_lst (pa_cons pe_str (pa_cons pe_str (pa_cons pe_str (pa_cons pe_str pa_nil))))))) (pg_name (i := 9) sc_law.nd rfl (Or.inl rfl) (Or.inr rfl))
    (pss_one (ps_if (pt_cmpR op_ne (pcal C.is_name hr (by decide) rfl (pa_cons (pv 9) pa_nil)) (pcal C.law_named hr (by decide) rfl (pa_cons (pv 9) pa_nil)) (nomark _))
    (pss_one (ps_ret pe_bl))
    pss_nil)))
  (pss_cons (ps_set (i := 10) sc_law.nd rfl (Or.inl rfl) (pe_lst (pa_cons (pe_err Z0 hr rfl (pa_cons pe_int (pa_cons pe_int pa_nil))) (pa_cons (pe_err Z1 hr rfl (pa_cons (pe_tup (pa_cons pe_str (pa_cons pe_int pa_nil))) (pa_cons pe_str pa_nil))) (pa_cons (pe_err Z2 hr rfl (pa_cons pe_int (pa_cons pe_str pa_nil))) (pa_cons (pe_err Z3 hr rfl (pa_cons pe_int (pa_cons pe_str pa_nil))) (pa_cons (pe_err Z4 hr rfl (pa_cons pe_str pa_nil)) (pa_cons (pe_err Z5 hr rfl (pa_cons pe_str pa_nil)) (pa_cons (pe_err Z6 hr rfl (pa_cons pe_str pa_nil)) (pa_cons (pe_newE0 PySem.F.excBase_ValueError q7 g7 k7 rfl) (pa_cons (pe_err Z8 hr rfl (pa_cons pe_str (pa_cons pe_int pa_nil))) pa_nil)))))))))))
  (pss_cons (ps_set (i := 11) sc_law.nd rfl (Or.inl rfl) (pe_lst (pa_cons pe_str (pa_cons pe_str (pa_cons pe_str (pa_cons pe_str (pa_cons pe_str (pa_cons pe_str (pa_cons pe_str (pa_cons pe_str (pa_cons pe_str pa_nil)))))))))))
  (pss_cons (ps_for PassesOwn.never rfl (pi_zipA rfl B.zip (pa_cons (pv 10) (pa_cons (pv 11) pa_nil))) (pg_names2 (K := K) rfl rfl (pg_name (i := 12) sc_law.nd rfl (Or.inl rfl) (Or.inr rfl)) (pg_name (i := 9) sc_law.nd rfl (Or.inl rfl) (Or.inr rfl)))
    (pss_one (ps_if (PW.pt (pw_or (pt_not (pt_val (pe_callB call_isO rfl B.isinstance bb_isinstance (pa_cons (pv 12) (pa_cons (pe_glob (v := .ref CT) rfl gT rfl) pa_nil))))) (pw_or (pt_not (pt_val (pe_callB call_isO rfl B.isinstance bb_isinstance (pa_cons (pv 12) (pa_cons (pe_bltn (v := .ty "ValueError") rfl vE bb_VE rfl) pa_nil))))) (pw_or1 (pt_cmpR op_ne (pe_methE0 (pv 12) Fw (hr.mono (by decide)) bw tw kw) (pv 9) (nomark _))))))
    (pss_one (ps_ret pe_bl))
    pss_nil)))
  (pss_cons (ps_set (i := 4) sc_law.nd rfl (Or.inl rfl) (pe_lst (pa_cons (pe_xo (pe_ix ix_seq (pv 10) pe_int (fun _ _ => rfl))) (pa_cons (pe_xo (pe_ix ix_seq (pv 10) pe_int (fun _ _ => rfl))) (pa_cons (pe_xo (pe_ix ix_seq (pv 10) pe_int (fun _ _ => rfl))) (pa_cons (pe_xo (pe_ix ix_seq (pv 10) pe_int (fun _ _ => rfl))) (pa_cons (pe_xo (pe_ix ix_seq (pv 10) pe_int (fun _ _ => rfl))) (pa_cons (pe_xo (pe_ix ix_seq (pv 10) pe_int (fun _ _ => rfl))) (pa_cons (pe_xo (pe_ix ix_seq (pv 10) pe_int (fun _ _ => rfl))) (pa_cons (pe_xo (pe_ix ix_seq (pv 10) pe_int (fun _ _ => rfl))) (pa_cons (pe_xo (pe_ix ix_seq (pv 10) pe_int (fun _ _ => rfl))) (pa_cons (pe_xo (pe_ix ix_seq (pv 10) pe_int (fun _ _ => rfl))) pa_nil))))))))))))
  (pss_one (ps_ret (pcal C.law_alike hr (by decide) rfl (pa_cons (pe_op op_cat (pv 4) (pe_lst (pa_cons (pe_xo (pe_ix ix_seq (pv 10) pe_int (fun _ _ => rfl))) (pa_cons (pe_xo (pe_ix ix_seq (pv 10) pe_int (fun _ _ => rfl))) (pa_cons (pe_xo (pe_ix ix_seq (pv 10) pe_int (fun _ _ => rfl))) pa_nil))))) (pa_cons (pe_lst (pa_cons pe_int (pa_cons pe_int (pa_cons (pe_tup (pa_cons pe_str (pa_cons pe_int pa_nil))) (pa_cons pe_str (pa_cons pe_int (pa_cons pe_str (pa_cons pe_int (pa_cons pe_str (pa_cons pe_str (pa_cons pe_str (pa_cons pe_str (pa_cons pe_str (pa_cons pe_int pa_nil)))))))))))))) pa_nil))))))))))))), ?_⟩
  refine ⟨.ref a, rfl, a, ns, rfl, hS, by omega, fun b c H1 hb hc e1 hB1 => ?_⟩
  -- things
  refine q_cut (M := fun σ' H' => ∃ t xs ds, σ' = [some (.ref a), some (.ref b), some (.ref t), none, none, none, none, none, none, none, none, none, none, none, none] ∧ Bag K H' b c ∧ Hm b H' t = some (.lst xs) ∧ RpA K (Hm b H') xs ds ∧ ds.length = 16 ∧ ∀ d ∈ ds, Ok d ∧ dep d ≤ 3 ∧ wt d ≤ 79) ?_ ?_
  · obtain ⟨ob1, hob1⟩ := hB1.some_
    refine ⟨8, rfl, by decide, by decide, fun Dl hD => ?_⟩
    have hDb : Dl ≠ b := (ne_of_none hob1 hD).symm
    have hDc : Dl ≠ c := by
      obtain ⟨_, oc, hoc⟩ := hB1.cell
      exact (ne_of_none hoc hD).symm
    refine lc_range (n := 8) (fun i H' => H1 Dl = none ∧ Ex (Hm b H1) (Hm b H') ∧ Bag K H' b c ∧ ∃ vs ds, H' Dl = some (.lst vs) ∧ vs.length = i ∧ RpA K (Hm Dl (nw H1 H')) vs ds ∧ ∀ d ∈ ds, Ok d ∧ dep d ≤ 3 ∧ wt d ≤ 79)
      ⟨hD, hm_mono (Ex.new hD), hB1.mono (Ex.new hD), [], [], upd_same, rfl, .nil, fun _ m => by cases m⟩ (fun i H' hi p => ?_) (fun H' p => ?_)
    · obtain ⟨p1, p2, p3, vs, ds, p4, p5, p6, p7⟩ := p
      refine ⟨rfl, yes_go ?_⟩
      refine ⟨.ref b, rfl, b, c, rfl, p3, fun H4 v d e4 hB4 r4 ok4 d4 w4 => ?_⟩
      have h4D := hm_to e4 hDb p4
      obtain ⟨ob', hob'⟩ := p3.some_
      have dm := hm_dom p2 hob'
      refine ⟨vs, h4D, sz_lt (by rw [p5]; omega), p1, fun y o h => ?_, hB4.other hDb hDc, vs ++ [v], ds ++ [d], upd_same, by simp [p5], RpA.app (RpA.mono (fun y o h => ?_) p6) (.cons (Rp.mono (fun y o h => ?_) r4) .nil), fun d' m' => ?_⟩
      · have h' := (p2.trans e4) y o h
        have za : y ≠ Dl := fun z => by
          rw [z, hm_ne hDb, p1] at h
          cases h
        by_cases zb : y = b
        · rw [zb, hm_self] at h
          cases h
        · rw [hm_ne zb] at h' ⊢
          rw [upd_ne za]
          exact h'
      · have za : y ≠ Dl := fun z => by
          rw [z, hm_self] at h
          cases h
        rw [hm_ne za] at h ⊢
        obtain ⟨h1, h2⟩ := nw_some h
        rw [nw_at h1, upd_ne za]
        exact hm_to e4 (fun z => by rw [z, hob1] at h1; cases h1) h2
      · obtain ⟨h1, h2⟩ := nw_some h
        have za : y ≠ Dl := fun z => by
          rw [z, p4] at h1
          cases h1
        rw [hm_ne za, nw_at (dm y h1), upd_ne za]
        exact h2
      · rcases List.mem_append.mp m' with m' | m'
        · exact p7 d' m'
        · rw [List.mem_singleton.mp m']
          exact ⟨ok4, d4, w4⟩
    · obtain ⟨p1, p2, p3, vs, ds, p4, p5, p6, p7⟩ := p
      have lv := p6.len
      obtain ⟨ob', hob'⟩ := p3.some_
      refine ed_fixed (K := K) (H := H') H' (Ex.refl H') _ fun zs H6 e6 rs => ⟨sz_of (by have := rs.len; rw [this]; decide), fun p hp => ⟨Dl, p, vs, zs, rfl, rfl, ?_, upd_same, sz_of (by have := rs.len; rw [this, p5]; decide), fun t ht => ?_⟩⟩
      · exact (e6.trans (Ex.new hp)) _ _ p4
      · have e7 := (e6.trans (Ex.new (o := .lst zs) hp)).trans (Ex.new (o := .lst (vs ++ zs)) ht)
        have htb : t ≠ b := (ne_of_none ((e6.trans (Ex.new hp)) _ _ hob') ht).symm
        refine ⟨t, vs ++ zs, ds ++ fixed, rfl, p3.mono e7, by rw [hm_ne htb]; exact upd_same, RpA.app (RpA.mono (fun y o h => ?_) p6) (RpA.mono (fun y o h => ?_) rs), by rw [List.length_append, ← lv, p5]; rfl, fun d' m' => ?_⟩
        · have za : y ≠ Dl := fun z => by
            rw [z, hm_self] at h
            cases h
          rw [hm_ne za] at h
          obtain ⟨h1, h2⟩ := nw_some h
          have yb : y ≠ b := fun z => by
            rw [z, hob1] at h1
            cases h1
          rw [hm_ne yb]
          exact e7 _ _ h2
        · obtain ⟨h1, h2⟩ := nw_some h
          have yb : y ≠ b := fun z => by
            rw [z, hob'] at h1
            cases h1
          rw [hm_ne yb]
          exact ((Ex.new (o := .lst zs) hp).trans (Ex.new (o := .lst (vs ++ zs)) ht)) _ _ h2
        · exact (List.mem_append.mp m').elim (p7 d') (fixed_ok d')
  · rintro _ H2 ⟨t, xs, ds, rfl, hB2, ht2, rs2, l16, okd⟩
    have lx := rs2.len
    refine q_forLn (ev_var rfl) (ex_l hm_sub (.inl (.inl ht2))) (fun i σ' H' => ∃ o3 o4 o5 o6 o7 o8, σ' = [some (.ref a), some (.ref b), some (.ref t), o3, o4, o5, o6, o7, o8, none, none, none, none, none, none] ∧ Bag K H' b c ∧ Ex (Hm b H2) (Hm b H')) (fun H3 e3 => ⟨none, none, none, none, none, none, rfl, hB2.mono e3, hm_mono e3⟩) (fun i σ' H' hi p => ?_) (fun i x σ' H3 hx p => ?_) (fun σ' H3 p => ?_)
    · obtain ⟨_, _, _, _, _, _, _, _, e⟩ := p
      exact .inl (.inl ((e.trans hm_sub) _ _ ht2))
    · obtain ⟨o3, o4, o5, o6, o7, o8, rfl, hB3, e23⟩ := p
      obtain ⟨d, hd, rd⟩ := rs2.at hx
      obtain ⟨ok, dd, wd'⟩ := okd d (List.mem_of_getElem? hd)
      have e3 := e23.trans hm_sub
      have r3 := rd.mono e3
      have d60 : dep d ≤ 60 := by omega
      have w1000 : wt d ≤ 1000 := by omega
      -- told
      refine q_asgL (xs := [isInt d, isNm d, allD isInt d, allD isNm d, riseD d, allD byteD d].map V.bl) (el_lst (ea_cons (ev_call0 (ea_cons (ev_var rfl) ea_nil) (spv_B r3 ok)) (ea_cons (ev_call0 (ea_cons (ev_var rfl) ea_nil) (spv_B r3 ok)) (ea_cons (ev_call0 (ea_cons (ev_var rfl) ea_nil) (spv_C r3 ok d60 w1000)) (ea_cons (ev_call0 (ea_cons (ev_var rfl) ea_nil) (spv_C r3 ok d60 w1000)) (ea_cons (ev_call0 (ea_cons (ev_var rfl) ea_nil) (spv_C r3 ok d60 w1000)) (ea_cons (ev_call0 (ea_cons (ev_var rfl) ea_nil) (spv_C r3 ok d60 w1000)) ea_nil)))))) (show (6 : Nat) ≤ 100000 by decide)) fun p1 H4 hp1 e4 h4 => ?_
      have r4 := r3.mono e4
      obtain ⟨mo, md, mw⟩ := membs_ok ok dd wd'
      -- some
      refine some_ev (K := K) (x := x) rfl r4 H4 (Ex.refl _) _ fun sv ys H5 e5 q5 rs5 => ?_
      have lz : ys.length ≤ 40000 := by
        have := rs5.len
        have := wtA_len (membs d)
        omega
      have r5 := r4.mono e5
      have md60 : depA (membs d) ≤ 60 := by omega
      have okf : ∀ g : D → Bool, ∀ e ∈ (membs d).filter g, Ok e := fun g e m => mo e ((List.mem_filter.mp m).1)
      have ddf : ∀ g : D → Bool, depA ((membs d).filter g) ≤ 60 := fun g => depA_le fun e m => Nat.le_trans (dep_mem ((List.mem_filter.mp m).1)) md60
      -- due
      refine q_asgL (xs := [isInt d, isNm d, allD isInt d, allD isNm d].map V.bl) (el_lst (ea_cons (ev_call0 (ea_cons (ev_var rfl) ea_nil) (spv_B r5 ok)) (ea_cons (ev_call0 (ea_cons (ev_var rfl) ea_nil) (spv_B r5 ok)) (ea_cons (ev_is (ev_eqNil (el_filt (fun e => !isInt e) (w_tup (ev_var rfl) q5) (flat_tup q5) rs5 lz (fun _ => rfl) (fun y e m re => et_not (et_B (ev_call0 (ea_cons (ev_var rfl) ea_nil) (spv_B re (mo e m))))) (fun y => ev_var rfl)) el_nil (rpA_filt _ rs5) (okf _) (ddf _)) (by rw [membs_all rfl]))
        (ea_cons (ev_is (ev_eqNil (el_filt (fun e => !isNm e) (w_tup (ev_var rfl) q5) (flat_tup q5) rs5 lz (fun _ => rfl) (fun y e m re => et_not (et_B (ev_call0 (ea_cons (ev_var rfl) ea_nil) (spv_B re (mo e m))))) (fun y => ev_var rfl)) el_nil (rpA_filt _ rs5) (okf _) (ddf _)) (by rw [membs_all rfl])) ea_nil)))) (show (4 : Nat) ≤ 100000 by decide)) fun p2 H6 hp2 e6 h6 => ?_
      have r6 := r5.mono e6
      have rs6 := rs5.mono e6
      have q6 := ex_t e6 q5
      refine q_asgL (el_catV (xs := [isInt d, isNm d, allD isInt d, allD isNm d].map V.bl) (ys := [riseD d, allD byteD d].map V.bl) (ev_var rfl) h6 (el_lst (ea_cons (ev_call0 (ea_cons (ev_var rfl) ea_nil) (spv_C r6 ok d60 w1000)) (ea_cons (ev_is (ev_eqNil (el_filt (fun e => !byteD e) (w_tup (ev_var rfl) q6) (flat_tup q6) rs6 lz (fun _ => rfl) (fun y e m re => ?_) (fun y => ev_var rfl)) el_nil (rpA_filt _ rs6) (okf _) (ddf _)) (by rw [membs_all rfl])) ea_nil)) (show (2 : Nat) ≤ 100000 by decide)) (show (6 : Nat) ≤ 100000 by decide)) fun p3 H7 hp3 e7 h7 => ?_
      · by_cases hi : isInt e = true
        · obtain ⟨z, rfl, rfl⟩ := int_of re hi
          exact et_is (et_or (et_not (et_B (ev_call0 (ea_cons (ev_var rfl) ea_nil) (spv_B re (mo _ m))))) fun _ => et_not (et_test (ev_chain ev_c (ev_var rfl) rv_le (fun _ => ev_c) fun _ => rv_le))) (by show (!isInt (.int z) || _) = _; rw [hi]; rfl)
        · have hi2 : isInt e = false := by simpa using hi
          have hb : byteD e = false := by cases e <;> first | rfl | (exact absurd rfl hi)
          exact et_is (et_or (b := false) (et_not (et_B (ev_call0 (ea_cons (ev_var rfl) ea_nil) (spv_B re (mo _ m))))) fun z => by rw [hi2] at z; cases z) (by rw [hi2, hb]; rfl)
      -- alike
      have h7t := e7 _ _ (e6 _ _ (e5 _ _ h4))
      refine q_when (b := !true) (et_not (et_B (ev_call0 (ea_cons (ev_var rfl) (ea_cons (ev_var rfl) ea_nil)) (spv_alikeB (bs := [isInt d, isNm d, allD isInt d, allD isNm d, riseD d, allD byteD d]) h7t h7 (show (6 : Nat) ≤ 100 by decide))))) (fun z => by cases z) fun _ H8 e8 => ?_
      have e38 : Ex H3 H8 := e4.trans (e5.trans (e6.trans (e7.trans e8)))
      have hB8 := hB3.mono e38
      have e28 := e23.trans (hm_mono e38)
      -- other
      refine ⟨.ref b, rfl, .ref t, rfl, b, c, t, xs, rfl, .inl (.inl (.inl (e28 _ _ ht2))), by omega, by omega, hB8, fun H9 j y e9 hB9 hy => ?_⟩
      obtain ⟨d2, hd2, rd2⟩ := rs2.at hy
      obtain ⟨ok2, dd2, wd2⟩ := okd d2 (List.mem_of_getElem? hd2)
      have e29 := e28.trans e9
      have r9 := rd.mono (e29.trans hm_sub)
      have ro9 := rd2.mono (e29.trans hm_sub)
      -- the same
      refine q_when (b := !true) (et_not (et_B (ev_callDD (ed_lst (da_cons (ed_evbl (ev_call0 (ea_cons (ev_var rfl) (ea_cons (ev_var rfl) ea_nil)) (spv_same r9 ro9 ok ok2 d60 w1000))) (da_cons (ed_evbl (ev_is (ev_call0 (ea_cons (ev_var rfl) (ea_cons (ev_var rfl) ea_nil)) (spv_same r9 r9 ok ok d60 w1000)) (by rw [sm_t rfl]))) da_nil)) (by simp))
        (ed_lst (da_cons (ed_evbl (ev_call0 (ea_cons (ev_var rfl) (ea_cons (ev_var rfl) ea_nil)) (spv_sameL r9 ro9 ok ok2 d60 (by omega)))) (da_cons ed_bl da_nil)) (by simp)) fun x' y' H1' e1' ra rb => spv_alike ra rb (ok_bls [sm d d2, true]) (by simp [dep, depA]) (by simp [wt, wtA])))) (fun z => by cases z) fun _ H10 e10 => ?_
      have e2X := e29.trans (hm_mono e10)
      have hB10 := hB9.mono e10
      have rX := rd.mono (e2X.trans hm_sub)
      have rsX := rs2.mono (e2X.trans hm_sub)
      have tX : SqL K H10 t xs := .inl (.inl ((e2X.trans hm_sub) _ _ ht2))
      -- among
      have rcut : RpA K H10 (cutV xs none (some 4)) ((ds.drop (HT.sIx xs.length 0 none)).take (HT.sIx xs.length xs.length (some 4) - HT.sIx xs.length 0 none)) := (rsX.drop _).take _
      generalize hd4 : (ds.drop (HT.sIx xs.length 0 none)).take (HT.sIx xs.length xs.length (some 4) - HT.sIx xs.length 0 none) = d4 at rcut
      have m4 : ∀ e ∈ d4, e ∈ ds := fun e m => List.mem_of_mem_drop (List.mem_of_mem_take (hd4 ▸ m))
      have l4 : d4.length ≤ 16 := by
        rw [← hd4, List.length_take, List.length_drop]
        omega
      have c4 : (cutV xs none (some 4)).length ≤ 40000 := by
        have := rcut.len
        omega
      have o4 : ∀ e ∈ d4, Ok e := fun e m => (okd e (m4 e m)).1
      refine q_when (b := !true) (et_not (et_B (ev_call0 (ea_cons (ev_callVL (ev_var rfl) (el_sl (ev_var rfl) eo_none (eo_some ev_c) tX) fun p H1' e' h' => spv_among (rX.mono e') (.inl (.inl h')) (rcut.mono e') ok o4 d60 w1000 (by omega)) (ea_cons (ev_is (ev_neNil (el_filtN (fun e => sm e d) (el_sl (ev_var rfl) eo_none (eo_some ev_c) tX) rcut c4 (fun _ => rfl) (fun y e H1' e' m re => et_B (ev_call0 (ea_cons (ev_var rfl) (ea_cons (ev_var rfl) ea_nil)) (spv_sameL re (rX.mono e') (o4 e m) ok (by have := (okd e (m4 e m)).2.1; omega) (by have := (okd e (m4 e m)).2.2; omega)))) (fun y H1' => ev_var rfl)) el_nil (rpA_filt _ rcut) (fun e m => o4 e (List.mem_filter.mp m).1) (depA_le fun e m => by have := (okd e (m4 e (List.mem_filter.mp m).1)).2.1; omega)) ?_) ea_nil)) (spv_alike (.bl (d4.any (sm d))) (.bl (d4.any (sm d))) (.bl _) (by simp [dep]) (by simp [wt]))))) (fun z => by cases z) fun _ H11 e11 => ?_
      · rw [any_filter, show (fun e => sm e d) = sm d from funext fun e => sm_comm e d]
      have e2Y := e2X.trans (hm_mono e11)
      -- low
      refine ⟨.ref b, rfl, b, c, 5, rfl, by decide, by decide, hB10.mono e11, fun H12 j2 e12 hB12 j0 j5 => ⟨j2, 2, rfl, rfl, ?_⟩⟩
      have e2Z := e2Y.trans e12
      have rZ := rd.mono (e2Z.trans hm_sub)
      refine s_when (b := !true) (et_not (et_B (ev_call0 (ea_cons (ev_call0 (ea_cons (ev_var rfl) (ea_cons (ev_var rfl) (ea_cons (ev_op (ev_var rfl) ev_c rv_add) ea_nil))) (spv_within rZ ok)) (ea_cons (ev_is (ev_andV (ev_call0 (ea_cons (ev_var rfl) ea_nil) (spv_B rZ ok)) (b := within d (j2 - 2) (j2 - 2 + 3)) fun hi => ?_) ?_) ea_nil)) (spv_alike (.bl (within d (j2 - 2) (j2 - 2 + 3))) (.bl _) (.bl _) (by simp [dep]) (by simp [wt]))))) (fun z => by cases z) fun _ H13 e13 => ⟨_, _, _, _, _, _, rfl, hB12.mono e13, e2Z.trans (hm_mono e13)⟩
      · obtain ⟨z, rfl, rfl⟩ := int_of rZ hi
        exact ev_chain (ev_var rfl) (ev_var rfl) rv_le (fun _ => ev_op (ev_var rfl) ev_c rv_add) fun _ => rv_le
      · cases d <;> first | rfl | simp [isInt, isI, isB, within]
    · obtain ⟨o3, o4, o5, o6, o7, o8, rfl, hB3, e23⟩ := p
      -- the words
      refine q_forNLn (xs := keys.map V.str ++ words4.map V.str) (el_cat (el_call0 ea_nil spl_keys) (el_lst (ea_cons ev_c (ea_cons ev_c (ea_cons ev_c (ea_cons ev_c ea_nil)))) (show (4 : Nat) ≤ 100000 by decide)) (show (11 : Nat) ≤ 100000 by decide)) (fun p i σ' H' => ∃ o9, σ' = [some (.ref a), some (.ref b), some (.ref t), o3, o4, o5, o6, o7, o8, o9, none, none, none, none, none] ∧ H' p = some (.lst (keys.map V.str ++ words4.map V.str))) (fun p H1' hp e' h' => ⟨none, rfl, h'⟩) (fun p i σ' H' hi q => ?_) (fun p i x σ' H4 hx q => ?_) (fun p σ' H4 q => ?_)
      · obtain ⟨_, _, h'⟩ := q
        exact .inl (.inl h')
      · obtain ⟨o9, rfl, h4⟩ := q
        have hm := List.mem_of_getElem? hx
        rw [← List.map_append] at hm
        obtain ⟨s0, hs0, rfl⟩ := List.mem_map.mp hm
        have ok0 : Ok (.str s0) := .str (words_sz s0 hs0)
        exact s_when (b := false) (et_is (et_test (ev_op (ev_call0 (ea_cons (ev_var rfl) ea_nil) (spv_B (.str s0) ok0)) (ev_call0 (ea_cons (ev_var rfl) ea_nil) (spv_B (.str s0) ok0)) (rv_ne rfl))) (by simp)) (fun z => by cases z) fun _ H5 e5 => ⟨_, rfl, e5 _ _ h4⟩
      · obtain ⟨o9, rfl, h4⟩ := q
        -- made
        refine q_lstA ?_
        refine ca_newV (ys := [.int 3, .int 4]) (ea_cons ev_c (ea_cons ev_c ea_nil)) rfl (show (2 : Nat) ≤ 1000 by decide) fun a0 G0 f0 x0 => ?_
        refine ca_new (Pr := fun zs H1' => ∃ tp, zs = [.ref tp, .str "order"] ∧ H1' tp = some (.tup [.str "codes", .int 1])) (fun Q' q => eu_tup (ea_cons ev_c (ea_cons ev_c ea_nil)) (show (2 : Nat) ≤ 100000 by decide) G0 (Ex.refl G0) _ fun tp H1' htp e1' h1' => q _ H1' e1' ⟨tp, rfl, h1'⟩) (fun zs H1' z => by obtain ⟨tp, rfl, _⟩ := z; exact ⟨rfl, show (2 : Nat) ≤ 1000 by decide⟩) fun ys1 a1 G1' G1 hp1 f1' f1 x1 => ?_
        obtain ⟨tp, rfl, htp⟩ := hp1
        refine ca_newV (ys := [.int 7, .str "sum"]) (ea_cons ev_c (ea_cons ev_c ea_nil)) rfl (show (2 : Nat) ≤ 1000 by decide) fun a2 G2 f2 x2 => ?_
        refine ca_newV (ys := [.int 2, .str "tick"]) (ea_cons ev_c (ea_cons ev_c ea_nil)) rfl (show (2 : Nat) ≤ 1000 by decide) fun a3 G3 f3 x3 => ?_
        refine ca_newV (ys := [.str "zed"]) (ea_cons ev_c ea_nil) rfl (show (1 : Nat) ≤ 1000 by decide) fun a4 G4 f4 x4 => ?_
        refine ca_newV (ys := [.str "hm"]) (ea_cons ev_c ea_nil) rfl (show (1 : Nat) ≤ 1000 by decide) fun a5 G5 f5 x5 => ?_
        refine ca_newV (ys := [.str "why"]) (ea_cons ev_c ea_nil) rfl (show (1 : Nat) ≤ 1000 by decide) fun a6 G6 f6 x6 => ?_
        refine ca_new0 fun a7 G7 f7 x7' => ?_
        refine ca_newV (ys := [.str "lots", .int 5]) (ea_cons ev_c (ea_cons ev_c ea_nil)) rfl (show (2 : Nat) ≤ 1000 by decide) fun a8 G8 f8 x8 => ?_
        refine ⟨sz_of (show (9 : Nat) ≤ 100000 by decide), fun m hm => ?_⟩
        have f9 : Ex G8 (upd G8 m (.lst [.ref a0, .ref a1, .ref a2, .ref a3, .ref a4, .ref a5, .ref a6, .ref a7, .ref a8])) := Ex.new hm
        have y8 := exAt_mono f9 x8
        have y7 := exAt_mono (f8.trans f9) x7'
        have y6 := exAt_mono (f7.trans (f8.trans f9)) x6
        have y5 := exAt_mono (f6.trans (f7.trans (f8.trans f9))) x5
        have y4 := exAt_mono (f5.trans (f6.trans (f7.trans (f8.trans f9)))) x4
        have y3 := exAt_mono (f4.trans (f5.trans (f6.trans (f7.trans (f8.trans f9))))) x3
        have y2 := exAt_mono (f3.trans (f4.trans (f5.trans (f6.trans (f7.trans (f8.trans f9)))))) x2
        have y1 := exAt_mono (f2.trans (f3.trans (f4.trans (f5.trans (f6.trans (f7.trans (f8.trans f9))))))) x1
        have y0 := exAt_mono (f1'.trans (f1.trans (f2.trans (f3.trans (f4.trans (f5.trans (f6.trans (f7.trans (f8.trans f9))))))))) x0
        have ytp := (f1.trans (f2.trans (f3.trans (f4.trans (f5.trans (f6.trans (f7.trans (f8.trans f9)))))))) _ _ htp
        have ym : (upd G8 m (.lst [.ref a0, .ref a1, .ref a2, .ref a3, .ref a4, .ref a5, .ref a6, .ref a7, .ref a8])) m = some (.lst [.ref a0, .ref a1, .ref a2, .ref a3, .ref a4, .ref a5, .ref a6, .ref a7, .ref a8]) := upd_same
        generalize (upd G8 m (.lst [.ref a0, .ref a1, .ref a2, .ref a3, .ref a4, .ref a5, .ref a6, .ref a7, .ref a8])) = G at y0 y1 y2 y3 y4 y5 y6 y7 y8 ytp ym ⊢
        -- words
        refine q_asgL (xs := [.str "BadText", .str "BadBook", .str "BadBytes", .str "BadEntry", .str "NoName", .str "NoCommand", .str "Refused", .str "Nothing", .str "TooMany"]) (el_lst (ea_cons ev_c (ea_cons ev_c (ea_cons ev_c (ea_cons ev_c (ea_cons ev_c (ea_cons ev_c (ea_cons ev_c (ea_cons ev_c (ea_cons ev_c ea_nil))))))))) (show (9 : Nat) ≤ 100000 by decide)) fun q H5 hq e5 h5q => ?_
        have he : ∀ (i : Nat) (x y : V), [V.ref a0, .ref a1, .ref a2, .ref a3, .ref a4, .ref a5, .ref a6, .ref a7, .ref a8][i]? = some x → [V.str "BadText", .str "BadBook", .str "BadBytes", .str "BadEntry", .str "NoName", .str "NoCommand", .str "Refused", .str "Nothing", .str "TooMany"][i]? = some y → ∃ e nm, x = .ref e ∧ y = .str nm ∧ Held1 K CT fW G e nm := by
          have mk : ∀ {C e : Addr} {fs : Option (List (Str × V))} {nm : Str}, C ∈ [c0, c1, c2, c3, c4, c5, c6, c7, c8] → ExAt G e C fs → ExcC K C → CName K C nm → ((fs.getD []).lookup ("word" : Str)).isSome = false → nm.length ≤ 1000 → Held1 K CT fW G e nm := fun m h1 h2 h3 h4 h5 => ⟨⟨_, _, h1, h2, h3, isT _ m, isV _ m, wd _ m, h4⟩, h5⟩
          intro i x y hx hy
          match i, hx, hy with
          | 0, hx, hy => cases hx; cases hy; exact ⟨_, _, rfl, rfl, mk (by simp) y0 Z0.x Z0.n rfl (by decide +kernel)⟩
          | 1, hx, hy => cases hx; cases hy; exact ⟨_, _, rfl, rfl, mk (by simp) y1 Z1.x Z1.n rfl (by decide +kernel)⟩
          | 2, hx, hy => cases hx; cases hy; exact ⟨_, _, rfl, rfl, mk (by simp) y2 Z2.x Z2.n rfl (by decide +kernel)⟩
          | 3, hx, hy => cases hx; cases hy; exact ⟨_, _, rfl, rfl, mk (by simp) y3 Z3.x Z3.n rfl (by decide +kernel)⟩
          | 4, hx, hy => cases hx; cases hy; exact ⟨_, _, rfl, rfl, mk (by simp) y4 Z4.x Z4.n rfl (by decide +kernel)⟩
          | 5, hx, hy => cases hx; cases hy; exact ⟨_, _, rfl, rfl, mk (by simp) y5 Z5.x Z5.n rfl (by decide +kernel)⟩
          | 6, hx, hy => cases hx; cases hy; exact ⟨_, _, rfl, rfl, mk (by simp) y6 Z6.x Z6.n rfl (by decide +kernel)⟩
          | 7, hx, hy => cases hx; cases hy; exact ⟨_, _, rfl, rfl, mk (by simp) y7 x7 n7 rfl (by decide +kernel)⟩
          | 8, hx, hy => cases hx; cases hy; exact ⟨_, _, rfl, rfl, mk (by simp) y8 Z8.x Z8.n rfl (by decide +kernel)⟩
          | i + 9, hx, hy => simp at hx
        refine q_forZ (i1 := 10) (i2 := 11) (j1 := 12) (j2 := 9) rfl rfl (.inl (.inl (e5 _ _ ym))) (.inl (.inl h5q)) rfl (fun i σ' H' => ∃ o9 o12, σ' = [some (.ref a), some (.ref b), some (.ref t), o3, o4, o5, o6, o7, o8, o9, some (.ref m), some (.ref q), o12, none, none] ∧ Ex H5 H') ⟨_, _, rfl, Ex.refl H5⟩ (fun i σ' H' p => ?_) (fun i x y σ' H' hx hy p H6 e6 => ?_) (fun σ' H6 p => ?_)
        · obtain ⟨_, _, _, e⟩ := p
          exact ⟨.inl (.inl (e _ _ (e5 _ _ ym))), .inl (.inl (e _ _ h5q))⟩
        · obtain ⟨_, _, rfl, e⟩ := p
          obtain ⟨ea, nm, rfl, rfl, hh⟩ := he i x y hx hy
          have e56 := (e5.trans e).trans e6
          obtain ⟨⟨Ce, fe, u1, u2, u3, u4, u5, u6, u7⟩, u8⟩ := hh.mono e56
          exact s_when (b := !true || (!true || !decide (V.str nm = V.str nm))) (et_or (et_not (et_B (ev_isO (ev_var rfl) u1 u2 (fun u z => z) u4))) fun _ => et_or (et_not (et_B (ev_isO (ev_var rfl) u1 u2 (fun u z => z) u5))) fun _ => et_test (ev_op (ev_methE (ev_var rfl) u1 u2 u6 u7 (spv_word u1 u2 u3 u8)) (ev_var rfl) (rv_ne rfl))) (fun z => by simp at z) fun _ H7 e7 => ⟨_, _, rfl, (e.trans e6).trans e7⟩
        · obtain ⟨o9', o12', rfl, e6⟩ := p
          have e56 := e5.trans e6
          have mm := e56 _ _ ym
          have mL : SqL K H6 m _ := .inl (.inl mm)
          have z0 := exAt_mono e56 y0
          have z1 := exAt_mono e56 y1
          have z2 := exAt_mono e56 y2
          have z3 := exAt_mono e56 y3
          have z4 := exAt_mono e56 y4
          have z5 := exAt_mono e56 y5
          have z6 := exAt_mono e56 y6
          have z8 := exAt_mono e56 y8
          -- told
          refine q_asgL (xs := [.int 3, .int 4, .ref tp, .str "order", .int 7, .str "sum", .int 2, .str "tick", .str "zed", .str "hm"]) (el_lst (ea_cons (ev_xo (ev_op (ev_var rfl) ev_c (rv_ixLs (j := 0) mL rfl)) z0 Z0.x (Z0.no _ (by simp)) rfl) (ea_cons (ev_xo (ev_op (ev_var rfl) ev_c (rv_ixLs (j := 0) mL rfl)) z0 Z0.x (Z0.no _ (by simp)) rfl) (ea_cons (ev_xo (ev_op (ev_var rfl) ev_c (rv_ixLs (j := 1) mL rfl)) z1 Z1.x (Z1.no _ (by simp)) rfl) (ea_cons (ev_xo (ev_op (ev_var rfl) ev_c (rv_ixLs (j := 1) mL rfl)) z1 Z1.x (Z1.no _ (by simp)) rfl) (ea_cons (ev_xo (ev_op (ev_var rfl) ev_c (rv_ixLs (j := 2) mL rfl)) z2 Z2.x (Z2.no _ (by simp)) rfl) (ea_cons (ev_xo (ev_op (ev_var rfl) ev_c (rv_ixLs (j := 2) mL rfl)) z2 Z2.x (Z2.no _ (by simp)) rfl) (ea_cons (ev_xo (ev_op (ev_var rfl) ev_c (rv_ixLs (j := 3) mL rfl)) z3 Z3.x (Z3.no _ (by simp)) rfl) (ea_cons (ev_xo (ev_op (ev_var rfl) ev_c (rv_ixLs (j := 3) mL rfl)) z3 Z3.x (Z3.no _ (by simp)) rfl) (ea_cons (ev_xo (ev_op (ev_var rfl) ev_c (rv_ixLs (j := 4) mL rfl)) z4 Z4.x (Z4.no _ (by simp)) rfl) (ea_cons (ev_xo (ev_op (ev_var rfl) ev_c (rv_ixLs (j := 5) mL rfl)) z5 Z5.x (Z5.no _ (by simp)) rfl) ea_nil)))))))))) (show (10 : Nat) ≤ 100000 by decide)) fun p1 H7 hp1 e7 h7 => ?_
          have w6 := exAt_mono e7 z6
          have w8 := exAt_mono e7 z8
          have mL := ex_l e7 mL
          have htp7 := e7 _ _ (e56 _ _ ytp)
          refine s_ret (v := .bl true) (ev_callLD (K := K) (xs := [.int 3, .int 4, .ref tp, .str "order", .int 7, .str "sum", .int 2, .str "tick", .str "zed", .str "hm"] ++ [.str "why", .str "lots", .int 5]) (el_catV (ev_var rfl) h7 (el_lst (ea_cons (ev_xo (ev_op (ev_var rfl) ev_c (rv_ixLs (j := 6) mL rfl)) w6 Z6.x (Z6.no _ (by simp)) rfl) (ea_cons (ev_xo (ev_op (ev_var rfl) ev_c (rv_ixLs (j := 8) mL rfl)) w8 Z8.x (Z8.no _ (by simp)) rfl) (ea_cons (ev_xo (ev_op (ev_var rfl) ev_c (rv_ixLs (j := 8) mL rfl)) w8 Z8.x (Z8.no _ (by simp)) rfl) ea_nil))) (show (3 : Nat) ≤ 100000 by decide)) (show (13 : Nat) ≤ 100000 by decide)) (ed_lst (da_cons ed_int (da_cons ed_int (da_cons (ed_tup (da_cons ed_str (da_cons ed_int da_nil)) (by simp)) (da_cons ed_str (da_cons ed_int (da_cons ed_str (da_cons ed_int (da_cons ed_str (da_cons ed_str (da_cons ed_str (da_cons ed_str (da_cons ed_str (da_cons ed_int da_nil))))))))))))) (by simp)) fun p y H1' e1' h1' ry => ?_) fun H8 e8 => k H8
          refine spv_alike (.lst (.inl (.inl h1')) ?_) ry (.lst fun d' m' => ?_) (by simp [dep, depA]) (by simp [wt, wtA])
          · exact .cons (.int _) (.cons (.int _) (.cons (.tup (.inl (.inl (e1' _ _ htp7))) (.cons (.str _) (.cons (.int _) .nil))) (.cons (.str _) (.cons (.int _) (.cons (.str _) (.cons (.int _) (.cons (.str _) (.cons (.str _) (.cons (.str _) (.cons (.str _) (.cons (.str _) (.cons (.int _) .nil))))))))))))
          · have hs : ∀ s : Str, s.length ≤ 1000 → Ok (.str s) := fun s h => .str h
            have ht : Ok (.tup [.str "codes", .int 1]) := .tup fun d2 m2 => by
              simp only [List.mem_cons, List.not_mem_nil, or_false] at m2
              rcases m2 with rfl | rfl
              · exact hs _ (by decide +kernel)
              · exact .int _
            simp only [List.mem_cons, List.not_mem_nil, or_false] at m'
            rcases m' with rfl | rfl | rfl | rfl | rfl | rfl | rfl | rfl | rfl | rfl | rfl | rfl | rfl
            all_goals first | exact .int _ | exact hs _ (by decide +kernel) | exact ht
end
end K5
namespace K5
open PySem PySem.Spec PyProof.Rows L2 Evl KZ RZ
/-! ### order -/
section
variable {α : Type} {f : α → D} {lt : α → α → Prop}
theorem rise_iff (hf : ∀ a b, ltD (f a) (f b) = true ↔ lt a b) (tr : ∀ a b c, lt a b → lt b c → lt a c) : ∀ l : List α, riseL (l.map f) = true ↔ l.Pairwise lt
  | [] => by simp [riseL]
  | [x] => by simp [riseL]
  | x :: y :: r => by
    have ih := rise_iff hf tr (y :: r)
    have e : riseL ((x :: y :: r).map f) = (ltD (f x) (f y) && riseL ((y :: r).map f)) := by simp [riseL]
    rw [e, Bool.and_eq_true, ih, hf]
    refine ⟨fun h => List.pairwise_cons.mpr ⟨fun z m => ?_, h.2⟩, fun h => ⟨(List.pairwise_cons.mp h).1 y List.mem_cons_self, (List.pairwise_cons.mp h).2⟩⟩
    rcases List.mem_cons.mp m with rfl | m
    · exact h.1
    · exact tr _ _ _ h.1 ((List.pairwise_cons.mp h.2).1 z m)
theorem rise_uniq (asym : ∀ a b, lt a b → lt b a → a = b) (irr : ∀ a, ¬ lt a a) {l m : List α} (hl : l.Pairwise lt) (hm : m.Pairwise lt) (mem : ∀ k, k ∈ l ↔ k ∈ m) : l = m := by
  have n1 : l.Nodup := List.Pairwise.imp (fun {a b} (h : lt a b) (e : a = b) => irr b (e ▸ h)) hl
  have n2 : m.Nodup := List.Pairwise.imp (fun {a b} (h : lt a b) (e : a = b) => irr b (e ▸ h)) hm
  exact ((List.perm_ext_iff_of_nodup n1 n2).mpr mem).eq_of_pairwise (fun a b _ _ h1 h2 => asym a b h1 h2) hl hm
theorem eqvA_iff (he : ∀ a b, eqv (f a) (f b) = true ↔ a = b) : ∀ l m : List α, eqvA (l.map f) (m.map f) = true ↔ l = m
  | [], [] => by simp [eqvA]
  | [], _ :: _ => by simp [eqvA]
  | _ :: _, [] => by simp [eqvA]
  | x :: l, y :: m => by
    have ih := eqvA_iff he l m
    rw [List.map_cons, List.map_cons, eqvA, Bool.and_eq_true, he, ih, List.cons.injEq]
theorem rise_law (hf : ∀ a b, ltD (f a) (f b) = true ↔ lt a b) (tr : ∀ a b c, lt a b → lt b c → lt a c) (asym : ∀ a b, lt a b → lt b a → a = b) (irr : ∀ a, ¬ lt a a) (he : ∀ a b, eqv (f a) (f b) = true ↔ a = b)
    {l m : List α} (hm : m.Pairwise lt) (mem : ∀ k, k ∈ m ↔ k ∈ l) : eqvA (l.map f) (m.map f) = riseL (l.map f) := by
  rw [Bool.eq_iff_iff, eqvA_iff he, rise_iff hf tr]
  exact ⟨fun e => e ▸ hm, fun h => rise_uniq asym irr h hm fun k => (mem k).symm⟩
end
def ltS (a b : Str) : Prop := a.cps.toList < b.cps.toList
theorem str_ext {a b : Str} (h : a.cps.toList = b.cps.toList) : a = b := by
  obtain ⟨x⟩ := a
  obtain ⟨y⟩ := b
  obtain ⟨x⟩ := x
  obtain ⟨y⟩ := y
  have h : x = y := h
  rw [h]
theorem ltS_of {a b : Str} (h : ltCps b.cps.toList a.cps.toList = false) (ne : a ≠ b) : ltS a b := by
  rw [ltCps_eq] at h
  have h1 : ¬ b.cps.toList < a.cps.toList := of_decide_eq_false h
  have h2 : a.cps.toList ≤ b.cps.toList := List.not_lt.mp h1
  exact Classical.byContradiction fun n => ne (str_ext (List.le_antisymm h2 (List.not_lt.mp n)))
theorem strict_from : ∀ (l : List Str) (p : Str), risingS p l = true → (p :: l).Nodup → (p :: l).Pairwise ltS
  | [], p, _, _ => List.pairwise_singleton _ _
  | x :: r, p, h, nd => by
    unfold risingS at h
    rw [Bool.and_eq_true] at h
    obtain ⟨n1, n2⟩ := List.nodup_cons.mp nd
    have ih := strict_from r x h.2 n2
    have px : ltS p x := ltS_of (by simpa using h.1) fun e => n1 (e ▸ List.mem_cons_self)
    refine List.pairwise_cons.mpr ⟨fun z m => ?_, ih⟩
    rcases List.mem_cons.mp m with rfl | m
    · exact px
    · exact List.lt_trans px ((List.pairwise_cons.mp ih).1 z m)
theorem strict_of {l : List Str} (h : sortedS l = true) (nd : l.Nodup) : l.Pairwise ltS := by
  cases l with
  | nil => exact .nil
  | cons p r => exact strict_from r p h nd
/-! ### data of one kind -/
theorem all_ints {K : PySem.W.Frag} {H : Hp} : ∀ {xs : List V} {ds : List D}, RpA K H xs ds → ds.all isInt = true → ∃ ns : List Int, xs = ns.map V.int ∧ ds = ns.map D.int
  | _, _, .nil, _ => ⟨[], rfl, rfl⟩
  | _, _, .cons r rs, h => by
    rw [List.all_cons, Bool.and_eq_true] at h
    obtain ⟨i, rfl, rfl⟩ := int_of r h.1
    obtain ⟨ns, rfl, rfl⟩ := all_ints rs h.2
    exact ⟨i :: ns, rfl, rfl⟩
theorem all_strs {K : PySem.W.Frag} {H : Hp} : ∀ {xs : List V} {ds : List D}, RpA K H xs ds → ds.all isNm = true → ∃ ns : List Str, xs = ns.map V.str ∧ ds = ns.map D.str
  | _, _, .nil, _ => ⟨[], rfl, rfl⟩
  | _, _, .cons (d := d) r rs, h => by
    rw [List.all_cons, Bool.and_eq_true] at h
    have s1 : isS d = true := by
      have := h.1
      cases d <;> first | rfl | cases this
    obtain ⟨i, rfl, rfl⟩ := str_of r s1
    obtain ⟨ns, rfl, rfl⟩ := all_strs rs h.2
    exact ⟨i :: ns, rfl, rfl⟩
theorem rpA_ofInts {K : PySem.W.Frag} {H : Hp} : ∀ ns : List Int, RpA K H (ns.map V.int) (ns.map D.int)
  | [] => .nil
  | _ :: ns => .cons (.int _) (rpA_ofInts ns)
theorem rpA_ofStrs {K : PySem.W.Frag} {H : Hp} : ∀ ns : List Str, RpA K H (ns.map V.str) (ns.map D.str)
  | [] => .nil
  | _ :: ns => .cons (.str _) (rpA_ofStrs ns)
/-! ### list(t) == sorted(set(t)) -/
/-- a new list, of which one thing is known -/
def EvP (te : TE) (σ : L2.St) (H : Hp) (Φ : List V → Prop) : Prop := ∀ H1, Ex H H1 → ∀ Q : VK, (∀ p H2 xs, Φ xs → H1 p = none → Ex H1 H2 → H2 p = some (.lst xs) → Q (.ref p) H2) → te σ H1 Q
section
variable {K : PySem.W.Frag} {σ : L2.St} {H : Hp} {ta tb te : TE}
theorem ev_eqP {xs : List V} {ds : List D} {b : Bool} {Φ : List V → Prop} (h : EvL ta σ H xs) (hb : EvP tb σ H Φ) (r : RpA K H xs ds) (ok : ∀ d ∈ ds, Ok d) (dd : depA ds ≤ 60) (hΦ : ∀ ys, Φ ys → ∃ es, (∀ H, RpA K H ys es) ∧ eqvA ds es = b) : Ev (tOp (rEqZ K) ta tb) σ H (.bl b) :=
  fun H1 e Q q => h H1 e _ fun p H2 _ e2 h2 => hb H2 (e.trans e2) _ fun p' H3 ys hy _ e3 h3 => by
    obtain ⟨es, re, eb⟩ := hΦ ys hy
    exact ⟨ds, es, .lst (.inl (.inl (e3 _ _ h2))) (r.mono (e.trans (e2.trans e3))), .lst (.inl (.inl h3)) (re H3), ok, dd, eb ▸ q H3 (e2.trans e3)⟩
theorem el_listOf {a : Addr} {xs : List V} (h : Ev te σ H (.ref a)) (hs : SqL K H a xs ∨ SqT K H a xs) : EvL (tCB (fun xs H Q => ∃ p ys, xs = [V.ref p] ∧ (SqL K H p ys ∨ SqT K H p ys) ∧ ∀ l, H l = none → Q (.ref l) (upd H l (.lst ys))) (tCons te tNil)) σ H xs := fun H1 e Q q =>
  h H1 e _ fun H2 e2 => ⟨a, xs, rfl, hs.imp (ex_l (e.trans e2)) (ex_t (e.trans e2)), fun l hl => q l _ (fresh_back e2 hl) (e2.trans (Ex.new hl)) upd_same⟩
abbrev rSetB (K : PySem.W.Frag) (w : World) : List V → Hp → VK → Prop := fun xs H Q => KS.rSetInts K w xs H Q ∨ KS.rSetTexts K w xs H Q
abbrev rSortB (w : World) : List V → Hp → VK → Prop := fun xs H Q => KS.rSortInts w xs H Q ∨ KS.rSortTexts w xs H Q
theorem ep_ints {w : World} {a : Addr} {ns : List Int} (h : Ev te σ H (.ref a)) (hs : SqT K H a (ns.map V.int)) (few : ns.length < 1900) :
    EvP (tCB (rSortB w) (tCons (tCB (rSetB K w) (tCons te tNil)) tNil)) σ H (fun ys => ∃ ms : List Int, ys = ms.map V.int ∧ ms.Pairwise (· < ·) ∧ ∀ k, k ∈ ms ↔ k ∈ ns) := fun H1 e Q q =>
  h H1 e _ fun H2 e2 => .inl ⟨a, ns, rfl, ex_t (e.trans e2) hs, few, fun s c hs' hc => .inl ⟨s, _, c, rfl, upd_same, by omega, fun ms l pw mem hl =>
    q l _ _ ⟨ms, rfl, pw, fun k => (mem k).trans decide_eq_true_iff⟩ (fresh_back e2 (fresh_back (Ex.new hs') hl)) (e2.trans ((Ex.new hs').trans (Ex.new hl))) upd_same⟩⟩
theorem ep_strs {w : World} {a : Addr} {ns : List Str} (h : Ev te σ H (.ref a)) (hs : SqT K H a (ns.map V.str)) (few : ns.length < 1900) :
    EvP (tCB (rSortB w) (tCons (tCB (rSetB K w) (tCons te tNil)) tNil)) σ H (fun ys => ∃ ms : List Str, ys = ms.map V.str ∧ ms.Pairwise ltS ∧ ∀ k, k ∈ ms ↔ k ∈ ns) := fun H1 e Q q =>
  h H1 e _ fun H2 e2 => .inr ⟨a, ns, rfl, ex_t (e.trans e2) hs, few, fun s ks hs' nd lz mem => .inr ⟨s, ks, rfl, upd_same, fun ms l pm so hl =>
    q l _ _ ⟨ms, rfl, strict_of so (pm.nodup_iff.mpr nd), fun k => pm.mem_iff.trans (mem k)⟩ (fresh_back e2 (fresh_back (Ex.new hs') hl)) (e2.trans ((Ex.new hs').trans (Ex.new hl))) upd_same⟩⟩
end
theorem eqInt (a b : Int) : eqv (.int a) (.int b) = true ↔ a = b := by simp [eqv]
theorem eqStr (a b : Str) : eqv (.str a) (.str b) = true ↔ a = b := by simp [eqv]
section
variable {P : Program} {w : World} {K : PySem.W.Frag} {mg : Str → Option Value} {base : Heap}
abbrev s_law_rises : Stmt := top 40
abbrev N_law_rises : List Str := ["thing", "one"]
theorem sc_law_rises : FnScope N_law_rises ["thing"] (defScope s_law_rises) := ⟨rfl, rfl, rfl, by decide +kernel, rfl, by decide +kernel, by decide +kernel⟩
theorem ok_law_rises {f : Addr} {fd : FuncData} (F : Fun K "_law_rises" "_law_rises" s_law_rises f fd) (B : Blt mg) (C_law_is_int : Cal P w K mg base 1 "_law_is_int" ["thing"] (spB K isInt)) (C_law_named : Cal P w K mg base 2 "_law_named" ["thing"] (spB K isNm)) : FnOk P w K mg base CX0 3 f fd ["thing"] (spC K riseD) := by
  refine F.ok sc_law_rises spC_len (fun cdv A outer s H vs Q E hr h => ?_)
  obtain ⟨x, d, rfl, r, ok, hd, hw, k⟩ := h
  refine ⟨_, (pss_cons (ps_if (PW.pt (pw_or (pt_not (pt_val (p_isi rfl rfl B.isinstance B.tuple bb_tuple (pv 0)))) (pw_or1 (PW.pt (pw_and (pt_cmpR (op_neZ hr.units) (pe_lc rfl sc_law_rises.nd (pi_tup (pv 0)) (blkOk_by (own := [("one", 1)]) (N := N_law_rises) (sc := defScope s_law_rises) (by decide +kernel)) (fun _ _ _ _ _ => (pg_name (i := 1) sc_law_rises.nd rfl (Or.inl rfl) (Or.inr rfl))) (fun _ _ _ _ _ => (pts_one (pt_not (pt_val (pcal C_law_is_int hr (by decide) rfl (pa_cons (pv 1) pa_nil)))))) (fun _ _ _ _ _ => (pv 1))) (pe_lst pa_nil) (nomark _)) (pw_and1 (pt_cmpR (op_neZ hr.units) (pe_lc rfl sc_law_rises.nd (pi_tup (pv 0)) (blkOk_by (own := [("one", 1)]) (N := N_law_rises) (sc := defScope s_law_rises) (by decide +kernel)) (fun _ _ _ _ _ => (pg_name (i := 1) sc_law_rises.nd rfl (Or.inl rfl) (Or.inr rfl))) (fun _ _ _ _ _ => (pts_one (pt_not (pt_val (pcal C_law_named hr (by decide) rfl (pa_cons (pv 1) pa_nil)))))) (fun _ _ _ _ _ => (pv 1))) (pe_lst pa_nil) (nomark _))))))))
    (pss_one (ps_ret pe_bl))
    pss_nil)
  (pss_one (ps_ret (pe_cmpR (op_eqZ hr.units) (pe_callTy call_list_of rfl B.list bb_list (pa_cons (pv 0) pa_nil)) (pe_callB ((KS.cr_sortInts rfl).or (KS.cr_sortTexts rfl)) rfl B.sorted bb_sorted (pa_cons (pe_callTy ((KS.cr_setInts rfl).or (KS.cr_setTexts rfl)) rfl B.set bb_set (pa_cons (pv 0) pa_nil)) pa_nil)) (nomark _))))), ?_⟩
  by_cases ht : isT d = true
  · obtain ⟨a, xs, ds, rfl, rfl, hq, rs⟩ := tup_of r ht
    have hl := rs.len
    have hn := len_tup hw
    have oks : ∀ e ∈ ds, Ok e := by
      cases ok with
      | tup h => exact h
    have d59 : depA ds ≤ 59 := by
      rw [dep] at hd
      omega
    have okf : ∀ g : D → Bool, ∀ e ∈ ds.filter g, Ok e := fun g e m => oks e ((List.mem_filter.mp m).1)
    have ddf : ∀ g : D → Bool, depA (ds.filter g) ≤ 59 := fun g => depA_le fun e m => Nat.le_trans (dep_mem ((List.mem_filter.mp m).1)) d59
    have fe1 : (ds.filter fun e => !isInt e).isEmpty = ds.all isInt := membs_all rfl (.tup ds)
    have fe2 : (ds.filter fun e => !isNm e).isEmpty = ds.all isNm := membs_all rfl (.tup ds)
    have lz : xs.length ≤ 40000 := by omega
    refine q_when (b := !true || (!ds.all isInt && !ds.all isNm)) (et_or (et_not (et_B (ev_isi (ev_var rfl) r (kit_tuple _ _)))) fun _ => et_and
      (et_is (et_B (ev_neNil (el_filt (fun e => !isInt e) (w_tup (ev_var rfl) hq) (flat_tup hq) rs lz (fun _ => rfl) (fun y e m re => et_not (et_B (ev_call0 (ea_cons (ev_var rfl) ea_nil) (spv_B re (oks e m))))) (fun y => ev_var rfl)) el_nil (rpA_filt _ rs) (okf _) (ddf _))) (by rw [fe1])) fun _ =>
      et_is (et_B (ev_neNil (el_filt (fun e => !isNm e) (w_tup (ev_var rfl) hq) (flat_tup hq) rs lz (fun _ => rfl) (fun y e m re => et_not (et_B (ev_call0 (ea_cons (ev_var rfl) ea_nil) (spv_B re (oks e m))))) (fun y => ev_var rfl)) el_nil (rpA_filt _ rs) (okf _) (ddf _))) (by rw [fe2])) (fun hb H1 e1 => s_ret ev_c fun H2 e2 => ?_) (fun hb H1 e1 => ?_)
    · have en : riseD (.tup ds) = false := by
        show ((ds.all isInt || ds.all isNm) && riseL ds) = false
        cases h1 : ds.all isInt <;> cases h2 : ds.all isNm <;> rw [h1, h2] at hb <;> first | rfl | cases hb
      rw [← en]
      exact k H2 (e1.trans e2)
    · have hor : (ds.all isInt || ds.all isNm) = true := by
        cases h1 : ds.all isInt <;> cases h2 : ds.all isNm <;> rw [h1, h2] at hb <;> first | rfl | cases hb
      have en : riseD (.tup ds) = riseL ds := by
        show ((ds.all isInt || ds.all isNm) && riseL ds) = riseL ds
        rw [hor, Bool.true_and]
      rw [en] at k
      have rs1 := rs.mono e1
      have hq1 := ex_t e1 hq
      cases h1 : ds.all isInt with
      | true =>
        obtain ⟨ns, rfl, rfl⟩ := all_ints rs1 h1
        refine s_ret (ev_eqP (el_listOf (ev_var rfl) (.inr hq1)) (ep_ints (ev_var rfl) hq1 (by rw [List.length_map] at hl; rw [List.length_map] at hn; omega)) rs1 oks (by omega) ?_) fun H2 e2 => k H2 (e1.trans e2)
        rintro ys ⟨ms, rfl, pw, mem⟩
        exact ⟨ms.map D.int, fun H => rpA_ofInts ms, rise_law (f := D.int) (lt := (· < ·)) (fun a b => decide_eq_true_iff) (fun a b c h1 h2 => Int.lt_trans h1 h2) (fun a b h1 h2 => by omega) (fun a h => by omega) eqInt pw mem⟩
      | false =>
        rw [h1, Bool.false_or] at hor
        obtain ⟨ns, rfl, rfl⟩ := all_strs rs1 hor
        refine s_ret (ev_eqP (el_listOf (ev_var rfl) (.inr hq1)) (ep_strs (ev_var rfl) hq1 (by rw [List.length_map] at hl; rw [List.length_map] at hn; omega)) rs1 oks (by omega) ?_) fun H2 e2 => k H2 (e1.trans e2)
        rintro ys ⟨ms, rfl, pw, mem⟩
        exact ⟨ms.map D.str, fun H => rpA_ofStrs ms, rise_law (f := D.str) (lt := ltS) (fun a b => decide_eq_true_iff) (fun a b c h1 h2 => List.lt_trans h1 h2) (fun a b h1 h2 => absurd h2 (List.lt_asymm h1)) (fun a => List.lt_irrefl _) eqStr pw mem⟩
  · have h0 : isT d = false := by simpa using ht
    have en : riseD d = false := by
      cases d with
      | tup ds => exact absurd rfl ht
      | _ => rfl
    refine q_when (b := true) (et_is (et_or (b := !isT d) (et_not (et_B (ev_isi (ev_var rfl) r (kit_tuple _ _)))) fun z => by rw [h0] at z; cases z) (by rw [h0]; rfl)) (fun hb H1 e1 => s_ret ev_c fun H2 e2 => ?_) (fun hb => by cases hb)
    rw [← en]
    exact k H2 (e1.trans e2)
end
end K5
namespace K5
open PySem PySem.Spec PyProof.Rows L2 Evl KZ RZ KX
/-- a def of the module, as it is written -/
def FnFact (K : PySem.W.Frag) (x : Str) (st : Stmt) : Prop := ∃ (f : Addr) (oc kV dc pm cd ct : Value) (od an : Option Addr) (sl : Array (Option Value)), PySem.W.nsIn K mainGlobals x = some (some (.ref f)) ∧ K.lookup f = some ⟨oc, od, .func (PySem.W.fnOf x x (defArgs st) (defBody st) (defScope st) .none kV dc pm an cd ct), sl⟩ ∧ PySem.W.codeIn K cd x = true ∧ PySem.W.keepIn K (.ref f) = true
/-- a class of errors, as it is written -/
structure ClsFact (K : PySem.W.Frag) (C CT fW : Addr) (nm : Str) : Prop where
  xL : ∃ (nm' q : Str) (N : Addr) (bs bm : List Value) (sn : List Str) (sub : List Value) (ab : Bool) (col : Option Bool) (dd : Option Addr) (m0 m1 m3 m5 : Option Value) (tk : Tok), K.lookup C = some (excClassObj nm' q C N bs bm true sn sub ab col dd m0 m1 (some (.str nm tk)) m3 m5 "ValueError.__new__") ∧ PySem.HandSPX.refsVE bm = true
  sa : PySem.W.findIn K (.ref C) "__setattr__" = some (some (.builtin "object.__setattr__"))
  tyC : PySem.W.typeIn K (.ref C) = some (.type "type")
  kC : PySem.W.keepIn K (.ref C) = true
  hg : PySem.W.findIn K (.ref C) "__getattribute__" = some (some (.builtin "BaseException.__getattribute__"))
  hk : PySem.W.findIn K (.ref C) "__getattr__" = some none
  hs : PySem.W.subIn K (.ref C) (.type "BaseException") = some true
  hd : PySem.W.hasDictIn K C = true
  ha : PySem.W.findIn K (.ref C) "__class__" = some (some (.builtin "object.__class__"))
  hn : PySem.W.specialIn K (.builtin "object.__class__") "__get__" = some (some (.builtin "getset_descriptor.__get__"))
  ht : PySem.W.takesIn K (.builtin "object.__class__") = some true
  hm : PySem.W.mroIn K C (.type "object") = some true
  cl : PySem.W.findCls K (.ref C) (.type "type") "__name__" = some (.get (.builtin "getset_descriptor.__get__") (.builtin "type.__name__") (.ref C) (.type "type"))
  op : PySem.W.nsIn K cStatics "thirdparty.any" = some none
  kT : PySem.W.kitOne K (.ref C) (.ref CT) = some true
  kV : PySem.W.kitOne K (.ref C) (.type "ValueError") = some true
  wd : PySem.W.findIn K (.ref C) "word" = some (some (.ref fW))
theorem ClsFact.exc {K : PySem.W.Frag} {C CT fW : Addr} {nm : Str} (h : ClsFact K C CT fW nm) : ExcC K C := ⟨h.hg, h.hk, h.hs, h.hd, h.ha, h.hn, h.ht, h.hm⟩
theorem ClsFact.name {K : PySem.W.Frag} {C CT fW : Addr} {nm : Str} (h : ClsFact K C CT fW nm) : CName K C nm := by
  obtain ⟨nm', q, N, bs, bm, sn, sub, ab, col, dd, m0, m1, m3, m5, tk, e, _⟩ := h.xL
  exact ⟨⟨_, tk, e, rfl⟩, h.tyC, h.cl, h.op⟩
theorem ClsFact.oex {K : PySem.W.Frag} {C CT fW : Addr} {nm : Str} (h : ClsFact K C CT fW nm) : OexC K C := by
  obtain ⟨nm', q, N, bs, bm, sn, sub, ab, col, dd, m0, m1, m3, m5, tk, e, e2⟩ := h.xL
  exact ⟨⟨nm', q, N, bs, bm, sn, sub, ab, col, dd, m0, m1, _, m3, m5, e, e2⟩, h.sa, h.hs, h.tyC, h.kC⟩
theorem ClsFact.cls {K : PySem.W.Frag} {C CT fW : Addr} {nm : Str} (h : ClsFact K C CT fW nm) : ∃ cd, PySem.W.clsIn K C = some cd := by
  obtain ⟨nm', q, N, bs, bm, sn, sub, ab, col, dd, m0, m1, m3, m5, tk, e, e2⟩ := h.xL
  exact ⟨_, by unfold PySem.W.clsIn; rw [e] <;> rfl⟩
/-- .. and its __init__ -/
def IniFact (P : Program) (K : PySem.W.Frag) (C : Addr) (ql : Str) (st : Stmt) : Prop := ∃ (f1 cda cc : Addr) (oc dV kV dc pm ct ccl cl : Value) (od an cdd cld : Option Addr) (sl ccs csl : Array (Option Value)) (vs : Array Value) (file : Str) (tf : Tok),
  PySem.W.findIn K (.ref C) "__init__" = some (some (.ref f1)) ∧ PySem.W.typeIn K (.ref f1) = some (.type "function") ∧ K.lookup f1 = some ⟨oc, od, .func (PySem.W.ksFn "__init__" ql (defArgs st) (defBody st) (defScope st) dV kV dc pm an (.ref cda) ct cc), sl⟩ ∧ PySem.W.codeIn K (.ref cda) ql = true ∧ dV = .none ∧
  K.lookup cda = some ⟨ccl, cdd, .fields vs, ccs⟩ ∧ vs[2]? = some (.str file tf) ∧ ((P.main.file : Str) == file) = true ∧ K.lookup cc = some ⟨cl, cld, .cell (some (.ref C)), csl⟩ ∧
  PySem.W.mroIn K C (.ref C) = some true ∧ PySem.W.ks_superIn K C C "__init__" = some (some (.builtin "ValueError.__init__")) ∧ PySem.W.subIn K (.ref C) (.type "ValueError") = some true
theorem err_BadText {P : Program} {w : World} {K : PySem.W.Frag} {mg : Str → Option Value} {base : Heap} {C CT fW : Addr} (g : mg "BadText" = some (.ref C)) (Z : ClsFact K C CT fW "BadText") (I : IniFact P K C "BadText.__init__" (mth 20 0)) (n1 : PySem.W.findIn K (.ref C) "line" = some none) (n2 : PySem.W.findIn K (.ref C) "column" = some none) (sup : mg "super" = none) (top : (P.main.scope.names.lookup ("super" : Str)).isSome = false) : ErrC P w K mg base C "BadText" ["line", "column"] := by
  obtain ⟨f1, cda, cc, oc, dV, kV, dc, pm, ct, ccl, cl, od, an, cdd, cld, sl, ccs, csl, vs, file, tf, a1, t1, l1, c1, rfl, h1, h2, h3, h4, h5, h6, h7⟩ := I
  have S : SuI P K mg f1 C C cc cda (defScope (mth 20 0)) := ⟨⟨ccl, cdd, vs, ccs, file, tf, h1, h2, h3⟩, ⟨cl, cld, csl, h4⟩, Z.cls, h5, Z.op, h6, h7, sup, top, rfl, rfl, rfl⟩
  refine ⟨g, Z.oex, Z.exc, Z.name, fun y m => ?_, ⟨f1, _, a1, t1, init2 S Z.oex l1 c1 ⟨_, rfl, rfl⟩ rfl rfl n1 (by decide +kernel) (by decide +kernel) rfl n2 (by decide +kernel) (by decide +kernel) (by decide +kernel) (fun L => ⟨_, rfl⟩) (by decide +kernel) rfl rfl, ?_⟩⟩
  · simp only [List.mem_cons, List.not_mem_nil, or_false] at m
    rcases m with rfl | rfl
    · exact n1
    · exact n2
  · exact .all fun us hl => match us, hl with | [_, _, _], _ => rfl
theorem err_BadBook {P : Program} {w : World} {K : PySem.W.Frag} {mg : Str → Option Value} {base : Heap} {C CT fW : Addr} (g : mg "BadBook" = some (.ref C)) (Z : ClsFact K C CT fW "BadBook") (I : IniFact P K C "BadBook.__init__" (mth 21 0)) (n1 : PySem.W.findIn K (.ref C) "at" = some none) (n2 : PySem.W.findIn K (.ref C) "fault" = some none) (sup : mg "super" = none) (top : (P.main.scope.names.lookup ("super" : Str)).isSome = false) : ErrC P w K mg base C "BadBook" ["at", "fault"] := by
  obtain ⟨f1, cda, cc, oc, dV, kV, dc, pm, ct, ccl, cl, od, an, cdd, cld, sl, ccs, csl, vs, file, tf, a1, t1, l1, c1, rfl, h1, h2, h3, h4, h5, h6, h7⟩ := I
  have S : SuI P K mg f1 C C cc cda (defScope (mth 21 0)) := ⟨⟨ccl, cdd, vs, ccs, file, tf, h1, h2, h3⟩, ⟨cl, cld, csl, h4⟩, Z.cls, h5, Z.op, h6, h7, sup, top, rfl, rfl, rfl⟩
  refine ⟨g, Z.oex, Z.exc, Z.name, fun y m => ?_, ⟨f1, _, a1, t1, init2 S Z.oex l1 c1 ⟨_, rfl, rfl⟩ rfl rfl n1 (by decide +kernel) (by decide +kernel) rfl n2 (by decide +kernel) (by decide +kernel) (by decide +kernel) (fun L => ⟨_, rfl⟩) (by decide +kernel) rfl rfl, ?_⟩⟩
  · simp only [List.mem_cons, List.not_mem_nil, or_false] at m
    rcases m with rfl | rfl
    · exact n1
    · exact n2
  · exact .all fun us hl => match us, hl with | [_, _, _], _ => rfl
theorem err_BadBytes {P : Program} {w : World} {K : PySem.W.Frag} {mg : Str → Option Value} {base : Heap} {C CT fW : Addr} (g : mg "BadBytes" = some (.ref C)) (Z : ClsFact K C CT fW "BadBytes") (I : IniFact P K C "BadBytes.__init__" (mth 22 0)) (n1 : PySem.W.findIn K (.ref C) "at" = some none) (n2 : PySem.W.findIn K (.ref C) "fault" = some none) (sup : mg "super" = none) (top : (P.main.scope.names.lookup ("super" : Str)).isSome = false) : ErrC P w K mg base C "BadBytes" ["at", "fault"] := by
  obtain ⟨f1, cda, cc, oc, dV, kV, dc, pm, ct, ccl, cl, od, an, cdd, cld, sl, ccs, csl, vs, file, tf, a1, t1, l1, c1, rfl, h1, h2, h3, h4, h5, h6, h7⟩ := I
  have S : SuI P K mg f1 C C cc cda (defScope (mth 22 0)) := ⟨⟨ccl, cdd, vs, ccs, file, tf, h1, h2, h3⟩, ⟨cl, cld, csl, h4⟩, Z.cls, h5, Z.op, h6, h7, sup, top, rfl, rfl, rfl⟩
  refine ⟨g, Z.oex, Z.exc, Z.name, fun y m => ?_, ⟨f1, _, a1, t1, init2 S Z.oex l1 c1 ⟨_, rfl, rfl⟩ rfl rfl n1 (by decide +kernel) (by decide +kernel) rfl n2 (by decide +kernel) (by decide +kernel) (by decide +kernel) (fun L => ⟨_, rfl⟩) (by decide +kernel) rfl rfl, ?_⟩⟩
  · simp only [List.mem_cons, List.not_mem_nil, or_false] at m
    rcases m with rfl | rfl
    · exact n1
    · exact n2
  · exact .all fun us hl => match us, hl with | [_, _, _], _ => rfl
theorem err_BadEntry {P : Program} {w : World} {K : PySem.W.Frag} {mg : Str → Option Value} {base : Heap} {C CT fW : Addr} (g : mg "BadEntry" = some (.ref C)) (Z : ClsFact K C CT fW "BadEntry") (I : IniFact P K C "BadEntry.__init__" (mth 23 0)) (n1 : PySem.W.findIn K (.ref C) "index" = some none) (n2 : PySem.W.findIn K (.ref C) "fault" = some none) (sup : mg "super" = none) (top : (P.main.scope.names.lookup ("super" : Str)).isSome = false) : ErrC P w K mg base C "BadEntry" ["index", "fault"] := by
  obtain ⟨f1, cda, cc, oc, dV, kV, dc, pm, ct, ccl, cl, od, an, cdd, cld, sl, ccs, csl, vs, file, tf, a1, t1, l1, c1, rfl, h1, h2, h3, h4, h5, h6, h7⟩ := I
  have S : SuI P K mg f1 C C cc cda (defScope (mth 23 0)) := ⟨⟨ccl, cdd, vs, ccs, file, tf, h1, h2, h3⟩, ⟨cl, cld, csl, h4⟩, Z.cls, h5, Z.op, h6, h7, sup, top, rfl, rfl, rfl⟩
  refine ⟨g, Z.oex, Z.exc, Z.name, fun y m => ?_, ⟨f1, _, a1, t1, init2 S Z.oex l1 c1 ⟨_, rfl, rfl⟩ rfl rfl n1 (by decide +kernel) (by decide +kernel) rfl n2 (by decide +kernel) (by decide +kernel) (by decide +kernel) (fun L => ⟨_, rfl⟩) (by decide +kernel) rfl rfl, ?_⟩⟩
  · simp only [List.mem_cons, List.not_mem_nil, or_false] at m
    rcases m with rfl | rfl
    · exact n1
    · exact n2
  · exact .all fun us hl => match us, hl with | [_, _, _], _ => rfl
theorem err_NoName {P : Program} {w : World} {K : PySem.W.Frag} {mg : Str → Option Value} {base : Heap} {C CT fW : Addr} (g : mg "NoName" = some (.ref C)) (Z : ClsFact K C CT fW "NoName") (I : IniFact P K C "NoName.__init__" (mth 24 0)) (n1 : PySem.W.findIn K (.ref C) "name" = some none) (sup : mg "super" = none) (top : (P.main.scope.names.lookup ("super" : Str)).isSome = false) : ErrC P w K mg base C "NoName" ["name"] := by
  obtain ⟨f1, cda, cc, oc, dV, kV, dc, pm, ct, ccl, cl, od, an, cdd, cld, sl, ccs, csl, vs, file, tf, a1, t1, l1, c1, rfl, h1, h2, h3, h4, h5, h6, h7⟩ := I
  have S : SuI P K mg f1 C C cc cda (defScope (mth 24 0)) := ⟨⟨ccl, cdd, vs, ccs, file, tf, h1, h2, h3⟩, ⟨cl, cld, csl, h4⟩, Z.cls, h5, Z.op, h6, h7, sup, top, rfl, rfl, rfl⟩
  refine ⟨g, Z.oex, Z.exc, Z.name, fun y m => ?_, ⟨f1, _, a1, t1, init1 S Z.oex l1 c1 ⟨_, rfl, rfl⟩ rfl rfl n1 (by decide +kernel) (by decide +kernel)  (fun L => ⟨_, rfl⟩) (by decide +kernel) rfl rfl, ?_⟩⟩
  · simp only [List.mem_cons, List.not_mem_nil, or_false] at m
    rcases m with rfl
    exact n1
  · exact .all fun us hl => match us, hl with | [_, _], _ => rfl
theorem err_NoCommand {P : Program} {w : World} {K : PySem.W.Frag} {mg : Str → Option Value} {base : Heap} {C CT fW : Addr} (g : mg "NoCommand" = some (.ref C)) (Z : ClsFact K C CT fW "NoCommand") (I : IniFact P K C "NoCommand.__init__" (mth 25 0)) (n1 : PySem.W.findIn K (.ref C) "line" = some none) (sup : mg "super" = none) (top : (P.main.scope.names.lookup ("super" : Str)).isSome = false) : ErrC P w K mg base C "NoCommand" ["line"] := by
  obtain ⟨f1, cda, cc, oc, dV, kV, dc, pm, ct, ccl, cl, od, an, cdd, cld, sl, ccs, csl, vs, file, tf, a1, t1, l1, c1, rfl, h1, h2, h3, h4, h5, h6, h7⟩ := I
  have S : SuI P K mg f1 C C cc cda (defScope (mth 25 0)) := ⟨⟨ccl, cdd, vs, ccs, file, tf, h1, h2, h3⟩, ⟨cl, cld, csl, h4⟩, Z.cls, h5, Z.op, h6, h7, sup, top, rfl, rfl, rfl⟩
  refine ⟨g, Z.oex, Z.exc, Z.name, fun y m => ?_, ⟨f1, _, a1, t1, init1 S Z.oex l1 c1 ⟨_, rfl, rfl⟩ rfl rfl n1 (by decide +kernel) (by decide +kernel)  (fun L => ⟨_, rfl⟩) (by decide +kernel) rfl rfl, ?_⟩⟩
  · simp only [List.mem_cons, List.not_mem_nil, or_false] at m
    rcases m with rfl
    exact n1
  · exact .all fun us hl => match us, hl with | [_, _], _ => rfl
theorem err_Refused {P : Program} {w : World} {K : PySem.W.Frag} {mg : Str → Option Value} {base : Heap} {C CT fW : Addr} (g : mg "Refused" = some (.ref C)) (Z : ClsFact K C CT fW "Refused") (I : IniFact P K C "Refused.__init__" (mth 26 0)) (n1 : PySem.W.findIn K (.ref C) "why" = some none) (sup : mg "super" = none) (top : (P.main.scope.names.lookup ("super" : Str)).isSome = false) : ErrC P w K mg base C "Refused" ["why"] := by
  obtain ⟨f1, cda, cc, oc, dV, kV, dc, pm, ct, ccl, cl, od, an, cdd, cld, sl, ccs, csl, vs, file, tf, a1, t1, l1, c1, rfl, h1, h2, h3, h4, h5, h6, h7⟩ := I
  have S : SuI P K mg f1 C C cc cda (defScope (mth 26 0)) := ⟨⟨ccl, cdd, vs, ccs, file, tf, h1, h2, h3⟩, ⟨cl, cld, csl, h4⟩, Z.cls, h5, Z.op, h6, h7, sup, top, rfl, rfl, rfl⟩
  refine ⟨g, Z.oex, Z.exc, Z.name, fun y m => ?_, ⟨f1, _, a1, t1, init1 S Z.oex l1 c1 ⟨_, rfl, rfl⟩ rfl rfl n1 (by decide +kernel) (by decide +kernel)  (fun L => ⟨_, rfl⟩) (by decide +kernel) rfl rfl, ?_⟩⟩
  · simp only [List.mem_cons, List.not_mem_nil, or_false] at m
    rcases m with rfl
    exact n1
  · exact .all fun us hl => match us, hl with | [_, _], _ => rfl
theorem err_TooMany {P : Program} {w : World} {K : PySem.W.Frag} {mg : Str → Option Value} {base : Heap} {C CT fW : Addr} (g : mg "TooMany" = some (.ref C)) (Z : ClsFact K C CT fW "TooMany") (I : IniFact P K C "TooMany.__init__" (mth 28 0)) (n1 : PySem.W.findIn K (.ref C) "what" = some none) (n2 : PySem.W.findIn K (.ref C) "limit" = some none) (sup : mg "super" = none) (top : (P.main.scope.names.lookup ("super" : Str)).isSome = false) : ErrC P w K mg base C "TooMany" ["what", "limit"] := by
  obtain ⟨f1, cda, cc, oc, dV, kV, dc, pm, ct, ccl, cl, od, an, cdd, cld, sl, ccs, csl, vs, file, tf, a1, t1, l1, c1, rfl, h1, h2, h3, h4, h5, h6, h7⟩ := I
  have S : SuI P K mg f1 C C cc cda (defScope (mth 28 0)) := ⟨⟨ccl, cdd, vs, ccs, file, tf, h1, h2, h3⟩, ⟨cl, cld, csl, h4⟩, Z.cls, h5, Z.op, h6, h7, sup, top, rfl, rfl, rfl⟩
  refine ⟨g, Z.oex, Z.exc, Z.name, fun y m => ?_, ⟨f1, _, a1, t1, init2 S Z.oex l1 c1 ⟨_, rfl, rfl⟩ rfl rfl n1 (by decide +kernel) (by decide +kernel) rfl n2 (by decide +kernel) (by decide +kernel) (by decide +kernel) (fun L => ⟨_, rfl⟩) (by decide +kernel) rfl rfl, ?_⟩⟩
  · simp only [List.mem_cons, List.not_mem_nil, or_false] at m
    rcases m with rfl | rfl
    · exact n1
    · exact n2
  · exact .all fun us hl => match us, hl with | [_, _, _], _ => rfl
/-- all of it -/
structure Facts (P : Program) (K : PySem.W.Frag) (mgP : Str → Option (Option Value)) : Prop where
  f_is_integer : FnFact K "is_integer" s_is_integer
  f_is_within : FnFact K "is_within" s_is_within
  f_is_string : FnFact K "is_string" s_is_string
  f_is_name : FnFact K "is_name" s_is_name
  f_are_all : FnFact K "are_all" s_are_all
  f_are_integers : FnFact K "are_integers" s_are_integers
  f_are_names : FnFact K "are_names" s_are_names
  f_are_bytes : FnFact K "are_bytes" s_are_bytes
  f_do_rise : FnFact K "do_rise" s_do_rise
  f_sort_of : FnFact K "sort_of" s_sort_of
  f_part_pairs : FnFact K "part_pairs" s_part_pairs
  f_are_same : FnFact K "are_same" s_are_same
  f_is_among : FnFact K "is_among" s_is_among
  f_law_bag : FnFact K "_law_bag" s_law_bag
  f_law_take : FnFact K "_law_take" s_law_take
  f_law_some : FnFact K "_law_some" s_law_some
  f_law_is_int : FnFact K "_law_is_int" s_law_is_int
  f_law_alike : FnFact K "_law_alike" s_law_alike
  f_law_keys : FnFact K "_law_keys" s_law_keys
  f_law_named : FnFact K "_law_named" s_law_named
  f_law_value : FnFact K "_law_value" s_law_value
  f_law_kind : FnFact K "_law_kind" s_law_kind
  f_law_same : FnFact K "_law_same" s_law_same
  f_law_rises : FnFact K "_law_rises" s_law_rises
  f_law : FnFact K "law" s_law
  letters : ∃ tk, PySem.W.nsIn K mainGlobals "LETTERS" = some (some (.str letters tk))
  keys : ∃ (a : Addr) (od : Option Addr) (sl : Array (Option Value)) (t0 t1 t2 t3 t4 t5 t6 : Tok) (n : Nat), PySem.W.nsIn K mainGlobals "KEYS" = some (some (.ref a)) ∧ K.lookup a = some ⟨.type "tuple", od, .seq #[.str "table" t0, .str "holes" t1, .str "cases" t2, .str "cell" t3, .str "says" t4, .str "to" t5, .str "none" t6] n, sl⟩
  signs : ∃ tk, PySem.W.nsIn K mainGlobals "MOST_SIGNS" = some (some (.int 8 tk))
  byte : ∃ tk, PySem.W.nsIn K mainGlobals "MOST_BYTE" = some (some (.int 255 tk))
  z_isinstance : PySem.W.nsIn K mainGlobals "isinstance" = some none
  z_int : PySem.W.nsIn K mainGlobals "int" = some none
  z_bool : PySem.W.nsIn K mainGlobals "bool" = some none
  z_str : PySem.W.nsIn K mainGlobals "str" = some none
  z_tuple : PySem.W.nsIn K mainGlobals "tuple" = some none
  z_list : PySem.W.nsIn K mainGlobals "list" = some none
  z_dict : PySem.W.nsIn K mainGlobals "dict" = some none
  z_len : PySem.W.nsIn K mainGlobals "len" = some none
  z_all : PySem.W.nsIn K mainGlobals "all" = some none
  z_any : PySem.W.nsIn K mainGlobals "any" = some none
  z_zip : PySem.W.nsIn K mainGlobals "zip" = some none
  z_range : PySem.W.nsIn K mainGlobals "range" = some none
  z_enumerate : PySem.W.nsIn K mainGlobals "enumerate" = some none
  z_sorted : PySem.W.nsIn K mainGlobals "sorted" = some none
  z_set : PySem.W.nsIn K mainGlobals "set" = some none
  z_abs : PySem.W.nsIn K mainGlobals "abs" = some none
  z_ValueError : PySem.W.nsIn K mainGlobals "ValueError" = some none
  z_super : PySem.W.nsIn K mainGlobals "super" = some none
  top : (P.main.scope.names.lookup ("super" : Str)).isSome = false
  errs : ∃ CT fW c0 c1 c2 c3 c4 c5 c6 c7 c8 : Addr, PySem.W.nsIn K mainGlobals "TapeError" = some (some (.ref CT)) ∧ PySem.W.keepIn K (.ref CT) = true ∧ PySem.W.isFn K (.ref fW) = true ∧ PySem.W.keepIn K (.ref fW) = true ∧
    (∃ (oc kV dc pm cd ct : Value) (od an : Option Addr) (sl : Array (Option Value)), K.lookup fW = some ⟨oc, od, .func (PySem.W.fnOf "word" "TapeError.word" (defArgs s_word) (defBody s_word) (defScope s_word) .none kV dc pm an cd ct), sl⟩ ∧ PySem.W.codeIn K cd "TapeError.word" = true) ∧
    (PySem.W.nsIn K mainGlobals "BadText" = some (some (.ref c0)) ∧ ClsFact K c0 CT fW "BadText" ∧ IniFact P K c0 "BadText.__init__" (mth 20 0) ∧ PySem.W.findIn K (.ref c0) "line" = some none ∧ PySem.W.findIn K (.ref c0) "column" = some none) ∧
    (PySem.W.nsIn K mainGlobals "BadBook" = some (some (.ref c1)) ∧ ClsFact K c1 CT fW "BadBook" ∧ IniFact P K c1 "BadBook.__init__" (mth 21 0) ∧ PySem.W.findIn K (.ref c1) "at" = some none ∧ PySem.W.findIn K (.ref c1) "fault" = some none) ∧
    (PySem.W.nsIn K mainGlobals "BadBytes" = some (some (.ref c2)) ∧ ClsFact K c2 CT fW "BadBytes" ∧ IniFact P K c2 "BadBytes.__init__" (mth 22 0) ∧ PySem.W.findIn K (.ref c2) "at" = some none ∧ PySem.W.findIn K (.ref c2) "fault" = some none) ∧
    (PySem.W.nsIn K mainGlobals "BadEntry" = some (some (.ref c3)) ∧ ClsFact K c3 CT fW "BadEntry" ∧ IniFact P K c3 "BadEntry.__init__" (mth 23 0) ∧ PySem.W.findIn K (.ref c3) "index" = some none ∧ PySem.W.findIn K (.ref c3) "fault" = some none) ∧
    (PySem.W.nsIn K mainGlobals "NoName" = some (some (.ref c4)) ∧ ClsFact K c4 CT fW "NoName" ∧ IniFact P K c4 "NoName.__init__" (mth 24 0) ∧ PySem.W.findIn K (.ref c4) "name" = some none) ∧
    (PySem.W.nsIn K mainGlobals "NoCommand" = some (some (.ref c5)) ∧ ClsFact K c5 CT fW "NoCommand" ∧ IniFact P K c5 "NoCommand.__init__" (mth 25 0) ∧ PySem.W.findIn K (.ref c5) "line" = some none) ∧
    (PySem.W.nsIn K mainGlobals "Refused" = some (some (.ref c6)) ∧ ClsFact K c6 CT fW "Refused" ∧ IniFact P K c6 "Refused.__init__" (mth 26 0) ∧ PySem.W.findIn K (.ref c6) "why" = some none) ∧
    (PySem.W.nsIn K mainGlobals "TooMany" = some (some (.ref c8)) ∧ ClsFact K c8 CT fW "TooMany" ∧ IniFact P K c8 "TooMany.__init__" (mth 28 0) ∧ PySem.W.findIn K (.ref c8) "what" = some none ∧ PySem.W.findIn K (.ref c8) "limit" = some none) ∧
    (PySem.W.nsIn K mainGlobals "Nothing" = some (some (.ref c7)) ∧ ClsFact K c7 CT fW "Nothing" ∧ PySem.W.excIn K c7 [.type "ValueError", .type "Exception", .type "BaseException", .type "object"] "ValueError.__new__" = true)
theorem keys_vals {t0 t1 t2 t3 t4 t5 t6 : Tok} : Vals (keys.map V.str) [Value.str "table" t0, .str "holes" t1, .str "cases" t2, .str "cell" t3, .str "says" t4, .str "to" t5, .str "none" t6] :=
  .cons ⟨_, rfl⟩ (.cons ⟨_, rfl⟩ (.cons ⟨_, rfl⟩ (.cons ⟨_, rfl⟩ (.cons ⟨_, rfl⟩ (.cons ⟨_, rfl⟩ (.cons ⟨_, rfl⟩ .nil))))))
theorem all_mk {l : PySem.W.OpenLaw} {w : World} {K : PySem.W.Frag} {h : Heap} {mg : Str → Option Value} {fa : Addr} (X : K.In h) (G : h.Ns mainGlobals mg) (hfa : mg "law" = some (.ref fa)) (T : Facts l.prog K fun _ => none) :
    ∃ fd : FuncData, (∀ (s : Shared) (v : Value), BindsTo s fd ⟨[v], []⟩ [("script", v)]) ∧ ∀ base : Heap, K.In base → base.Ns mainGlobals mg → FnOk l.prog w K mg base CX0 7 fa fd ["script"] (spLaw K) := by
  obtain ⟨g_is_integer, oc_is_integer, kV_is_integer, dc_is_integer, pm_is_integer, cd_is_integer, ct_is_integer, od_is_integer, an_is_integer, sl_is_integer, a_is_integer, l_is_integer, c_is_integer, k_is_integer⟩ := T.f_is_integer
  obtain ⟨g_is_within, oc_is_within, kV_is_within, dc_is_within, pm_is_within, cd_is_within, ct_is_within, od_is_within, an_is_within, sl_is_within, a_is_within, l_is_within, c_is_within, k_is_within⟩ := T.f_is_within
  obtain ⟨g_is_string, oc_is_string, kV_is_string, dc_is_string, pm_is_string, cd_is_string, ct_is_string, od_is_string, an_is_string, sl_is_string, a_is_string, l_is_string, c_is_string, k_is_string⟩ := T.f_is_string
  obtain ⟨g_is_name, oc_is_name, kV_is_name, dc_is_name, pm_is_name, cd_is_name, ct_is_name, od_is_name, an_is_name, sl_is_name, a_is_name, l_is_name, c_is_name, k_is_name⟩ := T.f_is_name
  obtain ⟨g_are_all, oc_are_all, kV_are_all, dc_are_all, pm_are_all, cd_are_all, ct_are_all, od_are_all, an_are_all, sl_are_all, a_are_all, l_are_all, c_are_all, k_are_all⟩ := T.f_are_all
  obtain ⟨g_are_integers, oc_are_integers, kV_are_integers, dc_are_integers, pm_are_integers, cd_are_integers, ct_are_integers, od_are_integers, an_are_integers, sl_are_integers, a_are_integers, l_are_integers, c_are_integers, k_are_integers⟩ := T.f_are_integers
  obtain ⟨g_are_names, oc_are_names, kV_are_names, dc_are_names, pm_are_names, cd_are_names, ct_are_names, od_are_names, an_are_names, sl_are_names, a_are_names, l_are_names, c_are_names, k_are_names⟩ := T.f_are_names
  obtain ⟨g_are_bytes, oc_are_bytes, kV_are_bytes, dc_are_bytes, pm_are_bytes, cd_are_bytes, ct_are_bytes, od_are_bytes, an_are_bytes, sl_are_bytes, a_are_bytes, l_are_bytes, c_are_bytes, k_are_bytes⟩ := T.f_are_bytes
  obtain ⟨g_do_rise, oc_do_rise, kV_do_rise, dc_do_rise, pm_do_rise, cd_do_rise, ct_do_rise, od_do_rise, an_do_rise, sl_do_rise, a_do_rise, l_do_rise, c_do_rise, k_do_rise⟩ := T.f_do_rise
  obtain ⟨g_sort_of, oc_sort_of, kV_sort_of, dc_sort_of, pm_sort_of, cd_sort_of, ct_sort_of, od_sort_of, an_sort_of, sl_sort_of, a_sort_of, l_sort_of, c_sort_of, k_sort_of⟩ := T.f_sort_of
  obtain ⟨g_part_pairs, oc_part_pairs, kV_part_pairs, dc_part_pairs, pm_part_pairs, cd_part_pairs, ct_part_pairs, od_part_pairs, an_part_pairs, sl_part_pairs, a_part_pairs, l_part_pairs, c_part_pairs, k_part_pairs⟩ := T.f_part_pairs
  obtain ⟨g_are_same, oc_are_same, kV_are_same, dc_are_same, pm_are_same, cd_are_same, ct_are_same, od_are_same, an_are_same, sl_are_same, a_are_same, l_are_same, c_are_same, k_are_same⟩ := T.f_are_same
  obtain ⟨g_is_among, oc_is_among, kV_is_among, dc_is_among, pm_is_among, cd_is_among, ct_is_among, od_is_among, an_is_among, sl_is_among, a_is_among, l_is_among, c_is_among, k_is_among⟩ := T.f_is_among
  obtain ⟨g_law_bag, oc_law_bag, kV_law_bag, dc_law_bag, pm_law_bag, cd_law_bag, ct_law_bag, od_law_bag, an_law_bag, sl_law_bag, a_law_bag, l_law_bag, c_law_bag, k_law_bag⟩ := T.f_law_bag
  obtain ⟨g_law_take, oc_law_take, kV_law_take, dc_law_take, pm_law_take, cd_law_take, ct_law_take, od_law_take, an_law_take, sl_law_take, a_law_take, l_law_take, c_law_take, k_law_take⟩ := T.f_law_take
  obtain ⟨g_law_some, oc_law_some, kV_law_some, dc_law_some, pm_law_some, cd_law_some, ct_law_some, od_law_some, an_law_some, sl_law_some, a_law_some, l_law_some, c_law_some, k_law_some⟩ := T.f_law_some
  obtain ⟨g_law_is_int, oc_law_is_int, kV_law_is_int, dc_law_is_int, pm_law_is_int, cd_law_is_int, ct_law_is_int, od_law_is_int, an_law_is_int, sl_law_is_int, a_law_is_int, l_law_is_int, c_law_is_int, k_law_is_int⟩ := T.f_law_is_int
  obtain ⟨g_law_alike, oc_law_alike, kV_law_alike, dc_law_alike, pm_law_alike, cd_law_alike, ct_law_alike, od_law_alike, an_law_alike, sl_law_alike, a_law_alike, l_law_alike, c_law_alike, k_law_alike⟩ := T.f_law_alike
  obtain ⟨g_law_keys, oc_law_keys, kV_law_keys, dc_law_keys, pm_law_keys, cd_law_keys, ct_law_keys, od_law_keys, an_law_keys, sl_law_keys, a_law_keys, l_law_keys, c_law_keys, k_law_keys⟩ := T.f_law_keys
  obtain ⟨g_law_named, oc_law_named, kV_law_named, dc_law_named, pm_law_named, cd_law_named, ct_law_named, od_law_named, an_law_named, sl_law_named, a_law_named, l_law_named, c_law_named, k_law_named⟩ := T.f_law_named
  obtain ⟨g_law_value, oc_law_value, kV_law_value, dc_law_value, pm_law_value, cd_law_value, ct_law_value, od_law_value, an_law_value, sl_law_value, a_law_value, l_law_value, c_law_value, k_law_value⟩ := T.f_law_value
  obtain ⟨g_law_kind, oc_law_kind, kV_law_kind, dc_law_kind, pm_law_kind, cd_law_kind, ct_law_kind, od_law_kind, an_law_kind, sl_law_kind, a_law_kind, l_law_kind, c_law_kind, k_law_kind⟩ := T.f_law_kind
  obtain ⟨g_law_same, oc_law_same, kV_law_same, dc_law_same, pm_law_same, cd_law_same, ct_law_same, od_law_same, an_law_same, sl_law_same, a_law_same, l_law_same, c_law_same, k_law_same⟩ := T.f_law_same
  obtain ⟨g_law_rises, oc_law_rises, kV_law_rises, dc_law_rises, pm_law_rises, cd_law_rises, ct_law_rises, od_law_rises, an_law_rises, sl_law_rises, a_law_rises, l_law_rises, c_law_rises, k_law_rises⟩ := T.f_law_rises
  obtain ⟨g_law, oc_law, kV_law, dc_law, pm_law, cd_law, ct_law, od_law, an_law, sl_law, a_law, l_law, c_law, k_law⟩ := T.f_law
  have B : Blt mg := ⟨PySem.W.mg_none_of X G T.z_isinstance, PySem.W.mg_none_of X G T.z_int, PySem.W.mg_none_of X G T.z_bool, PySem.W.mg_none_of X G T.z_str, PySem.W.mg_none_of X G T.z_tuple, PySem.W.mg_none_of X G T.z_list, PySem.W.mg_none_of X G T.z_dict, PySem.W.mg_none_of X G T.z_len, PySem.W.mg_none_of X G T.z_all, PySem.W.mg_none_of X G T.z_any, PySem.W.mg_none_of X G T.z_zip, PySem.W.mg_none_of X G T.z_range, PySem.W.mg_none_of X G T.z_enumerate, PySem.W.mg_none_of X G T.z_sorted, PySem.W.mg_none_of X G T.z_set, PySem.W.mg_none_of X G T.z_abs⟩
  obtain ⟨tkL, eL⟩ := T.letters
  obtain ⟨tkS, eS⟩ := T.signs
  obtain ⟨tkB, eB⟩ := T.byte
  obtain ⟨ak, odk, slk, t0, t1, t2, t3, t4, t5, t6, nk, eK, lK⟩ := T.keys
  have CS : Cst K mg := ⟨⟨_, PySem.W.mg_of X G eL⟩, ⟨ak, PySem.W.mg_of X G eK, fun H => .inr ⟨_, _, nk, lK, rfl, rfl, show (7 : Nat) ≤ sizeLine by decide, keys_vals⟩⟩, ⟨_, PySem.W.mg_of X G eS⟩, ⟨_, PySem.W.mg_of X G eB⟩⟩
  obtain ⟨CT, fW, c0, c1, c2, c3, c4, c5, c6, c7, c8, gT, kT, iW, kW, ⟨ocW, kVW, dcW, pmW, cdW, ctW, odW, anW, slW, lW, cW⟩, ⟨e0, X0, I0, n0_0, n0_1⟩, ⟨e1, X1, I1, n1_0, n1_1⟩, ⟨e2, X2, I2, n2_0, n2_1⟩, ⟨e3, X3, I3, n3_0, n3_1⟩, ⟨e4, X4, I4, n4_0⟩, ⟨e5, X5, I5, n5_0⟩, ⟨e6, X6, I6, n6_0⟩, ⟨e8, X8, I8, n8_0, n8_1⟩, ⟨e7, X7, q7⟩⟩ := T.errs
  have sup := PySem.W.mg_none_of X G T.z_super
  have e := hfa.symm.trans (PySem.W.mg_of X G a_law)
  cases e
  have FL := fun_mk (st := s_law) l_law c_law k_law
  refine ⟨PySem.W.fnOf "law" "law" (defArgs s_law) (defBody s_law) (defScope s_law) .none kV_law dc_law pm_law an_law cd_law ct_law, fun s v => .of_eq rfl, fun base _ _ => ?_⟩
  have F_is_integer := fun_mk (st := s_is_integer) l_is_integer c_is_integer k_is_integer
  have b_is_integer := F_is_integer.binds (ps := ["thing"]) fun _ _ _ _ _ _ us hl => match us, hl with | [_], _ => rfl
  have F_is_within := fun_mk (st := s_is_within) l_is_within c_is_within k_is_within
  have b_is_within := F_is_within.binds (ps := ["thing", "least", "most"]) fun _ _ _ _ _ _ us hl => match us, hl with | [_, _, _], _ => rfl
  have F_is_string := fun_mk (st := s_is_string) l_is_string c_is_string k_is_string
  have b_is_string := F_is_string.binds (ps := ["thing"]) fun _ _ _ _ _ _ us hl => match us, hl with | [_], _ => rfl
  have F_is_name := fun_mk (st := s_is_name) l_is_name c_is_name k_is_name
  have b_is_name := F_is_name.binds (ps := ["thing"]) fun _ _ _ _ _ _ us hl => match us, hl with | [_], _ => rfl
  have F_are_all := fun_mk (st := s_are_all) l_are_all c_are_all k_are_all
  have b_are_all := F_are_all.binds (ps := ["thing", "fits"]) fun _ _ _ _ _ _ us hl => match us, hl with | [_, _], _ => rfl
  have F_are_integers := fun_mk (st := s_are_integers) l_are_integers c_are_integers k_are_integers
  have b_are_integers := F_are_integers.binds (ps := ["thing"]) fun _ _ _ _ _ _ us hl => match us, hl with | [_], _ => rfl
  have F_are_names := fun_mk (st := s_are_names) l_are_names c_are_names k_are_names
  have b_are_names := F_are_names.binds (ps := ["thing"]) fun _ _ _ _ _ _ us hl => match us, hl with | [_], _ => rfl
  have F_are_bytes := fun_mk (st := s_are_bytes) l_are_bytes c_are_bytes k_are_bytes
  have b_are_bytes := F_are_bytes.binds (ps := ["thing"]) fun _ _ _ _ _ _ us hl => match us, hl with | [_], _ => rfl
  have F_do_rise := fun_mk (st := s_do_rise) l_do_rise c_do_rise k_do_rise
  have b_do_rise := F_do_rise.binds (ps := ["thing"]) fun _ _ _ _ _ _ us hl => match us, hl with | [_], _ => rfl
  have F_sort_of := fun_mk (st := s_sort_of) l_sort_of c_sort_of k_sort_of
  have b_sort_of := F_sort_of.binds (ps := ["thing"]) fun _ _ _ _ _ _ us hl => match us, hl with | [_], _ => rfl
  have F_part_pairs := fun_mk (st := s_part_pairs) l_part_pairs c_part_pairs k_part_pairs
  have b_part_pairs := F_part_pairs.binds (ps := ["one", "other"]) fun _ _ _ _ _ _ us hl => match us, hl with | [_, _], _ => rfl
  have F_are_same := fun_mk (st := s_are_same) l_are_same c_are_same k_are_same
  have b_are_same := F_are_same.binds (ps := ["one", "other"]) fun _ _ _ _ _ _ us hl => match us, hl with | [_, _], _ => rfl
  have F_is_among := fun_mk (st := s_is_among) l_is_among c_is_among k_is_among
  have b_is_among := F_is_among.binds (ps := ["thing", "some"]) fun _ _ _ _ _ _ us hl => match us, hl with | [_, _], _ => rfl
  have F_law_bag := fun_mk (st := s_law_bag) l_law_bag c_law_bag k_law_bag
  have b_law_bag := F_law_bag.binds (ps := ["script"]) fun _ _ _ _ _ _ us hl => match us, hl with | [_], _ => rfl
  have F_law_take := fun_mk (st := s_law_take) l_law_take c_law_take k_law_take
  have b_law_take := F_law_take.binds (ps := ["bag", "many"]) fun _ _ _ _ _ _ us hl => match us, hl with | [_, _], _ => rfl
  have F_law_some := fun_mk (st := s_law_some) l_law_some c_law_some k_law_some
  have b_law_some := F_law_some.binds (ps := ["bag", "things"]) fun _ _ _ _ _ _ us hl => match us, hl with | [_, _], _ => rfl
  have F_law_is_int := fun_mk (st := s_law_is_int) l_law_is_int c_law_is_int k_law_is_int
  have b_law_is_int := F_law_is_int.binds (ps := ["thing"]) fun _ _ _ _ _ _ us hl => match us, hl with | [_], _ => rfl
  have F_law_alike := fun_mk (st := s_law_alike) l_law_alike c_law_alike k_law_alike
  have b_law_alike := F_law_alike.binds (ps := ["found", "due"]) fun _ _ _ _ _ _ us hl => match us, hl with | [_, _], _ => rfl
  have F_law_keys := fun_mk (st := s_law_keys) l_law_keys c_law_keys k_law_keys
  have b_law_keys := F_law_keys.binds (ps := []) fun _ _ _ _ _ _ us hl => match us, hl with | [], _ => rfl
  have F_law_named := fun_mk (st := s_law_named) l_law_named c_law_named k_law_named
  have b_law_named := F_law_named.binds (ps := ["thing"]) fun _ _ _ _ _ _ us hl => match us, hl with | [_], _ => rfl
  have F_law_value := fun_mk (st := s_law_value) l_law_value c_law_value k_law_value
  have b_law_value := F_law_value.binds (ps := ["bag", "depth"]) fun _ _ _ _ _ _ us hl => match us, hl with | [_, _], _ => rfl
  have F_law_kind := fun_mk (st := s_law_kind) l_law_kind c_law_kind k_law_kind
  have b_law_kind := F_law_kind.binds (ps := ["thing"]) fun _ _ _ _ _ _ us hl => match us, hl with | [_], _ => rfl
  have F_law_same := fun_mk (st := s_law_same) l_law_same c_law_same k_law_same
  have b_law_same := F_law_same.binds (ps := ["one", "other"]) fun _ _ _ _ _ _ us hl => match us, hl with | [_, _], _ => rfl
  have F_law_rises := fun_mk (st := s_law_rises) l_law_rises c_law_rises k_law_rises
  have b_law_rises := F_law_rises.binds (ps := ["thing"]) fun _ _ _ _ _ _ us hl => match us, hl with | [_], _ => rfl
  have C_is_integer : Cal l.prog w K mg base 1 "is_integer" ["thing"] (spB K isInt) := ⟨⟨g_is_integer, _, ok_is_integer F_is_integer B, PySem.W.mg_of X G a_is_integer, k_is_integer, b_is_integer⟩⟩
  have C_is_within : Cal l.prog w K mg base 2 "is_within" ["thing", "least", "most"] (spWithin K) := ⟨⟨g_is_within, _, ok_is_within F_is_within C_is_integer, PySem.W.mg_of X G a_is_within, k_is_within, b_is_within⟩⟩
  have C_is_string : Cal l.prog w K mg base 1 "is_string" ["thing"] (spB K isS) := ⟨⟨g_is_string, _, ok_is_string F_is_string B, PySem.W.mg_of X G a_is_string, k_is_string, b_is_string⟩⟩
  have C_is_name : Cal l.prog w K mg base 2 "is_name" ["thing"] (spB K isNm) := ⟨⟨g_is_name, _, ok_is_name F_is_name B CS C_is_string, PySem.W.mg_of X G a_is_name, k_is_name, b_is_name⟩⟩
  let Sf : Addr → Option Sp := fun f => if f = g_is_integer then some (spB K isInt) else if f = g_is_name then some (spB K isNm) else none
  have gne : g_is_name ≠ g_is_integer := fun z => by
    have h1 := l_is_name
    rw [z] at h1
    exact absurd (show ("is_integer" : Str) = "is_name" from congrArg (fun o : Obj => match o.data with | .func fd => fd.name | _ => "") (Option.some.inj (l_is_integer.symm.trans h1))) (by decide +kernel)
  have A_fits : ∀ f sp, Sf f = some sp → Held l.prog w K mg base 2 f sp := fun f sp hs => by
    show Held l.prog w K mg base 2 f sp
    by_cases z1 : f = g_is_integer
    · have : Sf f = some (spB K isInt) := if_pos z1
      rw [hs] at this
      cases this
      exact z1 ▸ ⟨⟨_, _, (ok_is_integer F_is_integer B).mono (by decide), k_is_integer, b_is_integer⟩⟩
    · by_cases z2 : f = g_is_name
      · have : Sf f = some (spB K isNm) := (if_neg z1).trans (if_pos z2)
        rw [hs] at this
        cases this
        exact z2 ▸ ⟨⟨_, _, ok_is_name F_is_name B CS C_is_string, k_is_name, b_is_name⟩⟩
      · have : Sf f = none := (if_neg z1).trans (if_neg z2)
        rw [hs] at this
        cases this
  have sI : Sf g_is_integer = some (spB K isInt) := if_pos rfl
  have sN : Sf g_is_name = some (spB K isNm) := (if_neg gne).trans (if_pos rfl)
  have C_are_all : Cal l.prog w K mg base 3 "are_all" ["thing", "fits"] (spAll K Sf) := ⟨⟨g_are_all, _, ok_are_all F_are_all B A_fits, PySem.W.mg_of X G a_are_all, k_are_all, b_are_all⟩⟩
  have C_are_integers : Cal l.prog w K mg base 4 "are_integers" ["thing"] (spC K (allD isInt)) := ⟨⟨g_are_integers, _, ok_are_integers F_are_integers (PySem.W.mg_of X G a_is_integer) sI C_are_all, PySem.W.mg_of X G a_are_integers, k_are_integers, b_are_integers⟩⟩
  have C_are_names : Cal l.prog w K mg base 4 "are_names" ["thing"] (spC K (allD isNm)) := ⟨⟨g_are_names, _, ok_are_names F_are_names (PySem.W.mg_of X G a_is_name) sN C_are_all, PySem.W.mg_of X G a_are_names, k_are_names, b_are_names⟩⟩
  have C_are_bytes : Cal l.prog w K mg base 5 "are_bytes" ["thing"] (spC K (allD byteD)) := ⟨⟨g_are_bytes, _, ok_are_bytes F_are_bytes B CS C_are_integers, PySem.W.mg_of X G a_are_bytes, k_are_bytes, b_are_bytes⟩⟩
  have C_do_rise : Cal l.prog w K mg base 5 "do_rise" ["thing"] (spC K riseD) := ⟨⟨g_do_rise, _, ok_do_rise F_do_rise B C_are_integers C_are_names, PySem.W.mg_of X G a_do_rise, k_do_rise, b_do_rise⟩⟩
  have C_sort_of : Cal l.prog w K mg base 1 "sort_of" ["thing"] (spSort K) := ⟨⟨g_sort_of, _, ok_sort_of F_sort_of B, PySem.W.mg_of X G a_sort_of, k_sort_of, b_sort_of⟩⟩
  have C_part_pairs : Cal l.prog w K mg base 1 "part_pairs" ["one", "other"] (spParts K) := ⟨⟨g_part_pairs, _, ok_part_pairs F_part_pairs B, PySem.W.mg_of X G a_part_pairs, k_part_pairs, b_part_pairs⟩⟩
  have C_are_same : Cal l.prog w K mg base 2 "are_same" ["one", "other"] (spSame K) := ⟨⟨g_are_same, _, ok_are_same F_are_same B C_sort_of C_part_pairs, PySem.W.mg_of X G a_are_same, k_are_same, b_are_same⟩⟩
  have C_is_among : Cal l.prog w K mg base 3 "is_among" ["thing", "some"] (spAmong K) := ⟨⟨g_is_among, _, ok_is_among F_is_among B C_are_same, PySem.W.mg_of X G a_is_among, k_is_among, b_is_among⟩⟩
  have C_law_bag : Cal l.prog w K mg base 1 "_law_bag" ["script"] (spBag K) := ⟨⟨g_law_bag, _, ok_law_bag F_law_bag B, PySem.W.mg_of X G a_law_bag, k_law_bag, b_law_bag⟩⟩
  have C_law_take : Cal l.prog w K mg base 1 "_law_take" ["bag", "many"] (spTake K) := ⟨⟨g_law_take, _, ok_law_take F_law_take B, PySem.W.mg_of X G a_law_take, k_law_take, b_law_take⟩⟩
  have C_law_some : Cal l.prog w K mg base 2 "_law_some" ["bag", "things"] (spSome K) := ⟨⟨g_law_some, _, ok_law_some F_law_some B C_law_take, PySem.W.mg_of X G a_law_some, k_law_some, b_law_some⟩⟩
  have C_law_is_int : Cal l.prog w K mg base 1 "_law_is_int" ["thing"] (spB K isInt) := ⟨⟨g_law_is_int, _, ok_law_is_int F_law_is_int B, PySem.W.mg_of X G a_law_is_int, k_law_is_int, b_law_is_int⟩⟩
  have C_law_alike : Cal l.prog w K mg base 1 "_law_alike" ["found", "due"] (spAlike K) := ⟨⟨g_law_alike, _, ok_law_alike F_law_alike B, PySem.W.mg_of X G a_law_alike, k_law_alike, b_law_alike⟩⟩
  have C_law_keys : Cal l.prog w K mg base 1 "_law_keys" [] (spKeys) := ⟨⟨g_law_keys, _, ok_law_keys F_law_keys , PySem.W.mg_of X G a_law_keys, k_law_keys, b_law_keys⟩⟩
  have C_law_named : Cal l.prog w K mg base 2 "_law_named" ["thing"] (spB K isNm) := ⟨⟨g_law_named, _, ok_law_named F_law_named B C_law_keys, PySem.W.mg_of X G a_law_named, k_law_named, b_law_named⟩⟩
  have C_law_kind : Cal l.prog w K mg base 1 "_law_kind" ["thing"] (spKind K) := ⟨⟨g_law_kind, _, ok_law_kind F_law_kind B, PySem.W.mg_of X G a_law_kind, k_law_kind, b_law_kind⟩⟩
  have C_law_same : Cal l.prog w K mg base 2 "_law_same" ["one", "other"] (spSameL K) := ⟨⟨g_law_same, _, ok_law_same F_law_same B C_law_kind, PySem.W.mg_of X G a_law_same, k_law_same, b_law_same⟩⟩
  have C_law_rises : Cal l.prog w K mg base 3 "_law_rises" ["thing"] (spC K riseD) := ⟨⟨g_law_rises, _, ok_law_rises F_law_rises B C_law_is_int C_law_named, PySem.W.mg_of X G a_law_rises, k_law_rises, b_law_rises⟩⟩
  have CV : ∀ n, Cal l.prog w K mg base (n + 2) "_law_value" ["bag", "depth"] (spVal' K n) := fun n => by
    induction n with
    | zero => exact ⟨⟨g_law_value, _, F_law_value.ok (N := N_law_value) (k := 1) sc_law_value (fun _ _ _ _ z => z.elim) (fun _ _ _ _ _ _ _ _ _ z => z.elim), PySem.W.mg_of X G a_law_value, k_law_value, b_law_value⟩⟩
    | succ n ih => exact ⟨⟨g_law_value, _, ok_law_value n F_law_value B C_law_take C_law_some ih, PySem.W.mg_of X G a_law_value, k_law_value, b_law_value⟩⟩
  have C_law_value : Cal l.prog w K mg base 6 "_law_value" ["bag", "depth"] (spValue K 3) := CV 4
  have FW := fun_mk (x := "word") (qual := "TapeError.word") (st := s_word) lW cW kW
  have bW := FW.binds (ps := ["self"]) fun _ _ _ _ _ _ us hl => match us, hl with | [_], _ => rfl
  have mem9 : ∀ {p : Addr → Prop}, p c0 → p c1 → p c2 → p c3 → p c4 → p c5 → p c6 → p c7 → p c8 → ∀ c ∈ [c0, c1, c2, c3, c4, c5, c6, c7, c8], p c := fun h0 h1 h2 h3 h4 h5 h6 h7 h8 c m => by
    simp only [List.mem_cons, List.not_mem_nil, or_false] at m
    rcases m with rfl | rfl | rfl | rfl | rfl | rfl | rfl | rfl | rfl <;> assumption
  have Z : Errs l.prog w K mg base CT fW [c0, c1, c2, c3, c4, c5, c6, c7, c8] := {
    gT := PySem.W.mg_of X G gT
    kT := kT
    vE := PySem.W.mg_none_of X G T.z_ValueError
    n8 := ⟨c0, c1, c2, c3, c4, c5, c6, c7, c8, rfl, err_BadText (PySem.W.mg_of X G e0) X0 I0 n0_0 n0_1 sup T.top, err_BadBook (PySem.W.mg_of X G e1) X1 I1 n1_0 n1_1 sup T.top, err_BadBytes (PySem.W.mg_of X G e2) X2 I2 n2_0 n2_1 sup T.top, err_BadEntry (PySem.W.mg_of X G e3) X3 I3 n3_0 n3_1 sup T.top, err_NoName (PySem.W.mg_of X G e4) X4 I4 n4_0 sup T.top, err_NoCommand (PySem.W.mg_of X G e5) X5 I5 n5_0 sup T.top, err_Refused (PySem.W.mg_of X G e6) X6 I6 n6_0 sup T.top, err_TooMany (PySem.W.mg_of X G e8) X8 I8 n8_0 n8_1 sup T.top, PySem.W.mg_of X G e7, q7, X7.kC, X7.exc, X7.name⟩
    isT := mem9 X0.kT X1.kT X2.kT X3.kT X4.kT X5.kT X6.kT X7.kT X8.kT
    isV := mem9 X0.kV X1.kV X2.kV X3.kV X4.kV X5.kV X6.kV X7.kV X8.kV
    wd := mem9 X0.wd X1.wd X2.wd X3.wd X4.wd X5.wd X6.wd X7.wd X8.wd
    tw := iW
    kw := kW
    fw := ⟨_, ok_word FW, bW⟩ }
  exact ok_law FL B ⟨C_law_bag, C_law_take, C_law_some, C_law_value, C_law_is_int, C_law_named, C_law_rises, C_law_alike, C_law_same, C_law_keys, C_is_integer, C_is_name, C_is_within, C_are_integers, C_are_names, C_do_rise, C_are_bytes, C_are_same, C_is_among⟩ Z
theorem walk {l : PySem.W.OpenLaw} {q : Program} {loose : List Str} {XP : (Str → Option Value) → Heap → Prop} {YP : World → Heap → Prop} {d : DefRec} {K : Params → PySem.W.Frag} (hn : l.most = some 63) (hdf : d.params.defaults = [])
    (hY : ∀ (w : World) (h : Heap), YP w h → (K w.params).In h)
    (F : ∀ (w : World) (mg : Str → Option Value) (fa : Addr) (h : Heap), (K w.params).In h → h.Ns mainGlobals mg → mg d.name = some (.ref fa) →
      ∃ fd : FuncData, (∀ (s : Shared) (u : Value), BindsTo s fd ⟨[u], []⟩ [("script", u)]) ∧ ∀ base : Heap, (K w.params).In base → base.Ns mainGlobals mg → FnOk l.prog w (K w.params) mg base CX0 7 fa fd ["script"] (spLaw (K w.params))) :
    PySem.W.WalkO q loose XP YP l.row.toRowW d [] (fun f vs => PySem.call f vs) :=
  L2.walk_of (n := 63) (k := 7) (x := "script") (CX := fun _ => CX0) (sp := fun w => spLaw (K w.params)) hn (by decide) hdf ⟨rfl, by decide, by decide⟩ hY F (fun _ _ a ns hl _ hS => ⟨a, ns, rfl, hS, hl, fun _ => rfl⟩) fun _ _ _ _ _ z => z
end K5
theorem K5.ex1 {α : Sort u} {p : α → Prop} {a : α} (h : p a) : Exists p := ⟨a, h⟩
open PySem PySem.W PyProof.Rows in
set_option maxRecDepth 100000 in
set_option maxHeartbeats 0 in
set_option pp.maxSteps 400 in
theorem PySem.Challenge.cw_casetape_k05_errors_forms_and_the_same_holds : PySem.Challenge.rw_casetape_k05_errors_forms_and_the_same.Holds := by
  w_on; o_law; k_head; (case hw => w_witness2)
  k_fill
  refine K5.walk (l := PySem.Challenge.rw_casetape_k05_errors_forms_and_the_same) rfl rfl (fun w h Y => PySem.W.kIn_of Y) ?F
  case F =>
    intro w mg fa h KX G hmg
    refine' K5.all_mk KX G hmg ⟨?f_is_integer, ?f_is_within, ?f_is_string, ?f_is_name, ?f_are_all, ?f_are_integers, ?f_are_names, ?f_are_bytes, ?f_do_rise, ?f_sort_of, ?f_part_pairs, ?f_are_same, ?f_is_among, ?f_law_bag, ?f_law_take, ?f_law_some, ?f_law_is_int, ?f_law_alike, ?f_law_keys, ?f_law_named, ?f_law_value, ?f_law_kind, ?f_law_same, ?f_law_rises, ?f_law, ?letters, ?keys, ?signs, ?byte, ?z_isinstance, ?z_int, ?z_bool, ?z_str, ?z_tuple, ?z_list, ?z_dict, ?z_len, ?z_all, ?z_any, ?z_zip, ?z_range, ?z_enumerate, ?z_sorted, ?z_set, ?z_abs, ?z_ValueError, ?z_super, ?top, ?errs⟩
    case f_is_integer =>
      refine' K5.ex1 (K5.ex1 (K5.ex1 (K5.ex1 (K5.ex1 (K5.ex1 (K5.ex1 (K5.ex1 (K5.ex1 (K5.ex1 (⟨?a, ?l, ?c, ?k⟩))))))))))
      (case a => k_is); (case l => k_is); (case c => k_is); (case k => k_is)
    case f_is_within =>
      refine' K5.ex1 (K5.ex1 (K5.ex1 (K5.ex1 (K5.ex1 (K5.ex1 (K5.ex1 (K5.ex1 (K5.ex1 (K5.ex1 (⟨?a, ?l, ?c, ?k⟩))))))))))
      (case a => k_is); (case l => k_is); (case c => k_is); (case k => k_is)
    case f_is_string =>
      refine' K5.ex1 (K5.ex1 (K5.ex1 (K5.ex1 (K5.ex1 (K5.ex1 (K5.ex1 (K5.ex1 (K5.ex1 (K5.ex1 (⟨?a, ?l, ?c, ?k⟩))))))))))
      (case a => k_is); (case l => k_is); (case c => k_is); (case k => k_is)
    case f_is_name =>
      refine' K5.ex1 (K5.ex1 (K5.ex1 (K5.ex1 (K5.ex1 (K5.ex1 (K5.ex1 (K5.ex1 (K5.ex1 (K5.ex1 (⟨?a, ?l, ?c, ?k⟩))))))))))
      (case a => k_is); (case l => k_is); (case c => k_is); (case k => k_is)
    case f_are_all =>
      refine' K5.ex1 (K5.ex1 (K5.ex1 (K5.ex1 (K5.ex1 (K5.ex1 (K5.ex1 (K5.ex1 (K5.ex1 (K5.ex1 (⟨?a, ?l, ?c, ?k⟩))))))))))
      (case a => k_is); (case l => k_is); (case c => k_is); (case k => k_is)
    case f_are_integers =>
      refine' K5.ex1 (K5.ex1 (K5.ex1 (K5.ex1 (K5.ex1 (K5.ex1 (K5.ex1 (K5.ex1 (K5.ex1 (K5.ex1 (⟨?a, ?l, ?c, ?k⟩))))))))))
      (case a => k_is); (case l => k_is); (case c => k_is); (case k => k_is)
    case f_are_names =>
      refine' K5.ex1 (K5.ex1 (K5.ex1 (K5.ex1 (K5.ex1 (K5.ex1 (K5.ex1 (K5.ex1 (K5.ex1 (K5.ex1 (⟨?a, ?l, ?c, ?k⟩))))))))))
      (case a => k_is); (case l => k_is); (case c => k_is); (case k => k_is)
    case f_are_bytes =>
      refine' K5.ex1 (K5.ex1 (K5.ex1 (K5.ex1 (K5.ex1 (K5.ex1 (K5.ex1 (K5.ex1 (K5.ex1 (K5.ex1 (⟨?a, ?l, ?c, ?k⟩))))))))))
      (case a => k_is); (case l => k_is); (case c => k_is); (case k => k_is)
    case f_do_rise =>
      refine' K5.ex1 (K5.ex1 (K5.ex1 (K5.ex1 (K5.ex1 (K5.ex1 (K5.ex1 (K5.ex1 (K5.ex1 (K5.ex1 (⟨?a, ?l, ?c, ?k⟩))))))))))
      (case a => k_is); (case l => k_is); (case c => k_is); (case k => k_is)
    case f_sort_of =>
      refine' K5.ex1 (K5.ex1 (K5.ex1 (K5.ex1 (K5.ex1 (K5.ex1 (K5.ex1 (K5.ex1 (K5.ex1 (K5.ex1 (⟨?a, ?l, ?c, ?k⟩))))))))))
      (case a => k_is); (case l => k_is); (case c => k_is); (case k => k_is)
    case f_part_pairs =>
      refine' K5.ex1 (K5.ex1 (K5.ex1 (K5.ex1 (K5.ex1 (K5.ex1 (K5.ex1 (K5.ex1 (K5.ex1 (K5.ex1 (⟨?a, ?l, ?c, ?k⟩))))))))))
      (case a => k_is); (case l => k_is); (case c => k_is); (case k => k_is)
    case f_are_same =>
      refine' K5.ex1 (K5.ex1 (K5.ex1 (K5.ex1 (K5.ex1 (K5.ex1 (K5.ex1 (K5.ex1 (K5.ex1 (K5.ex1 (⟨?a, ?l, ?c, ?k⟩))))))))))
      (case a => k_is); (case l => k_is); (case c => k_is); (case k => k_is)
    case f_is_among =>
      refine' K5.ex1 (K5.ex1 (K5.ex1 (K5.ex1 (K5.ex1 (K5.ex1 (K5.ex1 (K5.ex1 (K5.ex1 (K5.ex1 (⟨?a, ?l, ?c, ?k⟩))))))))))
      (case a => k_is); (case l => k_is); (case c => k_is); (case k => k_is)
    case f_law_bag =>
      refine' K5.ex1 (K5.ex1 (K5.ex1 (K5.ex1 (K5.ex1 (K5.ex1 (K5.ex1 (K5.ex1 (K5.ex1 (K5.ex1 (⟨?a, ?l, ?c, ?k⟩))))))))))
      (case a => k_is); (case l => k_is); (case c => k_is); (case k => k_is)
    case f_law_take =>
      refine' K5.ex1 (K5.ex1 (K5.ex1 (K5.ex1 (K5.ex1 (K5.ex1 (K5.ex1 (K5.ex1 (K5.ex1 (K5.ex1 (⟨?a, ?l, ?c, ?k⟩))))))))))
      (case a => k_is); (case l => k_is); (case c => k_is); (case k => k_is)
    case f_law_some =>
      refine' K5.ex1 (K5.ex1 (K5.ex1 (K5.ex1 (K5.ex1 (K5.ex1 (K5.ex1 (K5.ex1 (K5.ex1 (K5.ex1 (⟨?a, ?l, ?c, ?k⟩))))))))))
      (case a => k_is); (case l => k_is); (case c => k_is); (case k => k_is)
    case f_law_is_int =>
      refine' K5.ex1 (K5.ex1 (K5.ex1 (K5.ex1 (K5.ex1 (K5.ex1 (K5.ex1 (K5.ex1 (K5.ex1 (K5.ex1 (⟨?a, ?l, ?c, ?k⟩))))))))))
      (case a => k_is); (case l => k_is); (case c => k_is); (case k => k_is)
    case f_law_alike =>
      refine' K5.ex1 (K5.ex1 (K5.ex1 (K5.ex1 (K5.ex1 (K5.ex1 (K5.ex1 (K5.ex1 (K5.ex1 (K5.ex1 (⟨?a, ?l, ?c, ?k⟩))))))))))
      (case a => k_is); (case l => k_is); (case c => k_is); (case k => k_is)
    case f_law_keys =>
      refine' K5.ex1 (K5.ex1 (K5.ex1 (K5.ex1 (K5.ex1 (K5.ex1 (K5.ex1 (K5.ex1 (K5.ex1 (K5.ex1 (⟨?a, ?l, ?c, ?k⟩))))))))))
      (case a => k_is); (case l => k_is); (case c => k_is); (case k => k_is)
    case f_law_named =>
      refine' K5.ex1 (K5.ex1 (K5.ex1 (K5.ex1 (K5.ex1 (K5.ex1 (K5.ex1 (K5.ex1 (K5.ex1 (K5.ex1 (⟨?a, ?l, ?c, ?k⟩))))))))))
      (case a => k_is); (case l => k_is); (case c => k_is); (case k => k_is)
    case f_law_value =>
      refine' K5.ex1 (K5.ex1 (K5.ex1 (K5.ex1 (K5.ex1 (K5.ex1 (K5.ex1 (K5.ex1 (K5.ex1 (K5.ex1 (⟨?a, ?l, ?c, ?k⟩))))))))))
      (case a => k_is); (case l => k_is); (case c => k_is); (case k => k_is)
    case f_law_kind =>
      refine' K5.ex1 (K5.ex1 (K5.ex1 (K5.ex1 (K5.ex1 (K5.ex1 (K5.ex1 (K5.ex1 (K5.ex1 (K5.ex1 (⟨?a, ?l, ?c, ?k⟩))))))))))
      (case a => k_is); (case l => k_is); (case c => k_is); (case k => k_is)
    case f_law_same =>
      refine' K5.ex1 (K5.ex1 (K5.ex1 (K5.ex1 (K5.ex1 (K5.ex1 (K5.ex1 (K5.ex1 (K5.ex1 (K5.ex1 (⟨?a, ?l, ?c, ?k⟩))))))))))
      (case a => k_is); (case l => k_is); (case c => k_is); (case k => k_is)
    case f_law_rises =>
      refine' K5.ex1 (K5.ex1 (K5.ex1 (K5.ex1 (K5.ex1 (K5.ex1 (K5.ex1 (K5.ex1 (K5.ex1 (K5.ex1 (⟨?a, ?l, ?c, ?k⟩))))))))))
      (case a => k_is); (case l => k_is); (case c => k_is); (case k => k_is)
    case f_law =>
      refine' K5.ex1 (K5.ex1 (K5.ex1 (K5.ex1 (K5.ex1 (K5.ex1 (K5.ex1 (K5.ex1 (K5.ex1 (K5.ex1 (⟨?a, ?l, ?c, ?k⟩))))))))))
      (case a => k_is); (case l => k_is); (case c => k_is); (case k => k_is)
    case letters =>
      refine' K5.ex1 (?a)
      (case a => k_is)
    case signs =>
      refine' K5.ex1 (?a)
      (case a => k_is)
    case byte =>
      refine' K5.ex1 (?a)
      (case a => k_is)
    case keys =>
      refine' K5.ex1 (K5.ex1 (K5.ex1 (K5.ex1 (K5.ex1 (K5.ex1 (K5.ex1 (K5.ex1 (K5.ex1 (K5.ex1 (K5.ex1 (⟨?a, ?l⟩)))))))))))
      (case a => k_is); (case l => k_is)
    (case z_isinstance => k_is)
    (case z_int => k_is)
    (case z_bool => k_is)
    (case z_str => k_is)
    (case z_tuple => k_is)
    (case z_list => k_is)
    (case z_dict => k_is)
    (case z_len => k_is)
    (case z_all => k_is)
    (case z_any => k_is)
    (case z_zip => k_is)
    (case z_range => k_is)
    (case z_enumerate => k_is)
    (case z_sorted => k_is)
    (case z_set => k_is)
    (case z_abs => k_is)
    (case z_ValueError => k_is)
    (case z_super => k_is)
    (case top => first | rfl | decide +kernel | kernel_rfl)
    case errs =>
      refine' K5.ex1 (K5.ex1 (K5.ex1 (K5.ex1 (K5.ex1 (K5.ex1 (K5.ex1 (K5.ex1 (K5.ex1 (K5.ex1 (K5.ex1 (⟨?gT, ?kT, ?iW, ?kW, K5.ex1 (K5.ex1 (K5.ex1 (K5.ex1 (K5.ex1 (K5.ex1 (K5.ex1 (K5.ex1 (K5.ex1 (⟨?lW, ?cW⟩))))))))), ⟨?e0, ?X0, ?I0, ?n0_0, ?n0_1⟩, ⟨?e1, ?X1, ?I1, ?n1_0, ?n1_1⟩, ⟨?e2, ?X2, ?I2, ?n2_0, ?n2_1⟩, ⟨?e3, ?X3, ?I3, ?n3_0, ?n3_1⟩, ⟨?e4, ?X4, ?I4, ?n4_0⟩, ⟨?e5, ?X5, ?I5, ?n5_0⟩, ⟨?e6, ?X6, ?I6, ?n6_0⟩, ⟨?e8, ?X8, ?I8, ?n8_0, ?n8_1⟩, ⟨?e7, ?X7, ?q7⟩⟩)))))))))))
      (case gT => k_is); (case kT => k_is)
      (case e0 => k_is)
      (case e1 => k_is)
      (case e2 => k_is)
      (case e3 => k_is)
      (case e4 => k_is)
      (case e5 => k_is)
      (case e6 => k_is)
      (case e7 => k_is)
      (case e8 => k_is)
      case X0 =>
        refine' ⟨K5.ex1 (K5.ex1 (K5.ex1 (K5.ex1 (K5.ex1 (K5.ex1 (K5.ex1 (K5.ex1 (K5.ex1 (K5.ex1 (K5.ex1 (K5.ex1 (K5.ex1 (K5.ex1 (K5.ex1 (⟨?xL, ?rf⟩))))))))))))))), ?sa, ?tyC, ?kC, ?hg, ?hk, ?hs, ?hd, ?ha, ?hn, ?ht, ?hm, ?cl, ?op, ?kT, ?kV, ?wd⟩
        (case xL => k_is); (case rf => decide +kernel)
        (case sa => k_is)
        (case tyC => k_is)
        (case kC => k_is)
        (case hg => k_is)
        (case hk => k_is)
        (case hs => k_is)
        (case hd => k_is)
        (case ha => k_is)
        (case hn => k_is)
        (case ht => k_is)
        (case hm => k_is)
        (case cl => k_is)
        (case op => k_is)
        (case kT => kit_is)
        (case kV => kit_is)
        (case wd => k_is)
      case X1 =>
        refine' ⟨K5.ex1 (K5.ex1 (K5.ex1 (K5.ex1 (K5.ex1 (K5.ex1 (K5.ex1 (K5.ex1 (K5.ex1 (K5.ex1 (K5.ex1 (K5.ex1 (K5.ex1 (K5.ex1 (K5.ex1 (⟨?xL, ?rf⟩))))))))))))))), ?sa, ?tyC, ?kC, ?hg, ?hk, ?hs, ?hd, ?ha, ?hn, ?ht, ?hm, ?cl, ?op, ?kT, ?kV, ?wd⟩
        (case xL => k_is); (case rf => decide +kernel)
        (case sa => k_is)
        (case tyC => k_is)
        (case kC => k_is)
        (case hg => k_is)
        (case hk => k_is)
        (case hs => k_is)
        (case hd => k_is)
        (case ha => k_is)
        (case hn => k_is)
        (case ht => k_is)
        (case hm => k_is)
        (case cl => k_is)
        (case op => k_is)
        (case kT => kit_is)
        (case kV => kit_is)
        (case wd => k_is)
      case X2 =>
        refine' ⟨K5.ex1 (K5.ex1 (K5.ex1 (K5.ex1 (K5.ex1 (K5.ex1 (K5.ex1 (K5.ex1 (K5.ex1 (K5.ex1 (K5.ex1 (K5.ex1 (K5.ex1 (K5.ex1 (K5.ex1 (⟨?xL, ?rf⟩))))))))))))))), ?sa, ?tyC, ?kC, ?hg, ?hk, ?hs, ?hd, ?ha, ?hn, ?ht, ?hm, ?cl, ?op, ?kT, ?kV, ?wd⟩
        (case xL => k_is); (case rf => decide +kernel)
        (case sa => k_is)
        (case tyC => k_is)
        (case kC => k_is)
        (case hg => k_is)
        (case hk => k_is)
        (case hs => k_is)
        (case hd => k_is)
        (case ha => k_is)
        (case hn => k_is)
        (case ht => k_is)
        (case hm => k_is)
        (case cl => k_is)
        (case op => k_is)
        (case kT => kit_is)
        (case kV => kit_is)
        (case wd => k_is)
      case X3 =>
        refine' ⟨K5.ex1 (K5.ex1 (K5.ex1 (K5.ex1 (K5.ex1 (K5.ex1 (K5.ex1 (K5.ex1 (K5.ex1 (K5.ex1 (K5.ex1 (K5.ex1 (K5.ex1 (K5.ex1 (K5.ex1 (⟨?xL, ?rf⟩))))))))))))))), ?sa, ?tyC, ?kC, ?hg, ?hk, ?hs, ?hd, ?ha, ?hn, ?ht, ?hm, ?cl, ?op, ?kT, ?kV, ?wd⟩
        (case xL => k_is); (case rf => decide +kernel)
        (case sa => k_is)
        (case tyC => k_is)
        (case kC => k_is)
        (case hg => k_is)
        (case hk => k_is)
        (case hs => k_is)
        (case hd => k_is)
        (case ha => k_is)
        (case hn => k_is)
        (case ht => k_is)
        (case hm => k_is)
        (case cl => k_is)
        (case op => k_is)
        (case kT => kit_is)
        (case kV => kit_is)
        (case wd => k_is)
      case X4 =>
        refine' ⟨K5.ex1 (K5.ex1 (K5.ex1 (K5.ex1 (K5.ex1 (K5.ex1 (K5.ex1 (K5.ex1 (K5.ex1 (K5.ex1 (K5.ex1 (K5.ex1 (K5.ex1 (K5.ex1 (K5.ex1 (⟨?xL, ?rf⟩))))))))))))))), ?sa, ?tyC, ?kC, ?hg, ?hk, ?hs, ?hd, ?ha, ?hn, ?ht, ?hm, ?cl, ?op, ?kT, ?kV, ?wd⟩
        (case xL => k_is); (case rf => decide +kernel)
        (case sa => k_is)
        (case tyC => k_is)
        (case kC => k_is)
        (case hg => k_is)
        (case hk => k_is)
        (case hs => k_is)
        (case hd => k_is)
        (case ha => k_is)
        (case hn => k_is)
        (case ht => k_is)
        (case hm => k_is)
        (case cl => k_is)
        (case op => k_is)
        (case kT => kit_is)
        (case kV => kit_is)
        (case wd => k_is)
      case X5 =>
        refine' ⟨K5.ex1 (K5.ex1 (K5.ex1 (K5.ex1 (K5.ex1 (K5.ex1 (K5.ex1 (K5.ex1 (K5.ex1 (K5.ex1 (K5.ex1 (K5.ex1 (K5.ex1 (K5.ex1 (K5.ex1 (⟨?xL, ?rf⟩))))))))))))))), ?sa, ?tyC, ?kC, ?hg, ?hk, ?hs, ?hd, ?ha, ?hn, ?ht, ?hm, ?cl, ?op, ?kT, ?kV, ?wd⟩
        (case xL => k_is); (case rf => decide +kernel)
        (case sa => k_is)
        (case tyC => k_is)
        (case kC => k_is)
        (case hg => k_is)
        (case hk => k_is)
        (case hs => k_is)
        (case hd => k_is)
        (case ha => k_is)
        (case hn => k_is)
        (case ht => k_is)
        (case hm => k_is)
        (case cl => k_is)
        (case op => k_is)
        (case kT => kit_is)
        (case kV => kit_is)
        (case wd => k_is)
      case X6 =>
        refine' ⟨K5.ex1 (K5.ex1 (K5.ex1 (K5.ex1 (K5.ex1 (K5.ex1 (K5.ex1 (K5.ex1 (K5.ex1 (K5.ex1 (K5.ex1 (K5.ex1 (K5.ex1 (K5.ex1 (K5.ex1 (⟨?xL, ?rf⟩))))))))))))))), ?sa, ?tyC, ?kC, ?hg, ?hk, ?hs, ?hd, ?ha, ?hn, ?ht, ?hm, ?cl, ?op, ?kT, ?kV, ?wd⟩
        (case xL => k_is); (case rf => decide +kernel)
        (case sa => k_is)
        (case tyC => k_is)
        (case kC => k_is)
        (case hg => k_is)
        (case hk => k_is)
        (case hs => k_is)
        (case hd => k_is)
        (case ha => k_is)
        (case hn => k_is)
        (case ht => k_is)
        (case hm => k_is)
        (case cl => k_is)
        (case op => k_is)
        (case kT => kit_is)
        (case kV => kit_is)
        (case wd => k_is)
      case X7 =>
        refine' ⟨K5.ex1 (K5.ex1 (K5.ex1 (K5.ex1 (K5.ex1 (K5.ex1 (K5.ex1 (K5.ex1 (K5.ex1 (K5.ex1 (K5.ex1 (K5.ex1 (K5.ex1 (K5.ex1 (K5.ex1 (⟨?xL, ?rf⟩))))))))))))))), ?sa, ?tyC, ?kC, ?hg, ?hk, ?hs, ?hd, ?ha, ?hn, ?ht, ?hm, ?cl, ?op, ?kT, ?kV, ?wd⟩
        (case xL => k_is); (case rf => decide +kernel)
        (case sa => k_is)
        (case tyC => k_is)
        (case kC => k_is)
        (case hg => k_is)
        (case hk => k_is)
        (case hs => k_is)
        (case hd => k_is)
        (case ha => k_is)
        (case hn => k_is)
        (case ht => k_is)
        (case hm => k_is)
        (case cl => k_is)
        (case op => k_is)
        (case kT => kit_is)
        (case kV => kit_is)
        (case wd => k_is)
      case X8 =>
        refine' ⟨K5.ex1 (K5.ex1 (K5.ex1 (K5.ex1 (K5.ex1 (K5.ex1 (K5.ex1 (K5.ex1 (K5.ex1 (K5.ex1 (K5.ex1 (K5.ex1 (K5.ex1 (K5.ex1 (K5.ex1 (⟨?xL, ?rf⟩))))))))))))))), ?sa, ?tyC, ?kC, ?hg, ?hk, ?hs, ?hd, ?ha, ?hn, ?ht, ?hm, ?cl, ?op, ?kT, ?kV, ?wd⟩
        (case xL => k_is); (case rf => decide +kernel)
        (case sa => k_is)
        (case tyC => k_is)
        (case kC => k_is)
        (case hg => k_is)
        (case hk => k_is)
        (case hs => k_is)
        (case hd => k_is)
        (case ha => k_is)
        (case hn => k_is)
        (case ht => k_is)
        (case hm => k_is)
        (case cl => k_is)
        (case op => k_is)
        (case kT => kit_is)
        (case kV => kit_is)
        (case wd => k_is)
      (case iW => k_is); (case kW => k_is); (case lW => k_is); (case cW => k_is)
      case I0 =>
        refine' K5.ex1 (K5.ex1 (K5.ex1 (K5.ex1 (K5.ex1 (K5.ex1 (K5.ex1 (K5.ex1 (K5.ex1 (K5.ex1 (K5.ex1 (K5.ex1 (K5.ex1 (K5.ex1 (K5.ex1 (K5.ex1 (K5.ex1 (K5.ex1 (K5.ex1 (K5.ex1 (K5.ex1 (⟨?a1, ?t1, ?l1, ?c1, ?d1, ?h1, ?h2, ?h3, ?h4, ?h5, ?h6, ?h7⟩)))))))))))))))))))))
        (case a1 => k_is); (case t1 => k_is); (case l1 => k_is); (case c1 => k_is); (case d1 => rfl); (case h1 => k_is); (case h2 => rfl); (case h3 => first | rfl | decide +kernel | kernel_rfl); (case h4 => k_is); (case h5 => k_is); (case h6 => ks_is); (case h7 => k_is)
      (case n0_0 => k_is)
      (case n0_1 => k_is)
      case I1 =>
        refine' K5.ex1 (K5.ex1 (K5.ex1 (K5.ex1 (K5.ex1 (K5.ex1 (K5.ex1 (K5.ex1 (K5.ex1 (K5.ex1 (K5.ex1 (K5.ex1 (K5.ex1 (K5.ex1 (K5.ex1 (K5.ex1 (K5.ex1 (K5.ex1 (K5.ex1 (K5.ex1 (K5.ex1 (⟨?a1, ?t1, ?l1, ?c1, ?d1, ?h1, ?h2, ?h3, ?h4, ?h5, ?h6, ?h7⟩)))))))))))))))))))))
        (case a1 => k_is); (case t1 => k_is); (case l1 => k_is); (case c1 => k_is); (case d1 => rfl); (case h1 => k_is); (case h2 => rfl); (case h3 => first | rfl | decide +kernel | kernel_rfl); (case h4 => k_is); (case h5 => k_is); (case h6 => ks_is); (case h7 => k_is)
      (case n1_0 => k_is)
      (case n1_1 => k_is)
      case I2 =>
        refine' K5.ex1 (K5.ex1 (K5.ex1 (K5.ex1 (K5.ex1 (K5.ex1 (K5.ex1 (K5.ex1 (K5.ex1 (K5.ex1 (K5.ex1 (K5.ex1 (K5.ex1 (K5.ex1 (K5.ex1 (K5.ex1 (K5.ex1 (K5.ex1 (K5.ex1 (K5.ex1 (K5.ex1 (⟨?a1, ?t1, ?l1, ?c1, ?d1, ?h1, ?h2, ?h3, ?h4, ?h5, ?h6, ?h7⟩)))))))))))))))))))))
        (case a1 => k_is); (case t1 => k_is); (case l1 => k_is); (case c1 => k_is); (case d1 => rfl); (case h1 => k_is); (case h2 => rfl); (case h3 => first | rfl | decide +kernel | kernel_rfl); (case h4 => k_is); (case h5 => k_is); (case h6 => ks_is); (case h7 => k_is)
      (case n2_0 => k_is)
      (case n2_1 => k_is)
      case I3 =>
        refine' K5.ex1 (K5.ex1 (K5.ex1 (K5.ex1 (K5.ex1 (K5.ex1 (K5.ex1 (K5.ex1 (K5.ex1 (K5.ex1 (K5.ex1 (K5.ex1 (K5.ex1 (K5.ex1 (K5.ex1 (K5.ex1 (K5.ex1 (K5.ex1 (K5.ex1 (K5.ex1 (K5.ex1 (⟨?a1, ?t1, ?l1, ?c1, ?d1, ?h1, ?h2, ?h3, ?h4, ?h5, ?h6, ?h7⟩)))))))))))))))))))))
        (case a1 => k_is); (case t1 => k_is); (case l1 => k_is); (case c1 => k_is); (case d1 => rfl); (case h1 => k_is); (case h2 => rfl); (case h3 => first | rfl | decide +kernel | kernel_rfl); (case h4 => k_is); (case h5 => k_is); (case h6 => ks_is); (case h7 => k_is)
      (case n3_0 => k_is)
      (case n3_1 => k_is)
      case I4 =>
        refine' K5.ex1 (K5.ex1 (K5.ex1 (K5.ex1 (K5.ex1 (K5.ex1 (K5.ex1 (K5.ex1 (K5.ex1 (K5.ex1 (K5.ex1 (K5.ex1 (K5.ex1 (K5.ex1 (K5.ex1 (K5.ex1 (K5.ex1 (K5.ex1 (K5.ex1 (K5.ex1 (K5.ex1 (⟨?a1, ?t1, ?l1, ?c1, ?d1, ?h1, ?h2, ?h3, ?h4, ?h5, ?h6, ?h7⟩)))))))))))))))))))))
        (case a1 => k_is); (case t1 => k_is); (case l1 => k_is); (case c1 => k_is); (case d1 => rfl); (case h1 => k_is); (case h2 => rfl); (case h3 => first | rfl | decide +kernel | kernel_rfl); (case h4 => k_is); (case h5 => k_is); (case h6 => ks_is); (case h7 => k_is)
      (case n4_0 => k_is)
      case I5 =>
        refine' K5.ex1 (K5.ex1 (K5.ex1 (K5.ex1 (K5.ex1 (K5.ex1 (K5.ex1 (K5.ex1 (K5.ex1 (K5.ex1 (K5.ex1 (K5.ex1 (K5.ex1 (K5.ex1 (K5.ex1 (K5.ex1 (K5.ex1 (K5.ex1 (K5.ex1 (K5.ex1 (K5.ex1 (⟨?a1, ?t1, ?l1, ?c1, ?d1, ?h1, ?h2, ?h3, ?h4, ?h5, ?h6, ?h7⟩)))))))))))))))))))))
        (case a1 => k_is); (case t1 => k_is); (case l1 => k_is); (case c1 => k_is); (case d1 => rfl); (case h1 => k_is); (case h2 => rfl); (case h3 => first | rfl | decide +kernel | kernel_rfl); (case h4 => k_is); (case h5 => k_is); (case h6 => ks_is); (case h7 => k_is)
      (case n5_0 => k_is)
      case I6 =>
        refine' K5.ex1 (K5.ex1 (K5.ex1 (K5.ex1 (K5.ex1 (K5.ex1 (K5.ex1 (K5.ex1 (K5.ex1 (K5.ex1 (K5.ex1 (K5.ex1 (K5.ex1 (K5.ex1 (K5.ex1 (K5.ex1 (K5.ex1 (K5.ex1 (K5.ex1 (K5.ex1 (K5.ex1 (⟨?a1, ?t1, ?l1, ?c1, ?d1, ?h1, ?h2, ?h3, ?h4, ?h5, ?h6, ?h7⟩)))))))))))))))))))))
        (case a1 => k_is); (case t1 => k_is); (case l1 => k_is); (case c1 => k_is); (case d1 => rfl); (case h1 => k_is); (case h2 => rfl); (case h3 => first | rfl | decide +kernel | kernel_rfl); (case h4 => k_is); (case h5 => k_is); (case h6 => ks_is); (case h7 => k_is)
      (case n6_0 => k_is)
      case I8 =>
        refine' K5.ex1 (K5.ex1 (K5.ex1 (K5.ex1 (K5.ex1 (K5.ex1 (K5.ex1 (K5.ex1 (K5.ex1 (K5.ex1 (K5.ex1 (K5.ex1 (K5.ex1 (K5.ex1 (K5.ex1 (K5.ex1 (K5.ex1 (K5.ex1 (K5.ex1 (K5.ex1 (K5.ex1 (⟨?a1, ?t1, ?l1, ?c1, ?d1, ?h1, ?h2, ?h3, ?h4, ?h5, ?h6, ?h7⟩)))))))))))))))))))))
        (case a1 => k_is); (case t1 => k_is); (case l1 => k_is); (case c1 => k_is); (case d1 => rfl); (case h1 => k_is); (case h2 => rfl); (case h3 => first | rfl | decide +kernel | kernel_rfl); (case h4 => k_is); (case h5 => k_is); (case h6 => ks_is); (case h7 => k_is)
      (case n8_0 => k_is)
      (case n8_1 => k_is)
      (case q7 => k_exc)
#print axioms PySem.Challenge.cw_casetape_k05_errors_forms_and_the_same_holds
