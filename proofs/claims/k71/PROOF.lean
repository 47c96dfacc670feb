import PyProof.Rows.All
import Wide.All
import OpenK.AllK
import Wide.FinOn
import HandS.ForMost
import HandS.ForExc
import HandS.Wide
import HandS.More
import PyProof.EqKinds
import KE.KEqNest
import PyProof.NeKinds
import PyProof.AutoIntG7
import HandS.IsInst
import HandS.TryMany
import HandS.Conv
import HandS.ExcInit
import HandS.ExcOwn
import HandS.WordsExc
import KE.KxText
import HandS.ExcIs
import PySem.Challenge.RW_madeagain_k71_whole_each_step_may_be_tak
set_option Elab.async false
set_option linter.all false
set_option maxRecDepth 100000
section
/-! == of a dict and another thing -/
namespace U
open PySem PySem.SeqAt
abbrev dO (dd : Option Addr) (es : Array DictEntry) (ep : Nat) (sl : Array (Option Value)) : Obj := { cls := .type "dict", dict := dd, data := .dict es ep, slots := sl }
def IsDct (s : Shared) (l : Addr) : Prop := ∃ dd es ep sl, s.heap.get? l = some (dO dd es ep sl)
section
variable {A : Around} {s : Shared}
theorem dict_dec_none (l : Addr) (dd : Option Addr) (es : Array DictEntry) (ep : Nat) (sl : Array (Option Value))  : Meets (Builtin.«dict.__eq__» ⟨[.ref l, .none], []⟩) (fun _ R s => s.heap.get? l = some (dO dd es ep sl) ∧ R (.ok (.ret .notImplemented)) s) :=
  .of_wp fun prog w A R s h => by obtain ⟨hp, g, d, tk, os⟩ := s; obtain ⟨hl, h⟩ := h; have f1 := F.sub_NoneType_dict; wp_walk using wpAny_loadPart' hl, wpAny_load hl; exact ⟨_, rfl, h⟩
theorem dict_dec_bool (l : Addr) (dd : Option Addr) (es : Array DictEntry) (ep : Nat) (sl : Array (Option Value)) (b : Bool) : Meets (Builtin.«dict.__eq__» ⟨[.ref l, .bool b], []⟩) (fun _ R s => s.heap.get? l = some (dO dd es ep sl) ∧ R (.ok (.ret .notImplemented)) s) :=
  .of_wp fun prog w A R s h => by obtain ⟨hp, g, d, tk, os⟩ := s; obtain ⟨hl, h⟩ := h; have f1 := F.sub_bool_dict; wp_walk using wpAny_loadPart' hl, wpAny_load hl; exact ⟨_, rfl, h⟩
theorem dict_dec_int (l : Addr) (dd : Option Addr) (es : Array DictEntry) (ep : Nat) (sl : Array (Option Value)) (b : Int) (u : Tok) : Meets (Builtin.«dict.__eq__» ⟨[.ref l, .int b u], []⟩) (fun _ R s => s.heap.get? l = some (dO dd es ep sl) ∧ R (.ok (.ret .notImplemented)) s) :=
  .of_wp fun prog w A R s h => by obtain ⟨hp, g, d, tk, os⟩ := s; obtain ⟨hl, h⟩ := h; have f1 := F.sub_int_dict; wp_walk using wpAny_loadPart' hl, wpAny_load hl; exact ⟨_, rfl, h⟩
theorem dict_dec_str (l : Addr) (dd : Option Addr) (es : Array DictEntry) (ep : Nat) (sl : Array (Option Value)) (b : Str) (u : Tok) : Meets (Builtin.«dict.__eq__» ⟨[.ref l, .str b u], []⟩) (fun _ R s => s.heap.get? l = some (dO dd es ep sl) ∧ R (.ok (.ret .notImplemented)) s) :=
  .of_wp fun prog w A R s h => by obtain ⟨hp, g, d, tk, os⟩ := s; obtain ⟨hl, h⟩ := h; have f1 := F.sub_str_dict; wp_walk using wpAny_loadPart' hl, wpAny_load hl; exact ⟨_, rfl, h⟩
theorem bool_dec_dict (l : Addr) (dd : Option Addr) (es : Array DictEntry) (ep : Nat) (sl : Array (Option Value)) (b : Bool) : Meets (Builtin.«int.__eq__» ⟨[.bool b, .ref l], []⟩) (fun _ R s => s.heap.get? l = some (dO dd es ep sl) ∧ R (.ok (.ret .notImplemented)) s) :=
  .of_wp fun prog w A R s h => by obtain ⟨hp, g, d, tk, os⟩ := s; obtain ⟨hl, h⟩ := h; wp_walk using wpAny_loadPart' hl, wpAny_load hl; exact ⟨_, rfl, h⟩
theorem int_dec_dict (l : Addr) (dd : Option Addr) (es : Array DictEntry) (ep : Nat) (sl : Array (Option Value)) (b : Int) (u : Tok) : Meets (Builtin.«int.__eq__» ⟨[.int b u, .ref l], []⟩) (fun _ R s => s.heap.get? l = some (dO dd es ep sl) ∧ R (.ok (.ret .notImplemented)) s) :=
  .of_wp fun prog w A R s h => by obtain ⟨hp, g, d, tk, os⟩ := s; obtain ⟨hl, h⟩ := h; wp_walk using wpAny_loadPart' hl, wpAny_load hl; exact ⟨_, rfl, h⟩
theorem str_dec_dict (l : Addr) (dd : Option Addr) (es : Array DictEntry) (ep : Nat) (sl : Array (Option Value)) (b : Str) (u : Tok) : Meets (Builtin.«str.__eq__» ⟨[.str b u, .ref l], []⟩) (fun _ R s => s.heap.get? l = some (dO dd es ep sl) ∧ R (.ok (.ret .notImplemented)) s) :=
  .of_wp fun prog w A R s h => by obtain ⟨hp, g, d, tk, os⟩ := s; obtain ⟨hl, h⟩ := h; wp_walk using wpAny_loadPart' hl, wpAny_load hl; exact ⟨_, rfl, h⟩
theorem list_dec_dict (l : Addr) (dd : Option Addr) (es : Array DictEntry) (ep : Nat) (sl : Array (Option Value)) (b : Addr) (items : Array Value) (n : Nat) (dd2 : Option Addr) (sl2 : Array (Option Value)) : Meets (Builtin.«list.__eq__» ⟨[.ref b, .ref l], []⟩) (fun _ R s => s.heap.get? b = some { cls := .type "list", dict := dd2, data := .seq items n, slots := sl2 } ∧ s.heap.get? l = some (dO dd es ep sl) ∧ R (.ok (.ret .notImplemented)) s) :=
  .of_wp fun prog w A R s h => by obtain ⟨hp, g, d, tk, os⟩ := s; obtain ⟨hb, hl, h⟩ := h; have f1 := F.sub_dict_list; wp_walk using wpAny_loadPart' hb, wpAny_loadPart' hl, wpAny_load hl; exact ⟨_, rfl, h⟩
theorem dict_dec_list (l : Addr) (dd : Option Addr) (es : Array DictEntry) (ep : Nat) (sl : Array (Option Value)) (b : Addr) (items : Array Value) (n : Nat) (dd2 : Option Addr) (sl2 : Array (Option Value)) : Meets (Builtin.«dict.__eq__» ⟨[.ref l, .ref b], []⟩) (fun _ R s => s.heap.get? l = some (dO dd es ep sl) ∧ s.heap.get? b = some { cls := .type "list", dict := dd2, data := .seq items n, slots := sl2 } ∧ R (.ok (.ret .notImplemented)) s) :=
  .of_wp fun prog w A R s h => by obtain ⟨hp, g, d, tk, os⟩ := s; obtain ⟨hl, hb, h⟩ := h; have f1 := F.sub_list_dict; wp_walk using wpAny_loadPart' hb, wpAny_loadPart' hl, wpAny_load hl, wpAny_load hb; exact ⟨_, rfl, h⟩
theorem tuple_dec_dict (l : Addr) (dd : Option Addr) (es : Array DictEntry) (ep : Nat) (sl : Array (Option Value)) (b : Addr) (items : Array Value) (n : Nat) (dd2 : Option Addr) (sl2 : Array (Option Value)) : Meets (Builtin.«tuple.__eq__» ⟨[.ref b, .ref l], []⟩) (fun _ R s => s.heap.get? b = some { cls := .type "tuple", dict := dd2, data := .seq items n, slots := sl2 } ∧ s.heap.get? l = some (dO dd es ep sl) ∧ R (.ok (.ret .notImplemented)) s) :=
  .of_wp fun prog w A R s h => by obtain ⟨hp, g, d, tk, os⟩ := s; obtain ⟨hb, hl, h⟩ := h; have f1 := F.sub_dict_tuple; wp_walk using wpAny_loadPart' hb, wpAny_loadPart' hl, wpAny_load hl; exact ⟨_, rfl, h⟩
theorem dict_dec_tuple (l : Addr) (dd : Option Addr) (es : Array DictEntry) (ep : Nat) (sl : Array (Option Value)) (b : Addr) (items : Array Value) (n : Nat) (dd2 : Option Addr) (sl2 : Array (Option Value)) : Meets (Builtin.«dict.__eq__» ⟨[.ref l, .ref b], []⟩) (fun _ R s => s.heap.get? l = some (dO dd es ep sl) ∧ s.heap.get? b = some { cls := .type "tuple", dict := dd2, data := .seq items n, slots := sl2 } ∧ R (.ok (.ret .notImplemented)) s) :=
  .of_wp fun prog w A R s h => by obtain ⟨hp, g, d, tk, os⟩ := s; obtain ⟨hl, hb, h⟩ := h; have f1 := F.sub_tuple_dict; wp_walk using wpAny_loadPart' hb, wpAny_loadPart' hl, wpAny_load hl, wpAny_load hb; exact ⟨_, rfl, h⟩
theorem rc_dict_none {l : Addr}  (hl : IsDct s l) (hu : A.units < cLine) : RcAt A s (.ref l) (.none) false := fun prog w E Q h => by
  obtain ⟨dd, es, ep, sl, hl⟩ := hl
  exact rc_eq_decline_or (k := false) ⟨_, hl, rfl⟩ rfl (by decide) F.sub_NoneType_dict F.slot_dict_eq F.slot_NoneType_eq_refl
    (fun _ hq => call_meets F.slot_dict_eq ⟨_, hl, rfl⟩ F.entry_dict_eq (F.args_dict_eq_2 _ _) (dict_dec_none l dd es ep sl ) ⟨hl, hq⟩)
    (fun _ hq => call_gives F.slot_NoneType_eq_refl rfl F.entry_NoneType_eq (F.args_NoneType_eq_2 _ _) (NoneType___eq___none_ref_0 l) hq)
    (fun _ hq => wpAny_of_eq (rfl : isSame (.ref l) (.none) = pure false) hq) (.inr hu) h
theorem rc_none_dict {l : Addr}  (hl : IsDct s l) (hu : A.units < cLine) : RcAt A s (.none) (.ref l) false := fun prog w E Q h => by
  obtain ⟨dd, es, ep, sl, hl⟩ := hl
  exact rc_eq_decline_or (k := false) rfl ⟨_, hl, rfl⟩ (by decide) F.sub_dict_NoneType F.slot_NoneType_eq F.slot_dict_eq_refl
    (fun _ hq => call_gives F.slot_NoneType_eq rfl F.entry_NoneType_eq (F.args_NoneType_eq_2 _ _) (NoneType___eq___none_ref_0 l) hq)
    (fun _ hq => call_meets F.slot_dict_eq_refl ⟨_, hl, rfl⟩ F.entry_dict_eq (F.args_dict_eq_2 _ _) (dict_dec_none l dd es ep sl ) ⟨hl, hq⟩)
    (fun _ hq => wpAny_of_eq (rfl : isSame (.none) (.ref l) = pure false) hq) (.inr hu) h
theorem eq_dict_none {l : Addr}  (hl : IsDct s l) (hu : A.units < cLine) : EqAt A s (.ref l) (.none) false := fun prog w E Q h => by
  unfold eqBool
  refine wpAny_holding ?_
  refine wpAny_ite_split (fun hab => absurd (eq_of_beq hab) nofun) (fun _ => ?_)
  exact wpAny_bind (rc_dict_none  hl hu prog w E _ (wpAny_truthy_bool h))
theorem eq_none_dict {l : Addr}  (hl : IsDct s l) (hu : A.units < cLine) : EqAt A s (.none) (.ref l) false := fun prog w E Q h => by
  unfold eqBool
  refine wpAny_holding ?_
  refine wpAny_ite_split (fun hab => absurd (eq_of_beq hab) nofun) (fun _ => ?_)
  exact wpAny_bind (rc_none_dict  hl hu prog w E _ (wpAny_truthy_bool h))
theorem rc_dict_bool {l : Addr} (b : Bool) (hl : IsDct s l) (hu : A.units < cLine) : RcAt A s (.ref l) (.bool b) false := fun prog w E Q h => by
  obtain ⟨dd, es, ep, sl, hl⟩ := hl
  exact rc_eq_decline_or (k := false) ⟨_, hl, rfl⟩ rfl (by decide) F.sub_bool_dict F.slot_dict_eq F.slot_bool_eq_refl
    (fun _ hq => call_meets F.slot_dict_eq ⟨_, hl, rfl⟩ F.entry_dict_eq (F.args_dict_eq_2 _ _) (dict_dec_bool l dd es ep sl b) ⟨hl, hq⟩)
    (fun _ hq => call_meets F.slot_bool_eq_refl rfl F.entry_int_eq (F.args_int_eq_2 _ _) (bool_dec_dict l dd es ep sl b) ⟨hl, hq⟩)
    (fun _ hq => wpAny_of_eq (rfl : isSame (.ref l) (.bool b) = pure false) hq) (.inr hu) h
theorem rc_bool_dict {l : Addr} (b : Bool) (hl : IsDct s l) (hu : A.units < cLine) : RcAt A s (.bool b) (.ref l) false := fun prog w E Q h => by
  obtain ⟨dd, es, ep, sl, hl⟩ := hl
  exact rc_eq_decline_or (k := false) rfl ⟨_, hl, rfl⟩ (by decide) F.sub_dict_bool F.slot_bool_eq F.slot_dict_eq_refl
    (fun _ hq => call_meets F.slot_bool_eq rfl F.entry_int_eq (F.args_int_eq_2 _ _) (bool_dec_dict l dd es ep sl b) ⟨hl, hq⟩)
    (fun _ hq => call_meets F.slot_dict_eq_refl ⟨_, hl, rfl⟩ F.entry_dict_eq (F.args_dict_eq_2 _ _) (dict_dec_bool l dd es ep sl b) ⟨hl, hq⟩)
    (fun _ hq => wpAny_of_eq (rfl : isSame (.bool b) (.ref l) = pure false) hq) (.inr hu) h
theorem eq_dict_bool {l : Addr} (b : Bool) (hl : IsDct s l) (hu : A.units < cLine) : EqAt A s (.ref l) (.bool b) false := fun prog w E Q h => by
  unfold eqBool
  refine wpAny_holding ?_
  refine wpAny_ite_split (fun hab => absurd (eq_of_beq hab) nofun) (fun _ => ?_)
  exact wpAny_bind (rc_dict_bool b hl hu prog w E _ (wpAny_truthy_bool h))
theorem eq_bool_dict {l : Addr} (b : Bool) (hl : IsDct s l) (hu : A.units < cLine) : EqAt A s (.bool b) (.ref l) false := fun prog w E Q h => by
  unfold eqBool
  refine wpAny_holding ?_
  refine wpAny_ite_split (fun hab => absurd (eq_of_beq hab) nofun) (fun _ => ?_)
  exact wpAny_bind (rc_bool_dict b hl hu prog w E _ (wpAny_truthy_bool h))
theorem rc_dict_int {l : Addr} (b : Int) (u : Tok) (hl : IsDct s l) (hu : A.units < cLine) : RcAt A s (.ref l) (.int b u) false := fun prog w E Q h => by
  obtain ⟨dd, es, ep, sl, hl⟩ := hl
  exact rc_eq_decline_or (k := false) ⟨_, hl, rfl⟩ (typeIs_int s b u) (by decide) F.sub_int_dict F.slot_dict_eq F.slot_int_eq_refl
    (fun _ hq => call_meets F.slot_dict_eq ⟨_, hl, rfl⟩ F.entry_dict_eq (F.args_dict_eq_2 _ _) (dict_dec_int l dd es ep sl b u) ⟨hl, hq⟩)
    (fun _ hq => call_meets F.slot_int_eq_refl (typeIs_int s b u) F.entry_int_eq (F.args_int_eq_2 _ _) (int_dec_dict l dd es ep sl b u) ⟨hl, hq⟩)
    (fun _ hq => wpAny_of_eq (rfl : isSame (.ref l) (.int b u) = pure false) hq) (.inr hu) h
theorem rc_int_dict {l : Addr} (b : Int) (u : Tok) (hl : IsDct s l) (hu : A.units < cLine) : RcAt A s (.int b u) (.ref l) false := fun prog w E Q h => by
  obtain ⟨dd, es, ep, sl, hl⟩ := hl
  exact rc_eq_decline_or (k := false) (typeIs_int s b u) ⟨_, hl, rfl⟩ (by decide) F.sub_dict_int F.slot_int_eq F.slot_dict_eq_refl
    (fun _ hq => call_meets F.slot_int_eq (typeIs_int s b u) F.entry_int_eq (F.args_int_eq_2 _ _) (int_dec_dict l dd es ep sl b u) ⟨hl, hq⟩)
    (fun _ hq => call_meets F.slot_dict_eq_refl ⟨_, hl, rfl⟩ F.entry_dict_eq (F.args_dict_eq_2 _ _) (dict_dec_int l dd es ep sl b u) ⟨hl, hq⟩)
    (fun _ hq => wpAny_of_eq (rfl : isSame (.int b u) (.ref l) = pure false) hq) (.inr hu) h
theorem eq_dict_int {l : Addr} (b : Int) (u : Tok) (hl : IsDct s l) (hu : A.units < cLine) : EqAt A s (.ref l) (.int b u) false := fun prog w E Q h => by
  unfold eqBool
  refine wpAny_holding ?_
  refine wpAny_ite_split (fun hab => absurd (eq_of_beq hab) nofun) (fun _ => ?_)
  exact wpAny_bind (rc_dict_int b u hl hu prog w E _ (wpAny_truthy_bool h))
theorem eq_int_dict {l : Addr} (b : Int) (u : Tok) (hl : IsDct s l) (hu : A.units < cLine) : EqAt A s (.int b u) (.ref l) false := fun prog w E Q h => by
  unfold eqBool
  refine wpAny_holding ?_
  refine wpAny_ite_split (fun hab => absurd (eq_of_beq hab) nofun) (fun _ => ?_)
  exact wpAny_bind (rc_int_dict b u hl hu prog w E _ (wpAny_truthy_bool h))
theorem rc_dict_str {l : Addr} (b : Str) (u : Tok) (hl : IsDct s l) (hu : A.units < cLine) : RcAt A s (.ref l) (.str b u) false := fun prog w E Q h => by
  obtain ⟨dd, es, ep, sl, hl⟩ := hl
  exact rc_eq_decline_or (k := false) ⟨_, hl, rfl⟩ (typeIs_str s b u) (by decide) F.sub_str_dict F.slot_dict_eq F.slot_str_eq_refl
    (fun _ hq => call_meets F.slot_dict_eq ⟨_, hl, rfl⟩ F.entry_dict_eq (F.args_dict_eq_2 _ _) (dict_dec_str l dd es ep sl b u) ⟨hl, hq⟩)
    (fun _ hq => call_meets F.slot_str_eq_refl (typeIs_str s b u) F.entry_str_eq (F.args_str_eq_2 _ _) (str_dec_dict l dd es ep sl b u) ⟨hl, hq⟩)
    (fun _ hq => wpAny_of_eq (rfl : isSame (.ref l) (.str b u) = pure false) hq) (.inr hu) h
theorem rc_str_dict {l : Addr} (b : Str) (u : Tok) (hl : IsDct s l) (hu : A.units < cLine) : RcAt A s (.str b u) (.ref l) false := fun prog w E Q h => by
  obtain ⟨dd, es, ep, sl, hl⟩ := hl
  exact rc_eq_decline_or (k := false) (typeIs_str s b u) ⟨_, hl, rfl⟩ (by decide) F.sub_dict_str F.slot_str_eq F.slot_dict_eq_refl
    (fun _ hq => call_meets F.slot_str_eq (typeIs_str s b u) F.entry_str_eq (F.args_str_eq_2 _ _) (str_dec_dict l dd es ep sl b u) ⟨hl, hq⟩)
    (fun _ hq => call_meets F.slot_dict_eq_refl ⟨_, hl, rfl⟩ F.entry_dict_eq (F.args_dict_eq_2 _ _) (dict_dec_str l dd es ep sl b u) ⟨hl, hq⟩)
    (fun _ hq => wpAny_of_eq (rfl : isSame (.str b u) (.ref l) = pure false) hq) (.inr hu) h
theorem eq_dict_str {l : Addr} (b : Str) (u : Tok) (hl : IsDct s l) (hu : A.units < cLine) : EqAt A s (.ref l) (.str b u) false := fun prog w E Q h => by
  unfold eqBool
  refine wpAny_holding ?_
  refine wpAny_ite_split (fun hab => absurd (eq_of_beq hab) nofun) (fun _ => ?_)
  exact wpAny_bind (rc_dict_str b u hl hu prog w E _ (wpAny_truthy_bool h))
theorem eq_str_dict {l : Addr} (b : Str) (u : Tok) (hl : IsDct s l) (hu : A.units < cLine) : EqAt A s (.str b u) (.ref l) false := fun prog w E Q h => by
  unfold eqBool
  refine wpAny_holding ?_
  refine wpAny_ite_split (fun hab => absurd (eq_of_beq hab) nofun) (fun _ => ?_)
  exact wpAny_bind (rc_str_dict b u hl hu prog w E _ (wpAny_truthy_bool h))
theorem is_other {M : Model} {E : Value → Shared → Prop} {x y : Addr} {ox oy : Obj} {R : Bool → Shared → Prop} (hxy : x ≠ y) (hx : s.heap.get? x = some ox) (hy : s.heap.get? y = some oy) (hnt : ox.cls ≠ .type "tuple") (h : R false s) : wpAny M A (isSame (.ref x) (.ref y)) R E s := by
  show wpAny M A (if (x == y) = true then pure true else _) R E s
  rw [if_neg (by simpa using hxy)]
  refine wpAny_bind (wpAny_load hx (wpAny_bind (wpAny_load hy ?_)))
  split
  · exact absurd (by assumption) hnt
  · exact wpAny_pure h
theorem eq_dict_list {l b : Addr} {items : Array Value} (hl : IsDct s l) (hb : s.heap.IsList b items) (hu : A.units < cLine) : EqAt A s (.ref l) (.ref b) false := by
  obtain ⟨dd, es, ep, sl, hl⟩ := hl
  obtain ⟨⟨cls2, dd2, data2, sl2⟩, ho2, hc2, n2, hd2⟩ := id hb
  simp only at hc2 hd2
  subst hc2 hd2
  have hne : l ≠ b := fun z => by rw [z, ho2] at hl; exact absurd (congrArg Obj.cls (Option.some.inj hl)) (fun q => absurd (Value.type.inj q) (by decide))
  exact .of_refs hne fun prog w E Q h => rc_eq_decline_or (k := false) ⟨_, hl, rfl⟩ ⟨_, ho2, rfl⟩ (by decide) F.sub_list_dict F.slot_dict_eq F.slot_list_eq_refl
    (fun _ hq => call_meets F.slot_dict_eq ⟨_, hl, rfl⟩ F.entry_dict_eq (F.args_dict_eq_2 _ _) (dict_dec_list l dd es ep sl b items n2 dd2 sl2) ⟨hl, ho2, hq⟩)
    (fun _ hq => call_meets F.slot_list_eq_refl ⟨_, ho2, rfl⟩ F.entry_list_eq (F.args_list_eq_2 _ _) (list_dec_dict l dd es ep sl b items n2 dd2 sl2) ⟨ho2, hl, hq⟩)
    (fun _ hq => wpAny_isSame_ref_other' hne hl ho2 (by simp) hq) (.inr hu) h
theorem eq_list_dict {l b : Addr} {items : Array Value} (hl : IsDct s l) (hb : s.heap.IsList b items) (hu : A.units < cLine) : EqAt A s (.ref b) (.ref l) false := by
  obtain ⟨dd, es, ep, sl, hl⟩ := hl
  obtain ⟨⟨cls2, dd2, data2, sl2⟩, ho2, hc2, n2, hd2⟩ := id hb
  simp only at hc2 hd2
  subst hc2 hd2
  have hne : b ≠ l := fun z => by rw [← z, ho2] at hl; exact absurd (congrArg Obj.cls (Option.some.inj hl)) (fun q => absurd (Value.type.inj q) (by decide))
  exact .of_refs hne fun prog w E Q h => rc_eq_decline_or (k := false) ⟨_, ho2, rfl⟩ ⟨_, hl, rfl⟩ (by decide) F.sub_dict_list F.slot_list_eq F.slot_dict_eq_refl
    (fun _ hq => call_meets F.slot_list_eq ⟨_, ho2, rfl⟩ F.entry_list_eq (F.args_list_eq_2 _ _) (list_dec_dict l dd es ep sl b items n2 dd2 sl2) ⟨ho2, hl, hq⟩)
    (fun _ hq => call_meets F.slot_dict_eq_refl ⟨_, hl, rfl⟩ F.entry_dict_eq (F.args_dict_eq_2 _ _) (dict_dec_list l dd es ep sl b items n2 dd2 sl2) ⟨hl, ho2, hq⟩)
    (fun _ hq => wpAny_isSame_ref_other' hne ho2 hl (by simp) hq) (.inr hu) h
theorem eq_dict_tuple {l b : Addr} {items : Array Value} (hl : IsDct s l) (hb : s.heap.IsTuple b items) (hu : A.units < cLine) : EqAt A s (.ref l) (.ref b) false := by
  obtain ⟨dd, es, ep, sl, hl⟩ := hl
  obtain ⟨⟨cls2, dd2, data2, sl2⟩, ho2, hc2, n2, hd2⟩ := id hb
  simp only at hc2 hd2
  subst hc2 hd2
  have hne : l ≠ b := fun z => by rw [z, ho2] at hl; exact absurd (congrArg Obj.cls (Option.some.inj hl)) (fun q => absurd (Value.type.inj q) (by decide))
  exact .of_refs hne fun prog w E Q h => rc_eq_decline_or (k := false) ⟨_, hl, rfl⟩ ⟨_, ho2, rfl⟩ (by decide) F.sub_tuple_dict F.slot_dict_eq F.slot_tuple_eq_refl
    (fun _ hq => call_meets F.slot_dict_eq ⟨_, hl, rfl⟩ F.entry_dict_eq (F.args_dict_eq_2 _ _) (dict_dec_tuple l dd es ep sl b items n2 dd2 sl2) ⟨hl, ho2, hq⟩)
    (fun _ hq => call_meets F.slot_tuple_eq_refl ⟨_, ho2, rfl⟩ F.entry_tuple_eq (F.args_tuple_eq_2 _ _) (tuple_dec_dict l dd es ep sl b items n2 dd2 sl2) ⟨ho2, hl, hq⟩)
    (fun _ hq => is_other hne hl ho2 (by simp) hq) (.inr hu) h
theorem eq_tuple_dict {l b : Addr} {items : Array Value} (hl : IsDct s l) (hb : s.heap.IsTuple b items) (hu : A.units < cLine) : EqAt A s (.ref b) (.ref l) false := by
  obtain ⟨dd, es, ep, sl, hl⟩ := hl
  obtain ⟨⟨cls2, dd2, data2, sl2⟩, ho2, hc2, n2, hd2⟩ := id hb
  simp only at hc2 hd2
  subst hc2 hd2
  have hne : b ≠ l := fun z => by rw [← z, ho2] at hl; exact absurd (congrArg Obj.cls (Option.some.inj hl)) (fun q => absurd (Value.type.inj q) (by decide))
  exact .of_refs hne fun prog w E Q h => rc_eq_decline_or (k := false) ⟨_, ho2, rfl⟩ ⟨_, hl, rfl⟩ (by decide) F.sub_dict_tuple F.slot_tuple_eq F.slot_dict_eq_refl
    (fun _ hq => call_meets F.slot_tuple_eq ⟨_, ho2, rfl⟩ F.entry_tuple_eq (F.args_tuple_eq_2 _ _) (tuple_dec_dict l dd es ep sl b items n2 dd2 sl2) ⟨ho2, hl, hq⟩)
    (fun _ hq => call_meets F.slot_dict_eq_refl ⟨_, hl, rfl⟩ F.entry_dict_eq (F.args_dict_eq_2 _ _) (dict_dec_tuple l dd es ep sl b items n2 dd2 sl2) ⟨hl, ho2, hq⟩)
    (fun _ hq => wpAny_isSame_ref_other' hne ho2 hl (by simp) hq) (.inr hu) h
end
end U

end
section
namespace U
open PySem PySem.Spec PyProof.Rows L2

/-! ### frames of the abstract heap -/
/-- all but the addresses in F stand as before; tuples stand; what is tracked stays tracked -/
structure Fr (F : List Addr) (H H' : Hp) : Prop where
  keep : ∀ b o, H b = some o → b ∉ F → H' b = some o
  tup : ∀ b xs, H b = some (.tup xs) → H' b = some (.tup xs)
  old : ∀ b, H' b = none → H b = none
theorem Fr.refl {F : List Addr} (H : Hp) : Fr F H H := ⟨fun _ _ h _ => h, fun _ _ h => h, fun _ h => h⟩
theorem Fr.same {H H' : Hp} (f : Fr [] H H') : Same H H' := fun b o h => f.keep b o h (by simp)
theorem Fr.mono {F G : List Addr} {H H' : Hp} (f : Fr F H H') (h : ∀ b ∈ F, b ∈ G) : Fr G H H' := ⟨fun b o e n => f.keep b o e (fun m => n (h b m)), f.tup, f.old⟩
theorem Fr.nil {F : List Addr} {H H' : Hp} (f : Fr [] H H') : Fr F H H' := f.mono (by simp)
/-- G may name what is in F or new -/
theorem Fr.call {F G : List Addr} {H H1 H2 : Hp} (a : Fr F H H1) (b : Fr G H1 H2) (h : ∀ c ∈ G, c ∈ F ∨ H c = none) : Fr F H H2 :=
  ⟨fun c o e n => b.keep c o (a.keep c o e n) (fun m => (h c m).elim n fun z => by rw [z] at e; cases e), fun c xs e => b.tup c xs (a.tup c xs e), fun c e => a.old c (b.old c e)⟩
theorem Fr.trans {F : List Addr} {H H1 H2 : Hp} (a : Fr F H H1) (b : Fr F H1 H2) : Fr F H H2 := a.call b fun _ m => .inl m
theorem Fr.new {F : List Addr} {H H1 : Hp} {p : Addr} {o : HO} (a : Fr F H H1) (hp : H1 p = none) : Fr F H (upd H1 p o) :=
  ⟨fun c u e n => by rw [upd_ne (ne_of_none (a.keep c u e n) hp)]; exact a.keep c u e n, fun c xs e => by rw [upd_ne (ne_of_none (a.tup c xs e) hp)]; exact a.tup c xs e,
   fun c e => a.old c (by unfold upd at e; split at e; · cases e
                          · exact e)⟩
def notTup : HO → Bool
  | .tup _ => false
  | _ => true
theorem Fr.upd {F : List Addr} {H H1 : Hp} {p : Addr} {o u : HO} (a : Fr F H H1) (hp : H1 p = some u) (nt : notTup u = true) (hF : p ∈ F ∨ H p = none) : Fr F H (upd H1 p o) := by
  have nn : ∀ c xs, H c = some (.tup xs) → c ≠ p := fun c xs e z => by
    subst z
    rw [a.tup _ _ e] at hp
    cases hp
    cases nt
  have n2 : ∀ c v, H c = some v → c ∉ F → c ≠ p := fun c v e n z => by
    subst z
    rcases hF with m | m
    · exact n m
    · rw [m] at e; cases e
  exact ⟨fun c v e n => by rw [upd_ne (n2 c v e n)]; exact a.keep c v e n, fun c xs e => by rw [upd_ne (nn c xs e)]; exact a.tup c xs e,
    fun c e => a.old c (by unfold L2.upd at e; split at e; · cases e
                           · exact e)⟩
/-- fewer addresses: those that were not there -/
theorem Fr.drop {F G : List Addr} {H H' : Hp} (f : Fr G H H') (h : ∀ c ∈ G, c ∈ F ∨ H c = none) : Fr F H H' := Fr.call (Fr.refl H) f h
theorem al_nil {P : Addr → Prop} : ∀ c ∈ ([] : List Addr), P c := fun _ m => nomatch m
theorem al_cons {P : Addr → Prop} {a : Addr} {l : List Addr} (h : P a) (t : ∀ c ∈ l, P c) : ∀ c ∈ a :: l, P c := fun c m => by
  rcases List.mem_cons.mp m with rfl | m
  · exact h
  · exact t c m
theorem ni_nil {b : Addr} : b ∉ ([] : List Addr) := fun m => nomatch m
theorem ni_cons {a b : Addr} {l : List Addr} (h : b ≠ a) (t : b ∉ l) : b ∉ a :: l := fun m => (List.mem_cons.mp m).elim h t
theorem upd_none {H : Hp} {a b : Addr} {o : HO} (e : upd H a o b = none) : H b = none := by
  unfold upd at e
  split at e
  · cases e
  · exact e
/-- what is tracked in H is tracked in H' -/
def Le (H H' : Hp) : Prop := ∀ b, H' b = none → H b = none
theorem Le.refl (H : Hp) : Le H H := fun _ h => h
theorem Le.upd {H H1 : Hp} {p : Addr} {o : HO} (a : Le H H1) : Le H (upd H1 p o) := fun b e => a b (upd_none e)
theorem Le.fr {F : List Addr} {H H1 H2 : Hp} (a : Le H H1) (f : Fr F H1 H2) : Le H H2 := fun b e => a b (f.old b e)
theorem none_le {H H' : Hp} {p : Addr} (l : Le H H') (h : H' p = none) : H p = none := l p h
theorem look_fr {F : List Addr} {H H' : Hp} {p : Addr} {o : HO} (f : Fr F H H') (h : H p = some o) (n : p ∉ F) : H' p = some o := f.keep p o h n
theorem look_tup {F : List Addr} {H H' : Hp} {p : Addr} {xs : List V} (f : Fr F H H') (h : H p = some (.tup xs)) : H' p = some (.tup xs) := f.tup p xs h
theorem look_upd {H : Hp} {a p : Addr} {o u : HO} (h : H p = some u) (n : p ≠ a) : upd H a o p = some u := by rw [upd_ne n]; exact h
theorem ne_kind {H : Hp} {a b : Addr} {o u : HO} (h : H a = some o) (h' : H b = some u) (d : o.ctorIdx ≠ u.ctorIdx) : a ≠ b := fun z => by
  subst z; rw [h] at h'; cases h'; exact d rfl
theorem hq_to {H : Hp} {p : Addr} {o u : HO} (h : H p = some o) (e : o = u) : H p = some u := e ▸ h
theorem ne_new {H : Hp} {a b : Addr} {o : HO} (h' : H b = none) (h : H a = some o) : a ≠ b := ne_of_none h h'
theorem ne_new' {H : Hp} {a b : Addr} {o : HO} (h' : H a = none) (h : H b = some o) : a ≠ b := (ne_of_none h h').symm
theorem mem_hd {a : Addr} {l : List Addr} : a ∈ a :: l := List.mem_cons_self
theorem mem_tl {a b : Addr} {l : List Addr} (h : a ∈ l) : a ∈ b :: l := List.mem_cons_of_mem _ h
theorem fr_new {F : List Addr} {H H1 : Hp} {p : Addr} {o : HO} (hp : H1 p = none) (a : Fr F H H1) : Fr F H (L2.upd H1 p o) := a.new hp
theorem fr_upd {F : List Addr} {H H1 : Hp} {p : Addr} {o u : HO} (hp : H1 p = some u) (nt : notTup u = true) (hF : p ∈ F ∨ H p = none) (a : Fr F H H1) : Fr F H (L2.upd H1 p o) := a.upd hp nt hF
theorem fr_call {F G : List Addr} {H H1 H2 : Hp} (b : Fr G H1 H2) (a : Fr F H H1) (h : ∀ c ∈ G, c ∈ F ∨ H c = none) : Fr F H H2 := a.call b h
end U



end
section
namespace U
open PySem PySem.Spec PyProof.Rows L2

/-! ### what a reading comes to where the heap stays -/
def Val (te : TE) (σ : L2.St) (H : Hp) (v : V) : Prop := ∀ Q : VK, Q v H → te σ H Q
def Ans (t : TT) (σ : L2.St) (H : Hp) (b : Bool) : Prop := ∀ Q : Bool → Hp → Prop, Q b H → t σ H Q
def Lf (r : R2) (x y : V) (H : Hp) (v : V) : Prop := ∀ Q : VK, Q v H → r x y H Q
def L1 (r : V → Hp → VK → Prop) (x : V) (H : Hp) (v : V) : Prop := ∀ Q : VK, Q v H → r x H Q
def LC (r : List V → Hp → VK → Prop) (xs : List V) (H : Hp) (v : V) : Prop := ∀ Q : VK, Q v H → r xs H Q
def LM (r : V → List V → Hp → VK → Prop) (x : V) (xs : List V) (H : Hp) (v : V) : Prop := ∀ Q : VK, Q v H → r x xs H Q
def VA (t : TA) (σ : L2.St) (H : Hp) (vs : List V) : Prop := ∀ Q : List V → Hp → Prop, Q vs H → t σ H Q

section
variable {X : Cx} {σ : L2.St} {H : Hp} {ta tb te : TE} {t u : TT} {x y z v : V} {r : R2} {K : PySem.W.Frag}
theorem val_var {i : Nat} (h : σ[i]? = some (some v)) : Val (tVar i) σ H v := fun _ q => ⟨v, h, q⟩
theorem val_c : Val (tC v) σ H v := fun _ q => q
theorem val_op (ha : Val ta σ H x) (hb : Val tb σ H y) (hr : Lf r x y H z) : Val (tOp r ta tb) σ H z := fun Q q => ha _ (hb _ (hr Q q))
theorem val_un {r : V → Hp → VK → Prop} (ha : Val ta σ H x) (hr : L1 r x H z) : Val (tUn r ta) σ H z := fun Q q => ha _ (hr Q q)
theorem val_cb {r : List V → Hp → VK → Prop} {tx : TA} {vs : List V} (ha : VA tx σ H vs) (hr : LC r vs H z) : Val (tCB r tx) σ H z := fun Q q => ha _ (hr Q q)
theorem va_nil : VA tNil σ H [] := fun _ q => q
theorem va_cons {tr : TA} {vs : List V} (h : Val te σ H v) (hr : VA tr σ H vs) : VA (tCons te tr) σ H (v :: vs) := fun _ q => h _ (hr _ q)
theorem val_andV {a b : Bool} (h1 : Val ta σ H (.bl a)) (h2 : a = true → Val tb σ H (.bl b)) : Val (tAndV ta tb) σ H (.bl (a && b)) := fun Q q => h1 _ ⟨a, rfl, by
  cases a with
  | true => rw [if_pos rfl]; exact h2 rfl Q q
  | false => rw [if_neg Bool.false_ne_true]; exact q⟩
theorem val_orV {a b : Bool} (h1 : Val ta σ H (.bl a)) (h2 : a = false → Val tb σ H (.bl b)) : Val (tOrV ta tb) σ H (.bl (a || b)) := fun Q q => h1 _ ⟨a, rfl, by
  cases a with
  | true => rw [if_pos rfl]; exact q
  | false => rw [if_neg Bool.false_ne_true]; exact h2 rfl Q q⟩
theorem val_notV {a : Bool} (h1 : Val ta σ H (.bl a)) : Val (tNotV ta) σ H (.bl (!a)) := fun Q q => h1 _ ⟨a, rfl, q⟩
theorem ans_B {b : Bool} (h : Val te σ H (.bl b)) : Ans (tB te) σ H b := fun _ q => h _ ⟨b, rfl, q⟩
theorem ans_T {b : Bool} (h : Val te σ H (.bl b)) : Ans (tTest te) σ H b := fun _ q => h _ ⟨b, rfl, q⟩
theorem ans_and {a b : Bool} (h1 : Ans t σ H a) (h2 : a = true → Ans u σ H b) : Ans (tAnd t u) σ H (a && b) := fun Q q => h1 _ (by
  cases a with
  | true => rw [if_pos rfl]; exact h2 rfl Q q
  | false => rw [if_neg Bool.false_ne_true]; exact q)
theorem ans_or {a b : Bool} (h1 : Ans t σ H a) (h2 : a = false → Ans u σ H b) : Ans (tOr t u) σ H (a || b) := fun Q q => h1 _ (by
  cases a with
  | true => rw [if_pos rfl]; exact q
  | false => rw [if_neg Bool.false_ne_true]; exact h2 rfl Q q)
theorem ans_not {a : Bool} (h1 : Ans t σ H a) : Ans (tNot t) σ H (!a) := fun Q q => h1 _ q
theorem ans_is {a b : Bool} (h : Ans t σ H a) (e : a = b) : Ans t σ H b := e ▸ h
theorem val_is (h : Val te σ H v) (e : v = z) : Val te σ H z := e ▸ h


end
end U

namespace U
open PySem PySem.Spec PyProof.Rows L2
/-! ### rules with the class in the term -/
def tF (C : Addr) (ta : TE) (f : Str) : TE := fun σ H Q => ta σ H fun x H1 => ∃ a dx fs v, x = .ref a ∧ H1 a = some (.ins C dx fs) ∧ fs.lookup f = some v ∧ Q v H1
def sF (C : Addr) (ta tv : TE) (f : Str) : TS := fun D σ H => tv σ H fun y H1 => ta σ H1 fun x H2 => ∃ a dx fs, x = .ref a ∧ H2 a = some (.ins C dx fs) ∧ fs.length < 1000 ∧ D.nx σ (upd H2 a (.ins C dx (putF f y fs)))
/-- list, tuple, str, dict -/
def rIxD : R2 := fun x y H Q => ∃ a v, x = .ref a ∧ DGet H a y (some v) ∧ Q v H
def rIxU (K : PySem.W.Frag) : R2 := fun x y H Q => rIxL K x y H Q ∨ rIxT K x y H Q ∨ rIxS x y H Q ∨ rIxD x y H Q
def rInD : R2 := fun y x H Q => ∃ a o, x = .ref a ∧ DGet H a y o ∧ Q (.bl o.isSome) H
def rNotInD : R2 := fun y x H Q => ∃ a o, x = .ref a ∧ DGet H a y o ∧ Q (.bl (!o.isSome)) H
def rInS1 : R2 := fun x y H Q => ∃ (c : Nat) (z : Str), x = .str ⟨#[c]⟩ ∧ y = .str z ∧ Q (.bl (decide (c ∈ z.cps.toList))) H
def rNotInS1 : R2 := fun x y H Q => ∃ (c : Nat) (z : Str), x = .str ⟨#[c]⟩ ∧ y = .str z ∧ Q (.bl (!decide (c ∈ z.cps.toList))) H
/-- a list, a tuple or a dict in a list of texts: no -/
def seqO : HO → Bool
  | .lst _ => true
  | .tup _ => true
  | .dK _ => true
  | _ => false
def rInO (K : PySem.W.Frag) (neg : Bool) : R2 := fun x y H Q => ∃ (a : Addr) (o : HO) (p : Addr) (ns : List Str), x = .ref a ∧ H a = some o ∧ seqO o = true ∧ y = .ref p ∧ SqL K H p (ns.map V.str) ∧ Q (.bl neg) H
def rInU (K : PySem.W.Frag) : R2 := fun x y H Q => rInD x y H Q ∨ rIn K false x y H Q ∨ rInS1 x y H Q ∨ rInO K false x y H Q
def rNotInU (K : PySem.W.Frag) : R2 := fun x y H Q => rNotInD x y H Q ∨ rIn K true x y H Q ∨ rNotInS1 x y H Q ∨ rInO K true x y H Q
def rAddI : R2 := rI0 fun i j => .int (i + j)
def rAddS : R2 := fun x y H Q => ∃ i j, x = .str i ∧ y = .str j ∧ i.length + j.length ≤ sizeLine ∧ Q (.str (i ++ j)) H
def rAddU (K : PySem.W.Frag) : R2 := fun x y H Q => rAddI x y H Q ∨ rAddS x y H Q ∨ rCat x y H Q ∨ rCatT K x y H Q
def rMulI : R2 := rI CMulW fun i j => .int (i * j)
def rModI : R2 := rI (fun _ j => 0 < j) fun i j => .int (i % j)
def rDivI : R2 := rI CDivW fun i j => .int (i / j)
def rPowI : R2 := rI CPow fun i j => .int (i ^ j.toNat)
def rSubI : R2 := rI0 fun i j => .int (i - j)
def rLtI : R2 := rI0 fun i j => .bl (decide (i < j))
def rLeI : R2 := rI0 fun i j => .bl (decide (i ≤ j))
def rGtI : R2 := rI0 fun i j => .bl (decide (j < i))
def rGeI : R2 := rI0 fun i j => .bl (decide (j ≤ i))
def rIsN : R2 := fun x y H Q => y = .non ∧ Q (.bl (decide (x = .non))) H
def rNotN : R2 := fun x y H Q => y = .non ∧ Q (.bl (!decide (x = .non))) H
section
variable {X : Cx} {o e value i a b : Expr} {f : Str} {pos pos' apos cpos : Pos} {ta tb tv td ty : TE}
theorem pe_fldC {C : Addr} (c : Cls X.K C) (n : NoAttr X.K C f) (he : PE X e ta) (hb : attributeBase e f X.env (eval e X.env) = eval e X.env := by rfl) : PE X (.Attribute e f pos) (tF C ta f) := by
  refine ⟨fun pins s σ H Q I h => ?_⟩
  refine attr_of hb (thn (he.run pins s σ H _ I h) fun u s1 ⟨x, H1, I1, rx, a, dx, fs, v, ex, ea, l, q⟩ => ?_)
  subst ex
  obtain rfl : u = Value.ref a := rx
  exact getattr_ok I1 ea c n l fun u' s2 I2 ru => ⟨v, H1, I2, ru, q⟩
theorem ps_fldC {C : Addr} (c : Cls X.K C) (n : NoAttr X.K C f) (ha : PE X o ta) (hv : PE X value tv) (hs : swapsWith value (some (.Attribute o f pos')) pos.line X.env = pure false := by rfl) : PS X (.Assign [.Attribute o f pos'] value pos) (sF C ta tv f) := by
  refine ⟨fun pins s σ H D I h => ?_⟩
  refine plainObj_wpAny_Assign_Attribute (thn (hv.run pins s σ H _ I h) fun u s1 ⟨y, H1, I1, ry, q⟩ => thn (ha.run pins s1 σ H1 _ I1 q) fun ov s2 ⟨x, H2, I2, rx, a, dx, fs, ex, ea, l, q2⟩ => ?_) hs
  subst ex
  obtain rfl : ov = Value.ref a := rx
  exact setattr_ok I2 ea c n l ry fun s3 I3 => ⟨σ, _, I3, q2⟩
theorem ix_dict (hu : X.A.units + 64 < cLine) : IxR X rIxD := by
  intro value slice pins s σ H x y v u Q I rx ry h hs
  obtain ⟨a, z, rfl, g, q⟩ := h
  obtain rfl : v = Value.ref a := rx
  exact tail_any (dict_typeIs I g) PySem.F.slot_dict_getitem.lookup (d_getItem (by omega) I g ry fun w' s' I' rw' => ⟨z, H, I', rw', q⟩) hs
theorem ix_U (hu : X.A.units + 64 < cLine) : IxR X (rIxU X.K) := ix_list.or (ix_tup.or (ix_str.or (ix_dict hu)))
theorem op_inD (hu : X.A.units + 64 < cLine) : OpR X (compareOp .In) rInD := by
  intro pins s σ H y x iv u Q I ry rx h
  obtain ⟨a, ov, rfl, g, q⟩ := h
  obtain rfl : u = Value.ref a := rx
  exact d_in (by omega) I g ry fun s3 I3 => ⟨.bl ov.isSome, H, I3, rfl, q⟩
theorem op_notInD (hu : X.A.units + 64 < cLine) : OpR X (compareOp .NotIn) rNotInD := by
  intro pins s σ H y x iv u Q I ry rx h
  obtain ⟨a, ov, rfl, g, q⟩ := h
  obtain rfl : u = Value.ref a := rx
  exact d_notIn (by omega) I g ry fun s3 I3 => ⟨.bl (!ov.isSome), H, I3, rfl, q⟩
theorem in1_lt {A : Around} (hu : A.units + 64 < cLine) : A.in1.units < cLine := by
  show A.units + 1 < cLine
  omega
theorem eqAt_O {pins : List (Addr × Obj)} {σ : L2.St} {H : Hp} {s : Shared} {A : Around} (hu : A.units < cLine) (I : Inv X pins σ H s) {a : Addr} {o : HO} (ha : H a = some o) (hs : seqO o = true) (z : Str) (t : Tok) : SeqAt.EqAt A s (.str z t) (.ref a) false := by
  cases o with
  | lst xs =>
    obtain ⟨_, its, m, rv, p⟩ : xs.length ≤ sizeLine ∧ ∃ (its : List Value) (m : Nat), Vals xs its ∧ s.heap.get? a = some { cls := .type "list", data := .seq its.toArray m } := I.hok a _ ha
    exact SeqAt.EqAt.str_list z t ⟨_, p, rfl, m, rfl⟩ hu
  | tup xs =>
    obtain ⟨_, its, rv, p⟩ : xs.length ≤ sizeLine ∧ ∃ its : List Value, Vals xs its ∧ IsTup s.heap a its.toArray := I.hok a _ ha
    exact SeqAt.EqAt.str_tuple z t p hu
  | dK kvs =>
    obtain ⟨_, _, rs, rel, da⟩ : kvs.length ≤ sizeLine ∧ (a == sysModules) = false ∧ ∃ rs, KV kvs rs ∧ s.heap.DictOf (mixKind X.prog X.w) a rs := I.hok a _ ha
    obtain ⟨⟨c, d, dat, sl⟩, es, ep, h1, h2, h3, _⟩ := da
    cases h2.1
    cases h3
    exact eq_str_dict z t ⟨d, es, ep, sl, h1⟩ hu
  | _ => cases hs
theorem all_O {pins : List (Addr × Obj)} {σ : L2.St} {H : Hp} {s : Shared} {A : Around} (hu : A.units < cLine) (I : Inv X pins σ H s) {a : Addr} {o : HO} (ha : H a = some o) (hs : seqO o = true) : ∀ {ns : List Str} {its : List Value}, Vals (ns.map V.str) its → ∀ w ∈ its, SeqAt.EqAt A s w (.ref a) false
  | [], _, r => fun w m => by cases r; cases m
  | n :: ns, _, .cons r t => fun w m => by
    rcases List.mem_cons.mp m with rfl | m
    · obtain ⟨t, rfl⟩ := r
      exact eqAt_O hu I ha hs n t
    · exact all_O hu I ha hs t w m
theorem op_inO (hu : X.A.units + 64 < cLine) : OpR X (compareOp .In) (rInO X.K false) := by
  intro pins s σ H x y v u Q I rx ry h
  obtain ⟨a, o, p, ns, rfl, ha, hs, rfl, hq, q⟩ := h
  cases ry
  cases rx
  obtain ⟨its, r, pl, hz⟩ := I.list hq
  refine SeqAt.in_listAt (fun _ => false) pl.isList (fun w hw => all_O (in1_lt hu) I ha hs r w (by simpa using hw)) ⟨.bl _, H, I, rfl, ?_⟩
  rw [show its.toArray.any (fun _ => false) = false by simp]
  exact q
theorem op_notInO (hu : X.A.units + 64 < cLine) : OpR X (compareOp .NotIn) (rInO X.K true) := by
  intro pins s σ H x y v u Q I rx ry h
  obtain ⟨a, o, p, ns, rfl, ha, hs, rfl, hq, q⟩ := h
  cases ry
  cases rx
  obtain ⟨its, r, pl, hz⟩ := I.list hq
  refine SeqAt.notIn_listAt (fun _ => false) pl.isList (fun w hw => all_O (in1_lt hu) I ha hs r w (by simpa using hw)) ⟨.bl _, H, I, rfl, ?_⟩
  rw [show (!its.toArray.any (fun _ => false)) = true by simp]
  exact q
theorem op_inU (hu : X.A.units + 64 < cLine) : OpR X (compareOp .In) (rInU X.K) := (op_inD hu).or (op_in_seq.or (op_in_sign.or (op_inO hu)))
theorem op_notInU (hu : X.A.units + 64 < cLine) : OpR X (compareOp .NotIn) (rNotInU X.K) := (op_notInD hu).or (op_notIn_seq.or (op_notIn_sign.or (op_notInO hu)))
theorem op_addU : OpR X (binaryOp .Add) (rAddU X.K) := (show OpR X (binaryOp .Add) rAddI from op_add).or ((show OpR X (binaryOp .Add) rAddS from op_add_str).or (op_cat.or op_catT))
theorem op_mulI : OpR X (binaryOp .Mult) rMulI := op_mulW
theorem op_modI : OpR X (binaryOp .Mod) rModI := op_mod
theorem op_divI : OpR X (binaryOp .FloorDiv) rDivI := op_fdivW
theorem op_powI : OpR X (binaryOp .Pow) rPowI := op_pow
theorem op_subI : OpR X (binaryOp .Sub) rSubI := op_sub
theorem op_ltI : OpR X (compareOp .Lt) rLtI := op_lt
theorem op_leI : OpR X (compareOp .LtE) rLeI := op_le
theorem op_gtI : OpR X (compareOp .Gt) rGtI := op_gt
theorem op_geI : OpR X (compareOp .GtE) rGeI := op_ge
theorem op_isNn : OpR X (compareOp .Is) rIsN := op_isN
theorem op_notNn : OpR X (compareOp .IsNot) rNotN := op_notN
/-- a store d[y] = v, or xs[i] = v, by values -/
def rSetD : TSet := fun x y v H Q => ∃ a H', x = .ref a ∧ DPut H a y v H' ∧ Q H'
theorem set_dict (hu : X.A.units + 64 < cLine) : PSet X rSetD := by
  intro pins s σ H o i v ov iv u Q I ro ri rv h
  obtain ⟨a, H', rfl, g, q⟩ := h
  obtain rfl : ov = Value.ref a := ro
  exact d_setItem (by omega) I g ri rv fun s' I' => ⟨H', I', q⟩
def rSetU : TSet := fun x y v H Q => rSetD x y v H Q ∨ rSetL x y v H Q
theorem set_U (hu : X.A.units + 64 < cLine) : PSet X rSetU := by
  intro pins s σ H o i v ov iv u Q I ro ri rv h
  rcases h with h | h
  · exact set_dict hu pins s σ H o i v ov iv u Q I ro ri rv h
  · exact set_list pins s σ H o i v ov iv u Q I ro ri rv h
/-- the start of a def's body, its promise at hand -/
theorem pi_or {tg it : Expr} {w1 w2 : TI} (h1 : PI X tg it w1) (h2 : PI X tg it w2) : PI X tg it (fun σ H R => w1 σ H R ∨ w2 σ H R) :=
  ⟨fun pins s σ H R I h => h.elim (fun z => h1.run pins s σ H R I z) fun z => h2.run pins s σ H R I z⟩
end

/-! ### leaves -/
section
variable {K : PySem.W.Frag} {H : Hp} {i j : Int} {x y : Str} {p q : Addr} {xs : List V} {v w : V} {kvs : List (Key × V)}
theorem lf_addI : Lf (rAddU K) (.int i) (.int j) H (.int (i + j)) := fun _ h => .inl ⟨i, j, rfl, rfl, h⟩
theorem lf_addS (h : x.length + y.length ≤ sizeLine) : Lf (rAddU K) (.str x) (.str y) H (.str (x ++ y)) := fun _ q => .inr (.inl ⟨x, y, rfl, rfl, h, q⟩)
theorem lf_sub : Lf rSubI (.int i) (.int j) H (.int (i - j)) := fun _ q => ⟨i, j, rfl, rfl, q⟩
theorem lf_mul (h : CMulW i j) : Lf rMulI (.int i) (.int j) H (.int (i * j)) := fun _ q => ⟨i, j, rfl, rfl, h, q⟩
theorem lf_mod (h : 0 < j) : Lf rModI (.int i) (.int j) H (.int (i % j)) := fun _ q => ⟨i, j, rfl, rfl, h, q⟩
theorem lf_div (h : CDivW i j) : Lf rDivI (.int i) (.int j) H (.int (i / j)) := fun _ q => ⟨i, j, rfl, rfl, h, q⟩
theorem lf_pow (h : CPow i j) : Lf rPowI (.int i) (.int j) H (.int (i ^ j.toNat)) := fun _ q => ⟨i, j, rfl, rfl, h, q⟩
theorem lf_lt : Lf rLtI (.int i) (.int j) H (.bl (decide (i < j))) := fun _ q => ⟨i, j, rfl, rfl, q⟩
theorem lf_le : Lf rLeI (.int i) (.int j) H (.bl (decide (i ≤ j))) := fun _ q => ⟨i, j, rfl, rfl, q⟩
theorem lf_gt : Lf rGtI (.int i) (.int j) H (.bl (decide (j < i))) := fun _ q => ⟨i, j, rfl, rfl, q⟩
theorem lf_ge : Lf rGeI (.int i) (.int j) H (.bl (decide (j ≤ i))) := fun _ q => ⟨i, j, rfl, rfl, q⟩
theorem lf_isN : Lf rIsN v .non H (.bl (decide (v = .non))) := fun _ q => ⟨rfl, q⟩
theorem lf_notN : Lf rNotN v .non H (.bl (!decide (v = .non))) := fun _ q => ⟨rfl, q⟩
theorem lf_ixL (h : H p = some (.lst xs)) (ha : atI xs i = some v) : Lf (rIxU K) (.ref p) (.int i) H v := fun _ q => .inl ⟨p, xs, i, v, rfl, rfl, SqL.of h, ha, q⟩
theorem lf_ixLf {o : Obj} (h : H p = some (.frz o (.lst xs))) (ha : atI xs i = some v) : Lf (rIxU K) (.ref p) (.int i) H v := fun _ q => .inl ⟨p, xs, i, v, rfl, rfl, .inl (.inr ⟨o, h⟩), ha, q⟩
theorem lf_ixLq (h : SqL K H p xs) (ha : atI xs i = some v) : Lf (rIxU K) (.ref p) (.int i) H v := fun _ q => .inl ⟨p, xs, i, v, rfl, rfl, h, ha, q⟩
theorem lf_ixT (h : H p = some (.tup xs)) (ha : atI xs i = some v) : Lf (rIxU K) (.ref p) (.int i) H v := fun _ q => .inr (.inl ⟨p, xs, i, v, rfl, rfl, SqT.of h, ha, q⟩)
theorem lf_ixS {c : Nat} (h : x.length ≤ sizeLine) (ha : atI x.cps.toList i = some c) : Lf (rIxU K) (.str x) (.int i) H (.str ⟨#[c]⟩) := fun _ q => .inr (.inr (.inl ⟨x, i, c, rfl, rfl, h, ha, q⟩))
theorem lf_ixD (h : H p = some (.dK kvs)) (ha : valV kvs (.inr x) = some v) : Lf (rIxU K) (.ref p) (.str x) H v := fun _ q => .inr (.inr (.inr ⟨p, v, rfl, by have g := DGet.k (k := .inr x) h; rw [ha] at g; exact g, q⟩))
theorem lf_inD (h : H p = some (.dK kvs)) : Lf (rInU K) (.str x) (.ref p) H (.bl (valV kvs (.inr x)).isSome) := fun _ q => .inl ⟨p, _, rfl, DGet.k (k := .inr x) h, q⟩
theorem lf_notInD (h : H p = some (.dK kvs)) : Lf (rNotInU K) (.str x) (.ref p) H (.bl (!(valV kvs (.inr x)).isSome)) := fun _ q => .inl ⟨p, _, rfl, DGet.k (k := .inr x) h, q⟩
theorem flat_strs (ns : List Str) : (ns.map V.str).all flatV = true := List.all_eq_true.mpr fun v hv => by
  obtain ⟨n, _, rfl⟩ := List.mem_map.mp hv
  rfl
theorem inV_strs (x : Str) (ns : List Str) : inV (.str x) (ns.map V.str) = decide (x ∈ ns) := by
  unfold inV
  rw [List.any_map]
  rw [Bool.eq_iff_iff]
  simp only [List.any_eq_true, Function.comp, decide_eq_true_eq]
  constructor
  · rintro ⟨y, hy, e⟩
    have e' : (y == x) = true := by simpa [eqV] using e
    rw [← beq_iff_eq.mp e']
    exact hy
  · intro h
    exact ⟨x, h, by simp [eqV]⟩
theorem lf_inL {ns : List Str} (h : H p = some (.lst (ns.map V.str))) : Lf (rInU K) (.str x) (.ref p) H (.bl (decide (x ∈ ns))) := fun Q q =>
  .inr (.inl ⟨p, ns.map V.str, rfl, .inl (SqL.of h), rfl, flat_strs ns, by rw [if_neg Bool.false_ne_true, inV_strs]; exact q⟩)
theorem lf_notInL {ns : List Str} (h : H p = some (.lst (ns.map V.str))) : Lf (rNotInU K) (.str x) (.ref p) H (.bl (!decide (x ∈ ns))) := fun Q q =>
  .inr (.inl ⟨p, ns.map V.str, rfl, .inl (SqL.of h), rfl, flat_strs ns, by rw [if_pos rfl, inV_strs]; exact q⟩)
theorem lf_inS {c : Nat} : Lf (rInU K) (.str ⟨#[c]⟩) (.str y) H (.bl (decide (c ∈ y.cps.toList))) := fun _ q => .inr (.inr (.inl ⟨c, y, rfl, rfl, q⟩))
theorem lf_notInS {c : Nat} : Lf (rNotInU K) (.str ⟨#[c]⟩) (.str y) H (.bl (!decide (c ∈ y.cps.toList))) := fun _ q => .inr (.inr (.inl ⟨c, y, rfl, rfl, q⟩))
theorem lf_inO {a : Addr} {o : HO} {ns : List Str} (ha : H a = some o) (hs : seqO o = true) (h : H p = some (.lst (ns.map V.str))) : Lf (rInU K) (.ref a) (.ref p) H (.bl false) := fun _ q => .inr (.inr (.inr ⟨a, o, p, ns, rfl, ha, hs, rfl, SqL.of h, q⟩))
theorem lf_notInO {a : Addr} {o : HO} {ns : List Str} (ha : H a = some o) (hs : seqO o = true) (h : H p = some (.lst (ns.map V.str))) : Lf (rNotInU K) (.ref a) (.ref p) H (.bl true) := fun _ q => .inr (.inr (.inr ⟨a, o, p, ns, rfl, ha, hs, rfl, SqL.of h, q⟩))
theorem lf_inNon {ns : List Str} (h : H p = some (.lst (ns.map V.str))) : Lf (rInU K) .non (.ref p) H (.bl false) := fun Q q =>
  .inr (.inl ⟨p, ns.map V.str, rfl, .inl (SqL.of h), rfl, flat_strs ns, by rw [if_neg Bool.false_ne_true, show inV .non (ns.map V.str) = false by unfold inV; rw [List.any_map]; exact List.any_eq_false.mpr fun x _ => by simp [eqV]]; exact q⟩)
theorem lf_notInNon {ns : List Str} (h : H p = some (.lst (ns.map V.str))) : Lf (rNotInU K) .non (.ref p) H (.bl true) := fun Q q =>
  .inr (.inl ⟨p, ns.map V.str, rfl, .inl (SqL.of h), rfl, flat_strs ns, by rw [if_pos rfl, show inV .non (ns.map V.str) = false by unfold inV; rw [List.any_map]; exact List.any_eq_false.mpr fun x _ => by simp [eqV]]; exact q⟩)
theorem lf_inInt {i : Int} {ns : List Str} (h : H p = some (.lst (ns.map V.str))) : Lf (rInU K) (.int i) (.ref p) H (.bl false) := fun Q q =>
  .inr (.inl ⟨p, ns.map V.str, rfl, .inl (SqL.of h), rfl, flat_strs ns, by rw [if_neg Bool.false_ne_true, show inV (.int i) (ns.map V.str) = false by unfold inV; rw [List.any_map]; exact List.any_eq_false.mpr fun x _ => by simp [eqV]]; exact q⟩)
theorem lf_notInInt {i : Int} {ns : List Str} (h : H p = some (.lst (ns.map V.str))) : Lf (rNotInU K) (.int i) (.ref p) H (.bl true) := fun Q q =>
  .inr (.inl ⟨p, ns.map V.str, rfl, .inl (SqL.of h), rfl, flat_strs ns, by rw [if_pos rfl, show inV (.int i) (ns.map V.str) = false by unfold inV; rw [List.any_map]; exact List.any_eq_false.mpr fun x _ => by simp [eqV]]; exact q⟩)
theorem val_fld {C a dx : Addr} {fs : List (Str × V)} {f : Str} {σ : L2.St} {ta : TE} (ha : Val ta σ H (.ref a)) (ho : H a = some (.ins C dx fs)) (hl : fs.lookup f = some v) : Val (tF C ta f) σ H v :=
  fun _ q => ha _ ⟨a, dx, fs, v, rfl, ho, hl, q⟩
theorem lc_lenL (h : H p = some (.lst xs)) : LC (fun xs H Q => ∃ x n, xs = [x] ∧ LenV K x H n ∧ Q (.int n) H) [.ref p] H (.int xs.length) := fun _ q => ⟨_, _, rfl, .inl ⟨xs, SqL.of h, rfl⟩, q⟩
theorem lc_lenT (h : H p = some (.tup xs)) : LC (fun xs H Q => ∃ x n, xs = [x] ∧ LenV K x H n ∧ Q (.int n) H) [.ref p] H (.int xs.length) := fun _ q => ⟨_, _, rfl, .inr ⟨xs, SqT.of h, rfl⟩, q⟩
/-- len of a list, a tuple, a str, a dict -/
def rLenU (K : PySem.W.Frag) : List V → Hp → VK → Prop := fun xs H Q => (∃ x n, xs = [x] ∧ LenV K x H n ∧ Q (.int n) H) ∨ ∃ a kvs, xs = [V.ref a] ∧ H a = some (.dK kvs) ∧ Q (.int kvs.length) H
theorem call_lenU {X : Cx} : CallR X (.builtin "len") (rLenU X.K) := call_len.or call_lenD
theorem lc_lenUL (h : H p = some (.lst xs)) : LC (rLenU K) [.ref p] H (.int xs.length) := fun Q q => .inl (lc_lenL (K := K) h Q q)
theorem lc_lenUq (h : SqL K H p xs) : LC (rLenU K) [.ref p] H (.int xs.length) := fun Q q => .inl ⟨_, _, rfl, .inl ⟨xs, h, rfl⟩, q⟩
theorem lc_lenUT (h : H p = some (.tup xs)) : LC (rLenU K) [.ref p] H (.int xs.length) := fun Q q => .inl (lc_lenT (K := K) h Q q)
theorem lc_lenUS (h : x.length ≤ sizeLine) : LC (rLenU K) [.str x] H (.int x.length) := fun Q q => .inl ⟨_, _, rfl, ⟨h, rfl⟩, q⟩
theorem lc_lenUD (h : H p = some (.dK kvs)) : LC (rLenU K) [.ref p] H (.int kvs.length) := fun Q q => .inr ⟨p, kvs, rfl, h, q⟩
def rIntU : List V → Hp → VK → Prop := fun xs H Q => (∃ i, xs = [.int i] ∧ Q (.int i) H) ∨ ∃ k, xs = [.bl k] ∧ Q (.int (if k then 1 else 0)) H
theorem lc_intB {k : Bool} : LC rIntU [.bl k] H (.int (if k then 1 else 0)) := fun _ q => .inr ⟨k, rfl, q⟩
theorem call_intU {X : Cx} : CallR X (.type "int") rIntU := call_int1
def rMax2 : List V → Hp → VK → Prop := fun xs H Q => ∃ i j, xs = [.int i, .int j] ∧ Q (.int (if j > i then j else i)) H
theorem call_maxU {X : Cx} (hc : X.calm = true) : CallR X (.builtin "max") rMax2 := call_max2 hc
theorem lc_max : LC rMax2 [.int i, .int j] H (.int (if j > i then j else i)) := fun _ q => ⟨i, j, rfl, q⟩
end

/-! ### steps -/
section
variable {K : PySem.W.Frag} {σ : L2.St} {H : Hp} {D : Ends} {ta tb te : TE} {tc : TT} {t u : TS} {x y v : V} {i : Nat} {b : Bool}
theorem st_seq (h : t { D with nx := u D } σ H) : tSeq t u D σ H := h
theorem st_if (h : Ans tc σ H b) (k : if b = true then t D σ H else u D σ H) : tIfS tc t u D σ H := h _ k
theorem st_ifT (h : Ans tc σ H b) (k : b = true → t D σ H) (k2 : b = false → u D σ H) : tIfS tc t u D σ H := h _ (by
  cases b with
  | true => rw [if_pos rfl]; exact k rfl
  | false => rw [if_neg Bool.false_ne_true]; exact k2 rfl)
theorem st_next (h : D.nx σ H) : tNext D σ H := h
theorem st_asg (h : Val te σ H v) (k : D.nx (σ.set i (some v)) H) : tAsg te (gName i) D σ H := h _ k
theorem st_ret (h : Val te σ H v) (k : D.rt v H) : tRet te D σ H := h _ k
theorem st_drop (h : te σ H fun _ H1 => D.nx σ H1) : tDrop te D σ H := h
theorem st_asgC (h : te σ H fun x H1 => D.nx (σ.set i (some x)) H1) : tAsg te (gName i) D σ H := h
theorem st_retC (h : te σ H D.rt) : tRet te D σ H := h
theorem st_val {Q : VK} (h : Val te σ H v) (k : Q v H) : te σ H Q := h Q k
theorem st_vals {tx : TA} {vs : List V} {Q : List V → Hp → Prop} (h : VA tx σ H vs) (k : Q vs H) : tx σ H Q := h Q k
theorem st_fld {C a dx : Addr} {fs gs : List (Str × V)} {f : Str} (hv : Val te σ H v) (ho : Val ta σ H (.ref a)) (ha : H a = some (.ins C dx fs)) (hz : fs.length < 1000) (hp : putF f v fs = gs) (k : D.nx σ (upd H a (.ins C dx gs))) : sF C ta te f D σ H :=
  hv _ (ho _ ⟨a, dx, fs, rfl, ha, hz, by rw [hp]; exact k⟩)
theorem st_tup {tx : TA} {vs : List V} {Q : VK} (h : VA tx σ H vs) (hz : vs.length ≤ sizeLine) (k : ∀ p, H p = none → Q (.ref p) (upd H p (.tup vs))) : tTup tx σ H Q := h _ ⟨hz, k⟩
theorem st_lst {tx : TA} {vs : List V} {Q : VK} (h : VA tx σ H vs) (hz : vs.length ≤ sizeLine) (k : ∀ p, H p = none → Q (.ref p) (upd H p (.lst vs))) : tLst tx σ H Q := h _ ⟨hz, k⟩
theorem st_append {l : Addr} {xs : List V} {Q : VK} (ho : Val ta σ H (.ref l)) (hl : H l = some (.lst xs)) (he : Val te σ H v) (hz : xs.length < sizeLine) (k : Q .non (upd H l (.lst (xs ++ [v])))) : tBM K "list" rAppend ta (tCons te tNil) σ H Q :=
  ho _ ⟨.inl ⟨rfl, xs, SqL.of hl⟩, he _ ⟨l, xs, v, rfl, rfl, hl, hz, k⟩⟩
theorem st_appendC {l : Addr} {xs : List V} {Q : VK} (ho : Val ta σ H (.ref l)) (hl : H l = some (.lst xs)) (he : te σ H fun v H1 => ∃ ys, H1 l = some (.lst ys) ∧ ys.length < sizeLine ∧ Q .non (upd H1 l (.lst (ys ++ [v])))) : tBM K "list" rAppend ta (tCons te tNil) σ H Q :=
  ho _ ⟨.inl ⟨rfl, xs, SqL.of hl⟩, by
    show te σ H _
    have e : (fun (x : V) (H1 : Hp) => tNil σ H1 fun xs H2 => rAppend (.ref l) (x :: xs) H2 Q) = fun v H1 => rAppend (.ref l) [v] H1 Q := rfl
    show te σ H (fun (x : V) (H1 : Hp) => tNil σ H1 fun xs H2 => rAppend (.ref l) (x :: xs) H2 Q)
    rw [e]
    have e2 : (fun (v : V) (H1 : Hp) => ∃ ys, H1 l = some (.lst ys) ∧ ys.length < sizeLine ∧ Q .non (upd H1 l (.lst (ys ++ [v])))) = fun v H1 => rAppend (.ref l) [v] H1 Q := by
      funext v H1
      apply propext
      constructor
      · rintro ⟨ys, h1, h2, h3⟩
        exact ⟨l, ys, v, rfl, rfl, h1, h2, h3⟩
      · rintro ⟨l', ys, v', e1, e2, h1, h2, h3⟩
        cases e1
        cases e2
        exact ⟨ys, h1, h2, h3⟩
    rw [← e2]
    exact he⟩
theorem st_setD {a : Addr} {kvs : List (Key × V)} {s : Str} {to ti : TE} (hv : Val te σ H v) (ho : Val to σ H (.ref a)) (hi : Val ti σ H (.str s)) (ha : H a = some (.dK kvs)) (hz : kvs.length < sizeLine)
    (k : D.nx σ (upd H a (.dK (putK kvs (.inr s) v)))) : tAsg te (gSub to ti rSetU) D σ H := hv _ (ho _ (hi _ (.inl ⟨a, _, rfl, DPut.k (k := .inr s) ha hz, k⟩)))
theorem st_setDC {a : Addr} {s : Str} {to ti : TE} (h : te σ H fun v H1 => Val to σ H1 (.ref a) ∧ Val ti σ H1 (.str s) ∧ ∃ kvs, H1 a = some (.dK kvs) ∧ kvs.length < sizeLine ∧ D.nx σ (upd H1 a (.dK (putK kvs (.inr s) v)))) (mono : ∀ P P' : VK, (∀ v H, P v H → P' v H) → te σ H P → te σ H P') : tAsg te (gSub to ti rSetU) D σ H :=
  mono _ _ (fun v H1 ⟨h1, h2, kvs, h3, h4, h5⟩ => h1 _ (h2 _ (.inl ⟨a, _, rfl, DPut.k (k := .inr s) h3 h4, h5⟩))) h
theorem st_untup {K : PySem.W.Frag} {p : Addr} {xs : List V} {n : Nat} {g : TGs} (hv : Val te σ H (.ref p)) (hp : H p = some (.tup xs)) (hn : xs.length = n) (k : g xs σ H D.nx) : tAsg te (gTup K n g) D σ H := hv _ ⟨p, xs, rfl, SqT.of hp, hn, k⟩
theorem st_gcons {g : TG} {gs : TGs} {Q : L2.St → Hp → Prop} {xs : List V} (k : g v σ H fun σ' H' => gs xs σ' H' Q) : gCons g gs (v :: xs) σ H Q := ⟨v, xs, rfl, k⟩
theorem st_gname {Q : L2.St → Hp → Prop} (k : Q (σ.set i (some v)) H) : gName i v σ H Q := k
theorem st_gnil {Q : L2.St → Hp → Prop} (k : Q σ H) : gNil [] σ H Q := ⟨rfl, k⟩
theorem st_dnew {Q : VK} (k : ∀ p, H p = none → Q (.ref p) (upd H p (.dK []))) : tDNewK σ H Q := k
theorem st_meth {C a dx : Addr} {m : Str} {sp : Sp} {E : XK} {tx : TA} {fs : List (Str × V)} {Q : VK} (ho : Val ta σ H (.ref a)) (ha : H a = some (.ins C dx fs)) (hl : fs.lookup m = none) (k : tx σ H fun vs H2 => sp (.ref a :: (vs ++ [])) H2 Q E) : tMeth C m sp [] E ta tx σ H Q :=
  ho _ ⟨a, dx, fs, rfl, ha, hl, k⟩
theorem st_call {sp : Sp} {E : XK} {tx : TA} {Q : VK} {vs : List V} (h : VA tx σ H vs) (k : sp vs H Q E) : tCall sp [] E tx σ H Q := h _ (by rw [List.append_nil]; exact k)
theorem st_methV {C a dx : Addr} {m : Str} {sp : Sp} {E : XK} {tx : TA} {vs : List V} {fs : List (Str × V)} {Q : VK} (ho : Val ta σ H (.ref a)) (ha : H a = some (.ins C dx fs)) (hl : fs.lookup m = none) (h : VA tx σ H vs) (k : sp (.ref a :: vs) H Q E) : tMeth C m sp [] E ta tx σ H Q :=
  ho _ ⟨a, dx, fs, rfl, ha, hl, h _ (by rw [List.append_nil]; exact k)⟩
theorem val_get1 {a : Addr} {kvs : List (Key × V)} {s : Str} (ho : Val ta σ H (.ref a)) (he : Val te σ H (.str s)) (ha : H a = some (.dK kvs)) : Val (tDGet1 ta te) σ H ((valV kvs (.inr s)).getD .non) := fun _ q =>
  ho _ ⟨a, rfl, .inl ⟨kvs, .inl ha⟩, he _ ⟨_, DGet.k (k := .inr s) ha, q⟩⟩
theorem st_pop1 {a : Addr} {kvs : List (Key × V)} {s : Str} {Q : VK} (ho : Val ta σ H (.ref a)) (he : Val te σ H (.str s)) (ha : H a = some (.dK kvs)) (hv : valV kvs (.inr s) = some v) (k : Q v (upd H a (.dK (dropK kvs (.inr s))))) : tDPop1 ta te σ H Q :=
  ho _ ⟨a, rfl, .inl ⟨kvs, .inl ha⟩, he _ ⟨kvs, .inr s, v, ha, rfl, hv, k⟩⟩
theorem st_pop2 {a : Addr} {kvs : List (Key × V)} {s : Str} {Q : VK} {tx : TE} {z : V} (ho : Val ta σ H (.ref a)) (he : Val te σ H (.str s)) (hx : Val tx σ H z) (ha : H a = some (.dK kvs)) (k : ∀ v, valV kvs (.inr s) = some v → Q v (upd H a (.dK (dropK kvs (.inr s))))) (k2 : valV kvs (.inr s) = none → Q z H) : tDPop2 ta te tx σ H Q :=
  ho _ ⟨a, rfl, .inl ⟨kvs, .inl ha⟩, he _ (hx _ ⟨kvs, .inr s, ha, rfl, k, k2⟩)⟩
/-! literal fields, literal dicts -/
theorem lk_hit {f : Str} {fs : List (Str × V)} : List.lookup f ((f, v) :: fs) = some v := by simp [List.lookup]
theorem lk_miss {f g : Str} {fs : List (Str × V)} {r : Option V} (n : ¬ f = g) (h : List.lookup f fs = r) : List.lookup f ((g, v) :: fs) = r := by
  have e : (f == g) = false := by simpa using n
  simp only [List.lookup, e]
  exact h
theorem lk_nil {f : Str} : List.lookup f ([] : List (Str × V)) = none := rfl
theorem pf_nil {f : Str} : putF f v [] = [(f, v)] := rfl
theorem pf_hit {f : Str} {fs : List (Str × V)} : putF f v ((f, x) :: fs) = (f, v) :: fs := by simp [putF]
theorem pf_miss {f g : Str} {fs gs : List (Str × V)} (n : ¬ g = f) (h : putF f v fs = gs) : putF f v ((g, x) :: fs) = (g, x) :: gs := by
  unfold putF
  rw [if_neg n, h]
theorem vv_hit {k : Key} {kvs : List (Key × V)} : valV ((k, v) :: kvs) k = some v := valV_pos rfl
theorem vv_miss {k j : Key} {kvs : List (Key × V)} {r : Option V} (n : ¬ j = k) (h : valV kvs k = r) : valV ((j, v) :: kvs) k = r := (valV_neg n).trans h
theorem vv_nil {k : Key} : valV ([] : List (Key × V)) k = none := rfl
theorem pk_hit {k : Key} {kvs : List (Key × V)} (h : ¬ k ∈ kvs.map (·.1)) : putK ((k, x) :: kvs) k v = (k, v) :: kvs := by
  unfold putK
  have e : (((k, x) :: kvs).any fun kv => decide (kv.1 = k)) = true := by simp
  rw [if_pos e, List.map_cons, if_pos rfl]
  congr 1
  have e2 : ∀ q ∈ kvs, (if q.1 = k then (q.1, v) else q) = q := fun q hq => if_neg fun z => h (by rw [← z]; exact List.mem_map.mpr ⟨q, hq, rfl⟩)
  rw [List.map_congr_left e2, List.map_id'']
  exact fun _ => rfl
theorem nk_nil {k : Key} : ¬ k ∈ ([] : List (Key × V)).map (·.1) := fun m => nomatch m
theorem nk_cons {k j : Key} {kvs : List (Key × V)} (n : ¬ j = k) (h : ¬ k ∈ kvs.map (·.1)) : ¬ k ∈ ((j, v) :: kvs).map (·.1) := fun m => by
  rcases List.mem_cons.mp m with e | m
  · exact n e.symm
  · exact h m
theorem pk_nil {k : Key} : putK [] k v = [(k, v)] := rfl
theorem pk_miss {k j : Key} {kvs gs : List (Key × V)} (n : ¬ j = k) (h : putK kvs k v = gs) : putK ((j, x) :: kvs) k v = (j, x) :: gs := by
  rw [← h]
  unfold putK
  by_cases q : (kvs.any fun kv => decide (kv.1 = k)) = true
  · have e : (((j, x) :: kvs).any fun kv => decide (kv.1 = k)) = true := by simp only [List.any_cons, q, Bool.or_true]
    rw [if_pos e, if_pos q, List.map_cons, if_neg n]
  · have e : ¬ (((j, x) :: kvs).any fun kv => decide (kv.1 = k)) = true := by simp only [List.any_cons, decide_eq_false n, Bool.false_or]; exact q
    rw [if_neg e, if_neg q, List.cons_append]
theorem inr_ne {a b : Str} (h : ¬ a = b) : ¬ (Sum.inr a : Key) = Sum.inr b := fun z => h (Sum.inr.inj z)
end
end U

end
section
namespace U
open PySem PySem.Spec PyProof.Rows L2

/-! ### trees: what a value holds -/
inductive T where
  | non | bl (b : Bool) | int (i : Int) | str (s : Str) | tup (ts : List T) | lst (ts : List T) | dic (ks : List Key) (ts : List T)

mutual
def Rp (H : Hp) : T → V → Prop
  | .non, v => v = .non
  | .bl b, v => v = .bl b
  | .int i, v => v = .int i
  | .str s, v => v = .str s
  | .tup ts, v => ∃ a vs, v = .ref a ∧ H a = some (.tup vs) ∧ RpL H ts vs
  | .lst ts, v => ∃ a vs, v = .ref a ∧ H a = some (.lst vs) ∧ RpL H ts vs
  | .dic ks ts, v => ∃ a vs, v = .ref a ∧ H a = some (.dK (ks.zip vs)) ∧ ks.length = vs.length ∧ RpL H ts vs
def RpL (H : Hp) : List T → List V → Prop
  | [], vs => vs = []
  | t :: ts, vs => ∃ v r, vs = v :: r ∧ Rp H t v ∧ RpL H ts r
end
theorem RpL.len {H : Hp} : ∀ {ts : List T} {vs : List V}, RpL H ts vs → ts.length = vs.length
  | [], _, h => by
    rw [show _ = [] from h]
    rfl
  | t :: ts, _, h => by
    obtain ⟨v, r, rfl, _, h2⟩ := h
    rw [List.length_cons, List.length_cons, RpL.len h2]
theorem RpL.get {H : Hp} : ∀ {ts : List T} {vs : List V} {j : Nat} {t : T}, RpL H ts vs → ts[j]? = some t → ∃ v, vs[j]? = some v ∧ Rp H t v
  | [], _, _, _, _, e => by simp at e
  | t :: ts, _, 0, _, h, e => by
    obtain ⟨v, r, rfl, h1, h2⟩ := h
    cases (show t = _ from by simpa using e)
    exact ⟨v, rfl, h1⟩
  | t :: ts, _, j + 1, u, h, e => by
    obtain ⟨v, r, rfl, h1, h2⟩ := h
    obtain ⟨w, e2, h3⟩ := RpL.get (j := j) (t := u) h2 (by simpa using e)
    exact ⟨w, by simpa using e2, h3⟩
mutual
theorem Rp.det {H : Hp} : ∀ (t u : T) (x : V), Rp H t x → Rp H u x → t = u
  | .non, u, x, h, k => by
    have h : x = .non := h
    subst h
    cases u with
    | non => rfl
    | bl b => exact nomatch (show V.non = .bl b from k)
    | int b => exact nomatch (show V.non = .int b from k)
    | str b => exact nomatch (show V.non = .str b from k)
    | tup b => obtain ⟨_, _, z, _⟩ := k; cases z
    | lst b => obtain ⟨_, _, z, _⟩ := k; cases z
    | dic b c => obtain ⟨_, _, z, _⟩ := k; cases z
  | .bl a, u, x, h, k => by
    have h : x = .bl a := h
    subst h
    cases u with
    | non => exact nomatch (show V.bl a = .non from k)
    | bl b => cases (show V.bl a = .bl b from k); rfl
    | int b => exact nomatch (show V.bl a = .int b from k)
    | str b => exact nomatch (show V.bl a = .str b from k)
    | tup b => obtain ⟨_, _, z, _⟩ := k; cases z
    | lst b => obtain ⟨_, _, z, _⟩ := k; cases z
    | dic b c => obtain ⟨_, _, z, _⟩ := k; cases z
  | .int a, u, x, h, k => by
    have h : x = .int a := h
    subst h
    cases u with
    | non => exact nomatch (show V.int a = .non from k)
    | bl b => exact nomatch (show V.int a = .bl b from k)
    | int b => cases (show V.int a = .int b from k); rfl
    | str b => exact nomatch (show V.int a = .str b from k)
    | tup b => obtain ⟨_, _, z, _⟩ := k; cases z
    | lst b => obtain ⟨_, _, z, _⟩ := k; cases z
    | dic b c => obtain ⟨_, _, z, _⟩ := k; cases z
  | .str a, u, x, h, k => by
    have h : x = .str a := h
    subst h
    cases u with
    | non => exact nomatch (show V.str a = .non from k)
    | bl b => exact nomatch (show V.str a = .bl b from k)
    | int b => exact nomatch (show V.str a = .int b from k)
    | str b => cases (show V.str a = .str b from k); rfl
    | tup b => obtain ⟨_, _, z, _⟩ := k; cases z
    | lst b => obtain ⟨_, _, z, _⟩ := k; cases z
    | dic b c => obtain ⟨_, _, z, _⟩ := k; cases z
  | .tup ts, u, x, h, k => by
    obtain ⟨a, vs, rfl, ha, hs⟩ := h
    cases u with
    | non => exact nomatch (show V.ref a = .non from k)
    | bl b => exact nomatch (show V.ref a = .bl b from k)
    | int b => exact nomatch (show V.ref a = .int b from k)
    | str b => exact nomatch (show V.ref a = .str b from k)
    | tup us =>
      obtain ⟨b, ws, e, hb, hs'⟩ := k
      cases e
      rw [ha] at hb
      cases hb
      rw [RpL.det ts us vs hs hs']
    | lst us =>
      obtain ⟨b, ws, e, hb, hs'⟩ := k
      cases e
      rw [ha] at hb
      cases hb
    | dic ks us =>
      obtain ⟨b, ws, e, hb, _⟩ := k
      cases e
      rw [ha] at hb
      cases hb
  | .lst ts, u, x, h, k => by
    obtain ⟨a, vs, rfl, ha, hs⟩ := h
    cases u with
    | non => exact nomatch (show V.ref a = .non from k)
    | bl b => exact nomatch (show V.ref a = .bl b from k)
    | int b => exact nomatch (show V.ref a = .int b from k)
    | str b => exact nomatch (show V.ref a = .str b from k)
    | tup us =>
      obtain ⟨b, ws, e, hb, hs'⟩ := k
      cases e
      rw [ha] at hb
      cases hb
    | lst us =>
      obtain ⟨b, ws, e, hb, hs'⟩ := k
      cases e
      rw [ha] at hb
      cases hb
      rw [RpL.det ts us vs hs hs']
    | dic ks us =>
      obtain ⟨b, ws, e, hb, _⟩ := k
      cases e
      rw [ha] at hb
      cases hb
  | .dic ks ts, u, x, h, k => by
    obtain ⟨a, vs, rfl, ha, hl, hs⟩ := h
    cases u with
    | non => exact nomatch (show V.ref a = .non from k)
    | bl b => exact nomatch (show V.ref a = .bl b from k)
    | int b => exact nomatch (show V.ref a = .int b from k)
    | str b => exact nomatch (show V.ref a = .str b from k)
    | tup us =>
      obtain ⟨b, ws, e, hb, hs'⟩ := k
      cases e
      rw [ha] at hb
      cases hb
    | lst us =>
      obtain ⟨b, ws, e, hb, hs'⟩ := k
      cases e
      rw [ha] at hb
      cases hb
    | dic ks' us =>
      obtain ⟨b, ws, e, hb, hl', hs'⟩ := k
      cases e
      rw [ha] at hb
      have e : ks.zip vs = ks'.zip ws := by
        have := Option.some.inj hb
        injection this
      have e1 : ks = ks' := by
        have := congrArg (List.map Prod.fst) e
        rwa [List.map_fst_zip (by omega), List.map_fst_zip (by omega)] at this
      have e2 : vs = ws := by
        have := congrArg (List.map Prod.snd) e
        rwa [List.map_snd_zip (by omega), List.map_snd_zip (by omega)] at this
      subst e1
      subst e2
      rw [RpL.det ts us vs hs hs']
theorem RpL.det {H : Hp} : ∀ (ts us : List T) (xs : List V), RpL H ts xs → RpL H us xs → ts = us
  | [], us, xs, h, k => by
    have h : xs = [] := h
    subst h
    cases us with
    | nil => rfl
    | cons u us => obtain ⟨_, _, z, _⟩ := k; cases z
  | t :: ts, us, xs, h, k => by
    obtain ⟨v, r, rfl, h1, h2⟩ := h
    cases us with
    | nil => exact nomatch (show v :: r = [] from k)
    | cons u us =>
      obtain ⟨w, r', e, k1, k2⟩ := k
      cases e
      rw [Rp.det t u v h1 k1, RpL.det ts us r h2 k2]
end
/-! stability -/
mutual
theorem Rp.same {H H' : Hp} (f : ∀ b o, H b = some o → H' b = some o) : ∀ (t : T) (x : V), Rp H t x → Rp H' t x
  | .non, _, h => h
  | .bl _, _, h => h
  | .int _, _, h => h
  | .str _, _, h => h
  | .tup ts, _, h => by
    obtain ⟨a, vs, e, ha, hs⟩ := h
    exact ⟨a, vs, e, f _ _ ha, RpL.same f ts vs hs⟩
  | .lst ts, _, h => by
    obtain ⟨a, vs, e, ha, hs⟩ := h
    exact ⟨a, vs, e, f _ _ ha, RpL.same f ts vs hs⟩
  | .dic ks ts, _, h => by
    obtain ⟨a, vs, e, ha, hl, hs⟩ := h
    exact ⟨a, vs, e, f _ _ ha, hl, RpL.same f ts vs hs⟩
theorem RpL.same {H H' : Hp} (f : ∀ b o, H b = some o → H' b = some o) : ∀ (ts : List T) (xs : List V), RpL H ts xs → RpL H' ts xs
  | [], _, h => h
  | t :: ts, _, h => by
    obtain ⟨v, r, e, h1, h2⟩ := h
    exact ⟨v, r, e, Rp.same f t v h1, RpL.same f ts r h2⟩
end
/-! no list, no dict within -/
mutual
def imm : T → Bool
  | .tup ts => immL ts
  | .lst _ => false
  | .dic _ _ => false
  | _ => true
def immL : List T → Bool
  | [] => true
  | t :: ts => imm t && immL ts
end
mutual
theorem Rp.tups {H H' : Hp} (f : ∀ b xs, H b = some (.tup xs) → H' b = some (.tup xs)) : ∀ (t : T) (x : V), imm t = true → Rp H t x → Rp H' t x
  | .non, _, _, h => h
  | .bl _, _, _, h => h
  | .int _, _, _, h => h
  | .str _, _, _, h => h
  | .tup ts, _, i, h => by
    obtain ⟨a, vs, e, ha, hs⟩ := h
    exact ⟨a, vs, e, f _ _ ha, RpL.tups f ts vs i hs⟩
  | .lst _, _, i, _ => by cases i
  | .dic _ _, _, i, _ => by cases i
theorem RpL.tups {H H' : Hp} (f : ∀ b xs, H b = some (.tup xs) → H' b = some (.tup xs)) : ∀ (ts : List T) (xs : List V), immL ts = true → RpL H ts xs → RpL H' ts xs
  | [], _, _, h => h
  | t :: ts, _, i, h => by
    obtain ⟨v, r, e, h1, h2⟩ := h
    have i : (imm t && immL ts) = true := i
    rw [Bool.and_eq_true] at i
    exact ⟨v, r, e, Rp.tups f t v i.1 h1, RpL.tups f ts r i.2 h2⟩
end
/-! equality of trees, as == tells it -/
def lookT : List Key → List T → Key → Option T
  | k :: ks, t :: ts, j => if k = j then some t else lookT ks ts j
  | _, _, _ => none
mutual
def eqv : T → T → Bool
  | .tup a, u => match u with
    | .tup b => eqvL a b
    | _ => false
  | .lst a, u => match u with
    | .lst b => eqvL a b
    | _ => false
  | .dic ka a, u => match u with
    | .dic kb b => (ka.length == kb.length) && eqvD a ka kb b
    | _ => false
  | .non, u => match u with
    | .non => true
    | _ => false
  | .bl a, u => match u with
    | .bl b => a == b
    | .int b => (if a then 1 else 0) == b
    | _ => false
  | .int a, u => match u with
    | .bl b => a == (if b then 1 else 0)
    | .int b => a == b
    | _ => false
  | .str a, u => match u with
    | .str b => a == b
    | _ => false
def eqvL : List T → List T → Bool
  | [], us => us.isEmpty
  | t :: ts, us => match us with
    | u :: us => eqv t u && eqvL ts us
    | [] => false
def eqvD : List T → List Key → List Key → List T → Bool
  | [], _, _, _ => true
  | t :: ts, ks, kb, b => match ks with
    | k :: ks => (match lookT kb b k with
      | some u => eqv t u
      | none => false) && eqvD ts ks kb b
    | [] => true
end
mutual
def okE : T → T → Bool
  | .tup a, u => match u with
    | .tup b => okEL a b
    | _ => true
  | .lst a, u => match u with
    | .lst b => okEL a b
    | _ => true
  | .dic ka a, u => match u with
    | .dic kb b => okED a ka kb b
    | _ => true
  | _, _ => true
def okEL : List T → List T → Bool
  | [], _ => true
  | t :: ts, us => match us with
    | u :: us => okE t u && okEL ts us
    | [] => true
def okED : List T → List Key → List Key → List T → Bool
  | [], _, _, _ => true
  | t :: ts, ks, kb, b => match ks with
    | k :: ks => (match lookT kb b k with
      | some u => okE t u
      | none => true) && okED ts ks kb b
    | [] => true
end
mutual
theorem okE_all : ∀ t u : T, okE t u = true
  | .tup a, u => by cases u <;> first | exact okEL_all a _ | rfl
  | .lst a, u => by cases u <;> first | exact okEL_all a _ | rfl
  | .dic ka a, u => by cases u <;> first | exact okED_all a _ _ _ | rfl
  | .non, u => by cases u <;> rfl
  | .bl _, u => by cases u <;> rfl
  | .int _, u => by cases u <;> rfl
  | .str _, u => by cases u <;> rfl
theorem okEL_all : ∀ ts us : List T, okEL ts us = true
  | [], us => by cases us <;> rfl
  | t :: ts, [] => rfl
  | t :: ts, u :: us => by
    show (okE t u && okEL ts us) = true
    rw [okE_all t u, okEL_all ts us]
    rfl
theorem okED_all : ∀ (ts : List T) (ks kb : List Key) (b : List T), okED ts ks kb b = true
  | [], _, _, _ => rfl
  | t :: ts, [], _, _ => rfl
  | t :: ts, k :: ks, kb, b => by
    show ((match lookT kb b k with | some u => okE t u | none => true) && okED ts ks kb b) = true
    rw [okED_all ts ks kb b, Bool.and_true]
    cases e : lookT kb b k with
    | none => rfl
    | some u => exact okE_all t u
end
mutual
def dep : T → Nat
  | .tup a => depL a + 1
  | .lst a => depL a + 1
  | .dic _ a => depL a + 1
  | _ => 0
def depL : List T → Nat
  | [] => 0
  | t :: ts => max (dep t) (depL ts)
end
theorem dep_le : ∀ {ts : List T} {j : Nat} {t : T}, ts[j]? = some t → dep t ≤ depL ts
  | [], _, _, e => by simp at e
  | t :: ts, 0, _, e => by
    cases (show t = _ from by simpa using e)
    exact Nat.le_max_left _ _
  | t :: ts, j + 1, u, e => Nat.le_trans (dep_le (ts := ts) (j := j) (by simpa using e)) (Nat.le_max_right _ _)
theorem okEL_get : ∀ {ts us : List T} {j : Nat} {t u : T}, okEL ts us = true → ts[j]? = some t → us[j]? = some u → okE t u = true
  | [], _, _, _, _, _, e, _ => by simp at e
  | t :: ts, [], _, _, _, _, _, e => by simp at e
  | t :: ts, u :: us, 0, _, _, h, e, e' => by
    cases (show t = _ from by simpa using e)
    cases (show u = _ from by simpa using e')
    have h : (okE t u && okEL ts us) = true := h
    rw [Bool.and_eq_true] at h
    exact h.1
  | t :: ts, u :: us, j + 1, _, _, h, e, e' => by
    have h : (okE t u && okEL ts us) = true := h
    rw [Bool.and_eq_true] at h
    exact okEL_get h.2 (by simpa using e) (by simpa using e')
theorem eqvL_len : ∀ {ts us : List T}, ts.length ≠ us.length → eqvL ts us = false
  | [], [], h => absurd rfl h
  | [], _ :: _, _ => rfl
  | _ :: _, [], _ => rfl
  | t :: ts, u :: us, h => by
    show (eqv t u && eqvL ts us) = false
    rw [eqvL_len (by simpa using h), Bool.and_false]
/-- the j-th pair's answer -/
def eqAtJ (ts us : List T) (j : Nat) : Bool := match ts[j]?, us[j]? with
  | some t, some u => eqv t u
  | _, _ => true
theorem eqvL_all : ∀ {ts us : List T}, ts.length = us.length → (List.range ts.length).all (eqAtJ ts us) = eqvL ts us
  | [], [], _ => rfl
  | [], _ :: _, h => by simp at h
  | _ :: _, [], h => by simp at h
  | t :: ts, u :: us, h => by
    show (List.range (ts.length + 1)).all (eqAtJ (t :: ts) (u :: us)) = (eqv t u && eqvL ts us)
    rw [List.range_succ_eq_map, List.all_cons, List.all_map, ← eqvL_all (ts := ts) (us := us) (by simpa using h)]
    rfl
theorem eqvL_allMin : ∀ {ts us : List T}, ((List.range (min ts.length us.length)).all (eqAtJ ts us) && ts.length == us.length) = eqvL ts us := fun {ts us} => by
  by_cases h : ts.length = us.length
  · rw [h, Nat.min_self, beq_self_eq_true, Bool.and_true, ← h, eqvL_all h]
  · rw [eqvL_len h, beq_eq_false_iff_ne.mpr h, Bool.and_false]
theorem look_zip : ∀ {ks : List Key} {ts : List T} {j : Nat} {k : Key} {t : T}, ks.Nodup → ks[j]? = some k → ts[j]? = some t → lookT ks ts k = some t
  | [], _, _, _, _, _, e, _ => by simp at e
  | k :: ks, [], _, _, _, _, _, e => by simp at e
  | k :: ks, t :: ts, 0, _, _, _, e, e' => by
    cases (show k = _ from by simpa using e)
    cases (show t = _ from by simpa using e')
    exact if_pos rfl
  | k :: ks, t :: ts, j + 1, k', _, nd, e, e' => by
    obtain ⟨n1, n2⟩ := List.nodup_cons.mp nd
    have e2 : ks[j]? = some k' := by simpa using e
    have ne : ¬ k = k' := fun z => n1 (by rw [z]; exact List.mem_of_getElem? e2)
    show (if k = k' then some t else lookT ks ts k') = _
    rw [if_neg ne]
    exact look_zip n2 e2 (by simpa using e')
/-- what a key holds, and the tree of it -/
theorem look_val {H : Hp} : ∀ {ks : List Key} {ts : List T} {vs : List V} {k : Key}, ks.length = vs.length → RpL H ts vs →
    (lookT ks ts k = none ∧ valV (ks.zip vs) k = none) ∨ ∃ t v, lookT ks ts k = some t ∧ valV (ks.zip vs) k = some v ∧ Rp H t v
  | [], [], _, _, _, _ => .inl ⟨rfl, rfl⟩
  | [], _ :: _, _, _, hl, h => by
    obtain ⟨v, r, rfl, _, _⟩ := h
    simp at hl
  | _ :: _, [], _, _, hl, h => by
    rw [show _ = [] from h] at hl
    simp at hl
  | k :: ks, t :: ts, _, j, hl, h => by
    obtain ⟨v, r, rfl, h1, h2⟩ := h
    by_cases e : k = j
    · exact .inr ⟨t, v, if_pos e, valV_pos (p := (k, v)) e, h1⟩
    · have e1 : lookT (k :: ks) (t :: ts) j = lookT ks ts j := if_neg e
      have e2 : valV ((k :: ks).zip (v :: r)) j = valV (ks.zip r) j := valV_neg (p := (k, v)) e
      rw [e1, e2]
      exact look_val (by simpa using hl) h2
theorem eqvD_all {ka kb : List Key} {b : List T} : ∀ {a : List T} {vs : List V} (H : Hp), ka.length = vs.length → RpL H a vs → True := fun _ _ _ => trivial
def hitE (ka : List Key) (a : List T) (kb : List Key) (b : List T) (k : Key) : Bool := match lookT ka a k, lookT kb b k with
  | some t, some u => eqv t u
  | _, _ => false
theorem eqvD_is : ∀ (ka : List Key) (a : List T) (kb : List Key) (b : List T), ka.Nodup → ka.length = a.length →
    eqvD a ka kb b = ka.all fun k => (lookT kb b k).isSome && hitE ka a kb b k := by
  intro ka a kb b nd hl
  have gen : ∀ (ks : List Key) (ts : List T), ks.length = ts.length → (∀ (j : Nat) k t, ks[j]? = some k → ts[j]? = some t → lookT ka a k = some t) →
      eqvD ts ks kb b = ks.all fun k => (lookT kb b k).isSome && hitE ka a kb b k := by
    intro ks
    induction ks with
    | nil =>
      intro ts h _
      cases ts with
      | nil => rfl
      | cons t ts => simp at h
    | cons k ks ih =>
      intro ts h f
      cases ts with
      | nil => simp at h
      | cons t ts =>
        have e := f 0 k t rfl rfl
        rw [List.all_cons, ← ih ts (by simpa using h) fun j k t e1 e2 => f (j + 1) k t (by simpa using e1) (by simpa using e2)]
        show ((match lookT kb b k with | some u => eqv t u | none => false) && eqvD ts ks kb b) = _
        congr 1
        unfold hitE
        rw [e]
        cases lookT kb b k <;> simp
  exact gen ka a hl fun j k t e1 e2 => look_zip nd e1 e2
theorem okED_get : ∀ {ks : List Key} {ts : List T} {kb : List Key} {b : List T} {j : Nat} {k : Key} {t u : T}, okED ts ks kb b = true → ks[j]? = some k → ts[j]? = some t → lookT kb b k = some u → okE t u = true
  | [], _, _, _, _, _, _, _, _, e, _, _ => by simp at e
  | k :: ks, [], _, _, _, _, _, _, _, _, e, _ => by simp at e
  | k :: ks, t :: ts, kb, b, 0, _, _, u, h, e, e', l => by
    cases (show k = _ from by simpa using e)
    cases (show t = _ from by simpa using e')
    have h : ((match lookT kb b k with | some u => okE t u | none => true) && okED ts ks kb b) = true := h
    rw [Bool.and_eq_true, l] at h
    exact h.1
  | k :: ks, t :: ts, kb, b, j + 1, _, _, u, h, e, e', l => by
    have h : ((match lookT kb b k with | some u => okE t u | none => true) && okED ts ks kb b) = true := h
    rw [Bool.and_eq_true] at h
    exact okED_get h.2 (by simpa using e) (by simpa using e') l
/-! every dict's keys differ -/
mutual
def ndT : T → Prop
  | .tup a => ndTL a
  | .lst a => ndTL a
  | .dic ks a => ks.Nodup ∧ ks.length = a.length ∧ ndTL a
  | _ => True
def ndTL : List T → Prop
  | [] => True
  | t :: ts => ndT t ∧ ndTL ts
end
mutual
theorem eqv_refl : ∀ t : T, ndT t → eqv t t = true
  | .non, _ => rfl
  | .bl b, _ => beq_self_eq_true b
  | .int b, _ => beq_self_eq_true b
  | .str b, _ => beq_self_eq_true b
  | .tup a, h => eqvL_refl a h
  | .lst a, h => eqvL_refl a h
  | .dic ks a, h => by
    obtain ⟨nd, hl, ha⟩ := h
    show ((ks.length == ks.length) && eqvD a ks ks a) = true
    rw [beq_self_eq_true, Bool.true_and]
    exact eqvD_refl a ks ks a ha fun j k t e1 e2 => look_zip nd e1 e2
theorem eqvL_refl : ∀ ts : List T, ndTL ts → eqvL ts ts = true
  | [], _ => rfl
  | t :: ts, h => by
    show (eqv t t && eqvL ts ts) = true
    rw [eqv_refl t h.1, eqvL_refl ts h.2]
    rfl
theorem eqvD_refl : ∀ (ts : List T) (ks kb : List Key) (b : List T), ndTL ts → (∀ (j : Nat) k t, ks[j]? = some k → ts[j]? = some t → lookT kb b k = some t) → eqvD ts ks kb b = true
  | [], _, _, _, _, _ => rfl
  | t :: ts, [], _, _, _, _ => rfl
  | t :: ts, k :: ks, kb, b, h, f => by
    show ((match lookT kb b k with | some u => eqv t u | none => false) && eqvD ts ks kb b) = true
    rw [f 0 k t rfl rfl, eqvD_refl ts ks kb b h.2 fun j k t e1 e2 => f (j + 1) k t (by simpa using e1) (by simpa using e2)]
    show (eqv t t && true) = true
    rw [eqv_refl t h.1]
    rfl
end
section
variable {X : Cx} {pins : List (Addr × Obj)} {σ : L2.St} {H : Hp} {s : Shared}
mutual
theorem Rp.nd (I : Inv X pins σ H s) : ∀ (t : T) (x : V), Rp H t x → ndT t
  | .non, _, _ => trivial
  | .bl _, _, _ => trivial
  | .int _, _, _ => trivial
  | .str _, _, _ => trivial
  | .tup ts, _, h => by
    obtain ⟨a, vs, e, ha, hs⟩ := h
    exact RpL.nd I ts vs hs
  | .lst ts, _, h => by
    obtain ⟨a, vs, e, ha, hs⟩ := h
    exact RpL.nd I ts vs hs
  | .dic ks ts, _, h => by
    obtain ⟨a, vs, e, ha, hl, hs⟩ := h
    refine ⟨?_, ?_, RpL.nd I ts vs hs⟩
    · obtain ⟨_, _, ws, rel, o, es, ep, _, _, _, _, _, nd⟩ : (ks.zip vs).length ≤ sizeLine ∧ (a == sysModules) = false ∧ ∃ ws, KV (ks.zip vs) ws ∧ s.heap.DictOf (mixKind X.prog X.w) a ws := I.hok a _ ha
      rw [← rel.keys, List.map_fst_zip (by omega)] at nd
      exact nd
    · rw [hl, hs.len]
theorem RpL.nd (I : Inv X pins σ H s) : ∀ (ts : List T) (xs : List V), RpL H ts xs → ndTL ts
  | [], _, _ => trivial
  | t :: ts, _, h => by
    obtain ⟨v, r, e, h1, h2⟩ := h
    exact ⟨Rp.nd I t v h1, RpL.nd I ts r h2⟩
end
theorem flat_leaf {n : Nat} {x y : V} {v w : Value} {b : Bool} (rx : RelV x v) (ry : RelV y w) (fx : flatV x = true) (fy : flatV y = true) (e : eqV x y = b) : PySem.W.EqTree X.prog X.w s n v w b := by
  subst e
  exact .leaf fun A _ => eqAt_V rx ry fx fy
theorem Rp.shape {t : T} {x : V} (h : Rp H t x) : (flatV x = true) ∨ (∃ a vs ts, x = .ref a ∧ t = .tup ts ∧ H a = some (.tup vs) ∧ RpL H ts vs) ∨ (∃ a vs ts, x = .ref a ∧ t = .lst ts ∧ H a = some (.lst vs) ∧ RpL H ts vs) ∨ (∃ ks ts, t = .dic ks ts) := by
  cases t with
  | non => refine .inl ?_; have e : x = .non := h; subst e; rfl
  | bl b => refine .inl ?_; have e : x = .bl b := h; subst e; rfl
  | int b => refine .inl ?_; have e : x = .int b := h; subst e; rfl
  | str b => refine .inl ?_; have e : x = .str b := h; subst e; rfl
  | tup ts => obtain ⟨a, vs, e, ha, hs⟩ := h; exact .inr (.inl ⟨a, vs, ts, e, rfl, ha, hs⟩)
  | lst ts => obtain ⟨a, vs, e, ha, hs⟩ := h; exact .inr (.inr (.inl ⟨a, vs, ts, e, rfl, ha, hs⟩))
  | dic ks ts => exact .inr (.inr (.inr ⟨ks, ts, rfl⟩))
theorem flat_of {t : T} {x : V} (h : Rp H t x) (f : flatV x = true) : (t = .non ∧ x = .non) ∨ (∃ b, t = .bl b ∧ x = .bl b) ∨ (∃ b, t = .int b ∧ x = .int b) ∨ ∃ b, t = .str b ∧ x = .str b := by
  cases t with
  | non => exact .inl ⟨rfl, h⟩
  | bl b => exact .inr (.inl ⟨b, rfl, h⟩)
  | int b => exact .inr (.inr (.inl ⟨b, rfl, h⟩))
  | str b => exact .inr (.inr (.inr ⟨b, rfl, h⟩))
  | tup ts => obtain ⟨a, vs, e, _⟩ := h; subst e; cases f
  | lst ts => obtain ⟨a, vs, e, _⟩ := h; subst e; cases f
  | dic ks ts => obtain ⟨a, vs, e, _⟩ := h; subst e; cases f
/-- a value that is no reference, with any list or tuple -/
theorem flat_ref {n : Nat} {t : T} {x : V} {v : Value} (rx : RelV x v) (h : Rp H t x) (f : flatV x = true) {l : Addr} {its : Array Value} (hl : s.heap.IsList l its ∨ s.heap.IsTuple l its) :
    PySem.W.EqTree X.prog X.w s (n + 1) v (.ref l) false ∧ PySem.W.EqTree X.prog X.w s (n + 1) (.ref l) v false := by
  rcases flat_of h f with ⟨rfl, rfl⟩ | ⟨b, rfl, rfl⟩ | ⟨b, rfl, rfl⟩ | ⟨b, rfl, rfl⟩
  · cases (show v = .none from rx)
    rcases hl with hl | hl
    · exact ⟨.leaf fun A hu => SeqAt.EqAt.none_list hl (by omega), .leaf fun A hu => SeqAt.EqAt.list_none hl (by omega)⟩
    · exact ⟨.leaf fun A hu => SeqAt.EqAt.none_tuple hl (by omega), .leaf fun A hu => SeqAt.EqAt.tuple_none hl (by omega)⟩
  · cases (show v = .bool b from rx)
    rcases hl with hl | hl
    · exact ⟨.leaf fun A hu => SeqAt.EqAt.bool_list b hl (by omega), .leaf fun A hu => SeqAt.EqAt.list_bool b hl (by omega)⟩
    · exact ⟨.leaf fun A hu => SeqAt.EqAt.bool_tuple b hl (by omega), .leaf fun A hu => SeqAt.EqAt.tuple_bool b hl (by omega)⟩
  · obtain ⟨t, rfl⟩ := rx
    rcases hl with hl | hl
    · exact ⟨.leaf fun A hu => SeqAt.EqAt.int_list b t hl (by omega), .leaf fun A hu => SeqAt.EqAt.list_int b t hl (by omega)⟩
    · exact ⟨.leaf fun A hu => SeqAt.EqAt.int_tuple b t hl (by omega), .leaf fun A hu => SeqAt.EqAt.tuple_int b t hl (by omega)⟩
  · obtain ⟨t, rfl⟩ := rx
    rcases hl with hl | hl
    · exact ⟨.leaf fun A hu => SeqAt.EqAt.str_list b t hl (by omega), .leaf fun A hu => SeqAt.EqAt.list_str b t hl (by omega)⟩
    · exact ⟨.leaf fun A hu => SeqAt.EqAt.str_tuple b t hl (by omega), .leaf fun A hu => SeqAt.EqAt.tuple_str b t hl (by omega)⟩

theorem rel_get {xs : List V} {us : List Value} (r : Vals xs us) {j : Nat} {x : V} (h : xs[j]? = some x) (hj : j < us.toArray.size) : RelV x us.toArray[j] := by
  obtain ⟨u, e, ru⟩ := r.get h
  have hj' : j < us.length := by simpa using hj
  have e2 : us[j]? = some us[j] := List.getElem?_eq_getElem hj'
  rw [e] at e2
  cases e2
  simpa using ru
theorem isTuple_of {h : Heap} {a : Addr} {its : Array Value} (p : IsTup h a its) : h.IsTuple a its := p
theorem kv_get {κ : Type} [DecidableEq κ] : ∀ {kvs : List (κ × V)} {vs : List (κ × Value)} {k : κ} {w : Value}, KV kvs vs → (k, w) ∈ vs → ∃ (j : Nat) (v : V), kvs[j]? = some (k, v) ∧ RelV v w
  | _, _, _, _, .nil, m => nomatch m
  | _, _, k, w, .cons (a := p) (b := q) r t, m => by
    rcases List.mem_cons.mp m with e | m
    · subst e
      obtain ⟨e1, r1⟩ := r
      refine ⟨0, p.2, ?_, r1⟩
      have : p = (k, p.2) := by
        have e1 : p.1 = k := e1
        rw [← e1]
      simpa using this
    · obtain ⟨j, v, e1, r1⟩ := kv_get t m
      exact ⟨j + 1, v, by simpa using e1, r1⟩

theorem dct_of (I : Inv X pins σ H s) {a : Addr} {kvs : List (Key × V)} (ha : H a = some (.dK kvs)) : IsDct s a := by
  obtain ⟨_, _, rs, rel, da⟩ : kvs.length ≤ sizeLine ∧ (a == sysModules) = false ∧ ∃ rs, KV kvs rs ∧ s.heap.DictOf (mixKind X.prog X.w) a rs := I.hok a _ ha
  obtain ⟨⟨c, d, dat, sl⟩, es, ep, h1, h2, h3, _⟩ := da
  cases h2.1
  cases h3
  exact ⟨d, es, ep, sl, h1⟩
theorem flat_dct {n : Nat} {t : T} {x : V} {v : Value} (rx : RelV x v) (h : Rp H t x) (f : flatV x = true) {l : Addr} (hl : IsDct s l) :
    PySem.W.EqTree X.prog X.w s (n + 1) v (.ref l) false ∧ PySem.W.EqTree X.prog X.w s (n + 1) (.ref l) v false := by
  rcases flat_of h f with ⟨rfl, rfl⟩ | ⟨b, rfl, rfl⟩ | ⟨b, rfl, rfl⟩ | ⟨b, rfl, rfl⟩
  · cases (show v = .none from rx)
    exact ⟨.leaf fun A hu => eq_none_dict hl (by omega), .leaf fun A hu => eq_dict_none hl (by omega)⟩
  · cases (show v = .bool b from rx)
    exact ⟨.leaf fun A hu => eq_bool_dict b hl (by omega), .leaf fun A hu => eq_dict_bool b hl (by omega)⟩
  · obtain ⟨t, rfl⟩ := rx
    exact ⟨.leaf fun A hu => eq_int_dict b t hl (by omega), .leaf fun A hu => eq_dict_int b t hl (by omega)⟩
  · obtain ⟨t, rfl⟩ := rx
    exact ⟨.leaf fun A hu => eq_str_dict b t hl (by omega), .leaf fun A hu => eq_dict_str b t hl (by omega)⟩
/-- the tree of a comparison, one step -/
theorem eqTree_step (I : Inv X pins σ H s) (n : Nat) (ih : ∀ (t u : T) (x y : V) (v w : Value), dep t < n → Rp H t x → Rp H u y → RelV x v → RelV y w → okE t u = true → PySem.W.EqTree X.prog X.w s n v w (eqv t u))
    (t u : T) (x y : V) (v w : Value) (hd : dep t ≤ n) (h : Rp H t x) (k : Rp H u y) (rx : RelV x v) (ry : RelV y w) (ok : okE t u = true) : PySem.W.EqTree X.prog X.w s (n + 1) v w (eqv t u) := by
  rcases h.shape with fx | ⟨a, vs, ts, rfl, rfl, ha, hs⟩ | ⟨a, vs, ts, rfl, rfl, ha, hs⟩ | ⟨ks, ts, rfl⟩
  · -- a flat one
    rcases k.shape with fy | ⟨b, ws, us, rfl, rfl, hb, hs'⟩ | ⟨b, ws, us, rfl, rfl, hb, hs'⟩ | ⟨kb, us, rfl⟩
    · refine flat_leaf rx ry fx fy ?_
      rcases flat_of h fx with ⟨rfl, rfl⟩ | ⟨c, rfl, rfl⟩ | ⟨c, rfl, rfl⟩ | ⟨c, rfl, rfl⟩ <;>
      rcases flat_of k fy with ⟨rfl, rfl⟩ | ⟨d, rfl, rfl⟩ | ⟨d, rfl, rfl⟩ | ⟨d, rfl, rfl⟩ <;> rfl
    · obtain ⟨z, its, rv, p⟩ : ws.length ≤ sizeLine ∧ ∃ its : List Value, Vals ws its ∧ IsTup s.heap b its.toArray := I.hok b _ hb
      cases (show w = .ref b from ry)
      have e : eqv t (.tup us) = false := by
        rcases flat_of h fx with ⟨rfl, rfl⟩ | ⟨c, rfl, rfl⟩ | ⟨c, rfl, rfl⟩ | ⟨c, rfl, rfl⟩ <;> rfl
      rw [e]
      exact (flat_ref rx h fx (.inr (isTuple_of p))).1
    · obtain ⟨z, its, m, rv, p⟩ : ws.length ≤ sizeLine ∧ ∃ (its : List Value) (m : Nat), Vals ws its ∧ s.heap.get? b = some { cls := .type "list", data := .seq its.toArray m } := I.hok b _ hb
      cases (show w = .ref b from ry)
      have e : eqv t (.lst us) = false := by
        rcases flat_of h fx with ⟨rfl, rfl⟩ | ⟨c, rfl, rfl⟩ | ⟨c, rfl, rfl⟩ | ⟨c, rfl, rfl⟩ <;> rfl
      rw [e]
      exact (flat_ref rx h fx (.inl ⟨_, p, rfl, m, rfl⟩)).1
    · obtain ⟨b, ws, rfl, hb, _⟩ := id k
      cases (show w = .ref b from ry)
      have e : eqv t (.dic kb us) = false := by
        rcases flat_of h fx with ⟨rfl, rfl⟩ | ⟨c, rfl, rfl⟩ | ⟨c, rfl, rfl⟩ | ⟨c, rfl, rfl⟩ <;> rfl
      rw [e]
      exact (flat_dct rx h fx (dct_of I hb)).1
  · -- a tuple
    obtain ⟨z, its, rv, p⟩ : vs.length ≤ sizeLine ∧ ∃ its : List Value, Vals vs its ∧ IsTup s.heap a its.toArray := I.hok a _ ha
    have p := isTuple_of p
    cases (show v = .ref a from rx)
    rcases k.shape with fy | ⟨b, ws, us, rfl, rfl, hb, hs'⟩ | ⟨b, ws, us, rfl, rfl, hb, hs'⟩ | ⟨kb, us, rfl⟩
    · have e : eqv (.tup ts) u = false := by
        rcases flat_of k fy with ⟨rfl, rfl⟩ | ⟨c, rfl, rfl⟩ | ⟨c, rfl, rfl⟩ | ⟨c, rfl, rfl⟩ <;> rfl
      rw [e]
      exact (flat_ref ry k fy (.inr p)).2
    · cases (show w = .ref b from ry)
      by_cases hab : a = b
      · subst hab
        rw [Rp.det _ _ _ h k, eqv_refl _ (Rp.nd I _ _ k)]
        exact .same
      · obtain ⟨z', its', rv', p'⟩ : ws.length ≤ sizeLine ∧ ∃ its : List Value, Vals ws its ∧ IsTup s.heap b its.toArray := I.hok b _ hb
        have n1 : its.toArray.size = ts.length := by rw [List.size_toArray, ← rv.length, ← hs.len]
        have n2 : its'.toArray.size = us.length := by rw [List.size_toArray, ← rv'.length, ← hs'.len]
        have q := PySem.W.EqTree.tuples (prog := X.prog) (w := X.w) (s := s) (n := n) (e := eqAtJ ts us) hab p (isTuple_of p') fun j h1 h2 => by
          have j1 : j < ts.length := by omega
          have j2 : j < us.length := by omega
          obtain ⟨x1, e1, r1⟩ := hs.get (List.getElem?_eq_getElem j1)
          obtain ⟨y1, e2, r2⟩ := hs'.get (List.getElem?_eq_getElem j2)
          have ej : eqAtJ ts us j = eqv ts[j] us[j] := by
            unfold eqAtJ
            rw [List.getElem?_eq_getElem j1, List.getElem?_eq_getElem j2]
          rw [ej]
          refine ih _ _ x1 y1 _ _ (Nat.lt_of_le_of_lt (dep_le (List.getElem?_eq_getElem j1)) hd) r1 r2 (rel_get rv e1 h1) (rel_get rv' e2 h2) ?_
          exact okEL_get (ts := ts) (us := us) ok (List.getElem?_eq_getElem j1) (List.getElem?_eq_getElem j2)
        rw [n1, n2, eqvL_allMin] at q
        exact q
    · obtain ⟨z', its', m, rv', p'⟩ : ws.length ≤ sizeLine ∧ ∃ (its : List Value) (m : Nat), Vals ws its ∧ s.heap.get? b = some { cls := .type "list", data := .seq its.toArray m } := I.hok b _ hb
      cases (show w = .ref b from ry)
      exact .leaf fun A hu => SeqAt.EqAt.tuple_list p ⟨_, p', rfl, m, rfl⟩ (by omega)
    · obtain ⟨b, ws, rfl, hb, _⟩ := id k
      cases (show w = .ref b from ry)
      exact .leaf fun A hu => eq_tuple_dict (dct_of I hb) p (by omega)
  · -- a list
    obtain ⟨z, its, m, rv, p⟩ : vs.length ≤ sizeLine ∧ ∃ (its : List Value) (m : Nat), Vals vs its ∧ s.heap.get? a = some { cls := .type "list", data := .seq its.toArray m } := I.hok a _ ha
    have p : s.heap.IsList a its.toArray := ⟨_, p, rfl, m, rfl⟩
    cases (show v = .ref a from rx)
    rcases k.shape with fy | ⟨b, ws, us, rfl, rfl, hb, hs'⟩ | ⟨b, ws, us, rfl, rfl, hb, hs'⟩ | ⟨kb, us, rfl⟩
    · have e : eqv (.lst ts) u = false := by
        rcases flat_of k fy with ⟨rfl, rfl⟩ | ⟨c, rfl, rfl⟩ | ⟨c, rfl, rfl⟩ | ⟨c, rfl, rfl⟩ <;> rfl
      rw [e]
      exact (flat_ref ry k fy (.inl p)).2
    · obtain ⟨z', its', rv', p'⟩ : ws.length ≤ sizeLine ∧ ∃ its : List Value, Vals ws its ∧ IsTup s.heap b its.toArray := I.hok b _ hb
      cases (show w = .ref b from ry)
      exact .leaf fun A hu => SeqAt.EqAt.list_tuple p (isTuple_of p') (by omega)
    · obtain ⟨z', its', m', rv', p'⟩ : ws.length ≤ sizeLine ∧ ∃ (its : List Value) (m : Nat), Vals ws its ∧ s.heap.get? b = some { cls := .type "list", data := .seq its.toArray m } := I.hok b _ hb
      have p' : s.heap.IsList b its'.toArray := ⟨_, p', rfl, m', rfl⟩
      cases (show w = .ref b from ry)
      by_cases hab : a = b
      · subst hab
        rw [Rp.det _ _ _ h k, eqv_refl _ (Rp.nd I _ _ k)]
        exact .same
      · have n1 : its.toArray.size = ts.length := by rw [List.size_toArray, ← rv.length, ← hs.len]
        have n2 : its'.toArray.size = us.length := by rw [List.size_toArray, ← rv'.length, ← hs'.len]
        by_cases hl : ts.length = us.length
        · have q := PySem.W.EqTree.lists (prog := X.prog) (w := X.w) (s := s) (n := n) (e := eqAtJ ts us) hab p p' (by omega) fun j h1 h2 => by
            have j1 : j < ts.length := by omega
            have j2 : j < us.length := by omega
            obtain ⟨x1, e1, r1⟩ := hs.get (List.getElem?_eq_getElem j1)
            obtain ⟨y1, e2, r2⟩ := hs'.get (List.getElem?_eq_getElem j2)
            have ej : eqAtJ ts us j = eqv ts[j] us[j] := by
              unfold eqAtJ
              rw [List.getElem?_eq_getElem j1, List.getElem?_eq_getElem j2]
            rw [ej]
            refine ih _ _ x1 y1 _ _ (Nat.lt_of_le_of_lt (dep_le (List.getElem?_eq_getElem j1)) hd) r1 r2 (rel_get rv e1 h1) (rel_get rv' e2 h2) ?_
            exact okEL_get (ts := ts) (us := us) ok (List.getElem?_eq_getElem j1) (List.getElem?_eq_getElem j2)
          rw [n1, eqvL_all hl] at q
          exact q
        · have e : eqv (.lst ts) (.lst us) = false := eqvL_len hl
          rw [e]
          exact .listsLen hab p p' (by rw [n1, n2]; exact bne_iff_ne.mpr hl)
    · obtain ⟨b, ws, rfl, hb, _⟩ := id k
      cases (show w = .ref b from ry)
      exact .leaf fun A hu => eq_list_dict (dct_of I hb) p (by omega)
  · -- a dict
    obtain ⟨a, vs, rfl, ha, hl, hs⟩ := id h
    cases (show v = .ref a from rx)
    cases u with
    | dic kb us =>
      obtain ⟨b, ws, rfl, hb, hl', hs'⟩ := id k
      cases (show w = .ref b from ry)
      by_cases hab : a = b
      · subst hab
        rw [Rp.det _ _ _ h k, eqv_refl _ (Rp.nd I _ _ k)]
        exact .same
      · obtain ⟨z, sa, rs, rel, da⟩ : (ks.zip vs).length ≤ sizeLine ∧ (a == sysModules) = false ∧ ∃ rs, KV (ks.zip vs) rs ∧ s.heap.DictOf (mixKind X.prog X.w) a rs := I.hok a _ ha
        obtain ⟨z', sb, rs', rel', db⟩ : (kb.zip ws).length ≤ sizeLine ∧ (b == sysModules) = false ∧ ∃ rs, KV (kb.zip ws) rs ∧ s.heap.DictOf (mixKind X.prog X.w) b rs := I.hok b _ hb
        obtain ⟨nd, hla, _⟩ := Rp.nd I _ _ h
        have q := PySem.W.EqTree.dicts (prog := X.prog) (w := X.w) (s := s) (knd := mixKind X.prog X.w) (n := n) (e := hitE ks ts kb us) hab sa sb da db fun k v y hm hv => by
          obtain ⟨j, x1, e1, r1⟩ := kv_get rel hm
          have e1' : ks[j]? = some k ∧ vs[j]? = some x1 := by
            have e := List.getElem?_zip_eq_some.mp e1
            exact e
          have hj : j < ts.length := by
            have := (List.getElem?_eq_some_iff.mp e1'.1).1
            omega
          obtain ⟨x2, e2, r2⟩ := hs.get (List.getElem?_eq_getElem hj)
          rw [e1'.2] at e2
          cases e2
          have lk := look_zip nd e1'.1 (List.getElem?_eq_getElem hj)
          have rv := rel'.val k
          rcases look_val (k := k) hl' hs' with ⟨l1, l2⟩ | ⟨t2, v2, l1, l2, l3⟩
          · rw [l2, hv] at rv
            exact (show False from rv).elim
          · rw [l2, hv] at rv
            have e : hitE ks ts kb us k = eqv ts[j] t2 := by
              unfold hitE
              rw [lk, l1]
            rw [e]
            exact ih _ _ x1 v2 _ _ (Nat.lt_of_le_of_lt (dep_le (List.getElem?_eq_getElem hj)) hd) r2 l3 r1 rv (okED_get (ts := ts) (ks := ks) ok e1'.1 (List.getElem?_eq_getElem hj) l1)
        have e1 : (rs.length == rs'.length && rs.all fun p => (valueAt rs' p.1).isSome && hitE ks ts kb us p.1) = eqv (.dic ks ts) (.dic kb us) := by
          show _ = ((ks.length == kb.length) && eqvD ts ks kb us)
          have l1 : rs.length = ks.length := by rw [← rel.length, List.length_zip]; omega
          have l2 : rs'.length = kb.length := by rw [← rel'.length, List.length_zip]; omega
          rw [l1, l2, eqvD_is ks ts kb us nd hla]
          congr 1
          have e2 : (rs.all fun p => (valueAt rs' p.1).isSome && hitE ks ts kb us p.1) = (rs.map (·.1)).all fun k => (valueAt rs' k).isSome && hitE ks ts kb us k := by
            rw [List.all_map]
            rfl
          rw [e2, ← rel.keys, List.map_fst_zip (by omega)]
          refine List.all_congr rfl fun k => ?_
          congr 1
          have rv := (rel'.val k).isSome_eq
          rcases look_val (k := k) hl' hs' with ⟨l1, l2⟩ | ⟨t2, v2, l1, l2, l3⟩
          · rw [l1, ← rv, l2]
            rfl
          · rw [l1, ← rv, l2]
            rfl
        rw [← e1]
        exact q
    | non => exact (flat_dct ry k (by cases (show y = .non from k); rfl) (dct_of I ha)).2
    | bl c => exact (flat_dct ry k (by cases (show y = .bl c from k); rfl) (dct_of I ha)).2
    | int c => exact (flat_dct ry k (by cases (show y = .int c from k); rfl) (dct_of I ha)).2
    | str c => exact (flat_dct ry k (by cases (show y = .str c from k); rfl) (dct_of I ha)).2
    | tup c =>
      obtain ⟨b, ws, rfl, hb, _⟩ := id k
      cases (show w = .ref b from ry)
      obtain ⟨_, its', rv', p'⟩ : ws.length ≤ sizeLine ∧ ∃ its : List Value, Vals ws its ∧ IsTup s.heap b its.toArray := I.hok b _ hb
      exact .leaf fun A hu => eq_dict_tuple (dct_of I ha) (isTuple_of p') (by omega)
    | lst c =>
      obtain ⟨b, ws, rfl, hb, _⟩ := id k
      cases (show w = .ref b from ry)
      obtain ⟨_, its', m, rv', p'⟩ : ws.length ≤ sizeLine ∧ ∃ (its : List Value) (m : Nat), Vals ws its ∧ s.heap.get? b = some { cls := .type "list", data := .seq its.toArray m } := I.hok b _ hb
      exact .leaf fun A hu => eq_dict_list (dct_of I ha) ⟨_, p', rfl, m, rfl⟩ (by omega)
theorem eqTree (I : Inv X pins σ H s) : ∀ (n : Nat) (t u : T) (x y : V) (v w : Value), dep t ≤ n → Rp H t x → Rp H u y → RelV x v → RelV y w → okE t u = true → PySem.W.EqTree X.prog X.w s (n + 1) v w (eqv t u)
  | 0 => eqTree_step I 0 fun _ _ _ _ _ _ h => absurd h (Nat.not_lt_zero _)
  | n + 1 => eqTree_step I (n + 1) fun t u x y v w h h1 h2 h3 h4 h5 => eqTree I n t u x y v w (Nat.lt_succ_iff.mp h) h1 h2 h3 h4 h5
end
end U

end
section
namespace U
open PySem PySem.Spec PyProof.Rows L2
open PySem.SeqAt (EqIn)
open AutoSeq1 (wpAny_loadPart')
open MeetsSeq MeetsSeq2 MeetsSeq3 SeqRoads2
section
variable {P : Program} {w : World}
abbrev lsO (dd : Option Addr) (xs : Array Value) (n : Nat) (sl : Array (Option Value)) : Obj := { cls := .type "list", dict := dd, data := .seq xs n, slots := sl }
abbrev tpO (dd : Option Addr) (xs : Array Value) (n : Nat) (sl : Array (Option Value)) : Obj := { cls := .type "tuple", dict := dd, data := .seq xs n, slots := sl }
/-- != of two lists of one length, from the i-th pair on -/
theorem ne_run {l b : Addr} {xs ys : Array Value} {n n2 : Nat} {dd dd2 : Option Addr} {sl sl2 : Array (Option Value)} {e : Nat → Bool} (sz : xs.size = ys.size) :
    ∀ (k i : Nat), xs.size - i = k → MeetsIn P w (Builtin.«list.__eq__.loop» ⟨[.ref l, .ref b, rawInt i, rawInt 3], []⟩) (fun A R s =>
      s.heap.get? l = some (lsO dd xs n sl) ∧ s.heap.get? b = some (lsO dd2 ys n2 sl2) ∧ (∀ j (h1 : j < xs.size) (h2 : j < ys.size), EqIn P w A.in1 s xs[j] ys[j] (e j)) ∧ R (.ok (.ret (.bool (!((List.range xs.size).drop i).all e)))) s) := by
  intro k
  induction k with
  | zero =>
    intro i hk A R st q
    obtain ⟨hp, g, d, tk, os⟩ := st
    obtain ⟨gl, gb, _, q⟩ := q
    wp_walk using wpAny_loadPart' gl, wpAny_loadPart' gb
    have o1 : xs[((i : Nat) : Int).toNat]? = none := by simp; omega
    have o2 : ys[((i : Nat) : Int).toNat]? = none := by simp; omega
    have o3 : (List.range xs.size).drop i = [] := by simp; omega
    rw [o3] at q
    rw [o1, o2]
    wp_walk using wpAny_loadPart' gl, wpAny_loadPart' gb
    show R (.ok (.ret (.bool (xs.size != ys.size)))) _
    rw [sz]
    simpa using q
  | succ k ih =>
    intro i hk A R st q
    obtain ⟨hp, g, d, tk, os⟩ := st
    obtain ⟨gl, gb, he, q⟩ := q
    wp_walk using wpAny_loadPart' gl, wpAny_loadPart' gb
    have j1 : i < xs.size := by omega
    have j2 : i < ys.size := by omega
    have o1 : xs[((i : Nat) : Int).toNat]? = some xs[i] := by simp [j1]
    have o2 : ys[((i : Nat) : Int).toNat]? = some ys[i] := by simp [j2]
    have o3 : (List.range xs.size).drop i = i :: (List.range xs.size).drop (i + 1) := by simp [List.drop_eq_getElem_cons, j1]
    have o4 : ((i : Int) + 1) = ((i + 1 : Nat) : Int) := by push_cast; rfl
    rw [o3, List.all_cons] at q
    rw [o1, o2]
    refine wpAny_bind (he i j1 j2 _ _ ?_)
    cases ei : e i with
    | true =>
      rw [ei] at q
      wp_walk
      rw [o4]
      refine ⟨plainId_quiet plain_eq_loop _, codeAny_builtin entry_eq_loop ?_⟩
      rw [Around.under_plainId plain_eq_loop _]
      exact ih (i + 1) (by omega) A R _ ⟨gl, gb, he, by simpa using q⟩
    | false =>
      rw [ei] at q
      wp_walk using wpAny_loadPart' gl, wpAny_loadPart' gb
      rw [o1, o2]
      wp_walk
      simpa using q
theorem ne_list {l b : Addr} {xs ys : Array Value} {n n2 : Nat} {dd dd2 : Option Addr} {sl sl2 : Array (Option Value)} {e : Nat → Bool} (sz : xs.size = ys.size) :
    MeetsIn P w (Builtin.«list.__ne__» ⟨[.ref l, .ref b], []⟩) (fun A R s =>
      s.heap.get? l = some (lsO dd xs n sl) ∧ s.heap.get? b = some (lsO dd2 ys n2 sl2) ∧ (∀ j (h1 : j < xs.size) (h2 : j < ys.size), EqIn P w A.in1 s xs[j] ys[j] (e j)) ∧ R (.ok (.ret (.bool (!(List.range xs.size).all e)))) s) := by
  intro A R st q
  obtain ⟨hp, g, d, tk, os⟩ := st
  obtain ⟨gl, gb, he, q⟩ := q
  have f3 := AutoSeq1.sub_list_list
  have o1 : ¬ (xs.size != ys.size) = true := by simp [sz]
  wp_walk using wpAny_loadPart' gl, wpAny_loadPart' gb
  refine ⟨plainId_quiet plain_eq_loop _, codeAny_builtin entry_eq_loop ?_⟩
  rw [Around.under_plainId plain_eq_loop _]
  exact ne_run sz xs.size 0 rfl A R _ ⟨gl, gb, he, by simpa using q⟩
theorem ne_tup {l b : Addr} {xs ys : Array Value} {n n2 : Nat} {dd dd2 : Option Addr} {sl sl2 : Array (Option Value)} {e : Nat → Bool} :
    MeetsIn P w (Builtin.«tuple.__ne__» ⟨[.ref l, .ref b], []⟩) (fun A R s =>
      s.heap.get? l = some (tpO dd xs n sl) ∧ s.heap.get? b = some (tpO dd2 ys n2 sl2) ∧ (∀ j (h1 : j < xs.size) (h2 : j < ys.size), EqIn P w A.in1 s xs[j] ys[j] (e j)) ∧
        R (.ok (.ret (.bool (!((List.range (min xs.size ys.size)).all e && xs.size == ys.size))))) s) :=
  .of_wp fun A R st q => by
    obtain ⟨hp, g, d, tk, os⟩ := st
    obtain ⟨gl, gb, he, q⟩ := q
    have f2 := AutoSeq1.sub_tuple_tuple
    have len : (xs.toList.zip ys.toList).length = min xs.size ys.size := by simp
    wp_walk using wpAny_loadPart' gl, wpAny_loadPart' gb, wpAny_forIn_list _ (fun rest c s' => c.1 = none ∧ s' = ⟨hp, g, d, tk, os⟩ ∧ ∃ i, rest = (xs.toList.zip ys.toList).drop i ∧
      R (.ok (.ret (.bool (!(((List.range (min xs.size ys.size)).drop i).all e && xs.size == ys.size))))) ⟨hp, g, d, tk, os⟩) _
    case turn =>
      rintro ⟨y, x⟩ rest c s' ⟨c0, rfl, i, zi, q⟩
      have il : i < (xs.toList.zip ys.toList).length := by
        refine Nat.lt_of_not_le fun z => ?_
        rw [List.drop_of_length_le z] at zi
        cases zi
      have im : i < min xs.size ys.size := len ▸ il
      have i1 : i < xs.size := Nat.lt_of_lt_of_le im (Nat.min_le_left _ _)
      have i2 : i < ys.size := Nat.lt_of_lt_of_le im (Nat.min_le_right _ _)
      rw [List.drop_eq_getElem_cons il] at zi
      injection zi with z1 z2
      have ey : y = xs[i] := by simpa using congrArg Prod.fst z1
      have ex : x = ys[i] := by simpa using congrArg Prod.snd z1
      subst ey ex
      have o3 : (List.range (min xs.size ys.size)).drop i = i :: (List.range (min xs.size ys.size)).drop (i + 1) := by simp [List.drop_eq_getElem_cons, im]
      rw [o3, List.all_cons] at q
      refine wpAny_bind (he i i1 i2 _ _ ?_)
      cases ei : e i with
      | true =>
        rw [ei] at q
        wp_walk
        exact ⟨rfl, rfl, i + 1, z2, by simpa using q⟩
      | false =>
        rw [ei] at q
        wp_walk
        exact ⟨_, rfl, by simpa using q⟩
    case fin =>
      rintro ⟨c1, c2⟩ s' ⟨c0, rfl, i, zi, q⟩
      simp only at c0
      subst c0
      have ige : min xs.size ys.size ≤ i := by
        refine Nat.le_of_not_lt fun z => ?_
        rw [List.drop_eq_getElem_cons (len ▸ z)] at zi
        cases zi
      rw [List.drop_of_length_le (by simpa using ige)] at q
      wp_walk
      exact ⟨_, rfl, by simpa [Builtin.Tuple.tupleCompareSizes, bne] using q⟩
    case h =>
      exact ⟨rfl, rfl, 0, rfl, by simpa using q⟩
end
section
variable {P : Program} {w : World} {A : Around} {s : Shared} {E Q : Value → Shared → Prop}
theorem rcne_lists {l b : Addr} {xs ys : Array Value} {e : Nat → Bool} (gl : s.heap.IsList l xs) (gb : s.heap.IsList b ys) (sz : xs.size = ys.size) (hu : A.units < cLine)
    (he : ∀ j (h1 : j < xs.size) (h2 : j < ys.size), EqIn P w A.in1 s xs[j] ys[j] (e j)) (q : Q (.bool (!(List.range xs.size).all e)) s) : wpAny (model P w) A (compareOp .NotEq (.ref l) (.ref b)) Q E s := by
  obtain ⟨⟨c1, d1, t1, s1⟩, o1, k1, n1, r1⟩ := id gl
  obtain ⟨⟨c2, d2, t2, s2⟩, o2, k2, n2, r2⟩ := id gb
  simp only at k1 r1 k2 r2
  subst k1 r1 k2 r2
  refine wpAny_richCompare_same_room (T := "list") (op := .NotEq) ⟨_, o1, rfl⟩ ⟨_, o2, rfl⟩ F.slot_list_ne ?_ hu
  exact call_meetsIn F.slot_list_ne ⟨_, o1, rfl⟩ F.entry_list_ne (F.args_list_ne_2 _ _) (ne_list sz) ⟨o1, o2, he, show Value.bool (!(List.range xs.size).all e) ≠ Value.notImplemented ∧ Q (.bool (!(List.range xs.size).all e)) s from ⟨(fun x => nomatch x), q⟩⟩
theorem rcne_tuples {l b : Addr} {xs ys : Array Value} {e : Nat → Bool} (gl : s.heap.IsTuple l xs) (gb : s.heap.IsTuple b ys) (hu : A.units < cLine)
    (he : ∀ j (h1 : j < xs.size) (h2 : j < ys.size), EqIn P w A.in1 s xs[j] ys[j] (e j)) (q : Q (.bool (!((List.range (min xs.size ys.size)).all e && xs.size == ys.size))) s) : wpAny (model P w) A (compareOp .NotEq (.ref l) (.ref b)) Q E s := by
  obtain ⟨⟨c1, d1, t1, s1⟩, o1, k1, n1, r1⟩ := id gl
  obtain ⟨⟨c2, d2, t2, s2⟩, o2, k2, n2, r2⟩ := id gb
  simp only at k1 r1 k2 r2
  subst k1 r1 k2 r2
  refine wpAny_richCompare_same_room (T := "tuple") (op := .NotEq) ⟨_, o1, rfl⟩ ⟨_, o2, rfl⟩ F.slot_tuple_ne ?_ hu
  exact call_meetsIn F.slot_tuple_ne ⟨_, o1, rfl⟩ F.entry_tuple_ne (F.args_tuple_ne_2 _ _) ne_tup ⟨o1, o2, he,
    show Value.bool (!((List.range (min xs.size ys.size)).all e && xs.size == ys.size)) ≠ Value.notImplemented ∧ Q (.bool (!((List.range (min xs.size ys.size)).all e && xs.size == ys.size))) s from ⟨(fun x => nomatch x), q⟩⟩
theorem rcne_dicts {K : Type} [DecidableEq K] {knd : PySem.KeyKind P w K} {a b : Addr} {ka kb : List (K × Value)} {r : Bool} (ha : (a == sysModules) = false) (hb : (b == sysModules) = false) (da : s.heap.DictOf knd a ka) (db : s.heap.DictOf knd b kb) (hu : A.units < cLine)
    (hits : ka.length = kb.length → PySem.W.KeqHitsIn P w A.in1 s kb ka r) (q : Q (.bool (!(ka.length == kb.length && r))) s) : wpAny (model P w) A (compareOp .NotEq (.ref a) (.ref b)) Q E s := by
  refine wpAny_richCompare_same_room (op := .NotEq) da.typeIs db.typeIs PySem.F.slot_dict_ne (wpAny_call_entry PySem.F.slot_dict_ne da.typeIs PySem.F.entry_dict_ne ?_ (PySem.F.args_dict_ne_2 _ _)) hu
  show wpAny _ _ (Builtin.Dict.dictSlotArgs "__ne__" ⟨[.ref a, .ref b], []⟩ >>= _) _ _ s
  unfold Builtin.Dict.dictSlotArgs
  refine wpAny_bind (wpAny_bind (wpAny_notOrdered_dict da.typeIs ?_))
  show wpAny _ _ (pure (Value.ref a, Value.ref b)) _ _ s
  refine wpAny_pure (wpAny_bind (wpAny_isInstance (T := "dict") db.typeIs PySem.F.sub_dict_dict ?_))
  simp only [Bool.not_true, Bool.false_eq_true, if_false]
  refine wpAny_bind (wpAny_pure (wpAny_bind (wpAny_pure (wpAny_bind (PySem.W.keq_samePairsIn ha hb da db hits ?_)))))
  refine wpAny_pure ?_
  first
    | exact ⟨_, rfl, fun z => (nomatch z), by simpa using q⟩
    | exact ⟨fun z => (nomatch z), by simpa using q⟩
    | (trace_state; fail)
end

/-! == and != of what two values hold -/
section
variable {X : Cx} {pins : List (Addr × Obj)} {σ : L2.St} {H : Hp} {s : Shared}
/-- the items' answers -/
theorem items_tree (I : Inv X pins σ H s) {n : Nat} {ts us : List T} {vs ws : List V} {its its' : List Value} (hd : depL ts ≤ n) (hs : RpL H ts vs) (hs' : RpL H us ws) (rv : Vals vs its) (rv' : Vals ws its') (ok : okEL ts us = true) :
    ∀ j (h1 : j < its.toArray.size) (h2 : j < its'.toArray.size), PySem.W.EqTree X.prog X.w s (n + 1) its.toArray[j] its'.toArray[j] (eqAtJ ts us j) := fun j h1 h2 => by
  have n1 : its.toArray.size = ts.length := by rw [List.size_toArray, ← rv.length, ← hs.len]
  have n2 : its'.toArray.size = us.length := by rw [List.size_toArray, ← rv'.length, ← hs'.len]
  have j1 : j < ts.length := by omega
  have j2 : j < us.length := by omega
  obtain ⟨x1, e1, r1⟩ := hs.get (List.getElem?_eq_getElem j1)
  obtain ⟨y1, e2, r2⟩ := hs'.get (List.getElem?_eq_getElem j2)
  have ej : eqAtJ ts us j = eqv ts[j] us[j] := by
    unfold eqAtJ
    rw [List.getElem?_eq_getElem j1, List.getElem?_eq_getElem j2]
  rw [ej]
  exact eqTree I n _ _ x1 y1 _ _ (Nat.le_trans (dep_le (List.getElem?_eq_getElem j1)) hd) r1 r2 (rel_get rv e1 h1) (rel_get rv' e2 h2) (okEL_get (ts := ts) (us := us) ok (List.getElem?_eq_getElem j1) (List.getElem?_eq_getElem j2))
theorem list_there (I : Inv X pins σ H s) {a : Addr} {vs : List V} (ha : H a = some (.lst vs)) : ∃ its, Vals vs its ∧ s.heap.IsList a its.toArray := by
  obtain ⟨z, its, m, rv, p⟩ : vs.length ≤ sizeLine ∧ ∃ (its : List Value) (m : Nat), Vals vs its ∧ s.heap.get? a = some { cls := .type "list", data := .seq its.toArray m } := I.hok a _ ha
  exact ⟨its, rv, _, p, rfl, m, rfl⟩
theorem tup_there (I : Inv X pins σ H s) {a : Addr} {vs : List V} (ha : H a = some (.tup vs)) : ∃ its, Vals vs its ∧ s.heap.IsTuple a its.toArray := by
  obtain ⟨z, its, rv, p⟩ : vs.length ≤ sizeLine ∧ ∃ its : List Value, Vals vs its ∧ IsTup s.heap a its.toArray := I.hok a _ ha
  exact ⟨its, rv, p⟩
theorem dict_there (I : Inv X pins σ H s) {a : Addr} {kvs : List (Key × V)} (ha : H a = some (.dK kvs)) : (a == sysModules) = false ∧ ∃ rs, KV kvs rs ∧ s.heap.DictOf (mixKind X.prog X.w) a rs := by
  obtain ⟨z, sa, rs, rel, da⟩ : kvs.length ≤ sizeLine ∧ (a == sysModules) = false ∧ ∃ rs, KV kvs rs ∧ s.heap.DictOf (mixKind X.prog X.w) a rs := I.hok a _ ha
  exact ⟨sa, rs, rel, da⟩
end
/-- two lists | two tuples | two dicts | two flat values -/
def sameKind : T → T → Bool
  | .tup _, .tup _ => true
  | .lst _, .lst _ => true
  | .dic _ _, .dic _ _ => true
  | .non, .non => true
  | .non, .tup _ => true
  | .non, .lst _ => true
  | .tup _, .non => true
  | .lst _, .non => true
  | .tup _, .lst _ => true
  | .lst _, .tup _ => true
  | _, _ => false
def rEqT : R2 := fun x y H Q => ∃ t u, Rp H t x ∧ Rp H u y ∧ sameKind t u = true ∧ okE t u = true ∧ dep t ≤ 60 ∧ Q (.bl (eqv t u)) H
def rNeT : R2 := fun x y H Q => ∃ t u, Rp H t x ∧ Rp H u y ∧ sameKind t u = true ∧ okE t u = true ∧ dep t ≤ 60 ∧ Q (.bl (!eqv t u)) H
def rEqU : R2 := fun x y H Q => rEq x y H Q ∨ rEqT x y H Q
def rNeU : R2 := fun x y H Q => rNe x y H Q ∨ rNeT x y H Q
section
variable {X : Cx}
/-- both ways in one: what the comparison needs, for a given answer -/
theorem cmp_core {pins : List (Addr × Obj)} {s : Shared} {σ : L2.St} {H : Hp} {x y : V} {v u : Value} {t r : T} {E Q : Value → Shared → Prop} {neg : Bool} (hu : X.A.units + 64 < cLine) (I : Inv X pins σ H s) (rx : RelV x v) (ry : RelV y u) (ht : Rp H t x) (hr : Rp H r y) (sk : sameKind t r = true)
    (ok : okE t r = true) (hd : dep t ≤ 60) (q : Q (.bool (if neg = true then !eqv t r else eqv t r)) s) : wpAny (model X.prog X.w) X.A (compareOp (if neg = true then .NotEq else .Eq) v u) Q E s := by
  cases t with
  | tup ts =>
    cases r with
    | tup us =>
      obtain ⟨a, vs, rfl, ha, hs⟩ := ht
      obtain ⟨b, ws, rfl, hb, hs'⟩ := hr
      cases (show v = .ref a from rx)
      cases (show u = .ref b from ry)
      obtain ⟨its, rv, p⟩ := tup_there I ha
      obtain ⟨its', rv', p'⟩ := tup_there I hb
      have n1 : its.toArray.size = ts.length := by rw [List.size_toArray, ← rv.length, ← hs.len]
      have n2 : its'.toArray.size = us.length := by rw [List.size_toArray, ← rv'.length, ← hs'.len]
      have hd : depL ts + 1 ≤ 60 := hd
      have tr := items_tree I (n := 60) (by omega) hs hs' rv rv' ok
      have e : ((List.range (min its.toArray.size its'.toArray.size)).all (eqAtJ ts us) && its.toArray.size == its'.toArray.size) = eqv (.tup ts) (.tup us) := by rw [n1, n2]; exact eqvL_allMin
      cases neg with
      | true => exact rcne_tuples p p' (by omega) (fun j h1 h2 => (tr j h1 h2).at X.A.in1 (by show X.A.units + 1 + 61 < cLine; omega)) (by rw [e]; exact q)
      | false => exact PySem.W.eq_tuplesT p p' tr (by omega) (by rw [e]; exact q)
    | non =>
      obtain ⟨a, vs, rfl, ha, hs⟩ := ht
      cases (show y = .non from hr)
      cases (show v = .ref a from rx)
      cases (show u = .none from ry)
      obtain ⟨its, rv, p⟩ := tup_there I ha
      have p := isTuple_of p
      cases neg with
      | true => exact SeqAt.RcNeAt.tuple_none p (by omega) X.prog X.w E Q q
      | false => exact SeqAt.RcAt.tuple_none p (by omega) X.prog X.w E Q q
    | lst us =>
      obtain ⟨a, vs, rfl, ha, hs⟩ := ht
      obtain ⟨b, ws, rfl, hb, hs'⟩ := hr
      cases (show v = .ref a from rx)
      cases (show u = .ref b from ry)
      obtain ⟨its, rv, p⟩ := tup_there I ha
      obtain ⟨its', rv', p'⟩ := list_there I hb
      have p := isTuple_of p
      cases neg with
      | true => exact SeqAt.RcNeAt.tuple_list p p' (by omega) X.prog X.w E Q q
      | false => exact SeqAt.RcAt.tuple_list p p' (by omega) X.prog X.w E Q q
    | _ => exact nomatch sk
  | lst ts =>
    cases r with
    | lst us =>
      obtain ⟨a, vs, rfl, ha, hs⟩ := ht
      obtain ⟨b, ws, rfl, hb, hs'⟩ := hr
      cases (show v = .ref a from rx)
      cases (show u = .ref b from ry)
      obtain ⟨its, rv, p⟩ := list_there I ha
      obtain ⟨its', rv', p'⟩ := list_there I hb
      have n1 : its.toArray.size = ts.length := by rw [List.size_toArray, ← rv.length, ← hs.len]
      have n2 : its'.toArray.size = us.length := by rw [List.size_toArray, ← rv'.length, ← hs'.len]
      have hd : depL ts + 1 ≤ 60 := hd
      have tr := items_tree I (n := 60) (by omega) hs hs' rv rv' ok
      by_cases hl : ts.length = us.length
      · have e : (List.range its.toArray.size).all (eqAtJ ts us) = eqv (.lst ts) (.lst us) := by rw [n1]; exact eqvL_all hl
        cases neg with
        | true => exact rcne_lists p p' (by omega) (by omega) (fun j h1 h2 => (tr j h1 h2).at X.A.in1 (by show X.A.units + 1 + 61 < cLine; omega)) (by rw [e]; exact q)
        | false => exact PySem.W.eq_listsT p p' (by omega) tr (by omega) (by rw [e]; exact q)
      · have e : eqv (.lst ts) (.lst us) = false := eqvL_len hl
        have sz : (its.toArray.size != its'.toArray.size) = true := by rw [n1, n2]; exact bne_iff_ne.mpr hl
        rw [e] at q
        cases neg with
        | true => exact SeqAt.RcNeAt.lists_lengths p p' sz (by omega) X.prog X.w E Q q
        | false => exact SeqAt.RcAt.lists_lengths p p' sz (by omega) X.prog X.w E Q q
    | non =>
      obtain ⟨a, vs, rfl, ha, hs⟩ := ht
      cases (show y = .non from hr)
      cases (show v = .ref a from rx)
      cases (show u = .none from ry)
      obtain ⟨its, rv, p⟩ := list_there I ha
      cases neg with
      | true => exact SeqAt.RcNeAt.list_none p (by omega) X.prog X.w E Q q
      | false => exact SeqAt.RcAt.list_none p (by omega) X.prog X.w E Q q
    | tup us =>
      obtain ⟨a, vs, rfl, ha, hs⟩ := ht
      obtain ⟨b, ws, rfl, hb, hs'⟩ := hr
      cases (show v = .ref a from rx)
      cases (show u = .ref b from ry)
      obtain ⟨its, rv, p⟩ := list_there I ha
      obtain ⟨its', rv', p'⟩ := tup_there I hb
      have p' := isTuple_of p'
      cases neg with
      | true => exact SeqAt.RcNeAt.list_tuple p p' (by omega) X.prog X.w E Q q
      | false => exact SeqAt.RcAt.list_tuple p p' (by omega) X.prog X.w E Q q
    | _ => exact nomatch sk
  | dic ks ts =>
    cases r with
    | dic kb us =>
      have ndt := Rp.nd I _ _ ht
      obtain ⟨a, vs, rfl, ha, hl, hs⟩ := ht
      obtain ⟨b, ws, rfl, hb, hl', hs'⟩ := hr
      cases (show v = .ref a from rx)
      cases (show u = .ref b from ry)
      obtain ⟨sa, rs, rel, da⟩ := dict_there I ha
      obtain ⟨sb, rs', rel', db⟩ := dict_there I hb
      obtain ⟨nd, hla, _⟩ := ndt
      have hd : depL ts + 1 ≤ 60 := hd
      have tr : ∀ k v y, (k, v) ∈ rs → valueAt rs' k = some y → PySem.W.EqTree X.prog X.w s 61 v y (hitE ks ts kb us k) := fun k v y hm hv => by
        obtain ⟨j, x1, e1, r1⟩ := kv_get rel hm
        have e1' : ks[j]? = some k ∧ vs[j]? = some x1 := List.getElem?_zip_eq_some.mp e1
        have hj : j < ts.length := by
          have := (List.getElem?_eq_some_iff.mp e1'.1).1
          omega
        obtain ⟨x2, e2, r2⟩ := hs.get (List.getElem?_eq_getElem hj)
        rw [e1'.2] at e2
        cases e2
        have lk := look_zip nd e1'.1 (List.getElem?_eq_getElem hj)
        have rv := rel'.val k
        rcases look_val (k := k) hl' hs' with ⟨l1, l2⟩ | ⟨t2, v2, l1, l2, l3⟩
        · rw [l2, hv] at rv
          exact (show False from rv).elim
        · rw [l2, hv] at rv
          have e : hitE ks ts kb us k = eqv ts[j] t2 := by
            unfold hitE
            rw [lk, l1]
          rw [e]
          exact eqTree I 60 _ _ x1 v2 _ _ (Nat.le_trans (dep_le (List.getElem?_eq_getElem hj)) (by omega)) r2 l3 r1 rv (okED_get (ts := ts) (ks := ks) ok e1'.1 (List.getElem?_eq_getElem hj) l1)
      have e : (rs.length == rs'.length && rs.all fun p => (valueAt rs' p.1).isSome && hitE ks ts kb us p.1) = eqv (.dic ks ts) (.dic kb us) := by
        show _ = ((ks.length == kb.length) && eqvD ts ks kb us)
        have l1 : rs.length = ks.length := by rw [← rel.length, List.length_zip]; omega
        have l2 : rs'.length = kb.length := by rw [← rel'.length, List.length_zip]; omega
        rw [l1, l2, eqvD_is ks ts kb us nd hla]
        congr 1
        have e2 : (rs.all fun p => (valueAt rs' p.1).isSome && hitE ks ts kb us p.1) = (rs.map (·.1)).all fun k => (valueAt rs' k).isSome && hitE ks ts kb us k := by
          rw [List.all_map]
          rfl
        rw [e2, ← rel.keys, List.map_fst_zip (by omega)]
        refine List.all_congr rfl fun k => ?_
        congr 1
        have rv := (rel'.val k).isSome_eq
        rcases look_val (k := k) hl' hs' with ⟨l1, l2⟩ | ⟨t2, v2, l1, l2, l3⟩
        · rw [l1, ← rv, l2]
          rfl
        · rw [l1, ← rv, l2]
          rfl
      cases neg with
      | true => exact rcne_dicts sa sb da db (by omega) (fun _ => PySem.W.KeqHitsIn.of _ fun k v y hm hv => (tr k v y hm hv).at X.A.in1 (by show X.A.units + 1 + 61 < cLine; omega)) (by rw [e]; exact q)
      | false => exact PySem.W.eq_dictsT sa sb da db tr (by omega) (by rw [e]; exact q)
    | _ => exact nomatch sk
  | non =>
    cases (show x = .non from ht)
    cases (show v = .none from rx)
    cases r with
    | non =>
      cases (show y = .non from hr)
      cases (show u = .none from ry)
      cases neg with
      | true => exact SeqAt.RcNeAt.none_none X.prog X.w E Q q
      | false => exact SeqAt.RcAt.none_none X.prog X.w E Q q
    | tup us =>
      obtain ⟨b, ws, rfl, hb, hs'⟩ := hr
      cases (show u = .ref b from ry)
      obtain ⟨its', rv', p'⟩ := tup_there I hb
      have p' := isTuple_of p'
      cases neg with
      | true => exact SeqAt.RcNeAt.none_tuple p' (by omega) X.prog X.w E Q q
      | false => exact SeqAt.RcAt.none_tuple p' (by omega) X.prog X.w E Q q
    | lst us =>
      obtain ⟨b, ws, rfl, hb, hs'⟩ := hr
      cases (show u = .ref b from ry)
      obtain ⟨its', rv', p'⟩ := list_there I hb
      cases neg with
      | true => exact SeqAt.RcNeAt.none_list p' (by omega) X.prog X.w E Q q
      | false => exact SeqAt.RcAt.none_list p' (by omega) X.prog X.w E Q q
    | _ => exact nomatch sk
  | _ => exact nomatch sk
theorem op_eqT (hu : X.A.units + 64 < cLine) : OpR X (compareOp .Eq) rEqT := by
  intro pins s σ H x y v u Q I rx ry ⟨t, r, ht, hr, sk, ok, hd, q⟩
  exact cmp_core (neg := false) hu I rx ry ht hr sk ok hd ⟨.bl (eqv t r), H, I, rfl, q⟩
theorem op_neT (hu : X.A.units + 64 < cLine) : OpR X (compareOp .NotEq) rNeT := by
  intro pins s σ H x y v u Q I rx ry ⟨t, r, ht, hr, sk, ok, hd, q⟩
  exact cmp_core (neg := true) hu I rx ry ht hr sk ok hd ⟨.bl (!eqv t r), H, I, rfl, q⟩
theorem op_eqU (hu : X.A.units + 64 < cLine) : OpR X (compareOp .Eq) rEqU := op_eq.or (op_eqT hu)
theorem op_neU (hu : X.A.units + 64 < cLine) : OpR X (compareOp .NotEq) rNeU := op_ne.or (op_neT hu)
theorem lf_eqI {H : Hp} {i j : Int} : Lf rEqU (.int i) (.int j) H (.bl (decide (i = j))) := fun Q q => .inl ⟨rfl, by rw [dec_int, Bool.beq_eq_decide_eq]; exact q⟩
theorem lf_eqS {H : Hp} {i j : Str} : Lf rEqU (.str i) (.str j) H (.bl (decide (i = j))) := fun Q q => .inl ⟨rfl, by rw [dec_str, Bool.beq_eq_decide_eq]; exact q⟩
theorem lf_neI {H : Hp} {i j : Int} : Lf rNeU (.int i) (.int j) H (.bl (!decide (i = j))) := fun Q q => .inl ⟨rfl, by rw [dec_int, Bool.beq_eq_decide_eq]; exact q⟩
theorem lf_neS {H : Hp} {i j : Str} : Lf rNeU (.str i) (.str j) H (.bl (!decide (i = j))) := fun Q q => .inl ⟨rfl, by rw [dec_str, Bool.beq_eq_decide_eq]; exact q⟩
theorem lf_eqNS {H : Hp} {j : Str} : Lf rEqU .non (.str j) H (.bl false) := fun Q q => .inl ⟨rfl, by rw [decide_eq_false (fun z => nomatch z)]; exact q⟩
theorem lf_eqSN {H : Hp} {j : Str} : Lf rEqU (.str j) .non H (.bl false) := fun Q q => .inl ⟨rfl, by rw [decide_eq_false (fun z => nomatch z)]; exact q⟩
theorem lf_eqT {H : Hp} {x y : V} {t u : T} (h1 : Rp H t x) (h2 : Rp H u y) (sk : sameKind t u = true) (ok : okE t u = true) (hd : dep t ≤ 60) : Lf rEqU x y H (.bl (eqv t u)) := fun Q q => .inr ⟨t, u, h1, h2, sk, ok, hd, q⟩
theorem lf_neT {H : Hp} {x y : V} {t u : T} (h1 : Rp H t x) (h2 : Rp H u y) (sk : sameKind t u = true) (ok : okE t u = true) (hd : dep t ≤ 60) : Lf rNeU x y H (.bl (!eqv t u)) := fun Q q => .inr ⟨t, u, h1, h2, sk, ok, hd, q⟩
end
theorem lf_eqX {H : Hp} {x y : V} {t u : T} (h1 : Rp H t x) (h2 : Rp H u y) (sk : sameKind t u = true) (hd : dep t ≤ 60) : Lf rEqU x y H (.bl (eqv t u)) := lf_eqT h1 h2 sk (okE_all t u) hd
theorem lf_neX {H : Hp} {x y : V} {t u : T} (h1 : Rp H t x) (h2 : Rp H u y) (sk : sameKind t u = true) (hd : dep t ≤ 60) : Lf rNeU x y H (.bl (!eqv t u)) := lf_neT h1 h2 sk (okE_all t u) hd
end U

end
section
namespace U
open PySem PySem.Spec PyProof.Rows L2
section
variable {X : Cx} {o e : Expr} {f : Str} {pos apos cpos : Pos} {ta : TE} {tg it : Expr}
/-- o.f as a target -/
def gF (C : Addr) (ta : TE) (f : Str) : TG := fun v σ H Q => ta σ H fun x H2 => ∃ a dx fs, x = .ref a ∧ H2 a = some (.ins C dx fs) ∧ fs.length < 1000 ∧ Q σ (upd H2 a (.ins C dx (putF f v fs)))
theorem pg_fldC {C : Addr} (c : Cls X.K C) (n : NoAttr X.K C f) (ha : PE X o ta) : PG X (.Attribute o f pos) (gF C ta f) := by
  refine ⟨fun pins s σ H v u Q I rv h => ?_⟩
  rw [assign_Attribute]
  refine wpAny_bind (wpAny_holding (thn (ha.run pins s σ H _ I h) fun ov s2 ⟨x, H2, I2, rx, a, dx, fs, ex, ea, l, q2⟩ => ?_))
  subst ex
  obtain rfl : ov = Value.ref a := rx
  refine wpAny_bind (wpAny_standAt (wpAny_bind (wpAny_holding (setattr_ok I2 ea c n l rv fun s3 I3 => ?_))))
  exact wpAny_release ⟨σ, _, I3, q2⟩
/-- slices -/
def rSlS : V → Option Int → Option Int → Hp → VK → Prop := fun x lo hi H Q => ∃ z, x = .str z ∧ z.length ≤ sizeLine ∧ Q (.str (cutS z lo hi)) H
def rSlU (K : PySem.W.Frag) : V → Option Int → Option Int → Hp → VK → Prop := fun x lo hi H Q => rSlL K x lo hi H Q ∨ rSlT K x lo hi H Q ∨ rSlS x lo hi H Q
theorem sl_U : SlR X (rSlU X.K) := sl_list.or (sl_tup.or (show SlR X rSlS from sl_str))
/-- list(x), tuple(x), dict(d), str(n) -/
def rListOf (K : PySem.W.Frag) : List V → Hp → VK → Prop := fun xs H Q => ∃ p ys, xs = [.ref p] ∧ (SqL K H p ys ∨ SqT K H p ys) ∧ ∀ l, H l = none → Q (.ref l) (upd H l (.lst ys))
def rTupOf (K : PySem.W.Frag) : List V → Hp → VK → Prop := fun xs H Q => ∃ p ys, xs = [.ref p] ∧ ((SqL K H p ys ∧ ∀ l, H l = none → Q (.ref l) (upd H l (.tup ys))) ∨ (SqT K H p ys ∧ Q (.ref p) H))
def rDictOf : List V → Hp → VK → Prop := fun xs H Q => ∃ (a : Addr) (kvs : List (Key × V)), xs = [.ref a] ∧ Rd H a (.dK kvs) ∧ ∀ p, H p = none → Q (.ref p) (upd H p (.dK kvs))
def rStrOf : List V → Hp → VK → Prop := fun xs H Q => ∃ i, xs = [.int i] ∧ i.natAbs.log2 < 1920 ∧ Q (.str (toString i)) H
theorem call_listOf : CallR X (.type "list") (rListOf X.K) := call_list_of
theorem call_tupOf : CallR X (.type "tuple") (rTupOf X.K) := call_tuple_of
theorem call_dictOf : CallR X (.type "dict") rDictOf := call_dictD
theorem call_strOf : CallR X (.type "str") rStrOf := call_str_int
end

/-! ### steps -/
section
variable {K : PySem.W.Frag} {σ : L2.St} {H : Hp} {D : Ends} {ta tb te : TE} {tc : TT} {t u : TS} {x y v : V} {i : Nat} {b : Bool}
theorem st_listOf {p : Addr} {xs : List V} {tx : TA} {Q : VK} (h : VA tx σ H [.ref p]) (hp : H p = some (.lst xs)) (k : ∀ l, H l = none → Q (.ref l) (upd H l (.lst xs))) : tCB (rListOf K) tx σ H Q := h _ ⟨p, xs, rfl, .inl (SqL.of hp), k⟩
theorem st_listOfT {p : Addr} {xs : List V} {tx : TA} {Q : VK} (h : VA tx σ H [.ref p]) (hp : H p = some (.tup xs)) (k : ∀ l, H l = none → Q (.ref l) (upd H l (.lst xs))) : tCB (rListOf K) tx σ H Q := h _ ⟨p, xs, rfl, .inr (SqT.of hp), k⟩
theorem st_dictOf {p : Addr} {kvs : List (Key × V)} {tx : TA} {Q : VK} (h : VA tx σ H [.ref p]) (hp : H p = some (.dK kvs)) (k : ∀ l, H l = none → Q (.ref l) (upd H l (.dK kvs))) : tCB rDictOf tx σ H Q := h _ ⟨p, kvs, rfl, .inl hp, k⟩
theorem st_gf {C a dx : Addr} {fs gs : List (Str × V)} {f : Str} {Q : L2.St → Hp → Prop} (ho : Val ta σ H (.ref a)) (ha : H a = some (.ins C dx fs)) (hz : fs.length < 1000) (hp : putF f v fs = gs) (k : Q σ (upd H a (.ins C dx gs))) : gF C ta f v σ H Q :=
  ho _ ⟨a, dx, fs, rfl, ha, hz, by rw [hp]; exact k⟩

theorem drop_at {α : Type} {xs : List α} {i : Nat} {a : α} (h : xs[i]? = some a) : xs.drop i = a :: xs.drop (i + 1) := by
  obtain ⟨h1, h2⟩ := List.getElem?_eq_some_iff.mp h
  rw [List.drop_eq_getElem_cons h1, h2]
theorem map_at {α : Type} {emb : α → V} {xs : List α} {i : Nat} {x : V} (h : (xs.map emb)[i]? = some x) : ∃ a, xs[i]? = some a ∧ x = emb a := by
  rw [List.getElem?_map] at h
  cases e : xs[i]? with
  | none => rw [e] at h; cases h
  | some a => rw [e] at h; exact ⟨a, rfl, (Option.some.inj h).symm⟩
abbrev iSeq (K : PySem.W.Frag) (te : TE) : TI := fun σ H R => iList K te σ H R ∨ iTup K te σ H R
/-- a loop over the items that are left, a list -/
theorem st_forL {α : Type} {p : Addr} {emb : α → V} {g : TG} {xs : List α} (ht : Val te σ H (.ref p)) (hp : SqL K H p (xs.map emb)) (P : List α → L2.St → Hp → Prop) (h0 : P xs σ H) (hl : ∀ r σ H, P r σ H → SqL K H p (xs.map emb))
    (hs : ∀ a r σ H, P (a :: r) σ H → g (emb a) σ H fun σ2 H2 => t { D with nx := P r, ct := P r, bk := D.nx } σ2 H2) (hd : ∀ σ H, P [] σ H → D.nx σ H) : tFor (iSeq K te) g t D σ H := by
  refine .inl (ht _ ⟨p, rfl, ⟨_, hp⟩, for_list (K := K) (a := p) (xs := xs.map emb) (fun i σ H => P (xs.drop i) σ H) h0 (fun i σ H _ q => hl _ _ _ q) (fun i x σ H hi q => ?_) fun σ H q => ?_⟩)
  · obtain ⟨a, ea, rfl⟩ := map_at hi
    rw [drop_at ea] at q
    exact hs a _ σ H q
  · rw [List.length_map, List.drop_length] at q
    exact hd σ H q
/-- .., a tuple -/
theorem st_forT {α : Type} {p : Addr} {emb : α → V} {g : TG} {xs : List α} (ht : Val te σ H (.ref p)) (hp : SqT K H p (xs.map emb)) (P : List α → L2.St → Hp → Prop) (h0 : P xs σ H) (hl : ∀ r σ H, P r σ H → SqT K H p (xs.map emb))
    (hs : ∀ a r σ H, P (a :: r) σ H → g (emb a) σ H fun σ2 H2 => t { D with nx := P r, ct := P r, bk := D.nx } σ2 H2) (hd : ∀ σ H, P [] σ H → D.nx σ H) : tFor (iSeq K te) g t D σ H := by
  refine .inr (ht _ ⟨p, rfl, ⟨_, hp⟩, for_tup (K := K) (a := p) (xs := xs.map emb) (fun i σ H => P (xs.drop i) σ H) h0 (fun i σ H _ q => hl _ _ _ q) (fun i x σ H hi q => ?_) fun σ H q => ?_⟩)
  · obtain ⟨a, ea, rfl⟩ := map_at hi
    rw [drop_at ea] at q
    exact hs a _ σ H q
  · rw [List.length_map, List.drop_length] at q
    exact hd σ H q
/-- .., over range(n) -/
theorem st_forR {n : Int} {tx : TA} {g : TG} (ht : VA tx σ H [.int n]) (h1 : n < 2 ^ 62) (h2 : -(2 ^ 62) ≤ n) (P : Nat → L2.St → Hp → Prop) (h0 : P 0 σ H)
    (hs : ∀ i σ H, i < n.toNat → P i σ H → g (.int i) σ H fun σ2 H2 => t { D with nx := P (i + 1), ct := P (i + 1), bk := D.nx } σ2 H2) (hd : ∀ σ H, P n.toNat σ H → D.nx σ H) : tFor (iRng1 tx) g t D σ H := by
  refine ht _ ⟨n, rfl, h2, h1, for_range (lo := 0) (n := n.toNat) P h0 (fun i σ H hi q => ?_) hd⟩
  rw [Int.zero_add]
  exact hs i σ H hi q
theorem st_forR2 {m n : Int} {tx : TA} {g : TG} (ht : VA tx σ H [.int m, .int n]) (h : -(2 ^ 62) ≤ m ∧ m < 2 ^ 62 ∧ -(2 ^ 62) ≤ n ∧ n < 2 ^ 62) (P : Nat → L2.St → Hp → Prop) (h0 : P 0 σ H)
    (hs : ∀ i σ H, i < (n - m).toNat → P i σ H → g (.int (m + i)) σ H fun σ2 H2 => t { D with nx := P (i + 1), ct := P (i + 1), bk := D.nx } σ2 H2) (hd : ∀ σ H, P (n - m).toNat σ H → D.nx σ H) : tFor (iRng2 tx) g t D σ H :=
  ht _ ⟨m, n, rfl, h, for_range (lo := m) (n := (n - m).toNat) P h0 hs hd⟩
/-- a comprehension over the items that are left of a list; D: the address of what is made -/
theorem st_lcL {α : Type} {p : Addr} {emb : α → V} {xs : List α} {j : Nat} {tt : TT} {vs : List Nat} {Q : VK} (ht : Val te σ H (.ref p)) (hp : SqL K H p (xs.map emb)) (P : Addr → List α → Hp → Prop)
    (h0 : ∀ d, H d = none → P d xs (upd H d (.lst []))) (hl : ∀ d r H, P d r H → SqL K H p (xs.map emb))
    (hs : ∀ d a r H, P d (a :: r) H → wipe ((wipe σ vs).set j (some (emb a))) vs = wipe σ vs ∧ tt ((wipe σ vs).set j (some (emb a))) H fun b H3 =>
      if b = true then tb ((wipe σ vs).set j (some (emb a))) H3 fun y H4 => ∃ acc, H4 d = some (.lst acc) ∧ acc.length < sizeLine ∧ P d r (upd H4 d (.lst (acc ++ [y]))) else P d r H3)
    (hd : ∀ d H', P d [] H' → Q (.ref d) H') : tLc (iSeq K te) (gName j) tt tb vs σ H Q := by
  refine .inl (ht _ ⟨p, rfl, ⟨_, hp⟩, fun d hd0 => lc_list (K := K) (a := p) (xs := xs.map emb) (fun i H => P d (xs.drop i) H) (h0 d hd0) (fun i H _ q => hl d _ _ q) (fun i x H hi q => ?_) fun H q => ?_⟩)
  · obtain ⟨a, ea, rfl⟩ := map_at hi
    rw [drop_at ea] at q
    exact hs d a _ H q
  · rw [List.length_map, List.drop_length] at q
    exact hd d H q
/-- .. where test and element leave the heap: what is made, told -/
theorem st_lcP {α : Type} {p : Addr} {emb : α → V} {xs : List α} {j : Nat} {tt : TT} {vs : List Nat} {Q : VK} {f : α → Bool} {e : α → V} (ht : Val te σ H (.ref p)) (hp : H p = some (.lst (xs.map emb))) (hz : xs.length ≤ sizeLine)
    (hw : ∀ a, wipe ((wipe σ vs).set j (some (emb a))) vs = wipe σ vs)
    (hs : ∀ a H', a ∈ xs → Fr [] H H' → Ans tt ((wipe σ vs).set j (some (emb a))) H' (f a) ∧ (f a = true → Val tb ((wipe σ vs).set j (some (emb a))) H' (e a)))
    (hd : ∀ d H', H d = none → Fr [] H H' → H' d = some (.lst ((xs.filter f).map e)) → Q (.ref d) H') : tLc (iSeq K te) (gName j) tt tb vs σ H Q := by
  refine st_lcL (K := K) (emb := emb) (xs := xs) ht (SqL.of hp) (fun d r H' => ∃ pre, xs = pre ++ r ∧ H d = none ∧ Fr [] H H' ∧ H' d = some (.lst ((pre.filter f).map e))) (fun d d0 => ⟨[], rfl, d0, Fr.new (Fr.refl H) d0, upd_same⟩) (fun d r H' ⟨pre, _, d0, fr, _⟩ => ?_) (fun d a r H' ⟨pre, ex, d0, fr, hl⟩ => ?_) fun d H' ⟨pre, ex, d0, fr, hl⟩ => ?_
  · exact SqL.of (fr.keep _ _ hp (by simp))
  · obtain ⟨h1, h2⟩ := hs a H' (by rw [ex]; simp) fr
    have lz : ((pre.filter f).map e).length < sizeLine := by
      have l1 : (pre.filter f).length ≤ pre.length := List.length_filter_le _ _
      have l2 : xs.length = pre.length + (r.length + 1) := by rw [ex]; simp
      rw [List.length_map]
      omega
    have ex2 : xs = (pre ++ [a]) ++ r := by rw [ex]; simp
    refine ⟨hw a, h1 _ ?_⟩
    cases fa : f a with
    | true =>
      rw [if_pos rfl]
      refine h2 fa _ ⟨_, hl, lz, pre ++ [a], ex2, d0, Fr.upd fr hl rfl (.inr d0), ?_⟩
      rw [upd_same, List.filter_append, List.map_append]
      simp [fa]
    | false =>
      rw [if_neg Bool.false_ne_true]
      refine ⟨pre ++ [a], ex2, d0, fr, ?_⟩
      rw [hl, List.filter_append]
      simp [fa]
  · refine hd d H' d0 fr ?_
    rw [hl, ex, List.append_nil]
/-- while, by a word and a measure, the test without effect -/
theorem st_while (P : L2.St → Hp → Prop) (μ : L2.St → Hp → Nat) (c : L2.St → Hp → Bool) (h0 : P σ H) (hc : ∀ σ H, P σ H → Ans tc σ H (c σ H))
    (hs : ∀ σ H, P σ H → c σ H = true → t { D with nx := fun σ' H' => P σ' H' ∧ μ σ' H' < μ σ H, ct := fun σ' H' => P σ' H' ∧ μ σ' H' < μ σ H, bk := D.nx } σ H) (hd : ∀ σ H, P σ H → c σ H = false → D.nx σ H) : tWhile tc t D σ H := by
  refine ⟨fun m σ H => m = μ σ H ∧ P σ H, ⟨_, rfl, h0⟩, ?_⟩
  rintro m σ H ⟨rfl, p⟩
  refine hc σ H p _ ?_
  cases e : c σ H with
  | true => exact ⟨_, fun σ' H' ⟨p', l⟩ => ⟨_, l, rfl, p'⟩, hs σ H p e⟩
  | false => exact hd σ H p e
end
end U

end
section
namespace U
open PySem PySem.Spec PyProof.Rows L2
structure DefT (K : PySem.W.Frag) (mg : Str → Option Value) (x qual : Str) (st : Stmt) (ps : List Str) (f : Addr) (fd : FuncData) : Prop where
  F : Fun K x qual st f fd
  m : mg x = some (.ref f)
  B : Binds K fd ps []
structure MetT (K : PySem.W.Frag) (C : Addr) (x qual : Str) (st : Stmt) (ps : List Str) (f : Addr) (fd : FuncData) : Prop where
  F : Fun K x qual st f fd
  M : Meth K C x f
  B : Binds K fd ps []
structure IniT (K : PySem.W.Frag) (C : Addr) (qual : Str) (st : Stmt) (ps : List Str) (f : Addr) (fd : FuncData) : Prop where
  F : Fun K "__init__" qual st f fd
  M : Mk K C f
  B : Binds K fd ps []
structure ClsT (K : PySem.W.Frag) (mg : Str → Option Value) (x : Str) (C : Addr) (fs : List Str) : Prop where
  c : Cls K C
  m : mg x = some (.ref C)
  na : ∀ f, f ∈ fs → NoAttr K C f
end U
namespace U
open PySem PySem.Spec PyProof.Rows L2
section
variable {K : PySem.W.Frag} {σ : L2.St} {H : Hp} {D : Ends} {ta tb te : TE} {tc : TT} {t u : TS} {x y v : V} {i : Nat} {b : Bool}
theorem st_setDL {a : Addr} {kvs gs : List (Key × V)} {s : Str} {to ti : TE} (hv : Val te σ H v) (ho : Val to σ H (.ref a)) (hi : Val ti σ H (.str s)) (ha : H a = some (.dK kvs)) (hz : kvs.length < sizeLine) (hp : putK kvs (.inr s) v = gs)
    (k : D.nx σ (upd H a (.dK gs))) : tAsg te (gSub to ti rSetU) D σ H := st_setD hv ho hi ha hz (by rw [hp]; exact k)
theorem ifT {A B : Prop} {b : Bool} (e : b = true) (h : A) : if b = true then A else B := by rw [if_pos e]; exact h
theorem ifF {A B : Prop} {b : Bool} (e : b = false) (h : B) : if b = true then A else B := by rw [e, if_neg Bool.false_ne_true]; exact h
theorem ifB {A B : Prop} {b : Bool} (h1 : b = true → A) (h2 : b = false → B) : if b = true then A else B := by
  cases b with
  | true => rw [if_pos rfl]; exact h1 rfl
  | false => rw [if_neg Bool.false_ne_true]; exact h2 rfl
theorem ifD {A B p : Prop} [Decidable p] (h1 : p → A) (h2 : ¬ p → B) : if decide p = true then A else B := by
  by_cases h : p
  · rw [if_pos (decide_eq_true h)]; exact h1 h
  · rw [if_neg (by simpa using h)]; exact h2 h
theorem ifN {A B p : Prop} [Decidable p] (h1 : p → B) (h2 : ¬ p → A) : if (!decide p) = true then A else B := by
  by_cases h : p
  · rw [if_neg (by simp [h])]; exact h1 h
  · rw [if_pos (by simp [h])]; exact h2 h

/-! the general way, where something is made on the way -/
def sF1 (C : Addr) (ta : TE) (f : Str) (y : V) : TS := fun D σ H1 => ta σ H1 fun x H2 => ∃ a dx fs, x = .ref a ∧ H2 a = some (.ins C dx fs) ∧ fs.length < 1000 ∧ D.nx σ (upd H2 a (.ins C dx (putF f y fs)))
theorem st_fldE {C : Addr} {f : Str} (h : te σ H fun y H1 => sF1 C ta f y D σ H1) : sF C ta te f D σ H := h
theorem st_fld1 {C a dx : Addr} {fs gs : List (Str × V)} {f : Str} (ho : Val ta σ H (.ref a)) (ha : H a = some (.ins C dx fs)) (hz : fs.length < 1000) (hp : putF f v fs = gs) (k : D.nx σ (upd H a (.ins C dx gs))) : sF1 C ta f v D σ H :=
  ho _ ⟨a, dx, fs, rfl, ha, hz, by rw [hp]; exact k⟩
def ap1 (l : Addr) (Q : VK) (v : V) (H1 : Hp) : Prop := ∃ ys, H1 l = some (.lst ys) ∧ ys.length < sizeLine ∧ Q .non (upd H1 l (.lst (ys ++ [v])))
theorem st_apE {l : Addr} {xs : List V} {Q : VK} (ho : Val ta σ H (.ref l)) (hl : H l = some (.lst xs)) (he : te σ H (ap1 l Q)) : tBM K "list" rAppend ta (tCons te tNil) σ H Q := st_appendC ho hl he
theorem st_ap1 {l : Addr} {ys : List V} {Q : VK} (h : H l = some (.lst ys)) (hz : ys.length < sizeLine) (k : Q .non (upd H l (.lst (ys ++ [v])))) : ap1 l Q v H := ⟨ys, h, hz, k⟩
def gS1 (to ti : TE) (v : V) : TS := fun D σ H => to σ H fun o H1 => ti σ H1 fun i H2 => rSetU o i v H2 fun H3 => D.nx σ H3
theorem st_setE {to ti : TE} (h : te σ H fun v H1 => gS1 to ti v D σ H1) : tAsg te (gSub to ti rSetU) D σ H := h
theorem st_set1 {a : Addr} {kvs gs : List (Key × V)} {s : Str} {to ti : TE} (ho : Val to σ H (.ref a)) (hi : Val ti σ H (.str s)) (ha : H a = some (.dK kvs)) (hz : kvs.length < sizeLine) (hp : putK kvs (.inr s) v = gs)
    (k : D.nx σ (upd H a (.dK gs))) : gS1 to ti v D σ H := ho _ (hi _ (.inl ⟨a, _, rfl, DPut.k (k := .inr s) ha hz, by rw [hp]; exact k⟩))
theorem st_opC {r : R2} {Q : VK} (h : ta σ H fun x H1 => tb σ H1 fun y H2 => r x y H2 Q) : tOp r ta tb σ H Q := h
theorem st_lf {r : R2} {Q : VK} (h : Lf r x y H v) (k : Q v H) : r x y H Q := h Q k
theorem st_testC {Q : Bool → Hp → Prop} (h : te σ H fun x H1 => ∃ k, x = .bl k ∧ Q k H1) : tTest te σ H Q := h
theorem st_bC {Q : Bool → Hp → Prop} (h : te σ H fun x H1 => ∃ k, x = .bl k ∧ Q k H1) : tB te σ H Q := h
theorem st_bl {P : Bool → Prop} (h : P b) : ∃ k, V.bl b = .bl k ∧ P k := ⟨b, rfl, h⟩
theorem st_ifC (h : tc σ H fun b H1 => if b = true then t D σ H1 else u D σ H1) : tIfS tc t u D σ H := h
theorem st_consC {tr : TA} {Q : List V → Hp → Prop} (h : te σ H fun x H1 => tr σ H1 fun xs H2 => Q (x :: xs) H2) : tCons te tr σ H Q := h
theorem st_nilC {Q : List V → Hp → Prop} (h : Q [] H) : tNil σ H Q := h
theorem st_tupC {tx : TA} {Q : VK} (h : tx σ H fun xs H1 => xs.length ≤ sizeLine ∧ ∀ p, H1 p = none → Q (.ref p) (upd H1 p (.tup xs))) : tTup tx σ H Q := h
theorem st_lstC {tx : TA} {Q : VK} (h : tx σ H fun xs H1 => xs.length ≤ sizeLine ∧ ∀ p, H1 p = none → Q (.ref p) (upd H1 p (.lst xs))) : tLst tx σ H Q := h
theorem st_cbC {r : List V → Hp → VK → Prop} {tx : TA} {Q : VK} (h : tx σ H fun vs H1 => r vs H1 Q) : tCB r tx σ H Q := h
theorem st_lcl {r : List V → Hp → VK → Prop} {vs : List V} {Q : VK} (h : LC r vs H v) (k : Q v H) : r vs H Q := h Q k
theorem st_callC {sp : Sp} {E : XK} {tx : TA} {Q : VK} (h : tx σ H fun vs H1 => sp (vs ++ []) H1 Q E) : tCall sp [] E tx σ H Q := h
theorem st_ansC {Q : Bool → Hp → Prop} (h : Ans tc σ H b) (k : Q b H) : tc σ H Q := h Q k
theorem st_makeC {C : Addr} {sp : Sp} {E : XK} {tx : TA} {vs : List V} {Q : VK} (h : VA tx σ H vs) (k : ∀ x dx, H x = none → H dx = none → dx ≠ x → (upd H dx (.own x)) x = none → sp (.ref x :: vs) (upd (upd H dx (.own x)) x (.ins C dx [])) (fun v H2 => v = .non ∧ Q (.ref x) H2) E) : tMake C sp [] E tx σ H Q :=
  h _ fun x dx h1 h2 h3 => by
    rw [List.append_nil]
    exact k x dx h1 h2 h3 (by rw [upd_ne h3.symm]; exact h1)
/-- a promise that nobody asks for -/
theorem fn_no {P : Program} {w : World} {mg : Str → Option Value} {base : Heap} {CX : CXT} {k : Nat} {f : Addr} {fd : FuncData} {ps : List Str} {sp : Sp} (h : ∀ vs H Q E, ¬ sp vs H Q E) : FnOk P w K mg base CX k f fd ps sp :=
  ⟨fun vs H Q E z => (h vs H Q E z).elim, fun _ _ _ _ _ _ vs Q E _ _ _ _ z => (h vs _ Q E z).elim⟩
end
end U

end
section
namespace U
open PySem PySem.Spec PyProof.Rows L2
section
variable {X : Cx} {o e : Expr} {K : PySem.W.Frag} {σ : L2.St} {H : Hp} {D : Ends} {ta tb te to ti : TE} {tc : TT} {t u : TS} {x y v z : V} {i : Nat} {b : Bool}
def rMin2 : List V → Hp → VK → Prop := fun xs H Q => ∃ i j, xs = [.int i, .int j] ∧ Q (.int (if j < i then j else i)) H
theorem call_minU (hc : X.calm = true) : CallR X (.builtin "min") rMin2 := call_min2 hc
theorem lc_min {i j : Int} : LC rMin2 [.int i, .int j] H (.int (if j < i then j else i)) := fun _ q => ⟨i, j, rfl, q⟩
def rJoinU (K : PySem.W.Frag) : V → List V → Hp → VK → Prop := fun x xs H Q => ∃ a p, ∃ ys : List Str, x = .str a ∧ xs = [.ref p] ∧ (SqL K H p (ys.map V.str) ∨ SqT K H p (ys.map V.str)) ∧
  (ys.map (·.length)).sum + ys.length * a.length ≤ 16777216 ∧ Q (.str (Txt.join a ys)) H
theorem pe_joinU {apos pos : Pos} (ho : PE X o to) (he : PE X e te) (hs : starEach [e] X.env = [(false, eval e X.env)] := by rfl) (hbase : attributeBase o "join" X.env (eval o X.env) = eval o X.env := by rfl) (hline : (apos.endLine == pos.line) = true := by rfl) :
    PE X (.Call (.Attribute o "join" apos) [e] [] pos) (tM1 (rJoinU X.K) to te) := pe_join ho he hs hbase hline
theorem st_joinE {a : Str} {r : V → List V → Hp → VK → Prop} {Q : VK} (ho : Val to σ H (.str a)) (h : te σ H fun y H1 => r (.str a) [y] H1 Q) : tM1 r to te σ H Q := ho _ ⟨⟨a, rfl⟩, h⟩
theorem st_join {a : Str} {ys : List Str} {p : Addr} {Q : VK} (hp : H p = some (.lst (ys.map V.str))) (hz : (ys.map (·.length)).sum + ys.length * a.length ≤ 16777216) (k : Q (.str (Txt.join a ys)) H) : rJoinU K (.str a) [.ref p] H Q :=
  ⟨a, p, ys, rfl, rfl, .inl (SqL.of hp), hz, k⟩
/-! displays -/
def dEnd (p : Addr) (Q : VK) (ps : List (V × V)) (H2 : Hp) : Prop := H2 p = some (.dK []) ∧ ∃ kvs : List (Key × V), ps = kvs.map (fun kv => (kV kv.1, kv.2)) ∧ kvs.length ≤ 15 ∧ Q (.ref p) (upd H2 p (.dK (mergeK [] kvs)))
theorem st_disp {trs : List (TE × TE)} {Q : VK} (h : ∀ p, H p = none → tPairs trs σ (upd H p (.dK [])) fun ps H2 => dEnd p Q ps H2) : tDisp trs σ H Q := h
theorem st_pair {tk tv : TE} {r : List (TE × TE)} {Q : List (V × V) → Hp → Prop} (hk : Val tk σ H x) (h : tv σ H fun y H2 => tPairs r σ H2 fun ps H3 => Q ((x, y) :: ps) H3) : tPairs ((tk, tv) :: r) σ H Q := hk _ h
theorem st_pnil {Q : List (V × V) → Hp → Prop} (h : Q [] H) : tPairs [] σ H Q := h
theorem st_dend {p : Addr} {Q : VK} {ps : List (V × V)} (kvs : List (Key × V)) (hp : H p = some (.dK [])) (e : ps = kvs.map (fun kv => (kV kv.1, kv.2))) (hz : kvs.length ≤ 15) (k : Q (.ref p) (upd H p (.dK (mergeK [] kvs)))) : dEnd p Q ps H := ⟨hp, kvs, e, hz, k⟩
/-! isinstance -/
theorem lc_isiL {a : Addr} {xs : List V} (h : H a = some (.lst xs)) : LC (rIsi K) [.ref a, .ty "list"] H (.bl true) := fun _ q => ⟨_, _, _, _, _, rfl, .ty _, .base (.lst h), kit_ty rfl, q⟩
theorem lc_isiT {a : Addr} {xs : List V} (h : H a = some (.tup xs)) : LC (rIsi K) [.ref a, .ty "tuple"] H (.bl true) := fun _ q => ⟨_, _, _, _, _, rfl, .ty _, .base (.tup h), kit_ty rfl, q⟩
theorem lc_isiSb {a : Str} : LC (rIsi K) [.str a, .ty "bool"] H (.bl false) := fun _ q => ⟨_, _, _, _, _, rfl, .ty _, .base (.str a), kit_ty rfl, q⟩
theorem lc_isiIb {a : Int} : LC (rIsi K) [.int a, .ty "bool"] H (.bl false) := fun _ q => ⟨_, _, _, _, _, rfl, .ty _, .base (.int a), kit_ty rfl, q⟩
/-! list + list, slices -/
theorem st_cat {p q : Addr} {xs ys : List V} {Q : VK} (hp : H p = some (.lst xs)) (hq : H q = some (.lst ys)) (hz : xs.length + ys.length ≤ sizeLine) (k : ∀ r, H r = none → Q (.ref r) (upd H r (.lst (xs ++ ys)))) : rAddU K (.ref p) (.ref q) H Q :=
  .inr (.inr (.inl ⟨p, q, xs, ys, rfl, rfl, hp, hq, hz, k⟩))
abbrev VO (tp : TO) (σ : L2.St) (H : Hp) (i : Option Int) : Prop := ∀ Q, Q i H → tp σ H Q
theorem vo_no : VO tNoPart σ H none := fun _ q => q
theorem vo_at {i : Int} (h : Val te σ H (.int i)) : VO (tPart te) σ H (some i) := fun _ q => h _ ⟨i, rfl, q⟩
theorem val_slS {tl th : TO} {lo hi : Option Int} {z : Str} (h : Val te σ H (.str z)) (hz : z.length ≤ sizeLine) (h1 : VO tl σ H lo) (h2 : VO th σ H hi) : Val (tSl (rSlU K) te tl th) σ H (.str (cutS z lo hi)) := fun Q q => h _ (h1 _ (h2 _ (.inr (.inr ⟨z, rfl, hz, q⟩))))
theorem st_slL {tl th : TO} {lo hi : Option Int} {p : Addr} {xs : List V} {Q : VK} (h : Val te σ H (.ref p)) (hp : H p = some (.lst xs)) (h1 : VO tl σ H lo) (h2 : VO th σ H hi) (k : ∀ r, H r = none → Q (.ref r) (upd H r (.lst (cutV xs lo hi)))) : tSl (rSlU K) te tl th σ H Q := h _ (h1 _ (h2 _ (.inl ⟨p, xs, rfl, SqL.of hp, k⟩)))
/-! a comprehension over range(n) -/
theorem st_lcR {j : Nat} {tt : TT} {vs : List Nat} {Q : VK} {n : Int} {tx : TA} (ht : VA tx σ H [.int n]) (h1 : n < 2 ^ 62) (h2 : -(2 ^ 62) ≤ n) (P : Addr → Nat → Hp → Prop) (h0 : ∀ d, H d = none → P d 0 (upd H d (.lst [])))
    (hs : ∀ d (i : Nat) H, i < n.toNat → P d i H → wipe ((wipe σ vs).set j (some (.int i))) vs = wipe σ vs ∧ tt ((wipe σ vs).set j (some (.int i))) H fun b H3 =>
      if b = true then tb ((wipe σ vs).set j (some (.int i))) H3 fun y H4 => ∃ acc, H4 d = some (.lst acc) ∧ acc.length < sizeLine ∧ P d (i + 1) (upd H4 d (.lst (acc ++ [y]))) else P d (i + 1) H3)
    (hd : ∀ d H', P d n.toNat H' → Q (.ref d) H') : tLc (iRng1 tx) (gName j) tt tb vs σ H Q := by
  refine ht _ ⟨n, rfl, h2, h1, fun d hd0 => lc_range (lo := 0) (n := n.toNat) (P d) (h0 d hd0) (fun i H hi q => ?_) fun H q => hd d H q⟩
  rw [Int.zero_add]
  exact hs d i H hi q
/-- .., where the bound itself is reckoned with effect -/
theorem st_lcRC {j : Nat} {tt : TT} {vs : List Nat} {Q : VK} {tx : TA} (h : tx σ H fun ws H1 => tLc (iRng1 fun _ H Q => Q ws H) (gName j) tt tb vs σ H1 Q) : tLc (iRng1 tx) (gName j) tt tb vs σ H Q := h
theorem st_forRC {g : TG} {tx : TA} (h : tx σ H fun ws H1 => tFor (iRng1 fun _ H Q => Q ws H) g t D σ H1) : tFor (iRng1 tx) g t D σ H := h
theorem va_ws {ws : List V} : VA (fun _ H Q => Q ws H) σ H ws := fun _ q => q
theorem us_sp {sp : Sp} {vs : List V} {Q : VK} {E : XK} (R : Hp → Prop) (h : R H) (k : ∀ H', R H' → sp vs H' Q E) : sp vs H Q E := k H h
theorem us_ts (R : Hp → Prop) (h : R H) (k : ∀ H', R H' → t D σ H') : t D σ H := k H h
theorem us_vk2 {r : R2} {Q : VK} (R : Hp → Prop) (h : R H) (k : ∀ H', R H' → r x y H' Q) : r x y H Q := k H h
theorem us_vk {Q : VK} (R : Hp → Prop) (h : R H) (k : ∀ H', R H' → Q v H') : Q v H := k H h
theorem us_te {Q : VK} (R : Hp → Prop) (h : R H) (k : ∀ H', R H' → te σ H' Q) : te σ H Q := k H h
theorem us_ta {tx : TA} {Q : List V → Hp → Prop} (R : Hp → Prop) (h : R H) (k : ∀ H', R H' → tx σ H' Q) : tx σ H Q := k H h
theorem us_tt {Q : Bool → Hp → Prop} (R : Hp → Prop) (h : R H) (k : ∀ H', R H' → tc σ H' Q) : tc σ H Q := k H h
theorem us_gs {to ti : TE} (R : Hp → Prop) (h : R H) (k : ∀ H', R H' → gS1 to ti v D σ H') : gS1 to ti v D σ H := k H h
theorem st_mkEnd {n : Nat} {P : Addr → Prop} (h : n ≤ sizeLine) (k : ∀ p, H p = none → P p) : n ≤ sizeLine ∧ ∀ p, H p = none → P p := ⟨h, k⟩
theorem st_gset {a : Addr} {kvs gs : List (Key × V)} {s : Str} {to ti : TE} {Q : L2.St → Hp → Prop} (ho : Val to σ H (.ref a)) (hi : Val ti σ H (.str s)) (ha : H a = some (.dK kvs)) (hz : kvs.length < sizeLine) (hp : putK kvs (.inr s) v = gs)
    (k : Q σ (upd H a (.dK gs))) : gSub to ti rSetU v σ H Q := ho _ (hi _ (.inl ⟨a, _, rfl, DPut.k (k := .inr s) ha hz, by rw [hp]; exact k⟩))
theorem log64 {i : Int} (h : i.natAbs < 2 ^ 64) : i.natAbs.log2 < 64 := by
  by_cases z : i.natAbs = 0
  · rw [z]; decide
  · exact (Nat.log2_lt z).mpr h
theorem mul64 {i j : Int} (hi : i.natAbs < 2 ^ 64) (hj : j.natAbs < 2 ^ 64) : CMulW i j := by
  have := log64 hi
  have := log64 hj
  unfold CMulW
  omega
theorem SqL_fr {H H' : Hp} {p : Addr} {xs : List V} (f : Fr [] H H') (h : SqL K H p xs) : SqL K H' p xs := by
  rcases h with (h | ⟨o, h⟩) | h
  · exact .inl (.inl (f.keep _ _ h (by simp)))
  · exact .inl (.inr ⟨o, f.keep _ _ h (by simp)⟩)
  · exact .inr h
theorem tyes {Q : Bool → Hp → Prop} (h : Q true H) : tYes σ H Q := h
theorem st_bTrue {P R : Prop} (h : P) : if true = true then P else R := by rw [if_pos rfl]; exact h
end
end U

end
section
namespace U
open PySem PySem.Spec PyProof.Rows L2
/-! ### the facts from the machine -/
section
variable {K : PySem.W.Frag} {h : Heap} {mg : Str → Option Value} {x qual : Str} {st : Stmt} {ps : List Str} {f C : Addr} {oc : Value} {od an : Option Addr} {osl : Array (Option Value)} {kV doc pm cdv ct : Value}
abbrev BindsAll (x qual : Str) (st : Stmt) (ps : List Str) : Prop := ∀ (kV doc pm : Value) (an : Option Addr) (cdv ct : Value) (us : List Value), us.length = ps.length → bindArgs (PySem.W.fnOf x qual (defArgs st) (defBody st) (defScope st) .none kV doc pm an cdv ct) ⟨us, []⟩ = pure (ps.zip us)
theorem def_mk (hb : BindsAll x qual st ps) (X : K.In h) (G : h.Ns mainGlobals mg) (a : PySem.W.nsIn K mainGlobals x = some (some (.ref f)))
    (l : K.lookup f = some ⟨oc, od, .func (PySem.W.fnOf x qual (defArgs st) (defBody st) (defScope st) .none kV doc pm an cdv ct), osl⟩) (c : PySem.W.codeIn K cdv qual = true) (k : PySem.W.keepIn K (.ref f) = true) :
    DefT K mg x qual st ps f (PySem.W.fnOf x qual (defArgs st) (defBody st) (defScope st) .none kV doc pm an cdv ct) := ⟨fun_mk l c k, PySem.W.mg_of X G a, (fun_mk l c k).binds hb⟩
theorem met_mk (hb : BindsAll x qual st ps) (a : PySem.W.findIn K (.ref C) x = some (some (.ref f))) (i : PySem.W.isFn K (.ref f) = true)
    (l : K.lookup f = some ⟨oc, od, .func (PySem.W.fnOf x qual (defArgs st) (defBody st) (defScope st) .none kV doc pm an cdv ct), osl⟩) (c : PySem.W.codeIn K cdv qual = true) (k : PySem.W.keepIn K (.ref f) = true) :
    MetT K C x qual st ps f (PySem.W.fnOf x qual (defArgs st) (defBody st) (defScope st) .none kV doc pm an cdv ct) := ⟨fun_mk l c k, ⟨a, i, k⟩, (fun_mk l c k).binds hb⟩
theorem ini_mk (hb : BindsAll "__init__" qual st ps) (mk : PySem.W.makesIn K C = true) (kc : PySem.W.keepIn K (.ref C) = true) (a : PySem.W.findIn K (.ref C) "__init__" = some (some (.ref f))) (i : PySem.W.isFn K (.ref f) = true)
    (l : K.lookup f = some ⟨oc, od, .func (PySem.W.fnOf "__init__" qual (defArgs st) (defBody st) (defScope st) .none kV doc pm an cdv ct), osl⟩) (c : PySem.W.codeIn K cdv qual = true) (k : PySem.W.keepIn K (.ref f) = true) :
    IniT K C qual st ps f (PySem.W.fnOf "__init__" qual (defArgs st) (defBody st) (defScope st) .none kV doc pm an cdv ct) := ⟨fun_mk l c k, ⟨mk, a, i, kc⟩, (fun_mk l c k).binds hb⟩
theorem na_nil : ∀ f, f ∈ ([] : List Str) → NoAttr K C f := fun _ m => nomatch m
theorem na_cons {g : Str} {fs : List Str} (h : PySem.W.findIn K (.ref C) g = some none) (t : ∀ f, f ∈ fs → NoAttr K C f) : ∀ f, f ∈ g :: fs → NoAttr K C f := fun f m => by
  rcases List.mem_cons.mp m with e | m
  · subst e; exact h
  · exact t f m
theorem cls_mk {fs : List Str} (X : K.In h) (G : h.Ns mainGlobals mg) (a : PySem.W.nsIn K mainGlobals x = some (some (.ref C))) (pg : PySem.W.plainGet K C Str.empty = true) (hd : PySem.W.hasDictIn K C = true) (po : PySem.W.plainOver K C = true) (sa : PySem.W.findIn K (.ref C) "__setattr__" = some (some (.builtin "object.__setattr__")))
    (na : ∀ f, f ∈ fs → NoAttr K C f) : ClsT K mg x C fs := ⟨⟨pg, hd, po, sa⟩, PySem.W.mg_of X G a, na⟩
end
end U

end
section
namespace U
open PySem PySem.Spec PyProof.Rows L2
/-! ### sorted(d), sorted(list of texts) -/
def rSortedD : List V → Hp → VK → Prop := fun xs H Q => ∃ (a : Addr) (kvs : List (Key × V)) (ks : List Str), xs = [.ref a] ∧ Rd H a (.dK kvs) ∧ kvs.map (·.1) = ks.map Sum.inr ∧ ks.length < 64 ∧
  ∀ (ys : List Str) (p : Addr), ys.Perm ks → sortedS ys = true → H p = none → Q (.ref p) (upd H p (.lst (ys.map V.str)))
def rSortedU (K : PySem.W.Frag) : List V → Hp → VK → Prop := fun xs H Q => rSortedD xs H Q ∨ rSortedS K xs H Q
theorem call_sortedU {X : Cx} (hc : X.calm = true) : CallR X (.builtin "sorted") (rSortedU X.K) := (show CallR X (.builtin "sorted") rSortedD from call_sortedD hc).or cr_sortedS
theorem l1_neg {H : Hp} {i : Int} : L1 (rU fun i => .int (-i)) (.int i) H (.int (-i)) := fun _ q => ⟨i, rfl, q⟩
/-! ### isinstance of a tree -/
def tyN : T → String
  | .non => "NoneType"
  | .bl _ => "bool"
  | .int _ => "int"
  | .str _ => "str"
  | .tup _ => "tuple"
  | .lst _ => "list"
  | .dic _ _ => "dict"
theorem tyX_T {K : PySem.W.Frag} {H : Hp} : ∀ {t : T} {v : V}, Rp H t v → TyX K H v (.type (tyN t))
  | .non, v, h => by cases (show v = .non from h); exact .base .non
  | .bl b, v, h => by cases (show v = .bl b from h); exact .base (.bl b)
  | .int i, v, h => by cases (show v = .int i from h); exact .base (.int i)
  | .str s, v, h => by cases (show v = .str s from h); exact .base (.str s)
  | .tup ts, v, h => by obtain ⟨a, vs, rfl, h, _⟩ := h; exact .base (.tup h)
  | .lst ts, v, h => by obtain ⟨a, vs, rfl, h, _⟩ := h; exact .base (.lst h)
  | .dic ks ts, v, h => by obtain ⟨a, vs, rfl, h, _⟩ := h; exact .base (.dK h)
theorem lc_isiX {K : PySem.W.Frag} {H : Hp} {t : T} {v : V} {n : String} {b : Bool} (h : Rp H t v) (e : kitB (tyN t) n = some b) : LC (rIsi K) [v, .ty n] H (.bl b) := fun _ q => ⟨_, _, _, _, _, rfl, .ty _, tyX_T h, kit_ty e, q⟩
def isTup : T → Bool
  | .tup _ => true
  | _ => false
def isStr : T → Bool
  | .str _ => true
  | _ => false
def isBl : T → Bool
  | .bl _ => true
  | _ => false
def isLst : T → Bool
  | .lst _ => true
  | _ => false
def isInt : T → Bool
  | .int _ => true
  | .bl _ => true
  | _ => false
def isDic : T → Bool
  | .dic _ _ => true
  | _ => false
section
variable {K : PySem.W.Frag} {H : Hp} {t : T} {v : V}
theorem lc_isTup (h : Rp H t v) : LC (rIsi K) [v, .ty "tuple"] H (.bl (isTup t)) := lc_isiX h (by cases t <;> rfl)
theorem lc_isStr (h : Rp H t v) : LC (rIsi K) [v, .ty "str"] H (.bl (isStr t)) := lc_isiX h (by cases t <;> rfl)
theorem lc_isBl (h : Rp H t v) : LC (rIsi K) [v, .ty "bool"] H (.bl (isBl t)) := lc_isiX h (by cases t <;> rfl)
theorem lc_isLst (h : Rp H t v) : LC (rIsi K) [v, .ty "list"] H (.bl (isLst t)) := lc_isiX h (by cases t <;> rfl)
theorem lc_isInt (h : Rp H t v) : LC (rIsi K) [v, .ty "int"] H (.bl (isInt t)) := lc_isiX h (by cases t <;> rfl)
theorem lc_isDic (h : Rp H t v) : LC (rIsi K) [v, .ty "dict"] H (.bl (isDic t)) := lc_isiX h (by cases t <;> rfl)
end
end U

end
section
/-! defs that raise -/
namespace U
open PySem PySem.Spec PyProof.Rows L2
/-- no argument -/
def tCallW0 (sp : Sp) (E : L2.St → XK) : TE := fun σ H Q => sp [] H Q (E σ)
def tMethW (C : Addr) (m : Str) (sp : Sp) (E : L2.St → XK) (ta : TE) (t : TA) : TE := fun σ H Q => tMeth C m sp [] (E σ) ta t σ H Q
def tMakeW (C : Addr) (sp : Sp) (E : L2.St → XK) (t : TA) : TE := fun σ H Q => tMake C sp [] (E σ) t σ H Q
section
variable {X : Cx} {CX : CXT} {k : Nat} {f C : Addr} {fd : FuncData} {ps : List Str} {sp : Sp} {E : L2.St → XK} {x m : Str} {p pos apos : Pos} {e o : Expr} {es : List Expr} {ta : TE} {t : TA}
theorem pe_callW0 (F : FnOk X.prog X.w X.K X.mg X.base CX k f fd ps sp) (hr : Room k X.A) (hg : Gl X x) (hm : X.mg x = some (.ref f)) (hk : PySem.W.keepIn X.K (.ref f) = true) (hb : Binds X.K fd ps []) (hx : ∀ σ, PassesAt CX X σ (E σ))
    (hdb : (x == ("__debug__" : Str)) = false := by decide) : PE X (.Call (.Name x p) [] [] pos) (tCallW0 sp E) := by
  refine ⟨fun pins s σ H Q I h => ?_⟩
  refine wpAny_Call_Name_kw (ld_glob I hg hm ?_ hdb)
  exact PySem.W.callWith_K0 I.kIn hk (run_fnS (us := []) (vs := []) F hr hb (hx σ) I .nil h)
theorem pe_methW {pl : Sem Bool} (he : PE X o ta) (c : Cls X.K C) (hm : Meth X.K C m f) (F : FnOk X.prog X.w X.K X.mg X.base CX k f fd ps sp) (hr : Room k X.A) (hb : Binds X.K fd ps []) (hx : ∀ σ, PassesAt CX X σ (E σ)) (ha : PA X (e :: es) t)
    (hst : starEach (e :: es) X.env = (false, eval e X.env) :: starEach es X.env := by rfl) (hpl : (backTo pos (starEach es X.env)).any (·.1) = false := by rfl)
    (ht : eval (.Call (.Attribute o m apos) (e :: es) [] pos) X.env = (do
      let ov ← eval o X.env
      standAt apos.atName
      let (f, first) ← holding [ov] (getMethod ov m pl)
      callWith pos f first (backTo pos (starEach (e :: es) X.env)) (backToKw pos (keywordEach [] X.env))) := by rfl) :
    PE X (.Call (.Attribute o m apos) (e :: es) [] pos) (tMethW C m sp E ta t) := by
  refine ⟨fun pins s σ H Q I h => ?_⟩
  refine PySem.W.methodCall_KW (pl := pl) (thn (he.run pins s σ H _ I h) fun u s1 ⟨x, H1, I1, rx, a, dx, fs, ex, ea, l, q⟩ => ?_) ht
  subst ex
  obtain rfl : u = Value.ref a := rx
  refine getmeth_ok I1 ea c hm l ?_
  refine PySem.W.callWith_K (first := [.ref a]) (h₀ := X.base) I.ok.mod.kin hm.kp (thn (ha.run pos pins s1 σ H1 _ I1 q) fun us s2 ⟨vs, H2, I2, r, q2⟩ => ⟨I2.kIn, ?_⟩) hst hpl
  exact run_fnS (us := .ref a :: us) (vs := .ref a :: vs) F hr hb (hx σ) I2 (.cons rfl r) (by have q3 : sp (V.ref a :: (vs ++ [])) H2 Q (E σ) := q2; rw [List.append_nil] at q3; exact q3)
theorem pe_methW0 {pl : Sem Bool} (he : PE X o ta) (c : Cls X.K C) (hm : Meth X.K C m f) (F : FnOk X.prog X.w X.K X.mg X.base CX k f fd ps sp) (hr : Room k X.A) (hb : Binds X.K fd ps []) (hx : ∀ σ, PassesAt CX X σ (E σ))
    (ht : eval (.Call (.Attribute o m apos) [] [] pos) X.env = (do
      let ov ← eval o X.env
      standAt apos.atName
      let (f, first) ← holding [ov] (getMethod ov m pl)
      callWith pos f first (backTo pos (starEach [] X.env)) (backToKw pos (keywordEach [] X.env))) := by rfl) :
    PE X (.Call (.Attribute o m apos) [] [] pos) (tMethW C m sp E ta tNil) := by
  refine ⟨fun pins s σ H Q I h => ?_⟩
  refine PySem.W.methodCall_KW (pl := pl) (thn (he.run pins s σ H _ I h) fun u s1 ⟨x, H1, I1, rx, a, dx, fs, ex, ea, l, q⟩ => ?_) ht
  subst ex
  obtain rfl : u = Value.ref a := rx
  refine getmeth_ok I1 ea c hm l ?_
  exact PySem.W.callWith_K0 (first := [.ref a]) I1.kIn hm.kp (run_fnS (us := [.ref a]) (vs := [.ref a]) F hr hb (hx σ) I1 (.cons rfl .nil) q)
theorem run_makeW {pins : List (Addr × Obj)} {σ : L2.St} {H : Hp} {s : Shared} {Q : VK} {us : List Value} {vs : List V} {E : XK} (M : Mk X.K C f) (F : FnOk X.prog X.w X.K X.mg X.base CX k f fd ps sp) (hr : Room (k + 1) X.A) (hb : Binds X.K fd ps [])
    (hx : PassesAt CX X σ E) (I : Inv X pins σ H s) (r : Vals vs us)
    (h : ∀ x dx, H x = none → H dx = none → dx ≠ x → sp (.ref x :: vs) (upd (upd H dx (.own x)) x (.ins C dx [])) (fun v H2 => v = .non ∧ Q (.ref x) H2) E) :
    wpAny (model X.prog X.w) X.A (call (.ref C) us) (EP X pins σ Q) X.xe s := by
  have hq := h (s.heap.objs.size + 1) s.heap.objs.size (I.hok.fresh (Nat.le_succ _)) (I.hok.fresh (Nat.le_refl _)) (Nat.ne_of_lt (Nat.lt_succ_self _))
  have I2 := Inv.made (C := C) I
  have r2 : Vals (V.ref (s.heap.objs.size + 1) :: vs) (Value.ref (s.heap.objs.size + 1) :: us) := .cons rfl r
  have hl : (Value.ref (s.heap.objs.size + 1) :: us ++ []).length = ps.length := by
    have e := r2.length
    rw [F.len _ _ _ _ hq] at e
    rw [List.append_nil]
    exact e.symm
  have b := hb _ (Value.ref (s.heap.objs.size + 1) :: us) I2.kIn hl
  rw [List.append_nil] at b
  refine wpAny_call (make_map (f := f) I.kIn M.makes M.init (beq_iff_eq.mp M.fn) (codeAny_mono (F.run _ X.stack _ _ ⟨Value.ref (s.heap.objs.size + 1) :: us, []⟩ (Value.ref (s.heap.objs.size + 1) :: us) _ _ E (hr.make C us [])
    (I2.env0.make C us []) b r2 hq) fun r s' hq' => ?_))
  cases r with
  | error e => exact hx pins _ _ e s' I2 hq'
  | ok fl =>
    cases fl with
    | ret u =>
      obtain ⟨v, H', I3, rv, ev, q3⟩ := I2.after hq'
      subst ev
      exact ⟨rv, ⟨V.ref (s.heap.objs.size + 1), H', I3, rfl, q3⟩⟩
    | next => exact False.elim hq'
    | brk => exact False.elim hq'
    | cont => exact False.elim hq'
theorem pe_makeW (M : Mk X.K C f) (F : FnOk X.prog X.w X.K X.mg X.base CX k f fd ps sp) (hr : Room (k + 1) X.A) (hg : Gl X x) (hm : X.mg x = some (.ref C)) (hb : Binds X.K fd ps []) (hx : ∀ σ, PassesAt CX X σ (E σ))
    (ha : PA X (e :: es) t) (hdb : (x == ("__debug__" : Str)) = false := by decide) (he : starEach (e :: es) X.env = (false, eval e X.env) :: starEach es X.env := by rfl) (hpl : (backTo pos (starEach es X.env)).any (·.1) = false := by rfl) :
    PE X (.Call (.Name x p) (e :: es) [] pos) (tMakeW C sp E t) := by
  refine ⟨fun pins s σ H Q I h => ?_⟩
  refine wpAny_Call_Name_kw (ld_glob I hg hm ?_ hdb)
  refine PySem.W.callWith_K (h₀ := X.base) I.ok.mod.kin M.kp (thn (ha.run pos pins s σ H _ I h) fun us s1 ⟨vs, H1, I1, r, q⟩ => ⟨I1.kIn, ?_⟩) he hpl
  exact run_makeW M F hr hb (hx σ) I1 r (by simpa only [List.append_nil] using q)
end
/-! facts of an error's class -/
structure ErrT (K : PySem.W.Frag) (mg : Str → Option Value) (x : Str) (C : Addr) (qual : Str) (st : Stmt) (ps : List Str) (f : Addr) (fd : FuncData) (fs : List Str) : Prop where
  c : OexC K C
  m : mg x = some (.ref C)
  F : Fun K "__init__" qual st f fd
  B : Binds K fd ps []
  i : PySem.W.findIn K (.ref C) "__init__" = some (some (.ref f))
  tI : PySem.W.typeIn K (.ref f) = some (.type "function")
  na : ∀ f, f ∈ fs → PySem.W.findIn K (.ref C) f = some none
/-! steps -/
theorem fr_made {H1 : Hp} {a d : Addr} {fs : List (Str × V)} {H2 : Hp} (ha : H1 a = none) (hd : H1 d = none) (k : ∀ b o, H1 b = some o → H2 b = some o) (o : ∀ b, H2 b = none → H1 b = none) : Fr [] H1 (upd (del H2 a) d (.xd fs)) :=
  ⟨fun b u e _ => by rw [upd_ne (ne_of_none e hd), del_ne (ne_of_none e ha)]; exact k b u e, fun b xs e => by rw [upd_ne (ne_of_none e hd), del_ne (ne_of_none e ha)]; exact k b _ e,
   fun b e => by
    have e := upd_none e
    by_cases z : b = a
    · rw [z]; exact ha
    · rw [del_ne z] at e; exact o b e⟩
/-- the __init__ of an error with one field -/
def sp_err1 (K : PySem.W.Frag) (C : Addr) (f : Str) : Sp := fun vs H Q _ => ∃ (a : Addr) (v : V), vs = [.ref a, v] ∧ H a = some (exo a C none) ∧ OexC K C ∧ PySem.W.findIn K (.ref C) f = some none ∧
  ∀ dx, H dx = none → dx ≠ a → Q .non (upd (upd H dx (exd dx [(f, v)])) a (exo a C (some dx)))
theorem r_err1 {K : PySem.W.Frag} {C : Addr} {f : Str} {vs : List V} {H : Hp} {Q : VK} {E : XK} {N : List Str} (hN : N.length = 2) (h : sp_err1 K C f vs H Q E) : tOst K f (tVar 0) (tVar 1) { nx := fun _ H' => Q .non H', rt := Q } (start N vs) H := by
  obtain ⟨a, v, rfl, ha, hc, hf, k⟩ := h
  match N, hN with
  | [x, y], _ =>
    refine (val_var rfl : Val (tVar 1) _ _ v) _ ((val_var rfl : Val (tVar 0) _ _ (.ref a)) _ ⟨a, C, rfl, hc, hf, .inl ⟨ha, fun dx h1 h2 => k dx h1 h2⟩⟩)
/-- raise C(..) -/
def tRaiseW (C : Addr) (sp : Sp) (W : WX) (t : TA) : TS := fun _ σ H => tMkO C sp [] t σ H fun cls d H' => W cls d σ H'
theorem err1_end {K : PySem.W.Frag} {C : Addr} {f : Str} {v : V} {H1 : Hp} {Q : XK} (hc : OexC K C) (hf : PySem.W.findIn K (.ref C) f = some none) (h : ∀ d H2, H1 d = none → Fr [] H1 H2 → H2 d = some (.xd [(f, v)]) → Q (.ref C) (some d) H2) :
    [v].length ≤ 1000 ∧ ∀ a, H1 a = none → sp_err1 K C f (.ref a :: ([v] ++ [])) (upd H1 a (exo a C none))
      (fun v H2 => v = .non ∧ ∃ (d : Addr) (fs : List (Str × V)), H2 a = some (exo a C (some d)) ∧ H2 d = some (exd d fs) ∧ H1 d = none ∧ Q (.ref C) (some d) (upd (del H2 a) d (.xd fs))) (fun _ _ _ => False) := by
  refine ⟨(by decide : 1 ≤ 1000), fun a ha => ⟨a, v, rfl, upd_same, hc, hf, fun d hd nd => ⟨rfl, d, [(f, v)], upd_same, by rw [upd_ne nd, upd_same], ?_, ?_⟩⟩⟩
  · rw [upd_ne nd] at hd; exact hd
  · have hd1 : H1 d = none := by rw [upd_ne nd] at hd; exact hd
    refine h d _ hd1 (fr_made ha hd1 (fun b o e => ?_) fun b e => ?_) upd_same
    · rw [upd_ne (ne_of_none e ha), upd_ne (ne_of_none e hd1), upd_ne (ne_of_none e ha)]
      exact e
    · exact upd_none (upd_none (upd_none e))
theorem st_raise1 {K : PySem.W.Frag} {C : Addr} {f : Str} {W : WX} {t : TA} {v : V} {D : Ends} {σ : L2.St} {H : Hp} (hv : VA t σ H [v]) (hc : OexC K C) (hf : PySem.W.findIn K (.ref C) f = some none) (h : ∀ d H2, H d = none → Fr [] H H2 → H2 d = some (.xd [(f, v)]) → W (.ref C) (some d) σ H2) :
    tRaiseW C (sp_err1 K C f) W t D σ H := hv _ (err1_end (Q := fun cls d H' => W cls d σ H') hc hf h)
def rInsert : V → List V → Hp → VK → Prop := fun x vs H Q => ∃ (l : Addr) (xs : List V) (i : Int) (y : V), x = .ref l ∧ vs = [.int i, y] ∧ H l = some (.lst xs) ∧ xs.length < sizeLine ∧ 0 ≤ i ∧ i < 2 ^ 63 ∧ Q .non (upd H l (.lst (xs.take i.toNat ++ [y] ++ xs.drop i.toNat)))
theorem mt_insertU {X : Cx} : MtR X "list.insert" rInsert := mt_insert
/-- .. with a list copied -/
def sp_errL (K : PySem.W.Frag) (C : Addr) (f : Str) : Sp := fun vs H Q _ => ∃ (a p : Addr) (xs : List V), vs = [.ref a, .ref p] ∧ H a = some (exo a C none) ∧ H p = some (.lst xs) ∧ OexC K C ∧ PySem.W.findIn K (.ref C) f = some none ∧
  ∀ lr dx, H lr = none → upd H lr (.lst xs) dx = none → dx ≠ a → Q .non (upd (upd (upd H lr (.lst xs)) dx (exd dx [(f, .ref lr)])) a (exo a C (some dx)))
theorem r_errL {K : PySem.W.Frag} {C : Addr} {f : Str} {vs : List V} {H : Hp} {Q : VK} {E : XK} {N : List Str} (hN : N.length = 2) (h : sp_errL K C f vs H Q E) : tOst K f (tVar 0) (tCB (rListOf K) (tCons (tVar 1) tNil)) { nx := fun _ H' => Q .non H', rt := Q } (start N vs) H := by
  obtain ⟨a, p, xs, rfl, ha, hp, hc, hf, k⟩ := h
  match N, hN with
  | [x, y], _ =>
    refine st_listOf (va_cons (val_var rfl) va_nil) hp fun lr hlr => ?_
    have ha' : upd H lr (.lst xs) a = some (exo a C none) := by rw [upd_ne (ne_of_none ha hlr)]; exact ha
    exact (val_var rfl : Val (tVar 0) _ _ (.ref a)) _ ⟨a, C, rfl, hc, hf, .inl ⟨ha', fun dx h1 h2 => k lr dx hlr h1 h2⟩⟩
theorem errL_end {K : PySem.W.Frag} {C : Addr} {f : Str} {p : Addr} {xs : List V} {H1 : Hp} {Q : XK} (hp : H1 p = some (.lst xs)) (hc : OexC K C) (hf : PySem.W.findIn K (.ref C) f = some none) (h : ∀ d lr H2, H1 d = none → H1 lr = none → Fr [] H1 H2 → H2 d = some (.xd [(f, .ref lr)]) → H2 lr = some (.lst xs) → Q (.ref C) (some d) H2) :
    [V.ref p].length ≤ 1000 ∧ ∀ a, H1 a = none → sp_errL K C f (.ref a :: ([V.ref p] ++ [])) (upd H1 a (exo a C none))
      (fun v H2 => v = .non ∧ ∃ (d : Addr) (fs : List (Str × V)), H2 a = some (exo a C (some d)) ∧ H2 d = some (exd d fs) ∧ H1 d = none ∧ Q (.ref C) (some d) (upd (del H2 a) d (.xd fs))) (fun _ _ _ => False) := by
  refine ⟨(by show 1 ≤ 1000; decide), fun a ha => ⟨a, p, xs, rfl, upd_same, by rw [upd_ne (ne_of_none hp ha)]; exact hp, hc, hf, fun lr d hl hd nd => ⟨rfl, d, [(f, .ref lr)], upd_same, by rw [upd_ne nd, upd_same], ?_, ?_⟩⟩⟩
  · have q := upd_none hd; rw [upd_ne nd] at q; exact q
  · have hd1 : H1 d = none := by have q := upd_none hd; rw [upd_ne nd] at q; exact q
    have hl1 : H1 lr = none := upd_none hl
    have nla : lr ≠ a := fun z => by rw [z, upd_same] at hl; cases hl
    have ndl : d ≠ lr := fun z => by rw [z, upd_same] at hd; cases hd
    refine h d lr _ hd1 hl1 (fr_made ha hd1 (fun b o e => ?_) fun b e => ?_) upd_same ?_
    · rw [upd_ne (ne_of_none e ha), upd_ne (ne_of_none e hd1), upd_ne (ne_of_none e hl1), upd_ne (ne_of_none e ha)]
      exact e
    · exact upd_none (upd_none (upd_none (upd_none e)))
    · rw [upd_ne ndl.symm, del_ne nla, upd_ne nla, upd_ne ndl.symm, upd_same]
theorem st_raiseL {K : PySem.W.Frag} {C : Addr} {f : Str} {W : WX} {t : TA} {D : Ends} {σ : L2.St} {H : Hp} (h : t σ H fun vs H1 => ∃ p xs, vs = [V.ref p] ∧ H1 p = some (.lst xs) ∧ OexC K C ∧ PySem.W.findIn K (.ref C) f = some none ∧ ∀ d lr H2, H1 d = none → H1 lr = none → Fr [] H1 H2 → H2 d = some (.xd [(f, .ref lr)]) → H2 lr = some (.lst xs) → W (.ref C) (some d) σ H2)
    (mono : ∀ P P' : List V → Hp → Prop, (∀ vs H1, P vs H1 → P' vs H1) → t σ H P → t σ H P') : tRaiseW C (sp_errL K C f) W t D σ H :=
  mono _ _ (fun vs H1 ⟨p, xs, e, hp, hc, hf, k⟩ => by subst e; exact errL_end (Q := fun cls d H' => W cls d σ H') hp hc hf k) h
theorem st_raiseC {C : Addr} {sp : Sp} {W : WX} {t : TA} {D : Ends} {σ : L2.St} {H : Hp} (h : t σ H fun vs H1 => vs.length ≤ 1000 ∧ ∀ a, H1 a = none → sp (.ref a :: (vs ++ [])) (upd H1 a (exo a C none)) (fun v H2 => v = .non ∧ ∃ (d : Addr) (fs : List (Str × V)), H2 a = some (exo a C (some d)) ∧ H2 d = some (exd d fs) ∧ H1 d = none ∧ W (.ref C) (some d) σ (upd (del H2 a) d (.xd fs))) (fun _ _ _ => False)) : tRaiseW C sp W t D σ H := h
/-! a try with clauses -/
def tTry (K : PySem.W.Frag) (tb : WX → TS) (Wout : WX) (l : List (Value × (Addr → Value → Option Addr → TS))) : TS := fun D σ H => tb (wMany K Wout D l) D σ H
theorem wm_hit {K : PySem.W.Frag} {Wout : WX} {D : Ends} {c : Value} {ts : Addr → Value → Option Addr → TS} {r : List (Value × (Addr → Value → Option Addr → TS))} {cls : Value} {d : Option Addr} {σ : L2.St} {H : Hp} (e : PySem.W.exmOne K cls c = some true) (h : ∀ a, H a = none → ts a cls d D σ H) : wMany K Wout D ((c, ts) :: r) cls d σ H :=
  ⟨true, e, fun _ => h, fun z => (by cases z)⟩
theorem wm_miss {K : PySem.W.Frag} {Wout : WX} {D : Ends} {c : Value} {ts : Addr → Value → Option Addr → TS} {r : List (Value × (Addr → Value → Option Addr → TS))} {cls : Value} {d : Option Addr} {σ : L2.St} {H : Hp} (e : PySem.W.exmOne K cls c = some false) (h : wMany K Wout D r cls d σ H) : wMany K Wout D ((c, ts) :: r) cls d σ H :=
  ⟨false, e, fun z => (by cases z), fun _ => h⟩
end U

end
section
/-! Plain Lean: recipes, what behind tells. -/
namespace Law
open PySem L2 U
inductive Tw where
  | plus | minus | times | most
  deriving DecidableEq
inductive Rc where
  | num (n : Int) | rd (x : Str) | two (k : Tw) (a b : Rc) | pick (a b c : Rc) | choose (a : Rc) (xs : List Str)
  deriving DecidableEq
def Tw.str : Tw → Str
  | .plus => "plus" | .minus => "minus" | .times => "times" | .most => "most"
def Rc.t : Rc → T
  | .num n => .tup [.str "number", .int n]
  | .rd x => .tup [.str "read", .str x]
  | .two k a b => .tup [.str k.str, a.t, b.t]
  | .pick a b c => .tup [.str "pick", a.t, b.t, c.t]
  | .choose a xs => .tup [.str "choose", a.t, .tup (xs.map T.str)]
def Tw.op : Tw → Int → Int → Int
  | .plus, i, j => i + j
  | .minus, i, j => i - j
  | .times, i, j => i * j
  | .most, i, j => if j > i then j else i
def Rc.dp : Rc → Nat
  | .num _ => 0
  | .rd _ => 0
  | .two _ a b => max a.dp b.dp + 1
  | .pick a b c => max a.dp (max b.dp c.dp) + 1
  | .choose a _ => a.dp + 1
/-- going: had, lacking -/
structure Go where
  had : List (Str × Int)
  lack : Option Str
/-- one name looked for; none: refused -/
def lookG (reads : List (Str × Int)) (g : Go) (x : Str) : Option (Option Int × Go) := match g.had.lookup x with
  | some v => some (some v, g)
  | none => match reads[g.had.length]? with
    | none => some (none, ⟨g.had, some x⟩)
    | some (y, n) => if y = x then some (some n, ⟨g.had ++ [(x, n)], g.lack⟩) else none
def worthG (reads : List (Str × Int)) : Rc → Go → Option (Option Int × Go)
  | .num n, g => some (some n, g)
  | .rd x, g => lookG reads g x
  | .two k a b, g => match worthG reads a g with
    | none => none
    | some (none, g) => some (none, g)
    | some (some i, g) => match worthG reads b g with
      | none => none
      | some (none, g) => some (none, g)
      | some (some j, g) => some (some (k.op i j), g)
  | .pick a b c, g => match worthG reads a g with
    | none => none
    | some (none, g) => some (none, g)
    | some (some i, g) => if i ≤ 0 then worthG reads c g else worthG reads b g
  | .choose a xs, g => match worthG reads a g with
    | none => none
    | some (none, g) => some (none, g)
    | some (some i, g) => match xs[(i % (xs.length : Int)).toNat]? with
      | none => none
      | some x => lookG reads g x
/-- what behind tells -/
inductive Told where
  | read (x : Str) | worth (n : Int)
  deriving DecidableEq
def Told.t : Told → T
  | .read x => .tup [.str "read", .str x]
  | .worth n => .tup [.str "worth", .int n]
def behindG (r : Rc) (reads : List (Str × Int)) : Option Told := match worthG reads r ⟨[], none⟩ with
  | none => none
  | some (v, g) => match g.lack with
    | some x => some (.read x)
    | none => if g.had.length < reads.length then none else match v with
      | some n => some (.worth n)
      | none => none

/-! sizes: products by small ones alone -/
def small : Rc → Prop
  | .num c => c.natAbs ≤ 3
  | .pick _ (.num c) (.num d) => c.natAbs ≤ 3 ∧ d.natAbs ≤ 3
  | _ => False
def Sm (M : Nat) : Rc → Prop
  | .num n => n.natAbs < 2 ^ M
  | .rd _ => True
  | .two k a b => (k = .times → small a ∨ small b) ∧ Sm M a ∧ Sm M b
  | .pick a b c => Sm M a ∧ Sm M b ∧ Sm M c
  | .choose a xs => Sm M a ∧ 0 < xs.length
def wb : Rc → Nat
  | .num _ => 0
  | .rd _ => 0
  | .two _ a b => max (wb a) (wb b) + 2
  | .pick a b c => max (wb a) (max (wb b) (wb c))
  | .choose a _ => wb a
/-- all numbers of a list of reads are below 2 ^ M -/
def Bd (M : Nat) (l : List (Str × Int)) : Prop := ∀ p ∈ l, p.2.natAbs < 2 ^ M
theorem lookup_mem : ∀ {l : List (Str × Int)} {x : Str} {v : Int}, l.lookup x = some v → (x, v) ∈ l
  | [], _, _, h => by simp [List.lookup] at h
  | (y, n) :: l, x, v, h => by
    by_cases e : x = y
    · subst e
      have : n = v := by simpa [List.lookup] using h
      rw [this]
      exact List.mem_cons_self
    · have e' : (x == y) = false := by simpa using e
      simp only [List.lookup, e'] at h
      exact List.mem_cons_of_mem _ (lookup_mem h)
theorem lookG_bd {M : Nat} {reads : List (Str × Int)} {g g' : Go} {x : Str} {v : Option Int} (hr : Bd M reads) (hg : Bd M g.had) (h : lookG reads g x = some (v, g')) : Bd M g'.had ∧ ∀ n, v = some n → n.natAbs < 2 ^ M := by
  unfold lookG at h
  cases e : g.had.lookup x with
  | some n =>
    simp only [e] at h
    cases h
    refine ⟨hg, fun n' e' => ?_⟩
    cases e'
    exact hg _ (lookup_mem e)
  | none =>
    simp only [e] at h
    cases e2 : reads[g.had.length]? with
    | none =>
      simp only [e2] at h
      cases h
      exact ⟨hg, fun n' e' => nomatch e'⟩
    | some p =>
      obtain ⟨y, n⟩ := p
      simp only [e2] at h
      split at h
      · cases h
        have hn : n.natAbs < 2 ^ M := hr _ (List.mem_of_getElem? e2)
        refine ⟨fun p hp => ?_, fun n' e' => ?_⟩
        · rcases List.mem_append.mp hp with m | m
          · exact hg p m
          · cases List.mem_singleton.mp m
            exact hn
        · cases e'
          exact hn
      · cases h
theorem two_pow_le {a b : Nat} (h : a ≤ b) : 2 ^ a ≤ 2 ^ b := Nat.pow_le_pow_right (by decide) h
theorem op_bd {k : Tw} {i j : Int} {a b : Nat} (hi : i.natAbs < 2 ^ a) (hj : j.natAbs < 2 ^ b) (hs : k = .times → i.natAbs ≤ 3 ∨ j.natAbs ≤ 3) : (k.op i j).natAbs < 2 ^ (max a b + 2) := by
  have ha : i.natAbs < 2 ^ max a b := Nat.lt_of_lt_of_le hi (two_pow_le (Nat.le_max_left _ _))
  have hb : j.natAbs < 2 ^ max a b := Nat.lt_of_lt_of_le hj (two_pow_le (Nat.le_max_right _ _))
  have e : 2 ^ (max a b + 2) = 4 * 2 ^ max a b := by rw [Nat.pow_add]; omega
  rw [e]
  cases k with
  | plus => show (i + j).natAbs < _; omega
  | minus => show (i - j).natAbs < _; omega
  | most =>
    show (if j > i then j else i).natAbs < _
    split <;> omega
  | times =>
    show (i * j).natAbs < _
    rw [Int.natAbs_mul]
    rcases hs rfl with h | h
    · have := Nat.mul_le_mul_right j.natAbs h
      omega
    · have := Nat.mul_le_mul_left i.natAbs h
      omega
theorem worthG_bd {M : Nat} {reads : List (Str × Int)} (hr : Bd M reads) : ∀ (r : Rc) (g g' : Go) (v : Option Int), Sm M r → Bd M g.had → worthG reads r g = some (v, g') → Bd M g'.had ∧ ∀ n, v = some n → n.natAbs < 2 ^ (M + wb r) ∧ (small r → n.natAbs ≤ 3)
  | .num n, g, g', v, s, hg, h => by
    cases h
    exact ⟨hg, fun n' e => by cases e; exact ⟨s, id⟩⟩
  | .rd x, g, g', v, s, hg, h => by
    obtain ⟨h1, h2⟩ := lookG_bd hr hg h
    exact ⟨h1, fun n e => ⟨h2 n e, fun z => z.elim⟩⟩
  | .two k a b, g, g', v, s, hg, h => by
    obtain ⟨st, sa, sb⟩ := s
    unfold worthG at h
    cases ea : worthG reads a g with
    | none => simp only [ea] at h; cases h
    | some p =>
      obtain ⟨v1, g1⟩ := p
      obtain ⟨b1, n1⟩ := worthG_bd hr a g g1 v1 sa hg ea
      cases v1 with
      | none => simp only [ea] at h; cases h; exact ⟨b1, fun n e => nomatch e⟩
      | some i =>
        simp only [ea] at h
        cases eb : worthG reads b g1 with
        | none => simp only [eb] at h; cases h
        | some p =>
          obtain ⟨v2, g2⟩ := p
          obtain ⟨b2, n2⟩ := worthG_bd hr b g1 g2 v2 sb b1 eb
          cases v2 with
          | none => simp only [eb] at h; cases h; exact ⟨b2, fun n e => nomatch e⟩
          | some j =>
            simp only [eb] at h
            cases h
            obtain ⟨i1, i2⟩ := n1 i rfl
            obtain ⟨j1, j2⟩ := n2 j rfl
            refine ⟨b2, fun n e => ?_⟩
            cases e
            refine ⟨?_, fun z => z.elim⟩
            have q := op_bd (k := k) i1 j1 fun e => (st e).elim (fun z => .inl (i2 z)) fun z => .inr (j2 z)
            have e : max (M + wb a) (M + wb b) + 2 = M + wb (.two k a b) := by show _ = M + (max (wb a) (wb b) + 2); omega
            rw [e] at q
            exact q
  | .pick a b c, g, g', v, s, hg, h => by
    obtain ⟨sa, sb, sc⟩ := s
    unfold worthG at h
    cases ea : worthG reads a g with
    | none => simp only [ea] at h; cases h
    | some p =>
      obtain ⟨v1, g1⟩ := p
      obtain ⟨b1, n1⟩ := worthG_bd hr a g g1 v1 sa hg ea
      cases v1 with
      | none => simp only [ea] at h; cases h; exact ⟨b1, fun n e => nomatch e⟩
      | some i =>
        simp only [ea] at h
        have w1 : wb b ≤ wb (.pick a b c) := Nat.le_trans (Nat.le_max_left _ _) (Nat.le_max_right _ _)
        have w2 : wb c ≤ wb (.pick a b c) := Nat.le_trans (Nat.le_max_right _ _) (Nat.le_max_right _ _)
        have sml : small (.pick a b c) → (∃ c', b = .num c' ∧ c'.natAbs ≤ 3) ∧ ∃ d', c = .num d' ∧ d'.natAbs ≤ 3 := fun z => by
          cases b with
          | num c' =>
            cases c with
            | num d' => exact ⟨⟨c', rfl, z.1⟩, d', rfl, z.2⟩
            | _ => exact z.elim
          | _ => exact z.elim
        split at h
        · obtain ⟨b2, n2⟩ := worthG_bd hr c g1 g' v sc b1 h
          refine ⟨b2, fun n e => ⟨Nat.lt_of_lt_of_le (n2 n e).1 (two_pow_le (by omega)), fun z => ?_⟩⟩
          obtain ⟨_, d', rfl, hd⟩ := sml z
          exact (n2 n e).2 hd
        · obtain ⟨b2, n2⟩ := worthG_bd hr b g1 g' v sb b1 h
          refine ⟨b2, fun n e => ⟨Nat.lt_of_lt_of_le (n2 n e).1 (two_pow_le (by omega)), fun z => ?_⟩⟩
          obtain ⟨⟨d', rfl, hd⟩, _⟩ := sml z
          exact (n2 n e).2 hd
  | .choose a xs, g, g', v, s, hg, h => by
    unfold worthG at h
    cases ea : worthG reads a g with
    | none => simp only [ea] at h; cases h
    | some p =>
      obtain ⟨v1, g1⟩ := p
      obtain ⟨b1, n1⟩ := worthG_bd hr a g g1 v1 s.1 hg ea
      cases v1 with
      | none => simp only [ea] at h; cases h; exact ⟨b1, fun n e => nomatch e⟩
      | some i =>
        simp only [ea] at h
        cases ex : xs[(i % (xs.length : Int)).toNat]? with
        | none => simp only [ex] at h; cases h
        | some x =>
          simp only [ex] at h
          obtain ⟨h1, h2⟩ := lookG_bd hr b1 h
          exact ⟨h1, fun n e => ⟨Nat.lt_of_lt_of_le (h2 n e) (two_pow_le (by omega)), fun z => z.elim⟩⟩

/-! dicts of names and numbers, of names and names -/
def im (m : List (Str × Int)) : List (Key × V) := m.map fun p => (Sum.inr p.1, V.int p.2)
def sm (m : List (Str × Str)) : List (Key × V) := m.map fun p => (Sum.inr p.1, V.str p.2)
theorem im_get (m : List (Str × Int)) (x : Str) : valV (im m) (.inr x) = (m.lookup x).map V.int := by
  induction m with
  | nil => rfl
  | cons p m ih =>
    obtain ⟨y, n⟩ := p
    by_cases e : x = y
    · subst e
      rw [show im ((x, n) :: m) = (.inr x, .int n) :: im m from rfl, vv_hit]
      simp [List.lookup]
    · have e' : (x == y) = false := by simpa using e
      rw [show im ((y, n) :: m) = (.inr y, .int n) :: im m from rfl]
      rw [vv_miss (inr_ne fun z => e z.symm) ih]
      simp only [List.lookup, e']
theorem sm_get (m : List (Str × Str)) (x : Str) : valV (sm m) (.inr x) = (m.lookup x).map V.str := by
  induction m with
  | nil => rfl
  | cons p m ih =>
    obtain ⟨y, n⟩ := p
    by_cases e : x = y
    · subst e
      rw [show sm ((x, n) :: m) = (.inr x, .str n) :: sm m from rfl, vv_hit]
      simp [List.lookup]
    · have e' : (x == y) = false := by simpa using e
      rw [show sm ((y, n) :: m) = (.inr y, .str n) :: sm m from rfl]
      rw [vv_miss (inr_ne fun z => e z.symm) ih]
      simp only [List.lookup, e']
theorem im_put {m : List (Str × Int)} {x : Str} (n : Int) (h : m.lookup x = none) : putK (im m) (.inr x) (.int n) = im (m ++ [(x, n)]) := by
  rw [putK_new _ (by rw [im_get, h]; rfl)]
  simp [im]
theorem sm_put {m : List (Str × Str)} {x : Str} (n : Str) (h : m.lookup x = none) : putK (sm m) (.inr x) (.str n) = sm (m ++ [(x, n)]) := by
  rw [putK_new _ (by rw [sm_get, h]; rfl)]
  simp [sm]
theorem im_len (m : List (Str × Int)) : (im m).length = m.length := by simp [im]
theorem sm_len (m : List (Str × Str)) : (sm m).length = m.length := by simp [sm]
end Law

end
section
/-! Plain Lean: a recipe gone through with what is known; behind by it. -/
namespace Law
open PySem L2 U
def lookF (f : Str → Option Int) (x : Str) (acc : List (Str × Int)) : List (Str × Int) × Told := match f x with
  | none => (acc, .read x)
  | some v => (if (acc.lookup x).isSome then acc else acc ++ [(x, v)], .worth v)
def pickN (xs : List Str) (i : Int) : Str := xs[(i % (xs.length : Int)).toNat]?.getD ""
def walk (f : Str → Option Int) : Rc → List (Str × Int) → List (Str × Int) × Told
  | .num n, acc => (acc, .worth n)
  | .rd x, acc => lookF f x acc
  | .two k a b, acc => match walk f a acc with
    | (acc, .read x) => (acc, .read x)
    | (acc, .worth i) => match walk f b acc with
      | (acc, .read x) => (acc, .read x)
      | (acc, .worth j) => (acc, .worth (k.op i j))
  | .pick a b c, acc => match walk f a acc with
    | (acc, .read x) => (acc, .read x)
    | (acc, .worth i) => if i ≤ 0 then walk f c acc else walk f b acc
  | .choose a xs, acc => match walk f a acc with
    | (acc, .read x) => (acc, .read x)
    | (acc, .worth i) => lookF f (pickN xs i) acc
def Con (f : Str → Option Int) (l : List (Str × Int)) : Prop := ∀ p ∈ l, f p.1 = some p.2
/-- every choose has a name -/
def Ch : Rc → Prop
  | .num _ => True
  | .rd _ => True
  | .two _ a b => Ch a ∧ Ch b
  | .pick a b c => Ch a ∧ Ch b ∧ Ch c
  | .choose a xs => Ch a ∧ 0 < xs.length
theorem Sm.ch {M : Nat} : ∀ {r : Rc}, Sm M r → Ch r
  | .num _, _ => trivial
  | .rd _, _ => trivial
  | .two _ a b, h => ⟨h.2.1.ch, h.2.2.ch⟩
  | .pick a b c, h => ⟨h.1.ch, h.2.1.ch, h.2.2.ch⟩
  | .choose a xs, h => ⟨h.1.ch, h.2⟩
variable {f : Str → Option Int}
theorem lookF_pre {x : Str} {acc : List (Str × Int)} : acc <+: (lookF f x acc).1 := by
  unfold lookF
  split
  · exact List.prefix_rfl
  · dsimp only
    split
    · exact List.prefix_rfl
    · exact List.prefix_append _ _
theorem lookF_con {x : Str} {acc : List (Str × Int)} (h : Con f acc) : Con f (lookF f x acc).1 := by
  unfold lookF
  split
  · exact h
  · rename_i v e
    dsimp only
    split
    · exact h
    · intro p hp
      rcases List.mem_append.mp hp with m | m
      · exact h p m
      · cases List.mem_singleton.mp m
        exact e
theorem walk_pre : ∀ (r : Rc) (acc : List (Str × Int)), acc <+: (walk f r acc).1
  | .num n, acc => List.prefix_rfl
  | .rd x, acc => lookF_pre
  | .two k a b, acc => by
    have h1 := walk_pre a acc
    unfold walk
    split
    · rename_i e; rw [e] at h1; exact h1
    · rename_i acc1 i e
      rw [e] at h1
      have h2 := walk_pre b acc1
      split
      · rename_i e2; rw [e2] at h2; exact h1.trans h2
      · rename_i e2; rw [e2] at h2; exact h1.trans h2
  | .pick a b c, acc => by
    have h1 := walk_pre a acc
    unfold walk
    split
    · rename_i e; rw [e] at h1; exact h1
    · rename_i acc1 i e
      rw [e] at h1
      split
      · exact h1.trans (walk_pre c acc1)
      · exact h1.trans (walk_pre b acc1)
  | .choose a xs, acc => by
    have h1 := walk_pre a acc
    unfold walk
    split
    · rename_i e; rw [e] at h1; exact h1
    · rename_i acc1 i e
      rw [e] at h1
      exact h1.trans lookF_pre
theorem walk_con : ∀ (r : Rc) (acc : List (Str × Int)), Con f acc → Con f (walk f r acc).1
  | .num n, acc, h => h
  | .rd x, acc, h => lookF_con h
  | .two k a b, acc, h => by
    have h1 := walk_con a acc h
    unfold walk
    split
    · rename_i e; rw [e] at h1; exact h1
    · rename_i acc1 i e
      rw [e] at h1
      have h2 := walk_con b acc1 h1
      split
      · rename_i e2; rw [e2] at h2; exact h2
      · rename_i e2; rw [e2] at h2; exact h2
  | .pick a b c, acc, h => by
    have h1 := walk_con a acc h
    unfold walk
    split
    · rename_i e; rw [e] at h1; exact h1
    · rename_i acc1 i e
      rw [e] at h1
      split
      · exact walk_con c acc1 h1
      · exact walk_con b acc1 h1
  | .choose a xs, acc, h => by
    have h1 := walk_con a acc h
    unfold walk
    split
    · rename_i e; rw [e] at h1; exact h1
    · rename_i acc1 i e
      rw [e] at h1
      exact lookF_con h1
theorem con_lookup {l : List (Str × Int)} (h : Con f l) {x : Str} {v : Int} (e : l.lookup x = some v) : f x = some v := h _ (lookup_mem e)
theorem pickN_at {xs : List Str} (h : 0 < xs.length) (i : Int) : xs[(i % (xs.length : Int)).toNat]? = some (pickN xs i) := by
  have h0 : 0 ≤ i % (xs.length : Int) := Int.emod_nonneg _ (by omega)
  have h1 : i % (xs.length : Int) < xs.length := Int.emod_lt_of_pos _ (by omega)
  unfold pickN
  rw [List.getElem?_eq_getElem (by omega)]
  rfl
/-- what is read is all there -/
theorem look_all {reads acc : List (Str × Int)} {x : Str} (hc : Con f acc) (h : (lookF f x acc).1 <+: reads) (hr : ∀ y, (lookF f x acc).2 = .read y → reads = (lookF f x acc).1) :
    lookG reads ⟨acc, none⟩ x = match (lookF f x acc).2 with
      | .worth v => some (some v, ⟨(lookF f x acc).1, none⟩)
      | .read y => some (none, ⟨(lookF f x acc).1, some y⟩) := by
  unfold lookF at h hr ⊢
  unfold lookG
  dsimp only
  cases e : f x with
  | none =>
    simp only [e] at h hr ⊢
    have er := hr x rfl
    cases el : acc.lookup x with
    | some v => rw [con_lookup hc el] at e; cases e
    | none =>
      dsimp only
      have : reads[acc.length]? = none := List.getElem?_eq_none_iff.mpr (by rw [er]; exact Nat.le_refl _)
      rw [this]
  | some v =>
    simp only [e] at h hr ⊢
    cases el : acc.lookup x with
    | some v' =>
      have : v' = v := by rw [con_lookup hc el] at e; exact Option.some.inj e
      rw [this]
      simp
    | none =>
      simp only [el, Option.isSome_none, Bool.false_eq_true, if_false] at h ⊢
      obtain ⟨t, rfl⟩ := h
      have : (acc ++ [(x, v)] ++ t)[acc.length]? = some (x, v) := by simp
      rw [this]
      simp
/-- something read is not there -/
theorem look_lack {reads acc : List (Str × Int)} {x : Str} (h : acc <+: reads) (h2 : reads <+: (lookF f x acc).1) (h3 : reads ≠ (lookF f x acc).1) :
    ∃ y n, (lookF f x acc).1[reads.length]? = some (y, n) ∧ lookG reads ⟨acc, none⟩ x = some (none, ⟨reads, some y⟩) := by
  unfold lookF at h2 h3 ⊢
  cases e : f x with
  | none =>
    simp only [e] at h2 h3
    exact absurd (h2.eq_of_length (Nat.le_antisymm h2.length_le h.length_le)) h3
  | some v =>
    simp only [e] at h2 h3 ⊢
    cases el : acc.lookup x with
    | some v' =>
      simp only [el, Option.isSome_some, if_true] at h2 h3
      exact absurd (h2.eq_of_length (Nat.le_antisymm h2.length_le h.length_le)) h3
    | none =>
      simp only [el, Option.isSome_none, Bool.false_eq_true, if_false] at h2 h3 ⊢
      have l1 := h.length_le
      have l2 := h2.length_le
      rw [List.length_append, List.length_singleton] at l2
      have l3 : reads.length ≠ acc.length + 1 := fun z => h3 (h2.eq_of_length (by rw [List.length_append, List.length_singleton]; exact z))
      have er : acc = reads := h.eq_of_length (by omega)
      subst er
      refine ⟨x, v, by simp, ?_⟩
      unfold lookG
      dsimp only
      rw [el]
      have : acc[acc.length]? = none := List.getElem?_eq_none_iff.mpr (Nat.le_refl _)
      simp [this]
theorem worth_all {reads : List (Str × Int)} : ∀ (r : Rc) (acc : List (Str × Int)), Ch r → Con f acc → (walk f r acc).1 <+: reads → (∀ y, (walk f r acc).2 = .read y → reads = (walk f r acc).1) →
    worthG reads r ⟨acc, none⟩ = match (walk f r acc).2 with
      | .worth v => some (some v, ⟨(walk f r acc).1, none⟩)
      | .read y => some (none, ⟨(walk f r acc).1, some y⟩)
  | .num n, acc, _, _, _, _ => rfl
  | .rd x, acc, _, hc, h, hr => look_all hc h hr
  | .two k a b, acc, hch, hc, h, hr => by
    have ia := worth_all (reads := reads) a acc hch.1 hc
    have pb := walk_con (f := f) a acc hc
    unfold walk at h hr ⊢
    unfold worthG
    rcases ea : walk f a acc with ⟨acc1, x | i⟩
    · rw [ea] at ia
      simp only [ea] at h hr ⊢
      rw [ia h fun y e => hr y e]
    · rw [ea] at ia pb
      have ib := worth_all (reads := reads) b acc1 hch.2 pb
      have p2 := walk_pre (f := f) b acc1
      simp only [ea] at h hr ⊢
      rcases eb : walk f b acc1 with ⟨acc2, y | j⟩
      · rw [eb] at ib p2
        simp only [eb] at h hr ⊢
        rw [ia (p2.trans h) fun y e => nomatch e]
        dsimp only
        rw [ib h fun y e => hr y e]
      · rw [eb] at ib p2
        simp only [eb] at h hr ⊢
        rw [ia (p2.trans h) fun y e => nomatch e]
        dsimp only
        rw [ib h fun y e => nomatch e]
  | .pick a b c, acc, hch, hc, h, hr => by
    have ia := worth_all (reads := reads) a acc hch.1 hc
    have pb := walk_con (f := f) a acc hc
    unfold walk at h hr ⊢
    unfold worthG
    rcases ea : walk f a acc with ⟨acc1, x | i⟩
    · rw [ea] at ia
      simp only [ea] at h hr ⊢
      rw [ia h fun y e => hr y e]
    · rw [ea] at ia pb
      simp only [ea] at h hr ⊢
      by_cases hi : i ≤ 0
      · simp only [if_pos hi] at h hr ⊢
        rw [ia ((walk_pre c acc1).trans h) fun y e => nomatch e]
        dsimp only
        rw [if_pos hi]
        exact worth_all c acc1 hch.2.2 pb h hr
      · simp only [if_neg hi] at h hr ⊢
        rw [ia ((walk_pre b acc1).trans h) fun y e => nomatch e]
        dsimp only
        rw [if_neg hi]
        exact worth_all b acc1 hch.2.1 pb h hr
  | .choose a xs, acc, hch, hc, h, hr => by
    have ia := worth_all (reads := reads) a acc hch.1 hc
    have pb := walk_con (f := f) a acc hc
    unfold walk at h hr ⊢
    unfold worthG
    rcases ea : walk f a acc with ⟨acc1, x | i⟩
    · rw [ea] at ia
      simp only [ea] at h hr ⊢
      rw [ia h fun y e => hr y e]
    · rw [ea] at ia pb
      simp only [ea] at h hr ⊢
      rw [ia (lookF_pre.trans h) fun y e => nomatch e]
      dsimp only
      rw [pickN_at hch.2]
      exact look_all pb h hr
theorem pre_at {l m : List (Str × Int)} {i : Nat} {p : Str × Int} (h : l <+: m) (e : l[i]? = some p) : m[i]? = some p := by
  obtain ⟨t, rfl⟩ := h
  rw [List.getElem?_append_left (List.getElem?_eq_some_iff.mp e).1]
  exact e
theorem worth_lack {reads : List (Str × Int)} : ∀ (r : Rc) (acc : List (Str × Int)), Ch r → Con f acc → acc <+: reads → reads <+: (walk f r acc).1 → reads ≠ (walk f r acc).1 →
    ∃ y n, (walk f r acc).1[reads.length]? = some (y, n) ∧ worthG reads r ⟨acc, none⟩ = some (none, ⟨reads, some y⟩)
  | .num n, acc, _, _, h, h2, h3 => absurd (h2.eq_of_length (Nat.le_antisymm h2.length_le h.length_le)) h3
  | .rd x, acc, _, _, h, h2, h3 => look_lack h h2 h3
  | .two k a b, acc, hch, hc, h, h2, h3 => by
    have ia := worth_lack (reads := reads) a acc hch.1 hc h
    have iA := worth_all (reads := reads) a acc hch.1 hc
    have pb := walk_con (f := f) a acc hc
    unfold walk at h2 h3 ⊢
    unfold worthG
    rcases ea : walk f a acc with ⟨acc1, x | i⟩
    · rw [ea] at ia
      simp only [ea] at h2 h3 ⊢
      obtain ⟨y, n, e1, e2⟩ := ia h2 h3
      exact ⟨y, n, e1, by rw [e2]⟩
    · rw [ea] at ia iA pb
      have p2 := walk_pre (f := f) b acc1
      have ib := worth_lack (reads := reads) b acc1 hch.2 pb
      have eF : (match walk f b acc1 with | (acc, .read x) => (acc, Told.read x) | (acc, .worth j) => (acc, Told.worth (k.op i j))).1 = (walk f b acc1).1 := by
        rcases walk f b acc1 with ⟨_, _ | _⟩ <;> rfl
      simp only [ea] at h2 h3 ⊢
      rw [eF] at h2 h3 ⊢
      rcases List.prefix_or_prefix_of_prefix p2 h2 with q | q
      · obtain ⟨y, n, e1, e2⟩ := ib q h2 h3
        refine ⟨y, n, e1, ?_⟩
        rw [iA q fun y e => nomatch e]
        dsimp only
        rw [e2]
      · by_cases er : reads = acc1
        · obtain ⟨y, n, e1, e2⟩ := ib (by rw [er]; exact List.prefix_rfl) h2 h3
          refine ⟨y, n, e1, ?_⟩
          rw [iA (by rw [er]; exact List.prefix_rfl) fun y e => nomatch e]
          dsimp only
          rw [e2]
        · obtain ⟨y, n, e1, e2⟩ := ia q er
          exact ⟨y, n, pre_at p2 e1, by rw [e2]⟩
  | .pick a b c, acc, hch, hc, h, h2, h3 => by
    have ia := worth_lack (reads := reads) a acc hch.1 hc h
    have iA := worth_all (reads := reads) a acc hch.1 hc
    have pb := walk_con (f := f) a acc hc
    unfold walk at h2 h3 ⊢
    unfold worthG
    rcases ea : walk f a acc with ⟨acc1, x | i⟩
    · rw [ea] at ia
      simp only [ea] at h2 h3 ⊢
      obtain ⟨y, n, e1, e2⟩ := ia h2 h3
      exact ⟨y, n, e1, by rw [e2]⟩
    · rw [ea] at ia iA pb
      simp only [ea] at h2 h3 ⊢
      by_cases hi : i ≤ 0
      · simp only [if_pos hi] at h2 h3 ⊢
        have p2 := walk_pre (f := f) c acc1
        have ib := worth_lack (reads := reads) c acc1 hch.2.2 pb
        by_cases er : reads <+: acc1 ∧ reads ≠ acc1
        · obtain ⟨y, n, e1, e2⟩ := ia er.1 er.2
          exact ⟨y, n, pre_at p2 e1, by rw [e2]⟩
        · have q : acc1 <+: reads := by
            rcases List.prefix_or_prefix_of_prefix p2 h2 with q | q
            · exact q
            · by_cases z : reads = acc1
              · rw [z]; exact List.prefix_rfl
              · exact absurd ⟨q, z⟩ er
          obtain ⟨y, n, e1, e2⟩ := ib q h2 h3
          refine ⟨y, n, e1, ?_⟩
          rw [iA q fun y e => nomatch e]
          dsimp only
          rw [if_pos hi, e2]
      · simp only [if_neg hi] at h2 h3 ⊢
        have p2 := walk_pre (f := f) b acc1
        have ib := worth_lack (reads := reads) b acc1 hch.2.1 pb
        by_cases er : reads <+: acc1 ∧ reads ≠ acc1
        · obtain ⟨y, n, e1, e2⟩ := ia er.1 er.2
          exact ⟨y, n, pre_at p2 e1, by rw [e2]⟩
        · have q : acc1 <+: reads := by
            rcases List.prefix_or_prefix_of_prefix p2 h2 with q | q
            · exact q
            · by_cases z : reads = acc1
              · rw [z]; exact List.prefix_rfl
              · exact absurd ⟨q, z⟩ er
          obtain ⟨y, n, e1, e2⟩ := ib q h2 h3
          refine ⟨y, n, e1, ?_⟩
          rw [iA q fun y e => nomatch e]
          dsimp only
          rw [if_neg hi, e2]
  | .choose a xs, acc, hch, hc, h, h2, h3 => by
    have ia := worth_lack (reads := reads) a acc hch.1 hc h
    have iA := worth_all (reads := reads) a acc hch.1 hc
    have pb := walk_con (f := f) a acc hc
    unfold walk at h2 h3 ⊢
    unfold worthG
    rcases ea : walk f a acc with ⟨acc1, x | i⟩
    · rw [ea] at ia
      simp only [ea] at h2 h3 ⊢
      obtain ⟨y, n, e1, e2⟩ := ia h2 h3
      exact ⟨y, n, e1, by rw [e2]⟩
    · rw [ea] at ia iA pb
      simp only [ea] at h2 h3 ⊢
      have p2 := lookF_pre (f := f) (x := pickN xs i) (acc := acc1)
      by_cases er : reads <+: acc1 ∧ reads ≠ acc1
      · obtain ⟨y, n, e1, e2⟩ := ia er.1 er.2
        exact ⟨y, n, pre_at p2 e1, by rw [e2]⟩
      · have q : acc1 <+: reads := by
          rcases List.prefix_or_prefix_of_prefix p2 h2 with q | q
          · exact q
          · by_cases z : reads = acc1
            · rw [z]; exact List.prefix_rfl
            · exact absurd ⟨q, z⟩ er
        obtain ⟨y, n, e1, e2⟩ := look_lack q h2 h3
        refine ⟨y, n, e1, ?_⟩
        rw [iA q fun y e => nomatch e]
        dsimp only
        rw [pickN_at hch.2]
        exact e2
/-- what behind tells behind the first k reads -/
theorem behind_at {r : Rc} (hch : Ch r) {k : Nat} {y : Str} {n : Int} (e : (walk f r []).1[k]? = some (y, n)) : behindG r ((walk f r []).1.take k) = some (.read y) := by
  have hk := (List.getElem?_eq_some_iff.mp e).1
  have l : ((walk f r []).1.take k).length = k := by rw [List.length_take]; omega
  obtain ⟨y', n', e1, e2⟩ := worth_lack (reads := (walk f r []).1.take k) r [] hch (fun _ m => nomatch m) (List.nil_prefix) (List.take_prefix _ _) (fun z => by have := congrArg List.length z; omega)
  rw [l, e] at e1
  cases e1
  unfold behindG
  rw [e2]
theorem behind_end {r : Rc} (hch : Ch r) : behindG r (walk f r []).1 = some (walk f r []).2 := by
  have q := worth_all (reads := (walk f r []).1) r [] hch (fun _ m => nomatch m) List.prefix_rfl (fun _ _ => rfl)
  unfold behindG
  rw [q]
  rcases walk f r [] with ⟨F, x | v⟩
  · rfl
  · simp

def nm : Rc → List Str
  | .num _ => []
  | .rd x => [x]
  | .two _ a b => nm a ++ nm b
  | .pick a b c => nm a ++ nm b ++ nm c
  | .choose a xs => nm a ++ xs
def rn : Rc → Nat
  | .num _ => 0
  | .rd _ => 1
  | .two _ a b => rn a + rn b
  | .pick a b c => rn a + max (rn b) (rn c)
  | .choose a _ => rn a + 1
theorem pickN_mem {xs : List Str} (h : 0 < xs.length) (i : Int) : pickN xs i ∈ xs := List.mem_of_getElem? (pickN_at h i)
theorem lookF_len {x : Str} {acc : List (Str × Int)} : (lookF f x acc).1.length ≤ acc.length + 1 := by
  unfold lookF
  split
  · exact Nat.le_succ _
  · dsimp only
    split
    · exact Nat.le_succ _
    · simp
theorem walk_len : ∀ (r : Rc) (acc : List (Str × Int)), (walk f r acc).1.length ≤ acc.length + rn r
  | .num n, acc => Nat.le_refl _
  | .rd x, acc => lookF_len
  | .two k a b, acc => by
    have h1 := walk_len a acc
    unfold walk rn
    rcases ea : walk f a acc with ⟨acc1, x | i⟩
    · rw [ea] at h1; dsimp only at h1 ⊢; omega
    · rw [ea] at h1
      have h2 := walk_len b acc1
      rcases eb : walk f b acc1 with ⟨acc2, x | j⟩
      · rw [eb] at h2; simp only [eb]; dsimp only at h1 h2; omega
      · rw [eb] at h2; simp only [eb]; dsimp only at h1 h2; omega
  | .pick a b c, acc => by
    have h1 := walk_len a acc
    unfold walk rn
    rcases ea : walk f a acc with ⟨acc1, x | i⟩
    · rw [ea] at h1; dsimp only at h1 ⊢; omega
    · rw [ea] at h1
      have h2 := walk_len b acc1
      have h3 := walk_len c acc1
      dsimp only at h1 ⊢
      split <;> omega
  | .choose a xs, acc => by
    have h1 := walk_len a acc
    unfold walk rn
    rcases ea : walk f a acc with ⟨acc1, x | i⟩
    · rw [ea] at h1; dsimp only at h1 ⊢; omega
    · rw [ea] at h1
      have h2 := lookF_len (f := f) (x := pickN xs i) (acc := acc1)
      dsimp only at h1 ⊢
      omega
/-- what is told as read is not known, and stands in the recipe -/
theorem lookF_read {x y : Str} {acc : List (Str × Int)} (h : (lookF f x acc).2 = .read y) : y = x ∧ f x = none := by
  unfold lookF at h
  split at h
  · cases h; exact ⟨rfl, by assumption⟩
  · cases h
theorem walk_read : ∀ (r : Rc) (acc : List (Str × Int)) (y : Str), Ch r → (walk f r acc).2 = .read y → y ∈ nm r ∧ f y = none
  | .num n, acc, y, _, h => by cases h
  | .rd x, acc, y, _, h => by
    obtain ⟨rfl, h⟩ := lookF_read h
    exact ⟨List.mem_singleton.mpr rfl, h⟩
  | .two k a b, acc, y, hch, h => by
    have h1 := walk_read a acc y hch.1
    unfold walk at h
    rcases ea : walk f a acc with ⟨acc1, x | i⟩
    · rw [ea] at h1; simp only [ea] at h; obtain ⟨m, q⟩ := h1 h; exact ⟨List.mem_append.mpr (.inl m), q⟩
    · have h2 := walk_read b acc1 y hch.2
      simp only [ea] at h
      rcases eb : walk f b acc1 with ⟨acc2, x | j⟩
      · rw [eb] at h2; simp only [eb] at h; obtain ⟨m, q⟩ := h2 h; exact ⟨List.mem_append.mpr (.inr m), q⟩
      · simp only [eb] at h; cases h
  | .pick a b c, acc, y, hch, h => by
    have h1 := walk_read a acc y hch.1
    unfold walk at h
    rcases ea : walk f a acc with ⟨acc1, x | i⟩
    · rw [ea] at h1; simp only [ea] at h; obtain ⟨m, q⟩ := h1 h; exact ⟨List.mem_append.mpr (.inl (List.mem_append.mpr (.inl m))), q⟩
    · simp only [ea] at h
      split at h
      · obtain ⟨m, q⟩ := walk_read c acc1 y hch.2.2 h; exact ⟨List.mem_append.mpr (.inr m), q⟩
      · obtain ⟨m, q⟩ := walk_read b acc1 y hch.2.1 h; exact ⟨List.mem_append.mpr (.inl (List.mem_append.mpr (.inr m))), q⟩
  | .choose a xs, acc, y, hch, h => by
    have h1 := walk_read a acc y hch.1
    unfold walk at h
    rcases ea : walk f a acc with ⟨acc1, x | i⟩
    · rw [ea] at h1; simp only [ea] at h; obtain ⟨m, q⟩ := h1 h; exact ⟨List.mem_append.mpr (.inl m), q⟩
    · simp only [ea] at h
      obtain ⟨rfl, q⟩ := lookF_read h
      exact ⟨List.mem_append.mpr (.inr (pickN_mem hch.2 i)), q⟩
theorem lookF_in {x : Str} {acc : List (Str × Int)} {l : List Str} (hx : x ∈ l) (h : ∀ p ∈ acc, p.1 ∈ l) : ∀ p ∈ (lookF f x acc).1, p.1 ∈ l := by
  unfold lookF
  split
  · exact h
  · dsimp only
    split
    · exact h
    · intro p hp
      rcases List.mem_append.mp hp with m | m
      · exact h p m
      · cases List.mem_singleton.mp m; exact hx
theorem walk_in {l : List Str} : ∀ (r : Rc) (acc : List (Str × Int)), Ch r → (∀ x ∈ nm r, x ∈ l) → (∀ p ∈ acc, p.1 ∈ l) → ∀ p ∈ (walk f r acc).1, p.1 ∈ l
  | .num n, acc, _, _, h => h
  | .rd x, acc, _, hn, h => lookF_in (hn x (List.mem_singleton.mpr rfl)) h
  | .two k a b, acc, hch, hn, h => by
    have h1 := walk_in a acc hch.1 (fun x m => hn x (List.mem_append.mpr (.inl m))) h
    unfold walk
    rcases ea : walk f a acc with ⟨acc1, x | i⟩
    · rw [ea] at h1; exact h1
    · rw [ea] at h1
      have h2 := walk_in b acc1 hch.2 (fun x m => hn x (List.mem_append.mpr (.inr m))) h1
      rcases eb : walk f b acc1 with ⟨acc2, x | j⟩
      · rw [eb] at h2; simp only [eb]; exact h2
      · rw [eb] at h2; simp only [eb]; exact h2
  | .pick a b c, acc, hch, hn, h => by
    have h1 := walk_in a acc hch.1 (fun x m => hn x (List.mem_append.mpr (.inl (List.mem_append.mpr (.inl m))))) h
    unfold walk
    rcases ea : walk f a acc with ⟨acc1, x | i⟩
    · rw [ea] at h1; exact h1
    · rw [ea] at h1
      dsimp only
      split
      · exact walk_in c acc1 hch.2.2 (fun x m => hn x (List.mem_append.mpr (.inr m))) h1
      · exact walk_in b acc1 hch.2.1 (fun x m => hn x (List.mem_append.mpr (.inl (List.mem_append.mpr (.inr m))))) h1
  | .choose a xs, acc, hch, hn, h => by
    have h1 := walk_in a acc hch.1 (fun x m => hn x (List.mem_append.mpr (.inl m))) h
    unfold walk
    rcases ea : walk f a acc with ⟨acc1, x | i⟩
    · rw [ea] at h1; exact h1
    · rw [ea] at h1
      exact lookF_in (hn _ (List.mem_append.mpr (.inr (pickN_mem hch.2 i)))) h1
theorem walk_bd {M : Nat} {r : Rc} (hch : Ch r) (h : ∀ x ∈ nm r, ∀ v, f x = some v → v.natAbs < 2 ^ M) : Bd M (walk f r []).1 := fun p hp =>
  h p.1 (walk_in (l := nm r) r [] hch (fun _ m => m) (fun _ m => by cases m) p hp) p.2 (walk_con r [] (fun _ m => by cases m) p hp)
/-- the worth, bounded -/
theorem walk_worth {M : Nat} {r : Rc} {v : Int} (s : Sm M r) (h : ∀ x ∈ nm r, ∀ v, f x = some v → v.natAbs < 2 ^ M) (e : (walk f r []).2 = .worth v) : v.natAbs < 2 ^ (M + wb r) := by
  have hb := walk_bd s.ch h
  have q := worth_all (reads := (walk f r []).1) r [] s.ch (fun _ m => by cases m) List.prefix_rfl (fun _ _ => rfl)
  rw [e] at q
  exact ((worthG_bd hb r _ _ _ s (fun _ m => by cases m) q).2 v rfl).1
/-- what is told alone: by what is known -/
def told (f : Str → Option Int) (r : Rc) : Told := (walk f r []).2

/-! weavings -/
structure Wv where
  worths : List (Str × Int)
  begun : List Str
  waits : List (Str × Str)
inductive Stp where
  | waits (n y : Str) | known (n : Str) (v : Int)
  deriving DecidableEq
def Stp.t : Stp → T
  | .waits n y => .tup [.str n, .str "waits", .str y]
  | .known n v => .tup [.str n, .str "known", .int v]
def beginW (b : List Str) (x : Str) : List Str := if x ∈ b then b else b ++ [x]
def Wv.open (W : Wv) : List Str := W.begun.filter fun x => !(W.worths.lookup x).isSome
def Wv.ready (W : Wv) : List Str := W.begun.filter fun x => (!(W.worths.lookup x).isSome && !(W.waits.lookup x).isSome)
def popW (b : List Str) (n : Str) (w : List (Str × Str)) : List (Str × Str) := b.foldl (fun w o => if w.lookup o = some n then w.filter fun p => decide (p.1 ≠ o) else w) w
def stepW (W : Wv) (n : Str) (rc : Rc) : Wv × Stp := match told (W.worths.lookup ·) rc with
  | .read y => (⟨W.worths, beginW W.begun y, W.waits ++ [(n, y)]⟩, .waits n y)
  | .worth v => (⟨W.worths ++ [(n, v)], W.begun, popW W.begun n W.waits⟩, .known n v)
def beginAll (R : List (Str × Rc)) (l b : List Str) : List Str := l.foldl (fun b x => if (R.lookup x).isSome then beginW b x else b) b
theorem sm_drop (w : List (Str × Str)) (o : Str) : dropK (sm w) (.inr o) = sm (w.filter fun p => decide (p.1 ≠ o)) := by
  unfold dropK sm
  rw [List.filter_map]
  congr 1
  refine List.filter_congr fun p _ => ?_
  simp
end Law

end
section
/-! Plain Lean: weavings run to their end. -/
namespace Law
open PySem L2 U
def mb (i : Nat) : Nat := 70 + 20 * i
theorem mb_mono {i j : Nat} (h : i ≤ j) : mb i ≤ mb j := by unfold mb; omega
theorem pow_mb {i j : Nat} {v : Int} (h : i ≤ j) (q : v.natAbs < 2 ^ mb i) : v.natAbs < 2 ^ mb j := Nat.lt_of_lt_of_le q (Nat.pow_le_pow_right (by decide) (mb_mono h))
structure HOk (n : Nat) (ρ : Str → Nat) (G : List (Str × Int)) (R : List (Str × Rc)) : Prop where
  gv : ∀ x v, G.lookup x = some v → v.natAbs < 2 ^ mb 0
  dp : ∀ x rc, R.lookup x = some rc → rc.dp < n
  rn : ∀ x rc, R.lookup x = some rc → rn rc ≤ 900
  sm : ∀ x rc, R.lookup x = some rc → Sm (mb (ρ x)) rc
  wb : ∀ x rc, R.lookup x = some rc → wb rc ≤ 20
  rk : ∀ x rc, R.lookup x = some rc → ρ x ≤ 100
  rd : ∀ x rc, R.lookup x = some rc → ∀ y ∈ nm rc, ρ y < ρ x ∧ ((G.lookup y).isSome ∨ (R.lookup y).isSome)
structure WOk (ρ : Str → Nat) (G : List (Str × Int)) (R : List (Str × Rc)) (W : Wv) : Prop where
  wv : ∀ x v, W.worths.lookup x = some v → v.natAbs < 2 ^ mb (ρ x + 1)
  gw : ∀ x, (G.lookup x).isSome → (W.worths.lookup x).isSome
  bg : ∀ x ∈ W.begun, (R.lookup x).isSome
  wt : ∀ o u, W.waits.lookup o = some u → u ∈ W.begun ∧ W.worths.lookup u = none ∧ ρ u < ρ o ∧ o ∈ W.begun
variable {n : Nat} {ρ : Str → Nat} {G : List (Str × Int)} {R : List (Str × Rc)} {W : Wv}
theorem mem_open {x : Str} : x ∈ W.open ↔ x ∈ W.begun ∧ W.worths.lookup x = none := by
  unfold Wv.open
  rw [List.mem_filter]
  cases W.worths.lookup x <;> simp
theorem mem_ready {x : Str} : x ∈ W.ready ↔ x ∈ W.begun ∧ W.worths.lookup x = none ∧ W.waits.lookup x = none := by
  unfold Wv.ready
  rw [List.mem_filter]
  cases W.worths.lookup x <;> cases W.waits.lookup x <;> simp
theorem ready_ne (w : WOk ρ G R W) (h : W.open ≠ []) : W.ready ≠ [] := by
  have k : ∀ k x, x ∈ W.open → ρ x ≤ k → W.ready ≠ [] := by
    intro k
    induction k with
    | zero =>
      intro x hx hk e
      obtain ⟨h1, h2⟩ := mem_open.mp hx
      cases q : W.waits.lookup x with
      | none => have := mem_ready.mpr ⟨h1, h2, q⟩; rw [e] at this; cases this
      | some u => have := (w.wt x u q).2.2.1; omega
    | succ k ih =>
      intro x hx hk e
      obtain ⟨h1, h2⟩ := mem_open.mp hx
      cases q : W.waits.lookup x with
      | none => have := mem_ready.mpr ⟨h1, h2, q⟩; rw [e] at this; cases this
      | some u =>
        obtain ⟨a, b, c, _⟩ := w.wt x u q
        exact ih u (mem_open.mpr ⟨a, b⟩) (by omega) e
  obtain ⟨x, hx⟩ := List.exists_mem_of_ne_nil _ h
  exact k _ x hx (Nat.le_refl _)
theorem lookup_snoc {β : Type} {l : List (Str × β)} {x y : Str} {v : β} : (l ++ [(x, v)]).lookup y = (l.lookup y).or (if y = x then some v else none) := by
  rw [List.lookup_append]
  by_cases e : y = x
  · subst e; simp [List.lookup]
  · have e' : (y == x) = false := by simpa using e
    simp [List.lookup, e', e]
theorem lookup_filter {l : List (Str × Str)} {o y : Str} : (l.filter fun p => decide (p.1 ≠ o)).lookup y = if y = o then none else l.lookup y := by
  induction l with
  | nil => simp [List.lookup]
  | cons p l ih =>
    obtain ⟨a, b⟩ := p
    by_cases e : a = o
    · subst e
      rw [List.filter_cons_of_neg (by simp), ih]
      by_cases e2 : y = a
      · simp [e2]
      · have : (y == a) = false := by simpa using e2
        simp [List.lookup, this, e2]
    · rw [List.filter_cons_of_pos (by simpa using e)]
      by_cases e2 : y = a
      · subst e2
        simp [List.lookup, e]
      · have : (y == a) = false := by simpa using e2
        simp only [List.lookup, this, ih]
theorem popW_lookup {nme : Str} : ∀ (b : List Str) (w : List (Str × Str)) (o u : Str), (popW b nme w).lookup o = some u → w.lookup o = some u ∧ (o ∈ b → u ≠ nme)
  | [], w, o, u, h => ⟨h, fun m => by cases m⟩
  | c :: b, w, o, u, h => by
    have h : (popW b nme (if w.lookup c = some nme then w.filter fun p => decide (p.1 ≠ c) else w)).lookup o = some u := h
    obtain ⟨h1, h2⟩ := popW_lookup b _ o u h
    by_cases e : w.lookup c = some nme
    · rw [if_pos e, lookup_filter] at h1
      by_cases e2 : o = c
      · rw [if_pos e2] at h1; cases h1
      · rw [if_neg e2] at h1
        exact ⟨h1, fun m => h2 ((List.mem_cons.mp m).resolve_left e2)⟩
    · rw [if_neg e] at h1
      refine ⟨h1, fun m => ?_⟩
      rcases List.mem_cons.mp m with rfl | m
      · intro z; subst z; exact e h1
      · exact h2 m
theorem popW_len {nme : Str} : ∀ (b : List Str) (w : List (Str × Str)), (popW b nme w).length ≤ w.length
  | [], w => Nat.le_refl _
  | c :: b, w => by
    refine Nat.le_trans (popW_len b _) ?_
    show (if w.lookup c = some nme then w.filter fun p => decide (p.1 ≠ c) else w).length ≤ _
    split
    · exact List.length_filter_le _ _
    · exact Nat.le_refl _
theorem mem_beginW {b : List Str} {x y : Str} : y ∈ beginW b x ↔ y ∈ b ∨ y = x := by
  unfold beginW
  split
  · rename_i h
    exact ⟨.inl, fun q => q.elim id fun e => e ▸ h⟩
  · simp
theorem beginW_len {b : List Str} {x : Str} : (beginW b x).length ≤ b.length + 1 := by
  unfold beginW
  split <;> simp
/-- what go_on needs -/
structure GoOk (n : Nat) (R : List (Str × Rc)) (W : Wv) (name : Str) (rc : Rc) (M : Nat) : Prop where
  nw : W.worths.lookup name = none
  nt : W.waits.lookup name = none
  dp : rc.dp < n
  sm : Sm M rc
  hM : M + wb rc ≤ 4000
  rn : rn rc ≤ 900
  bd : ∀ x ∈ nm rc, ∀ v, W.worths.lookup x = some v → v.natAbs < 2 ^ M
  hin : ∀ y, told (W.worths.lookup ·) rc = .read y → (R.lookup y).isSome
theorem go_ok (h : HOk n ρ G R) (w : WOk ρ G R W) {name : Str} {rc : Rc} (hr : name ∈ W.ready) (hl : R.lookup name = some rc) : GoOk n R W name rc (mb (ρ name)) := by
  obtain ⟨_, h2, h3⟩ := mem_ready.mp hr
  refine ⟨h2, h3, h.dp _ _ hl, h.sm _ _ hl, ?_, h.rn _ _ hl, fun x hx v hv => ?_, fun y hy => ?_⟩
  · have := h.wb _ _ hl; have := h.rk _ _ hl; unfold mb; omega
  · exact pow_mb (h.rd _ _ hl x hx).1 (w.wv x v hv)
  · obtain ⟨h4, h5⟩ := walk_read (f := (W.worths.lookup ·)) rc [] y (h.sm _ _ hl).ch hy
    rcases (h.rd _ _ hl y h4).2 with q | q
    · have h5 : W.worths.lookup y = none := h5
      have := w.gw y q
      rw [h5] at this
      cases this
    · exact q
theorem step_ok (h : HOk n ρ G R) (w : WOk ρ G R W) {name : Str} {rc : Rc} (hr : name ∈ W.ready) (hl : R.lookup name = some rc) : WOk ρ G R (stepW W name rc).1 := by
  have g := go_ok h w hr hl
  obtain ⟨hb, hw, ht⟩ := mem_ready.mp hr
  unfold stepW
  rcases e : told (W.worths.lookup ·) rc with y | v
  · obtain ⟨h4, h5⟩ := walk_read (f := (W.worths.lookup ·)) rc [] y (h.sm _ _ hl).ch e
    refine ⟨w.wv, w.gw, fun x hx => ?_, fun o u hu => ?_⟩
    · rcases mem_beginW.mp hx with q | rfl
      · exact w.bg x q
      · exact g.hin _ e
    · have hu : (W.waits ++ [(name, y)]).lookup o = some u := hu
      rw [lookup_snoc] at hu
      cases q : W.waits.lookup o with
      | some u' =>
        rw [q] at hu
        cases hu
        obtain ⟨a, b, c, d⟩ := w.wt o _ q
        exact ⟨mem_beginW.mpr (.inl a), b, c, mem_beginW.mpr (.inl d)⟩
      | none =>
        rw [q] at hu
        by_cases eo : o = name
        · rw [if_pos eo] at hu
          cases hu
          exact ⟨mem_beginW.mpr (.inr rfl), h5, by rw [eo]; exact (h.rd _ _ hl y h4).1, mem_beginW.mpr (.inl (by rw [eo]; exact hb))⟩
        · rw [if_neg eo] at hu
          cases hu
  · have lw : ∀ x, (W.worths ++ [(name, v)]).lookup x = if x = name then some v else W.worths.lookup x := by
      intro x
      rw [lookup_snoc]
      by_cases q : x = name
      · rw [if_pos q, if_pos q, q, hw]; rfl
      · rw [if_neg q, if_neg q]; cases W.worths.lookup x <;> rfl
    refine ⟨fun x z hz => ?_, fun x hx => ?_, w.bg, fun o u hu => ?_⟩
    · have hz : (W.worths ++ [(name, v)]).lookup x = some z := hz
      rw [lw] at hz
      by_cases q : x = name
      · rw [if_pos q] at hz
        cases hz
        rw [q]
        have b := walk_worth (f := (W.worths.lookup ·)) g.sm g.bd e
        refine Nat.lt_of_lt_of_le b (Nat.pow_le_pow_right (by decide) ?_)
        have := h.wb _ _ hl
        unfold mb
        omega
      · rw [if_neg q] at hz
        exact w.wv x z hz
    · show ((W.worths ++ [(name, v)]).lookup x).isSome
      rw [lw]
      split
      · rfl
      · exact w.gw x hx
    · have hu : (popW W.begun name W.waits).lookup o = some u := hu
      obtain ⟨h1, h2⟩ := popW_lookup _ _ _ _ hu
      obtain ⟨a, b, c, d⟩ := w.wt o u h1
      refine ⟨a, ?_, c, d⟩
      show (W.worths ++ [(name, v)]).lookup u = none
      rw [lw, if_neg (h2 d)]
      exact b
/-- the choice at a step -/
def chAt (cs : List Int) (i : Nat) : Int := cs[i]?.getD 0
inductive Runs (R : List (Str × Rc)) (cs : List Int) : Wv → Nat → List Stp → Prop
  | over {W : Wv} {i : Nat} (h : W.open = []) : Runs R cs W i []
  | step {W : Wv} {i : Nat} {name : Str} {rc : Rc} {t : List Stp} (h : W.open ≠ []) (r : W.ready ≠ []) (e : name = pickN W.ready (chAt cs i)) (l : R.lookup name = some rc) (k : Runs R cs (stepW W name rc).1 (i + 1) t) : Runs R cs W i ((stepW W name rc).2 :: t)
/-! they end -/
def cnt (p : Str → Bool) (l : List Str) : Nat := (l.filter p).length
theorem cnt_le {p : Str → Bool} {l : List Str} : cnt p l ≤ l.length := List.length_filter_le _ _
theorem cnt_mono {p q : Str → Bool} : ∀ {l : List Str}, (∀ x ∈ l, p x = true → q x = true) → cnt p l ≤ cnt q l
  | [], _ => Nat.le_refl _
  | x :: l, h => by
    have ih := cnt_mono (p := p) (q := q) (l := l) fun y m => h y (List.mem_cons_of_mem _ m)
    unfold cnt at ih ⊢
    have hx := h x List.mem_cons_self
    cases e : p x <;> cases e2 : q x <;> simp [List.filter_cons, e, e2] at hx ⊢ <;> omega
theorem cnt_lt {p q : Str → Bool} {x : Str} : ∀ {l : List Str}, (∀ x ∈ l, p x = true → q x = true) → x ∈ l → p x = false → q x = true → cnt p l < cnt q l
  | y :: l, h, hx, hp, hq => by
    have hy := h y List.mem_cons_self
    have hr : ∀ z ∈ l, p z = true → q z = true := fun z m => h z (List.mem_cons_of_mem _ m)
    have m := cnt_mono hr
    rcases List.mem_cons.mp hx with rfl | hx
    · unfold cnt at m ⊢
      simp [List.filter_cons, hp, hq]
      omega
    · have ih := cnt_lt hr hx hp hq
      unfold cnt at ih ⊢
      cases e : p y <;> cases e2 : q y <;> simp [List.filter_cons, e, e2] at hy ⊢ <;> omega
def mu (ks : List Str) (W : Wv) : Nat := cnt (fun x => (W.worths.lookup x).isNone) ks * (ks.length + 1) + cnt (fun x => (W.waits.lookup x).isNone) ks
theorem mu_le {ks : List Str} : mu ks W ≤ ks.length * (ks.length + 1) + ks.length := Nat.add_le_add (Nat.mul_le_mul_right _ cnt_le) cnt_le
theorem key_mem {x : Str} {rc : Rc} : ∀ {R : List (Str × Rc)}, R.lookup x = some rc → x ∈ R.map (·.1)
  | (y, r) :: R, h => by
    by_cases e : x = y
    · rw [e]; exact List.mem_cons_self
    · have e' : (x == y) = false := by simpa using e
      simp only [List.lookup, e'] at h
      exact List.mem_cons_of_mem _ (key_mem h)
theorem mu_step (h : HOk n ρ G R) (w : WOk ρ G R W) {name : Str} {rc : Rc} (hr : name ∈ W.ready) (hl : R.lookup name = some rc) : mu (R.map (·.1)) (stepW W name rc).1 < mu (R.map (·.1)) W := by
  obtain ⟨hb, hw, ht⟩ := mem_ready.mp hr
  have hk := key_mem hl
  unfold stepW
  generalize R.map (·.1) = ks at hk
  rcases e : told (W.worths.lookup ·) rc with y | v
  · refine Nat.add_lt_add_left (cnt_lt (x := name) (fun x _ hx => ?_) hk ?_ (by rw [ht]; rfl)) _
    · have hx : ((W.waits ++ [(name, y)]).lookup x).isNone = true := hx
      rw [lookup_snoc] at hx
      cases q : W.waits.lookup x with
      | none => rfl
      | some u => rw [q] at hx; cases hx
    · show ((W.waits ++ [(name, y)]).lookup name).isNone = false
      rw [lookup_snoc, ht, if_pos rfl]
      rfl
  · have lt : cnt (fun x => ((W.worths ++ [(name, v)]).lookup x).isNone) ks < cnt (fun x => (W.worths.lookup x).isNone) ks := by
      refine cnt_lt (x := name) (fun x _ hx => ?_) hk ?_ (by rw [hw]; rfl)
      · have hx : ((W.worths ++ [(name, v)]).lookup x).isNone = true := hx
        rw [lookup_snoc] at hx
        cases q : W.worths.lookup x with
        | none => rfl
        | some u => rw [q] at hx; cases hx
      · show ((W.worths ++ [(name, v)]).lookup name).isNone = false
        rw [lookup_snoc, hw, if_pos rfl]
        rfl
    have le : cnt (fun x => ((popW W.begun name W.waits).lookup x).isNone) ks ≤ ks.length := cnt_le
    show cnt (fun x => ((W.worths ++ [(name, v)]).lookup x).isNone) ks * (ks.length + 1) + cnt (fun x => ((popW W.begun name W.waits).lookup x).isNone) ks < cnt (fun x => (W.worths.lookup x).isNone) ks * (ks.length + 1) + _
    have := Nat.mul_le_mul_right (ks.length + 1) (Nat.succ_le_of_lt lt)
    rw [Nat.succ_mul] at this
    omega
theorem pick_ready {cs : List Int} {i : Nat} (r : W.ready ≠ []) : pickN W.ready (chAt cs i) ∈ W.ready := pickN_mem (List.length_pos_iff.mpr r) _
theorem runs (h : HOk n ρ G R) (cs : List Int) : ∀ (m : Nat) (W : Wv) (i : Nat), WOk ρ G R W → mu (R.map (·.1)) W ≤ m → ∃ t, Runs R cs W i t ∧ t.length ≤ m := by
  intro m
  induction m with
  | zero =>
    intro W i w hm
    by_cases o : W.open = []
    · exact ⟨[], .over o, Nat.le_refl _⟩
    · have r := ready_ne w o
      have hr := pick_ready (cs := cs) (i := i) r
      obtain ⟨rc, hl⟩ := Option.isSome_iff_exists.mp (w.bg _ (mem_ready.mp hr).1)
      have := mu_step h w hr hl
      omega
  | succ m ih =>
    intro W i w hm
    by_cases o : W.open = []
    · exact ⟨[], .over o, Nat.zero_le _⟩
    · have r := ready_ne w o
      have hr := pick_ready (cs := cs) (i := i) r
      obtain ⟨rc, hl⟩ := Option.isSome_iff_exists.mp (w.bg _ (mem_ready.mp hr).1)
      have := mu_step h w hr hl
      obtain ⟨t, ht, lt⟩ := ih _ (i + 1) (step_ok h w hr hl) (by omega)
      exact ⟨_, .step o r rfl hl ht, by rw [List.length_cons]; omega⟩
theorem mem_beginAll {x : Str} : ∀ (l b : List Str), x ∈ beginAll R l b → x ∈ b ∨ (R.lookup x).isSome
  | [], b, h => .inl h
  | y :: l, b, h => by
    have h : x ∈ beginAll R l (if (R.lookup y).isSome then beginW b y else b) := h
    rcases mem_beginAll l _ h with q | q
    · split at q
      · rename_i z
        rcases mem_beginW.mp q with q | rfl
        · exact .inl q
        · exact .inr z
      · exact .inl q
    · exact .inr q
/-- as it starts -/
def W0 (G : List (Str × Int)) (R : List (Str × Rc)) (wl : List Str) : Wv := ⟨G, beginAll R wl [], []⟩
theorem w0_ok (h : HOk n ρ G R) (wl : List Str) : WOk ρ G R (W0 G R wl) :=
  ⟨fun x v hv => pow_mb (Nat.zero_le _) (h.gv x v hv), fun x hx => hx, fun x hx => (mem_beginAll wl [] hx).elim (fun m => nomatch m) id, fun o u hu => by cases hu⟩
theorem runs0 (h : HOk n ρ G R) (wl : List Str) (cs : List Int) (hR : R.length ≤ 100) : ∃ t, Runs R cs (W0 G R wl) 0 t ∧ t.length ≤ 20000 := by
  refine runs h cs 20000 _ 0 (w0_ok h wl) (Nat.le_trans mu_le ?_)
  rw [List.length_map]
  have : R.length * (R.length + 1) ≤ 100 * 101 := Nat.mul_le_mul hR (Nat.succ_le_succ hR)
  omega
/-- one law: one run -/
theorem Runs.det {cs : List Int} {W : Wv} {i : Nat} {t u : List Stp} (a : Runs R cs W i t) (b : Runs R cs W i u) : t = u := by
  induction a generalizing u with
  | over h => cases b with
    | over _ => rfl
    | step h' => exact absurd h h'
  | step h r e l k ih => cases b with
    | over h' => exact absurd h' h
    | step h2 r2 e2 l2 k2 =>
      subst e
      subst e2
      rw [l] at l2
      cases l2
      rw [ih k2]
end Law

end
section
/-! Plain Lean: what a weaving needs of its house, said by a state's invariant; other choices, other houses; a trace looked through. -/
namespace Law
open PySem L2 U
structure GoodI (n : Nat) (R : List (Str × Rc)) (I : Wv → Prop) : Prop where
  has : ∀ W x, I W → x ∈ W.ready → ∃ rc, R.lookup x = some rc
  go : ∀ W x rc, I W → x ∈ W.ready → R.lookup x = some rc → ∃ M, GoOk n R W x rc M
  st : ∀ W x rc, I W → x ∈ W.ready → R.lookup x = some rc → I (stepW W x rc).1
variable {n : Nat} {ρ : Str → Nat} {G : List (Str × Int)} {R : List (Str × Rc)} {W : Wv}
theorem good_of (h : HOk n ρ G R) : GoodI n R (WOk ρ G R) :=
  ⟨fun W x w m => Option.isSome_iff_exists.mp (w.bg _ (mem_ready.mp m).1), fun W x rc w m l => ⟨_, go_ok h w m l⟩, fun W x rc w m l => step_ok h w m l⟩
/-! ### other choices -/
theorem Runs.choices {cs cs' : List Int} {i : Nat} {t : List Stp} (h : Runs R cs W i t) (e : ∀ j, chAt cs j = chAt cs' j) : Runs R cs' W i t := by
  induction h with
  | over h => exact .over h
  | step h r e1 l k ih => exact .step h r (by rw [← e]; exact e1) l ih
theorem chAt_app {cs ds : List Int} {j : Nat} (h : j < cs.length) : chAt (cs ++ ds) j = chAt cs j := by
  unfold chAt
  rw [List.getElem?_append_left h]
theorem chAt_zeros {cs : List Int} {j : Nat} : chAt cs j = chAt (cs ++ [0, 0]) j := by
  by_cases h : j < cs.length
  · rw [chAt_app h]
  · unfold chAt
    rw [List.getElem?_eq_none_iff.mpr (by omega), List.getElem?_append_right (by omega)]
    generalize j - cs.length = k
    match k with
    | 0 => rfl
    | 1 => rfl
    | k + 2 => rfl
theorem chAt_snoc {cs : List Int} {c : Int} : chAt (cs ++ [c]) cs.length = c := by
  unfold chAt
  rw [List.getElem?_append_right (Nat.le_refl _), Nat.sub_self]
  rfl
theorem pickN_more {xs : List Str} (c j : Int) : pickN xs (c + xs.length * j) = pickN xs c := by
  unfold pickN
  rw [Int.add_mul_emod_self_left]
/-! ### wishes twice, given names among them -/
theorem beginW_old {b : List Str} {x : Str} (h : x ∈ b) : beginW b x = b := if_pos h
theorem beginAll_app (R : List (Str × Rc)) (l m b : List Str) : beginAll R (l ++ m) b = beginAll R m (beginAll R l b) := List.foldl_append
theorem beginAll_keep (R : List (Str × Rc)) : ∀ (l b : List Str) (x : Str), x ∈ b → x ∈ beginAll R l b
  | [], b, x, h => h
  | y :: l, b, x, h => by
    refine beginAll_keep R l _ x ?_
    show x ∈ if (R.lookup y).isSome then beginW b y else b
    split
    · exact mem_beginW.mpr (.inl h)
    · exact h
theorem beginAll_has (R : List (Str × Rc)) : ∀ (l b : List Str) (x : Str), x ∈ l → (R.lookup x).isSome → x ∈ beginAll R l b
  | y :: l, b, x, m, h => by
    rcases List.mem_cons.mp m with e | m
    · subst e
      refine beginAll_keep R l _ x ?_
      show x ∈ if (R.lookup x).isSome then beginW b x else b
      rw [if_pos h]
      exact mem_beginW.mpr (.inr rfl)
    · exact beginAll_has R l _ x m h
theorem beginAll_same (R : List (Str × Rc)) : ∀ (m b : List Str), (∀ x ∈ m, (R.lookup x).isSome → x ∈ b) → beginAll R m b = b
  | [], b, _ => rfl
  | y :: m, b, h => by
    have e : (if (R.lookup y).isSome then beginW b y else b) = b := by
      split
      · rename_i z; exact beginW_old (h y List.mem_cons_self z)
      · rfl
    show beginAll R m (if (R.lookup y).isSome then beginW b y else b) = b
    rw [e]
    exact beginAll_same R m b fun x mx hx => h x (List.mem_cons_of_mem _ mx) hx
theorem W0_more {wl m : List Str} (h : ∀ x ∈ m, (R.lookup x).isSome → x ∈ wl) : W0 G R (wl ++ m) = W0 G R wl := by
  unfold W0
  rw [beginAll_app, beginAll_same]
  exact fun x mx hx => beginAll_has R wl [] x (h x mx hx) hx
/-! ### a wider house -/
theorem lookF_congr {f f' : Str → Option Int} {x : Str} {acc : List (Str × Int)} (h : f x = f' x) : lookF f x acc = lookF f' x acc := by
  unfold lookF
  rw [h]
theorem walk_congr {f f' : Str → Option Int} : ∀ (r : Rc) (acc : List (Str × Int)), Ch r → (∀ x ∈ nm r, f x = f' x) → walk f r acc = walk f' r acc
  | .num n, acc, _, h => rfl
  | .rd x, acc, _, h => lookF_congr (h x (List.mem_singleton.mpr rfl))
  | .two k a b, acc, c, h => by
    have h1 := walk_congr a acc c.1 fun x m => h x (List.mem_append.mpr (.inl m))
    have h2 := fun acc => walk_congr b acc c.2 fun x m => h x (List.mem_append.mpr (.inr m))
    unfold walk
    rw [h1]
    simp only [h2]
  | .pick a b c, acc, q, h => by
    have h1 := walk_congr a acc q.1 fun x m => h x (List.mem_append.mpr (.inl (List.mem_append.mpr (.inl m))))
    have h2 := fun acc => walk_congr b acc q.2.1 fun x m => h x (List.mem_append.mpr (.inl (List.mem_append.mpr (.inr m))))
    have h3 := fun acc => walk_congr c acc q.2.2 fun x m => h x (List.mem_append.mpr (.inr m))
    unfold walk
    rw [h1]
    simp only [h2, h3]
  | .choose a xs, acc, q, h => by
    have h1 := walk_congr a acc q.1 fun x m => h x (List.mem_append.mpr (.inl m))
    have h2 := fun i acc => lookF_congr (acc := acc) (h (pickN xs i) (List.mem_append.mpr (.inr (pickN_mem q.2 i))))
    unfold walk
    rw [h1]
    simp only [h2]
theorem told_congr {f f' : Str → Option Int} {r : Rc} (c : Ch r) (h : ∀ x ∈ nm r, f x = f' x) : told f r = told f' r := by
  unfold told
  rw [walk_congr r [] c h]
/-- V stands as W does, for the names of N -/
structure RelW (N : Str → Prop) (W V : Wv) : Prop where
  bg : V.begun = W.begun
  wt : V.waits = W.waits
  wo : ∀ x, N x → V.worths.lookup x = W.worths.lookup x
  nb : ∀ x ∈ W.begun, N x
variable {N : Str → Prop} {V : Wv}
theorem RelW.op (r : RelW N W V) : V.open = W.open := by
  unfold Wv.open
  rw [r.bg]
  refine List.filter_congr fun x m => ?_
  rw [r.wo x (r.nb x m)]
theorem RelW.rdy (r : RelW N W V) : V.ready = W.ready := by
  unfold Wv.ready
  rw [r.bg, r.wt]
  refine List.filter_congr fun x m => ?_
  rw [r.wo x (r.nb x m)]
theorem RelW.tl (r : RelW N W V) {rc : Rc} (c : Ch rc) (h : ∀ x ∈ nm rc, N x) : told (V.worths.lookup ·) rc = told (W.worths.lookup ·) rc := told_congr c fun x m => r.wo x (h x m)
theorem RelW.step (r : RelW N W V) {x : Str} {rc : Rc} (c : Ch rc) (h : ∀ x ∈ nm rc, N x) : (stepW V x rc).2 = (stepW W x rc).2 ∧ RelW N (stepW W x rc).1 (stepW V x rc).1 := by
  unfold stepW
  rw [r.tl c h]
  cases e : told (W.worths.lookup ·) rc with
  | read y =>
    refine ⟨rfl, ⟨by show beginW V.begun y = _; rw [r.bg], by show V.waits ++ _ = _; rw [r.wt], r.wo, fun z m => ?_⟩⟩
    rcases mem_beginW.mp m with m | rfl
    · exact r.nb z m
    · exact h z (walk_read rc [] z c e).1
  | worth v =>
    refine ⟨rfl, ⟨r.bg, by show popW V.begun x V.waits = _; rw [r.bg, r.wt], fun z m => ?_, r.nb⟩⟩
    show (V.worths ++ [(x, v)]).lookup z = (W.worths ++ [(x, v)]).lookup z
    rw [lookup_snoc, lookup_snoc, r.wo z m]
/-- a house within a greater one -/
structure SubR (N : Str → Prop) (R R' : List (Str × Rc)) : Prop where
  up : ∀ x rc, R.lookup x = some rc → R'.lookup x = some rc
  nm : ∀ x rc, R.lookup x = some rc → Ch rc ∧ ∀ y ∈ nm rc, N y
variable {R' : List (Str × Rc)}
theorem Runs.sub (s : SubR N R R') {cs : List Int} {i : Nat} {t : List Stp} (h : Runs R cs W i t) : ∀ {V : Wv}, RelW N W V → Runs R' cs V i t := by
  induction h with
  | over h => exact fun r => .over (by rw [r.op]; exact h)
  | step h rd e l k ih =>
    intro V r
    obtain ⟨e1, r1⟩ := r.step (s.nm _ _ l).1 (s.nm _ _ l).2
    rw [← e1]
    exact .step (by rw [r.op]; exact h) (by rw [r.rdy]; exact rd) (by rw [r.rdy]; exact e) (s.up _ _ l) (ih r1)
theorem GoOk.sub (s : SubR N R R') {x : Str} {rc : Rc} {M : Nat} (l : R.lookup x = some rc) (g : GoOk n R W x rc M) (r : RelW N W V) (hx : N x) : GoOk n R' V x rc M :=
  ⟨by rw [r.wo x hx]; exact g.nw, by rw [r.wt]; exact g.nt, g.dp, g.sm, g.hM, g.rn, fun y m v e => g.bd y m v (by rw [← r.wo y ((s.nm _ _ l).2 y m)]; exact e), fun y e => by
    rw [r.tl (s.nm _ _ l).1 (s.nm _ _ l).2] at e
    obtain ⟨q, hq⟩ := Option.isSome_iff_exists.mp (g.hin y e)
    rw [s.up _ _ hq]
    rfl⟩
theorem good_sub {I : Wv → Prop} (g : GoodI n R I) (s : SubR N R R') : GoodI n R' fun V => ∃ W, I W ∧ RelW N W V := by
  refine ⟨fun V x ⟨W, i, r⟩ m => ?_, fun V x rc ⟨W, i, r⟩ m l => ?_, fun V x rc ⟨W, i, r⟩ m l => ?_⟩
  all_goals
    rw [r.rdy] at m
    obtain ⟨rc0, l0⟩ := g.has W x i m
    have l1 := s.up _ _ l0
  · exact ⟨rc0, l1⟩
  · rw [l] at l1; cases l1
    obtain ⟨M, q⟩ := g.go W x rc i m l0
    exact ⟨M, q.sub s l0 r (r.nb x (mem_ready.mp m).1)⟩
  · rw [l] at l1; cases l1
    exact ⟨_, g.st W x rc i m l0, (r.step (s.nm _ _ l0).1 (s.nm _ _ l0).2).2⟩
/-! ### a trace looked through -/
def isStepT : T → Bool
  | .tup [.str _, _, c] => !isBl c
  | _ => false
def stepName : T → Str
  | .tup (.str x :: _) => x
  | _ => ""
def showsT (R : List (Str × Rc)) : Wv → List T → Bool
  | W, [] => decide (W.open = [])
  | W, t :: ts => isStepT t && (decide (stepName t ∈ W.ready) && match R.lookup (stepName t) with
    | none => false
    | some rc => eqv (stepW W (stepName t) rc).2.t t && showsT R (stepW W (stepName t) rc).1 ts)
theorem stp_isStep : ∀ s : Stp, isStepT s.t = true
  | .waits _ _ => rfl
  | .known _ _ => rfl
theorem step_name (W : Wv) (x : Str) (rc : Rc) : stepName (stepW W x rc).2.t = x := by
  unfold stepW
  split <;> rfl
theorem runs_shows {cs : List Int} {i : Nat} {t : List Stp} (h : Runs R cs W i t) : showsT R W (t.map Stp.t) = true := by
  induction h with
  | over h => exact decide_eq_true h
  | @step W i name rc t h r e l k ih =>
    rw [List.map_cons]
    show (isStepT _ && (decide (stepName _ ∈ W.ready) && match R.lookup (stepName _) with
      | none => false
      | some rc => eqv (stepW W (stepName _) rc).2.t _ && showsT R (stepW W (stepName _) rc).1 _)) = true
    rw [stp_isStep, step_name, l]
    have m : name ∈ W.ready := by rw [e]; exact pick_ready r
    rw [decide_eq_true m]
    show (eqv _ _ && showsT R _ _) = true
    rw [eqv_refl _ (by unfold stepW; split <;> exact ⟨trivial, trivial, trivial, trivial⟩), ih]
    rfl
end Law

end
section
/-! Plain Lean: weavings that may be refused. -/
namespace Law
open PySem L2 U
/-- the first wish that is no name -/
def badW (G : List (Str × Int)) (R : List (Str × Rc)) (wl : List Str) : Option Str := wl.find? fun x => !((G.lookup x).isSome || (R.lookup x).isSome)
theorem badW_hit {G : List (Str × Int)} {R : List (Str × Rc)} {x : Str} {wl : List Str} (h : (G.lookup x).isSome = false) (h2 : (R.lookup x).isSome = false) : badW G R (x :: wl) = some x := by
  unfold badW
  rw [List.find?_cons, h, h2]
  rfl
theorem badW_miss {G : List (Str × Int)} {R : List (Str × Rc)} {x : Str} {wl : List Str} (h : (G.lookup x).isSome = true ∨ (R.lookup x).isSome = true) : badW G R (x :: wl) = badW G R wl := by
  unfold badW
  rw [List.find?_cons]
  rcases h with h | h <;> rw [h] <;> simp
theorem badW_none {G : List (Str × Int)} {R : List (Str × Rc)} {wl : List Str} (h : badW G R wl = none) : ∀ x ∈ wl, (G.lookup x).isSome = true ∨ (R.lookup x).isSome = true := fun x m => by
  have q := List.find?_eq_none.mp h x m
  cases e : (G.lookup x).isSome with
  | true => exact .inl rfl
  | false =>
    cases e2 : (R.lookup x).isSome with
    | true => exact .inr rfl
    | false => rw [e, e2] at q; exact absurd rfl q
/-- the ring that a name lies on -/
def ringGo (W : Wv) (name : Str) : Nat → List Str → Str → Option (List Str)
  | 0, _, _ => none
  | f + 1, found, last => match W.waits.lookup last with
    | some u => if found.length ≤ W.begun.length then (if u = name then some (found ++ [u]) else ringGo W name f (found ++ [u]) u) else none
    | none => none
def ringOf (W : Wv) : List Str → List Str
  | [] => []
  | n :: l => match ringGo W n (W.begun.length + 1) [n] n with
    | some r => r
    | none => ringOf W l
/-- what go_on needs, whatever it comes to -/
structure GoB (n : Nat) (W : Wv) (name : Str) (rc : Rc) (M : Nat) : Prop where
  nw : W.worths.lookup name = none
  nt : W.waits.lookup name = none
  dp : rc.dp < n
  sm : Sm M rc
  hM : M + wb rc ≤ 4000
  rn : rn rc ≤ 900
  bd : ∀ x ∈ nm rc, ∀ v, W.worths.lookup x = some v → v.natAbs < 2 ^ M
/-- what it looks for is there -/
def In (R : List (Str × Rc)) (W : Wv) (rc : Rc) : Prop := ∀ y, told (W.worths.lookup ·) rc = .read y → (R.lookup y).isSome = true
structure GoodB (n : Nat) (R : List (Str × Rc)) (I : Wv → Prop) : Prop where
  has : ∀ W x, I W → x ∈ W.ready → ∃ rc, R.lookup x = some rc
  go : ∀ W x rc, I W → x ∈ W.ready → R.lookup x = some rc → ∃ M, GoB n W x rc M
  st : ∀ W x rc, I W → x ∈ W.ready → R.lookup x = some rc → In R W rc → I (stepW W x rc).1
inductive End where
  | done | name (y : Str) | ring (l : List Str)
inductive RunE (R : List (Str × Rc)) (cs : List Int) : Wv → Nat → List Stp → End → Prop
  | over {W : Wv} {i : Nat} (h : W.open = []) : RunE R cs W i [] .done
  | ring {W : Wv} {i : Nat} (h : W.open ≠ []) (r : W.ready = []) : RunE R cs W i [] (.ring (ringOf W W.begun))
  | name {W : Wv} {i : Nat} {name y : Str} {rc : Rc} (h : W.open ≠ []) (r : W.ready ≠ []) (e : name = pickN W.ready (chAt cs i)) (l : R.lookup name = some rc) (t : told (W.worths.lookup ·) rc = .read y) (n : R.lookup y = none) : RunE R cs W i [] (.name y)
  | step {W : Wv} {i : Nat} {name : Str} {rc : Rc} {t : List Stp} {e : End} (h : W.open ≠ []) (r : W.ready ≠ []) (en : name = pickN W.ready (chAt cs i)) (l : R.lookup name = some rc) (hin : In R W rc) (k : RunE R cs (stepW W name rc).1 (i + 1) t e) : RunE R cs W i ((stepW W name rc).2 :: t) e
variable {n : Nat} {ρ : Str → Nat} {G : List (Str × Int)} {R : List (Str × Rc)} {W : Wv} {I : Wv → Prop}
/-- each step but the last makes the measure less -/
theorem mu_stepB {name : Str} {rc : Rc} (hr : name ∈ W.ready) (hl : R.lookup name = some rc) : mu (R.map (·.1)) (stepW W name rc).1 < mu (R.map (·.1)) W := by
  obtain ⟨hb, hw, ht⟩ := mem_ready.mp hr
  have hk := key_mem hl
  unfold stepW
  generalize R.map (·.1) = ks at hk
  rcases e : told (W.worths.lookup ·) rc with y | v
  · refine Nat.add_lt_add_left (cnt_lt (x := name) (fun x _ hx => ?_) hk ?_ (by rw [ht]; rfl)) _
    · have hx : ((W.waits ++ [(name, y)]).lookup x).isNone = true := hx
      rw [lookup_snoc] at hx
      cases q : W.waits.lookup x with
      | none => rfl
      | some u => rw [q] at hx; cases hx
    · show ((W.waits ++ [(name, y)]).lookup name).isNone = false
      rw [lookup_snoc, ht, if_pos rfl]
      rfl
  · have lt : cnt (fun x => ((W.worths ++ [(name, v)]).lookup x).isNone) ks < cnt (fun x => (W.worths.lookup x).isNone) ks := by
      refine cnt_lt (x := name) (fun x _ hx => ?_) hk ?_ (by rw [hw]; rfl)
      · have hx : ((W.worths ++ [(name, v)]).lookup x).isNone = true := hx
        rw [lookup_snoc] at hx
        cases q : W.worths.lookup x with
        | none => rfl
        | some u => rw [q] at hx; cases hx
      · show ((W.worths ++ [(name, v)]).lookup name).isNone = false
        rw [lookup_snoc, hw, if_pos rfl]
        rfl
    have le : cnt (fun x => ((popW W.begun name W.waits).lookup x).isNone) ks ≤ ks.length := cnt_le
    show cnt (fun x => ((W.worths ++ [(name, v)]).lookup x).isNone) ks * (ks.length + 1) + cnt (fun x => ((popW W.begun name W.waits).lookup x).isNone) ks < cnt (fun x => (W.worths.lookup x).isNone) ks * (ks.length + 1) + _
    have := Nat.mul_le_mul_right (ks.length + 1) (Nat.succ_le_of_lt lt)
    rw [Nat.succ_mul] at this
    omega
theorem runE (g : GoodB n R I) (cs : List Int) : ∀ (m : Nat) (W : Wv) (i : Nat), I W → mu (R.map (·.1)) W ≤ m → ∃ t e, RunE R cs W i t e ∧ t.length ≤ m := by
  intro m
  induction m with
  | zero =>
    intro W i w hm
    by_cases o : W.open = []
    · exact ⟨[], _, .over o, Nat.le_refl _⟩
    by_cases r : W.ready = []
    · exact ⟨[], _, .ring o r, Nat.le_refl _⟩
    have hr := pick_ready (cs := cs) (i := i) r
    obtain ⟨rc, hl⟩ := g.has _ _ w hr
    have := mu_stepB hr hl
    omega
  | succ m ih =>
    intro W i w hm
    by_cases o : W.open = []
    · exact ⟨[], _, .over o, Nat.zero_le _⟩
    by_cases r : W.ready = []
    · exact ⟨[], _, .ring o r, Nat.zero_le _⟩
    have hr := pick_ready (cs := cs) (i := i) r
    obtain ⟨rc, hl⟩ := g.has _ _ w hr
    have hmu := mu_stepB hr hl
    have next : In R W rc → ∃ t e, RunE R cs W i t e ∧ t.length ≤ m + 1 := fun hin => by
      obtain ⟨t, e, ht, lt⟩ := ih _ (i + 1) (g.st _ _ _ w hr hl hin) (by omega)
      exact ⟨_, e, .step o r rfl hl hin ht, by rw [List.length_cons]; omega⟩
    rcases et : told (W.worths.lookup ·) rc with y | v
    · cases ey : R.lookup y with
      | none => exact ⟨[], _, .name o r rfl hl et ey, Nat.zero_le _⟩
      | some q => exact next fun z h => by rw [et] at h; cases h; rw [ey]; rfl
    · exact next fun z h => by rw [et] at h; cases h
theorem RunE.det {cs : List Int} {W : Wv} {i : Nat} {t u : List Stp} {e f : End} (a : RunE R cs W i t e) (b : RunE R cs W i u f) : t = u ∧ e = f := by
  induction a generalizing u f with
  | over h => cases b with
    | over _ => exact ⟨rfl, rfl⟩
    | ring h' => exact absurd h h'
    | name h' => exact absurd h h'
    | step h' => exact absurd h h'
  | ring h r => cases b with
    | over h' => exact absurd h' h
    | ring _ _ => exact ⟨rfl, rfl⟩
    | name _ r' => exact absurd r r'
    | step _ r' => exact absurd r r'
  | name h r e l t n => cases b with
    | over h' => exact absurd h' h
    | ring _ r' => exact absurd r' r
    | name _ _ e2 l2 t2 n2 =>
      subst e; subst e2; rw [l] at l2; cases l2; rw [t] at t2; cases t2; exact ⟨rfl, rfl⟩
    | step _ _ e2 l2 hin _ =>
      subst e; subst e2; rw [l] at l2; cases l2
      have q := hin _ t; rw [n] at q; cases q
  | step h r e l hin k ih => cases b with
    | over h' => exact absurd h' h
    | ring _ r' => exact absurd r' r
    | name _ _ e2 l2 t2 n2 =>
      subst e; subst e2; rw [l] at l2; cases l2
      have q := hin _ t2; rw [n2] at q; cases q
    | step h2 r2 e2 l2 hin2 k2 =>
      subst e; subst e2; rw [l] at l2; cases l2
      obtain ⟨q1, q2⟩ := ih k2
      subst q1; subst q2
      exact ⟨rfl, rfl⟩
end Law

end
section
/-! Plain Lean: houses whose recipes look for any names. -/
namespace Law
open PySem L2 U
theorem Sm.up {M M' : Nat} (l : M ≤ M') : ∀ {r : Rc}, Sm M r → Sm M' r
  | .num n, h => Nat.lt_of_lt_of_le h (Nat.pow_le_pow_right (by decide) l)
  | .rd _, _ => trivial
  | .two _ _ _, h => ⟨h.1, h.2.1.up l, h.2.2.up l⟩
  | .pick _ _ _, h => ⟨h.1.up l, h.2.1.up l, h.2.2.up l⟩
  | .choose _ _, h => ⟨h.1.up l, h.2⟩
structure LOk (n : Nat) (G : List (Str × Int)) (R : List (Str × Rc)) : Prop where
  g : ∀ x v, G.lookup x = some v → v.natAbs < 2 ^ 70
  dp : ∀ x rc, R.lookup x = some rc → rc.dp < n
  rn : ∀ x rc, R.lookup x = some rc → rn rc ≤ 900
  sm : ∀ x rc, R.lookup x = some rc → Sm 70 rc
  wb : ∀ x rc, R.lookup x = some rc → wb rc ≤ 6
  rl : R.length ≤ 120
def lb (c : Nat) : Nat := 70 + 6 * c
def kn (R : List (Str × Rc)) (W : Wv) : Nat := cnt (fun x => (W.worths.lookup x).isSome) (R.map (·.1))
structure LI (R : List (Str × Rc)) (W : Wv) : Prop where
  b : ∀ x ∈ W.begun, (R.lookup x).isSome = true
  v : ∀ x v, W.worths.lookup x = some v → v.natAbs < 2 ^ lb (kn R W)
variable {n : Nat} {G : List (Str × Int)} {R : List (Str × Rc)} {W : Wv}
theorem kn_le (h : LOk n G R) : kn R W ≤ 120 := by
  refine Nat.le_trans cnt_le ?_
  rw [List.length_map]
  exact h.rl
theorem lgood (h : LOk n G R) : GoodB n R (LI R) := by
  have go : ∀ (W : Wv) (x : Str) (rc : Rc), LI R W → x ∈ W.ready → R.lookup x = some rc → GoB n W x rc (lb (kn R W)) := fun W x rc i hr hl => by
    obtain ⟨_, h2, h3⟩ := mem_ready.mp hr
    refine ⟨h2, h3, h.dp _ _ hl, (h.sm _ _ hl).up (by unfold lb; omega), ?_, h.rn _ _ hl, fun x hx v hv => i.v x v hv⟩
    have := h.wb _ _ hl
    have := kn_le (W := W) h
    unfold lb
    omega
  refine ⟨fun W x i hr => Option.isSome_iff_exists.mp (i.b x (mem_ready.mp hr).1), fun W x rc i hr hl => ⟨_, go W x rc i hr hl⟩, fun W name rc i hr hl hin => ?_⟩
  have g := go W name rc i hr hl
  obtain ⟨hb, hw, ht⟩ := mem_ready.mp hr
  unfold stepW
  rcases e : told (W.worths.lookup ·) rc with y | v
  · refine ⟨fun x hx => ?_, i.v⟩
    rcases mem_beginW.mp hx with q | rfl
    · exact i.b x q
    · exact hin _ e
  · have lt : kn R W < kn R ⟨W.worths ++ [(name, v)], W.begun, popW W.begun name W.waits⟩ := by
      refine cnt_lt (x := name) (fun x _ hx => ?_) (key_mem hl) ?_ ?_
      · show ((W.worths ++ [(name, v)]).lookup x).isSome = true
        have hx : (W.worths.lookup x).isSome = true := hx
        rw [lookup_snoc]
        cases q : W.worths.lookup x with
        | none => rw [q] at hx; cases hx
        | some u => rfl
      · show (W.worths.lookup name).isSome = false
        rw [hw]; rfl
      · show ((W.worths ++ [(name, v)]).lookup name).isSome = true
        rw [lookup_snoc, hw, if_pos rfl]
        rfl
    show LI R ⟨W.worths ++ [(name, v)], W.begun, popW W.begun name W.waits⟩
    refine ⟨i.b, fun x z hz => ?_⟩
    have hz : (W.worths ++ [(name, v)]).lookup x = some z := hz
    rw [lookup_snoc] at hz
    cases q : W.worths.lookup x with
    | some u =>
      rw [q] at hz
      cases hz
      exact Nat.lt_of_lt_of_le (i.v x _ q) (Nat.pow_le_pow_right (by decide) (by unfold lb; omega))
    | none =>
      rw [q] at hz
      by_cases en : x = name
      · rw [if_pos en] at hz
        cases hz
        have b := walk_worth (f := (W.worths.lookup ·)) g.sm g.bd e
        refine Nat.lt_of_lt_of_le b (Nat.pow_le_pow_right (by decide) ?_)
        have := h.wb _ _ hl
        unfold lb
        omega
      · rw [if_neg en] at hz
        cases hz
theorem lI0 (h : LOk n G R) (wl : List Str) : LI R (W0 G R wl) :=
  ⟨fun x hx => (mem_beginAll wl [] hx).elim (fun m => nomatch m) id, fun x v hv => Nat.lt_of_lt_of_le (h.g x v hv) (Nat.pow_le_pow_right (by decide) (by unfold lb; omega))⟩
/-! shown, where a step may be refused -/
def inB (R : List (Str × Rc)) (W : Wv) (rc : Rc) : Bool := match told (W.worths.lookup ·) rc with
  | .read y => (R.lookup y).isSome
  | .worth _ => true
theorem inB_iff {rc : Rc} : inB R W rc = true ↔ In R W rc := by
  unfold inB In
  generalize told (W.worths.lookup ·) rc = td
  cases td with
  | read y => exact ⟨fun h z hz => by cases hz; exact h, fun h => h y rfl⟩
  | worth v => exact ⟨fun _ z hz => (by cases hz), fun _ => rfl⟩
theorem inB_no {rc : Rc} (h : ¬ inB R W rc = true) : ∃ y, told (W.worths.lookup ·) rc = .read y ∧ R.lookup y = none := by
  unfold inB at h
  generalize told (W.worths.lookup ·) rc = td at *
  cases td with
  | read y =>
    refine ⟨y, rfl, ?_⟩
    have h : ¬ (R.lookup y).isSome = true := h
    cases q : R.lookup y with
    | none => rfl
    | some u => rw [q] at h; exact absurd rfl h
  | worth v => exact absurd rfl h
def showsE (R : List (Str × Rc)) : Wv → List T → Bool
  | W, [] => decide (W.open = [])
  | W, t :: ts => isStepT t && (decide (stepName t ∈ W.ready) && match R.lookup (stepName t) with
    | none => false
    | some rc => inB R W rc && (eqv (stepW W (stepName t) rc).2.t t && showsE R (stepW W (stepName t) rc).1 ts))
/-- steps done, one by one -/
inductive PreE (R : List (Str × Rc)) (cs : List Int) (W : Wv) : List Stp → Wv → Prop
  | nil : PreE R cs W [] W
  | snoc {t : List Stp} {V : Wv} {name : Str} {rc : Rc} (p : PreE R cs W t V) (o : V.open ≠ []) (r : V.ready ≠ []) (e : name = pickN V.ready (chAt cs t.length)) (l : R.lookup name = some rc) (hin : In R V rc) : PreE R cs W (t ++ [(stepW V name rc).2]) (stepW V name rc).1
theorem PreE.more {cs ds : List Int} {t : List Stp} {V : Wv} (h : PreE R cs W t V) (l : t.length ≤ cs.length) : PreE R (cs ++ ds) W t V := by
  induction h with
  | nil => exact .nil
  | snoc p o r e k hin ih =>
    rw [List.length_append] at l
    have l : _ + 1 ≤ cs.length := l
    refine .snoc (ih (by omega)) o r ?_ k hin
    rw [chAt_app (by omega)]
    exact e
theorem PreE.run {cs : List Int} {t : List Stp} {V : Wv} (h : PreE R cs W t V) : ∀ {u : List Stp} {e : End}, RunE R cs V t.length u e → RunE R cs W 0 (t ++ u) e := by
  induction h with
  | nil => intro u e h; exact h
  | snoc p o r en k hin ih =>
    intro u e h
    rw [List.append_assoc]
    rw [List.length_append] at h
    exact ih (.step o r en k hin h)
theorem PreE.shows {cs : List Int} {t : List Stp} {V : Wv} (h : PreE R cs W t V) : ∀ us : List T, showsE R W (t.map Stp.t ++ us) = showsE R V us := by
  induction h with
  | nil => intro us; rfl
  | @snoc t V name rc p o r e k hin ih =>
    intro us
    rw [List.map_append, List.append_assoc, ih]
    show (isStepT _ && (decide (stepName _ ∈ V.ready) && match R.lookup (stepName _) with
      | none => false
      | some rc => inB R V rc && (eqv (stepW V (stepName _) rc).2.t _ && showsE R (stepW V (stepName _) rc).1 us))) = _
    rw [stp_isStep, step_name, k]
    have hr : name ∈ V.ready := by rw [e]; exact pick_ready r
    rw [decide_eq_true hr, Bool.true_and, Bool.true_and]
    show (inB R V rc && (eqv _ _ && showsE R _ us)) = _
    rw [inB_iff.mpr hin, eqv_refl _ (by unfold stepW; split <;> exact ⟨trivial, trivial, trivial, trivial⟩), Bool.true_and, Bool.true_and]
theorem PreE.take {cs : List Int} {t : List Stp} {V : Wv} (h : PreE R cs W t V) : ∀ {k : Nat}, k < t.length → ∃ U, PreE R cs W (t.take k) U ∧ U.open ≠ [] := by
  induction h with
  | nil => intro k h; cases h
  | @snoc t V name rc p o r e l hin ih =>
    intro k h
    rw [List.length_append] at h
    have h : k < t.length + 1 := h
    by_cases q : k < t.length
    · obtain ⟨U, a, b⟩ := ih q
      refine ⟨U, ?_, b⟩
      rw [List.take_append_of_le_length (by omega)]
      exact a
    · have : k = t.length := by omega
      subst this
      refine ⟨V, ?_, o⟩
      rw [List.take_append_of_le_length (Nat.le_refl _), List.take_length]
      exact p
theorem PreE.mu_le {cs : List Int} {t : List Stp} {V : Wv} {I : Wv → Prop} (g : GoodB n R I) (h : PreE R cs W t V) (i : I W) : I V ∧ t.length + mu (R.map (·.1)) V ≤ mu (R.map (·.1)) W := by
  induction h with
  | nil => exact ⟨i, by simp⟩
  | @snoc t V name rc p o r e l hin ih =>
    obtain ⟨a, b⟩ := ih
    have hr : name ∈ V.ready := by rw [e]; exact pick_ready r
    have := mu_stepB hr l
    exact ⟨g.st _ _ _ a hr l hin, by rw [List.length_append]; show t.length + 1 + _ ≤ _; omega⟩
end Law

end
section
namespace Law
open PySem PySem.Spec PyProof.Rows L2 U
/-! The text by places, its scopes, the readings of its defs (printed by gen.py) -/
def topS (i : Nat) : Stmt := PySem.Challenge.pw_madeagain_k71_whole_each_step_may_be_tak.main.body.getD i (.Pass ⟨0, 0, 0, 0⟩)
abbrev s_Going_init : Stmt := inClass (topS 6) 0
abbrev N_Going_init : List Str := ["self", "reads"]
abbrev P_Going_init : List Str := ["self", "reads"]
abbrev s_Going_look : Stmt := inClass (topS 6) 1
abbrev N_Going_look : List Str := ["self", "name", "read", "number"]
abbrev P_Going_look : List Str := ["self", "name"]
abbrev s_Going_two : Stmt := inClass (topS 6) 2
abbrev N_Going_two : List Str := ["self", "kind", "one", "r", "other"]
abbrev P_Going_two : List Str := ["self", "kind", "one", "r"]
abbrev s_Going_worth : Stmt := inClass (topS 6) 3
abbrev N_Going_worth : List Str := ["self", "r", "one"]
abbrev P_Going_worth : List Str := ["self", "r"]
abbrev s_behind : Stmt := topS 7
abbrev N_behind : List Str := ["r", "reads", "going", "worth"]
abbrev P_behind : List Str := ["r", "reads"]
abbrev s_NoName_init : Stmt := inClass (topS 2) 0
abbrev N_NoName_init : List Str := ["self", "name"]
abbrev P_NoName_init : List Str := ["self", "name"]
abbrev s_Ring_init : Stmt := inClass (topS 3) 0
abbrev N_Ring_init : List Str := ["self", "ring"]
abbrev P_Ring_init : List Str := ["self", "ring"]
abbrev s_Weaving_init : Stmt := inClass (topS 11) 0
abbrev N_Weaving_init : List Str := ["self", "house", "wishes", "name"]
abbrev P_Weaving_init : List Str := ["self", "house", "wishes"]
abbrev s_Weaving_begin : Stmt := inClass (topS 11) 1
abbrev N_Weaving_begin : List Str := ["self", "name"]
abbrev P_Weaving_begin : List Str := ["self", "name"]
abbrev s_Weaving_is_over : Stmt := inClass (topS 11) 2
abbrev N_Weaving_is_over : List Str := ["self", "name"]
abbrev P_Weaving_is_over : List Str := ["self"]
abbrev s_Weaving_ready : Stmt := inClass (topS 11) 3
abbrev N_Weaving_ready : List Str := ["self", "name"]
abbrev P_Weaving_ready : List Str := ["self"]
abbrev s_Weaving_go_on : Stmt := inClass (topS 11) 4
abbrev N_Weaving_go_on : List Str := ["self", "name", "reads", "told", "other"]
abbrev P_Weaving_go_on : List Str := ["self", "name"]
abbrev s_Weaving_first_ring : Stmt := inClass (topS 11) 5
abbrev N_Weaving_first_ring : List Str := ["self", "name", "found"]
abbrev P_Weaving_first_ring : List Str := ["self"]
abbrev s_woven : Stmt := topS 12
abbrev N_woven : List Str := ["house", "wishes", "choices", "weaving", "trace", "ready", "choice"]
abbrev P_woven : List Str := ["house", "wishes", "choices"]
abbrev s__law_state : Stmt := topS 19
abbrev N__law_state : List Str := ["script", "k", "rest"]
abbrev P__law_state : List Str := ["script", "k"]
abbrev s__law_draw : Stmt := topS 20
abbrev N__law_draw : List Str := ["state", "many", "found", "x"]
abbrev P__law_draw : List Str := ["state", "many"]
abbrev s__law_names : Stmt := topS 21
abbrev N__law_names : List Str := ["script", "letters", "state", "style", "off", "word", "names", "k", "first"]
abbrev P__law_names : List Str := ["script"]
abbrev s__law_number : Stmt := topS 22
abbrev N__law_number : List Str := ["state", "some"]
abbrev P__law_number : List Str := ["state"]
abbrev s__law_product : Stmt := topS 23
abbrev N__law_product : List Str := ["state", "one", "other", "small", "some"]
abbrev P__law_product : List Str := ["state", "one", "other"]
abbrev s__law_recipe : Stmt := topS 24
abbrev N__law_recipe : List Str := ["state", "pool", "depth", "kind", "one", "other", "k"]
abbrev P__law_recipe : List Str := ["state", "pool", "depth"]
abbrev s__law_house : Stmt := topS 25
abbrev N__law_house : List Str := ["script", "names", "loose", "given", "recipes", "k", "state", "pool"]
abbrev P__law_house : List Str := ["script", "names", "loose"]
abbrev s__law_changed : Stmt := topS 26
abbrev N__law_changed : List Str := ["house", "names", "state", "given", "recipes", "at", "name", "kind"]
abbrev P__law_changed : List Str := ["house", "names", "state"]
abbrev s__law_wishes : Stmt := topS 27
abbrev N__law_wishes : List Str := ["state", "names", "many", "k"]
abbrev P__law_wishes : List Str := ["state", "names"]
abbrev s__law_reckoned : Stmt := topS 28
abbrev N__law_reckoned : List Str := ["recipe", "known", "kind", "one", "other", "both"]
abbrev P__law_reckoned : List Str := ["recipe", "known"]
abbrev s__law_begun : Stmt := topS 29
abbrev N__law_begun : List Str := ["house", "wishes", "so", "name"]
abbrev P__law_begun : List Str := ["house", "wishes"]
abbrev s__law_ready : Stmt := topS 30
abbrev N__law_ready : List Str := ["so", "name"]
abbrev P__law_ready : List Str := ["so"]
abbrev s__law_step : Stmt := topS 31
abbrev N__law_step : List Str := ["house", "so", "name", "told", "other"]
abbrev P__law_step : List Str := ["house", "so", "name"]
abbrev s__law_over : Stmt := topS 33
abbrev N__law_over : List Str := ["so", "name"]
abbrev P__law_over : List Str := ["so"]
abbrev s_begun_weaving : Stmt := topS 14
abbrev N_begun_weaving : List Str := ["house", "wishes", "weaving"]
abbrev P_begun_weaving : List Str := ["house", "wishes"]
abbrev s_step_done : Stmt := topS 15
abbrev N_step_done : List Str := ["weaving", "name", "step"]
abbrev P_step_done : List Str := ["weaving", "name"]
abbrev s_is_step : Stmt := topS 16
abbrev N_is_step : List Str := ["thing"]
abbrev P_is_step : List Str := ["thing"]
abbrev s_trace_shows : Stmt := topS 17
abbrev N_trace_shows : List Str := ["house", "wishes", "trace", "weaving", "thing"]
abbrev P_trace_shows : List Str := ["house", "wishes", "trace"]
abbrev s__law_taken : Stmt := topS 35
abbrev N__law_taken : List Str := ["house", "wishes", "state", "so", "trace", "choices", "ready", "step"]
abbrev P__law_taken : List Str := ["house", "wishes", "state"]
abbrev s__law_woven_told : Stmt := topS 36
abbrev N__law_woven_told : List Str := ["house", "wishes", "choices", "told"]
abbrev P__law_woven_told : List Str := ["house", "wishes", "choices"]
abbrev s_law : Stmt := topS 37
abbrev N_law : List Str := ["script", "names", "house", "k", "state", "wishes", "trace", "choices", "bad", "more", "due", "at", "shown"]
abbrev P_law : List Str := ["script"]
theorem sc_Going_init : FnScope N_Going_init P_Going_init (defScope s_Going_init) := ⟨rfl, rfl, rfl, by decide +kernel, rfl, by decide +kernel, by decide +kernel⟩
theorem sc_Going_look : FnScope N_Going_look P_Going_look (defScope s_Going_look) := ⟨rfl, rfl, rfl, by decide +kernel, rfl, by decide +kernel, by decide +kernel⟩
theorem sc_Going_two : FnScope N_Going_two P_Going_two (defScope s_Going_two) := ⟨rfl, rfl, rfl, by decide +kernel, rfl, by decide +kernel, by decide +kernel⟩
theorem sc_Going_worth : FnScope N_Going_worth P_Going_worth (defScope s_Going_worth) := ⟨rfl, rfl, rfl, by decide +kernel, rfl, by decide +kernel, by decide +kernel⟩
theorem sc_behind : FnScope N_behind P_behind (defScope s_behind) := ⟨rfl, rfl, rfl, by decide +kernel, rfl, by decide +kernel, by decide +kernel⟩
theorem sc_NoName_init : FnScope N_NoName_init P_NoName_init (defScope s_NoName_init) := ⟨rfl, rfl, rfl, by decide +kernel, rfl, by decide +kernel, by decide +kernel⟩
theorem sc_Ring_init : FnScope N_Ring_init P_Ring_init (defScope s_Ring_init) := ⟨rfl, rfl, rfl, by decide +kernel, rfl, by decide +kernel, by decide +kernel⟩
theorem sc_Weaving_init : FnScope N_Weaving_init P_Weaving_init (defScope s_Weaving_init) := ⟨rfl, rfl, rfl, by decide +kernel, rfl, by decide +kernel, by decide +kernel⟩
theorem sc_Weaving_begin : FnScope N_Weaving_begin P_Weaving_begin (defScope s_Weaving_begin) := ⟨rfl, rfl, rfl, by decide +kernel, rfl, by decide +kernel, by decide +kernel⟩
theorem sc_Weaving_is_over : FnScope N_Weaving_is_over P_Weaving_is_over (defScope s_Weaving_is_over) := ⟨rfl, rfl, rfl, by decide +kernel, rfl, by decide +kernel, by decide +kernel⟩
theorem sc_Weaving_ready : FnScope N_Weaving_ready P_Weaving_ready (defScope s_Weaving_ready) := ⟨rfl, rfl, rfl, by decide +kernel, rfl, by decide +kernel, by decide +kernel⟩
theorem sc_Weaving_go_on : FnScope N_Weaving_go_on P_Weaving_go_on (defScope s_Weaving_go_on) := ⟨rfl, rfl, rfl, by decide +kernel, rfl, by decide +kernel, by decide +kernel⟩
theorem sc_Weaving_first_ring : FnScope N_Weaving_first_ring P_Weaving_first_ring (defScope s_Weaving_first_ring) := ⟨rfl, rfl, rfl, by decide +kernel, rfl, by decide +kernel, by decide +kernel⟩
theorem sc_woven : FnScope N_woven P_woven (defScope s_woven) := ⟨rfl, rfl, rfl, by decide +kernel, rfl, by decide +kernel, by decide +kernel⟩
theorem sc__law_state : FnScope N__law_state P__law_state (defScope s__law_state) := ⟨rfl, rfl, rfl, by decide +kernel, rfl, by decide +kernel, by decide +kernel⟩
theorem sc__law_draw : FnScope N__law_draw P__law_draw (defScope s__law_draw) := ⟨rfl, rfl, rfl, by decide +kernel, rfl, by decide +kernel, by decide +kernel⟩
theorem sc__law_names : FnScope N__law_names P__law_names (defScope s__law_names) := ⟨rfl, rfl, rfl, by decide +kernel, rfl, by decide +kernel, by decide +kernel⟩
theorem sc__law_number : FnScope N__law_number P__law_number (defScope s__law_number) := ⟨rfl, rfl, rfl, by decide +kernel, rfl, by decide +kernel, by decide +kernel⟩
theorem sc__law_product : FnScope N__law_product P__law_product (defScope s__law_product) := ⟨rfl, rfl, rfl, by decide +kernel, rfl, by decide +kernel, by decide +kernel⟩
theorem sc__law_recipe : FnScope N__law_recipe P__law_recipe (defScope s__law_recipe) := ⟨rfl, rfl, rfl, by decide +kernel, rfl, by decide +kernel, by decide +kernel⟩
theorem sc__law_house : FnScope N__law_house P__law_house (defScope s__law_house) := ⟨rfl, rfl, rfl, by decide +kernel, rfl, by decide +kernel, by decide +kernel⟩
theorem sc__law_changed : FnScope N__law_changed P__law_changed (defScope s__law_changed) := ⟨rfl, rfl, rfl, by decide +kernel, rfl, by decide +kernel, by decide +kernel⟩
theorem sc__law_wishes : FnScope N__law_wishes P__law_wishes (defScope s__law_wishes) := ⟨rfl, rfl, rfl, by decide +kernel, rfl, by decide +kernel, by decide +kernel⟩
theorem sc__law_reckoned : FnScope N__law_reckoned P__law_reckoned (defScope s__law_reckoned) := ⟨rfl, rfl, rfl, by decide +kernel, rfl, by decide +kernel, by decide +kernel⟩
theorem sc__law_begun : FnScope N__law_begun P__law_begun (defScope s__law_begun) := ⟨rfl, rfl, rfl, by decide +kernel, rfl, by decide +kernel, by decide +kernel⟩
theorem sc__law_ready : FnScope N__law_ready P__law_ready (defScope s__law_ready) := ⟨rfl, rfl, rfl, by decide +kernel, rfl, by decide +kernel, by decide +kernel⟩
theorem sc__law_step : FnScope N__law_step P__law_step (defScope s__law_step) := ⟨rfl, rfl, rfl, by decide +kernel, rfl, by decide +kernel, by decide +kernel⟩
theorem sc__law_over : FnScope N__law_over P__law_over (defScope s__law_over) := ⟨rfl, rfl, rfl, by decide +kernel, rfl, by decide +kernel, by decide +kernel⟩
theorem sc_begun_weaving : FnScope N_begun_weaving P_begun_weaving (defScope s_begun_weaving) := ⟨rfl, rfl, rfl, by decide +kernel, rfl, by decide +kernel, by decide +kernel⟩
theorem sc_step_done : FnScope N_step_done P_step_done (defScope s_step_done) := ⟨rfl, rfl, rfl, by decide +kernel, rfl, by decide +kernel, by decide +kernel⟩
theorem sc_is_step : FnScope N_is_step P_is_step (defScope s_is_step) := ⟨rfl, rfl, rfl, by decide +kernel, rfl, by decide +kernel, by decide +kernel⟩
theorem sc_trace_shows : FnScope N_trace_shows P_trace_shows (defScope s_trace_shows) := ⟨rfl, rfl, rfl, by decide +kernel, rfl, by decide +kernel, by decide +kernel⟩
theorem sc__law_taken : FnScope N__law_taken P__law_taken (defScope s__law_taken) := ⟨rfl, rfl, rfl, by decide +kernel, rfl, by decide +kernel, by decide +kernel⟩
theorem sc__law_woven_told : FnScope N__law_woven_told P__law_woven_told (defScope s__law_woven_told) := ⟨rfl, rfl, rfl, by decide +kernel, rfl, by decide +kernel, by decide +kernel⟩
theorem sc_law : FnScope N_law P_law (defScope s_law) := ⟨rfl, rfl, rfl, by decide +kernel, rfl, by decide +kernel, by decide +kernel⟩
structure Ad where
  f_Going_init : Addr
  d_Going_init : FuncData
  f_Going_look : Addr
  d_Going_look : FuncData
  f_Going_two : Addr
  d_Going_two : FuncData
  f_Going_worth : Addr
  d_Going_worth : FuncData
  f_behind : Addr
  d_behind : FuncData
  f_NoName_init : Addr
  d_NoName_init : FuncData
  f_Ring_init : Addr
  d_Ring_init : FuncData
  f_Weaving_init : Addr
  d_Weaving_init : FuncData
  f_Weaving_begin : Addr
  d_Weaving_begin : FuncData
  f_Weaving_is_over : Addr
  d_Weaving_is_over : FuncData
  f_Weaving_ready : Addr
  d_Weaving_ready : FuncData
  f_Weaving_go_on : Addr
  d_Weaving_go_on : FuncData
  f_Weaving_first_ring : Addr
  d_Weaving_first_ring : FuncData
  f_woven : Addr
  d_woven : FuncData
  f__law_state : Addr
  d__law_state : FuncData
  f__law_draw : Addr
  d__law_draw : FuncData
  f__law_names : Addr
  d__law_names : FuncData
  f__law_number : Addr
  d__law_number : FuncData
  f__law_product : Addr
  d__law_product : FuncData
  f__law_recipe : Addr
  d__law_recipe : FuncData
  f__law_house : Addr
  d__law_house : FuncData
  f__law_changed : Addr
  d__law_changed : FuncData
  f__law_wishes : Addr
  d__law_wishes : FuncData
  f__law_reckoned : Addr
  d__law_reckoned : FuncData
  f__law_begun : Addr
  d__law_begun : FuncData
  f__law_ready : Addr
  d__law_ready : FuncData
  f__law_step : Addr
  d__law_step : FuncData
  f__law_over : Addr
  d__law_over : FuncData
  f_begun_weaving : Addr
  d_begun_weaving : FuncData
  f_step_done : Addr
  d_step_done : FuncData
  f_is_step : Addr
  d_is_step : FuncData
  f_trace_shows : Addr
  d_trace_shows : FuncData
  f__law_taken : Addr
  d__law_taken : FuncData
  f__law_woven_told : Addr
  d__law_woven_told : FuncData
  f_law : Addr
  d_law : FuncData
  C_Going : Addr
  C_Weaving : Addr
  C_NoName : Addr
  C_Ring : Addr

structure Tx (K : PySem.W.Frag) (mg : Str → Option Value) (A : Ad) : Prop where
  d_Going_init : IniT K A.C_Going "Going.__init__" s_Going_init P_Going_init A.f_Going_init A.d_Going_init
  d_Going_look : MetT K A.C_Going "look" "Going.look" s_Going_look P_Going_look A.f_Going_look A.d_Going_look
  d_Going_two : MetT K A.C_Going "two" "Going.two" s_Going_two P_Going_two A.f_Going_two A.d_Going_two
  d_Going_worth : MetT K A.C_Going "worth" "Going.worth" s_Going_worth P_Going_worth A.f_Going_worth A.d_Going_worth
  d_behind : DefT K mg "behind" "behind" s_behind P_behind A.f_behind A.d_behind
  e_NoName : ErrT K mg "NoName" A.C_NoName "NoName.__init__" s_NoName_init P_NoName_init A.f_NoName_init A.d_NoName_init ["name"]
  e_Ring : ErrT K mg "Ring" A.C_Ring "Ring.__init__" s_Ring_init P_Ring_init A.f_Ring_init A.d_Ring_init ["ring"]
  d_Weaving_init : IniT K A.C_Weaving "Weaving.__init__" s_Weaving_init P_Weaving_init A.f_Weaving_init A.d_Weaving_init
  d_Weaving_begin : MetT K A.C_Weaving "begin" "Weaving.begin" s_Weaving_begin P_Weaving_begin A.f_Weaving_begin A.d_Weaving_begin
  d_Weaving_is_over : MetT K A.C_Weaving "is_over" "Weaving.is_over" s_Weaving_is_over P_Weaving_is_over A.f_Weaving_is_over A.d_Weaving_is_over
  d_Weaving_ready : MetT K A.C_Weaving "ready" "Weaving.ready" s_Weaving_ready P_Weaving_ready A.f_Weaving_ready A.d_Weaving_ready
  d_Weaving_go_on : MetT K A.C_Weaving "go_on" "Weaving.go_on" s_Weaving_go_on P_Weaving_go_on A.f_Weaving_go_on A.d_Weaving_go_on
  d_Weaving_first_ring : MetT K A.C_Weaving "first_ring" "Weaving.first_ring" s_Weaving_first_ring P_Weaving_first_ring A.f_Weaving_first_ring A.d_Weaving_first_ring
  d_woven : DefT K mg "woven" "woven" s_woven P_woven A.f_woven A.d_woven
  d__law_state : DefT K mg "_law_state" "_law_state" s__law_state P__law_state A.f__law_state A.d__law_state
  d__law_draw : DefT K mg "_law_draw" "_law_draw" s__law_draw P__law_draw A.f__law_draw A.d__law_draw
  d__law_names : DefT K mg "_law_names" "_law_names" s__law_names P__law_names A.f__law_names A.d__law_names
  d__law_number : DefT K mg "_law_number" "_law_number" s__law_number P__law_number A.f__law_number A.d__law_number
  d__law_product : DefT K mg "_law_product" "_law_product" s__law_product P__law_product A.f__law_product A.d__law_product
  d__law_recipe : DefT K mg "_law_recipe" "_law_recipe" s__law_recipe P__law_recipe A.f__law_recipe A.d__law_recipe
  d__law_house : DefT K mg "_law_house" "_law_house" s__law_house P__law_house A.f__law_house A.d__law_house
  d__law_changed : DefT K mg "_law_changed" "_law_changed" s__law_changed P__law_changed A.f__law_changed A.d__law_changed
  d__law_wishes : DefT K mg "_law_wishes" "_law_wishes" s__law_wishes P__law_wishes A.f__law_wishes A.d__law_wishes
  d__law_reckoned : DefT K mg "_law_reckoned" "_law_reckoned" s__law_reckoned P__law_reckoned A.f__law_reckoned A.d__law_reckoned
  d__law_begun : DefT K mg "_law_begun" "_law_begun" s__law_begun P__law_begun A.f__law_begun A.d__law_begun
  d__law_ready : DefT K mg "_law_ready" "_law_ready" s__law_ready P__law_ready A.f__law_ready A.d__law_ready
  d__law_step : DefT K mg "_law_step" "_law_step" s__law_step P__law_step A.f__law_step A.d__law_step
  d__law_over : DefT K mg "_law_over" "_law_over" s__law_over P__law_over A.f__law_over A.d__law_over
  d_begun_weaving : DefT K mg "begun_weaving" "begun_weaving" s_begun_weaving P_begun_weaving A.f_begun_weaving A.d_begun_weaving
  d_step_done : DefT K mg "step_done" "step_done" s_step_done P_step_done A.f_step_done A.d_step_done
  d_is_step : DefT K mg "is_step" "is_step" s_is_step P_is_step A.f_is_step A.d_is_step
  d_trace_shows : DefT K mg "trace_shows" "trace_shows" s_trace_shows P_trace_shows A.f_trace_shows A.d_trace_shows
  d__law_taken : DefT K mg "_law_taken" "_law_taken" s__law_taken P__law_taken A.f__law_taken A.d__law_taken
  d__law_woven_told : DefT K mg "_law_woven_told" "_law_woven_told" s__law_woven_told P__law_woven_told A.f__law_woven_told A.d__law_woven_told
  d_law : DefT K mg "law" "law" s_law P_law A.f_law A.d_law
  c_Going : ClsT K mg "Going" A.C_Going ["had", "lacking", "reads"]
  c_Weaving : ClsT K mg "Weaving" A.C_Weaving ["begun", "given", "recipes", "waits", "worths"]
  x_NoName_NoName : PySem.W.exmOne K (.ref A.C_NoName) (.ref A.C_NoName) = some true
  x_NoName_Ring : PySem.W.exmOne K (.ref A.C_NoName) (.ref A.C_Ring) = some false
  x_Ring_NoName : PySem.W.exmOne K (.ref A.C_Ring) (.ref A.C_NoName) = some false
  x_Ring_Ring : PySem.W.exmOne K (.ref A.C_Ring) (.ref A.C_Ring) = some true
  b_bool : mg "bool" = none
  b_dict : mg "dict" = none
  b_int : mg "int" = none
  b_isinstance : mg "isinstance" = none
  b_len : mg "len" = none
  b_list : mg "list" = none
  b_max : mg "max" = none
  b_min : mg "min" = none
  b_range : mg "range" = none
  b_str : mg "str" = none
  b_tuple : mg "tuple" = none
  g_KNOWN : ∃ t, mg "KNOWN" = some (.str "known" t)
  g_WAITS : ∃ t, mg "WAITS" = some (.str "waits" t)

section
variable {P : Program} {w : World} {K : PySem.W.Frag} {mg : Str → Option Value} {base : Heap} {A : Ad}
/-- Going.__init__ -/
abbrev t_Going_init (K : PySem.W.Frag) (A : Ad) : TS := tSeq (sF A.C_Going (tVar 0) (tVar 1) "reads")
  (tSeq (sF A.C_Going (tVar 0) (tDNewK) "had")
  (sF A.C_Going (tVar 0) (tC .non) "lacking"))
theorem fn_Going_init {k : Nat} (T : Tx K mg A) {sp : Sp} (len : ∀ vs H Q E, sp vs H Q E → vs.length = 2) (h : ∀ vs H Q E, sp vs H Q E → t_Going_init K A  { nx := fun _ H' => Q .non H', rt := Q } (start N_Going_init vs) H) : FnOk P w K mg base CX0 (k + 1) A.f_Going_init A.d_Going_init P_Going_init sp := by
  refine T.d_Going_init.F.ok sc_Going_init len fun cdv A' outer s H vs Q E hr hs => ⟨t_Going_init K A , ?_, h vs H Q E hs⟩
  have hu := hr.units
  exact pss_cons (ps_fldC T.c_Going.c (T.c_Going.na "reads" (.tail _ (.tail _ (.head _)))) (pv 0) (pv 1))
    (pss_cons (ps_fldC T.c_Going.c (T.c_Going.na "had" (.head _)) (pv 0) (pe_dnewK))
    (pss_one (ps_fldC T.c_Going.c (T.c_Going.na "lacking" (.tail _ (.head _))) (pv 0) (pe_non))))
/-- Going.look -/
abbrev t_Going_look (K : PySem.W.Frag) (A : Ad) : TS := tSeq (tIfS (tTest (tOp (rInU K) (tVar 1) (tF A.C_Going (tVar 0) "had"))) (tRet (tOp (rIxU K) (tF A.C_Going (tVar 0) "had") (tVar 1)))
  (tNext))
  (tSeq (tIfS (tTest (tOp (rEqU) (tCB (rLenU K) (tCons (tF A.C_Going (tVar 0) "had") tNil)) (tCB (rLenU K) (tCons (tF A.C_Going (tVar 0) "reads") tNil)))) (tSeq (sF A.C_Going (tVar 0) (tVar 1) "lacking")
  (tRet (tC .non)))
  (tNext))
  (tSeq (tAsg (tOp (rIxU K) (tF A.C_Going (tVar 0) "reads") (tCB (rLenU K) (tCons (tF A.C_Going (tVar 0) "had") tNil))) (gTup K 2 (gCons (gName 2) (gCons (gName 3) (gNil)))))
  (tSeq (tIfS (tTest (tOp (rNeU) (tVar 2) (tVar 1))) (tNever)
  (tNext))
  (tSeq (tAsg (tVar 3) (gSub (tF A.C_Going (tVar 0) "had") (tVar 1) rSetU))
  (tRet (tVar 3))))))
theorem fn_Going_look {k : Nat} (T : Tx K mg A) {sp : Sp} (len : ∀ vs H Q E, sp vs H Q E → vs.length = 2) (h : ∀ vs H Q E, sp vs H Q E → t_Going_look K A  { nx := fun _ H' => Q .non H', rt := Q } (start N_Going_look vs) H) : FnOk P w K mg base CX0 (k + 1) A.f_Going_look A.d_Going_look P_Going_look sp := by
  refine T.d_Going_look.F.ok sc_Going_look len fun cdv A' outer s H vs Q E hr hs => ⟨t_Going_look K A , ?_, h vs H Q E hs⟩
  have hu := hr.units
  exact pss_cons (ps_if (pt_cmpR (op_inU hu) (pv 1) (pe_fldC T.c_Going.c (T.c_Going.na "had" (.head _)) (pv 0)) rfl) (pss_one (ps_ret (pe_ix (ix_U hu) (pe_fldC T.c_Going.c (T.c_Going.na "had" (.head _)) (pv 0)) (pv 1) (fun _ _ => rfl))))
    (pss_nil))
    (pss_cons (ps_if (pt_cmpR (op_eqU hu) (pe_callB call_lenU (by rfl) T.b_len (by decide +kernel) (pa_cons (pe_fldC T.c_Going.c (T.c_Going.na "had" (.head _)) (pv 0)) pa_nil)) (pe_callB call_lenU (by rfl) T.b_len (by decide +kernel) (pa_cons (pe_fldC T.c_Going.c (T.c_Going.na "reads" (.tail _ (.tail _ (.head _)))) (pv 0)) pa_nil)) (nomark _)) (pss_cons (ps_fldC T.c_Going.c (T.c_Going.na "lacking" (.tail _ (.head _))) (pv 0) (pv 1))
    (pss_one (ps_ret (pe_non))))
    (pss_nil))
    (pss_cons (ps_asg (pe_ix (ix_U hu) (pe_fldC T.c_Going.c (T.c_Going.na "reads" (.tail _ (.tail _ (.head _)))) (pv 0)) (pe_callB call_lenU (by rfl) T.b_len (by decide +kernel) (pa_cons (pe_fldC T.c_Going.c (T.c_Going.na "had" (.head _)) (pv 0)) pa_nil)) (fun _ _ => rfl)) (pg_tup rfl (pgs_cons (pg_name (i := 2) sc_Going_look.nd rfl (by first | exact Or.inl rfl | exact Or.inr rfl)) (pgs_cons (pg_name (i := 3) sc_Going_look.nd rfl (by first | exact Or.inl rfl | exact Or.inr rfl)) (pgs_nil)))))
    (pss_cons (ps_if (pt_cmpR (op_neU hu) (pv 2) (pv 1) (nomark _)) (pss_one (ps_never))
    (pss_nil))
    (pss_cons (ps_asg (pv 3) (pg_sub (pe_fldC T.c_Going.c (T.c_Going.na "had" (.head _)) (pv 0)) (pv 1) (set_U hu)))
    (pss_one (ps_ret (pv 3)))))))
/-- Going.two -/
abbrev t_Going_two (K : PySem.W.Frag) (A : Ad) (sp_Going_worth : Sp) : TS := tSeq (tAsg (tMeth A.C_Going "worth" sp_Going_worth [] E0 (tVar 0) (tCons (tVar 3) tNil)) (gName 4))
  (tSeq (tIfS (tTest (tOp (rIsN) (tVar 4) (tC .non))) (tRet (tC .non))
  (tNext))
  (tSeq (tIfS (tTest (tOp (rEqU) (tVar 1) (tC (.str "plus")))) (tRet (tOp (rAddU K) (tVar 2) (tVar 4)))
  (tNext))
  (tSeq (tIfS (tTest (tOp (rEqU) (tVar 1) (tC (.str "minus")))) (tRet (tOp (rSubI) (tVar 2) (tVar 4)))
  (tNext))
  (tSeq (tIfS (tTest (tOp (rEqU) (tVar 1) (tC (.str "times")))) (tRet (tOp (rMulI) (tVar 2) (tVar 4)))
  (tNext))
  (tRet (tCB (rMax2) (tCons (tVar 2) (tCons (tVar 4) tNil))))))))
theorem fn_Going_two {k : Nat} (T : Tx K mg A) {k_Going_worth : Nat} {sp_Going_worth : Sp} (G_Going_worth : FnOk P w K mg base CX0 k_Going_worth A.f_Going_worth A.d_Going_worth P_Going_worth sp_Going_worth) (h_Going_worth : k_Going_worth ≤ k) {sp : Sp} (len : ∀ vs H Q E, sp vs H Q E → vs.length = 4) (h : ∀ vs H Q E, sp vs H Q E → t_Going_two K A sp_Going_worth { nx := fun _ H' => Q .non H', rt := Q } (start N_Going_two vs) H) : FnOk P w K mg base CX0 (k + 1) A.f_Going_two A.d_Going_two P_Going_two sp := by
  refine T.d_Going_two.F.ok sc_Going_two len fun cdv A' outer s H vs Q E hr hs => ⟨t_Going_two K A sp_Going_worth, ?_, h vs H Q E hs⟩
  have hu := hr.units
  exact pss_cons (ps_set (i := 4) sc_Going_two.nd rfl (by first | exact Or.inl rfl | exact Or.inr rfl) (pe_meth (pv 0) T.c_Going.c T.d_Going_worth.M G_Going_worth (hr.mono h_Going_worth) T.d_Going_worth.B .nil pass0 (pa_cons (pv 3) pa_nil)))
    (pss_cons (ps_if (pt_cmpR op_isNn (pv 4) (pe_non) (nomark _)) (pss_one (ps_ret (pe_non)))
    (pss_nil))
    (pss_cons (ps_if (pt_cmpR (op_eqU hu) (pv 1) (pe_str) (nomark _)) (pss_one (ps_ret (pe_op op_addU (pv 2) (pv 4))))
    (pss_nil))
    (pss_cons (ps_if (pt_cmpR (op_eqU hu) (pv 1) (pe_str) (nomark _)) (pss_one (ps_ret (pe_op op_subI (pv 2) (pv 4))))
    (pss_nil))
    (pss_cons (ps_if (pt_cmpR (op_eqU hu) (pv 1) (pe_str) (nomark _)) (pss_one (ps_ret (pe_op op_mulI (pv 2) (pv 4))))
    (pss_nil))
    (pss_one (ps_ret (pe_callB (call_maxU rfl) (by rfl) T.b_max (by decide +kernel) (pa_cons (pv 2) (pa_cons (pv 4) pa_nil)))))))))
/-- Going.worth -/
abbrev t_Going_worth (K : PySem.W.Frag) (A : Ad) (sp_Going_look sp_Going_worth sp_Going_two : Sp) : TS := tSeq (tIfS (tTest (tOp (rEqU) (tOp (rIxU K) (tVar 1) (tC (.int 0))) (tC (.str "number")))) (tRet (tOp (rIxU K) (tVar 1) (tC (.int 1))))
  (tNext))
  (tSeq (tIfS (tTest (tOp (rEqU) (tOp (rIxU K) (tVar 1) (tC (.int 0))) (tC (.str "read")))) (tRet (tMeth A.C_Going "look" sp_Going_look [] E0 (tVar 0) (tCons (tOp (rIxU K) (tVar 1) (tC (.int 1))) tNil)))
  (tNext))
  (tSeq (tAsg (tMeth A.C_Going "worth" sp_Going_worth [] E0 (tVar 0) (tCons (tOp (rIxU K) (tVar 1) (tC (.int 1))) tNil)) (gName 2))
  (tSeq (tIfS (tTest (tOp (rIsN) (tVar 2) (tC .non))) (tRet (tC .non))
  (tNext))
  (tSeq (tIfS (tTest (tOp (rEqU) (tOp (rIxU K) (tVar 1) (tC (.int 0))) (tC (.str "choose")))) (tRet (tMeth A.C_Going "look" sp_Going_look [] E0 (tVar 0) (tCons (tOp (rIxU K) (tOp (rIxU K) (tVar 1) (tC (.int 2))) (tOp (rModI) (tVar 2) (tCB (rLenU K) (tCons (tOp (rIxU K) (tVar 1) (tC (.int 2))) tNil)))) tNil)))
  (tNext))
  (tSeq (tIfS (tTest (tOp (rEqU) (tOp (rIxU K) (tVar 1) (tC (.int 0))) (tC (.str "pick")))) (tRet (tMeth A.C_Going "worth" sp_Going_worth [] E0 (tVar 0) (tCons (tOp (rIxU K) (tVar 1) (tOp (rAddU K) (tC (.int 2)) (tCB (rIntU) (tCons (tOp (rLeI) (tVar 2) (tC (.int 0))) tNil)))) tNil)))
  (tNext))
  (tRet (tMeth A.C_Going "two" sp_Going_two [] E0 (tVar 0) (tCons (tOp (rIxU K) (tVar 1) (tC (.int 0))) (tCons (tVar 2) (tCons (tOp (rIxU K) (tVar 1) (tC (.int 2))) tNil))))))))))
theorem fn_Going_worth {k : Nat} (T : Tx K mg A) {k_Going_look : Nat} {sp_Going_look : Sp} (G_Going_look : FnOk P w K mg base CX0 k_Going_look A.f_Going_look A.d_Going_look P_Going_look sp_Going_look) (h_Going_look : k_Going_look ≤ k) {k_Going_worth : Nat} {sp_Going_worth : Sp} (G_Going_worth : FnOk P w K mg base CX0 k_Going_worth A.f_Going_worth A.d_Going_worth P_Going_worth sp_Going_worth) (h_Going_worth : k_Going_worth ≤ k) {k_Going_two : Nat} {sp_Going_two : Sp} (G_Going_two : FnOk P w K mg base CX0 k_Going_two A.f_Going_two A.d_Going_two P_Going_two sp_Going_two) (h_Going_two : k_Going_two ≤ k) {sp : Sp} (len : ∀ vs H Q E, sp vs H Q E → vs.length = 2) (h : ∀ vs H Q E, sp vs H Q E → t_Going_worth K A sp_Going_look sp_Going_worth sp_Going_two { nx := fun _ H' => Q .non H', rt := Q } (start N_Going_worth vs) H) : FnOk P w K mg base CX0 (k + 1) A.f_Going_worth A.d_Going_worth P_Going_worth sp := by
  refine T.d_Going_worth.F.ok sc_Going_worth len fun cdv A' outer s H vs Q E hr hs => ⟨t_Going_worth K A sp_Going_look sp_Going_worth sp_Going_two, ?_, h vs H Q E hs⟩
  have hu := hr.units
  exact pss_cons (ps_if (pt_cmpR (op_eqU hu) (pe_ix (ix_U hu) (pv 1) (pe_int) (fun _ _ => rfl)) (pe_str) (nomark _)) (pss_one (ps_ret (pe_ix (ix_U hu) (pv 1) (pe_int) (fun _ _ => rfl))))
    (pss_nil))
    (pss_cons (ps_if (pt_cmpR (op_eqU hu) (pe_ix (ix_U hu) (pv 1) (pe_int) (fun _ _ => rfl)) (pe_str) (nomark _)) (pss_one (ps_ret (pe_meth (pv 0) T.c_Going.c T.d_Going_look.M G_Going_look (hr.mono h_Going_look) T.d_Going_look.B .nil pass0 (pa_cons (pe_ix (ix_U hu) (pv 1) (pe_int) (fun _ _ => rfl)) pa_nil))))
    (pss_nil))
    (pss_cons (ps_set (i := 2) sc_Going_worth.nd rfl (by first | exact Or.inl rfl | exact Or.inr rfl) (pe_meth (pv 0) T.c_Going.c T.d_Going_worth.M G_Going_worth (hr.mono h_Going_worth) T.d_Going_worth.B .nil pass0 (pa_cons (pe_ix (ix_U hu) (pv 1) (pe_int) (fun _ _ => rfl)) pa_nil)))
    (pss_cons (ps_if (pt_cmpR op_isNn (pv 2) (pe_non) (nomark _)) (pss_one (ps_ret (pe_non)))
    (pss_nil))
    (pss_cons (ps_if (pt_cmpR (op_eqU hu) (pe_ix (ix_U hu) (pv 1) (pe_int) (fun _ _ => rfl)) (pe_str) (nomark _)) (pss_one (ps_ret (pe_meth (pv 0) T.c_Going.c T.d_Going_look.M G_Going_look (hr.mono h_Going_look) T.d_Going_look.B .nil pass0 (pa_cons (pe_ix (ix_U hu) (pe_ix (ix_U hu) (pv 1) (pe_int) (fun _ _ => rfl)) (pe_op op_modI (pv 2) (pe_callB call_lenU (by rfl) T.b_len (by decide +kernel) (pa_cons (pe_ix (ix_U hu) (pv 1) (pe_int) (fun _ _ => rfl)) pa_nil))) (fun _ _ => rfl)) pa_nil))))
    (pss_nil))
    (pss_cons (ps_if (pt_cmpR (op_eqU hu) (pe_ix (ix_U hu) (pv 1) (pe_int) (fun _ _ => rfl)) (pe_str) (nomark _)) (pss_one (ps_ret (pe_meth (pv 0) T.c_Going.c T.d_Going_worth.M G_Going_worth (hr.mono h_Going_worth) T.d_Going_worth.B .nil pass0 (pa_cons (pe_ix (ix_U hu) (pv 1) (pe_op op_addU (pe_int) (pe_callTy call_intU (by rfl) T.b_int (by decide +kernel) (pa_cons (pe_cmpR op_leI (pv 2) (pe_int) (nomark _)) pa_nil))) (fun _ _ => rfl)) pa_nil))))
    (pss_nil))
    (pss_one (ps_ret (pe_meth (pv 0) T.c_Going.c T.d_Going_two.M G_Going_two (hr.mono h_Going_two) T.d_Going_two.B .nil pass0 (pa_cons (pe_ix (ix_U hu) (pv 1) (pe_int) (fun _ _ => rfl)) (pa_cons (pv 2) (pa_cons (pe_ix (ix_U hu) (pv 1) (pe_int) (fun _ _ => rfl)) pa_nil)))))))))))
/-- behind -/
abbrev t_behind (K : PySem.W.Frag) (A : Ad) (sp_Going_init sp_Going_worth : Sp) : TS := tSeq (tAsg (tMake A.C_Going sp_Going_init [] E0 (tCons (tVar 1) tNil)) (gName 2))
  (tSeq (tAsg (tMeth A.C_Going "worth" sp_Going_worth [] E0 (tVar 2) (tCons (tVar 0) tNil)) (gName 3))
  (tSeq (tIfS (tTest (tOp (rNotN) (tF A.C_Going (tVar 2) "lacking") (tC .non))) (tRet (tTup (tCons (tC (.str "read")) (tCons (tF A.C_Going (tVar 2) "lacking") tNil))))
  (tNext))
  (tSeq (tIfS (tTest (tOp (rLtI) (tCB (rLenU K) (tCons (tF A.C_Going (tVar 2) "had") tNil)) (tCB (rLenU K) (tCons (tVar 1) tNil)))) (tNever)
  (tNext))
  (tRet (tTup (tCons (tC (.str "worth")) (tCons (tVar 3) tNil)))))))
theorem fn_behind {k : Nat} (T : Tx K mg A) {k_Going_init : Nat} {sp_Going_init : Sp} (G_Going_init : FnOk P w K mg base CX0 k_Going_init A.f_Going_init A.d_Going_init P_Going_init sp_Going_init) (h_Going_init : k_Going_init < k) {k_Going_worth : Nat} {sp_Going_worth : Sp} (G_Going_worth : FnOk P w K mg base CX0 k_Going_worth A.f_Going_worth A.d_Going_worth P_Going_worth sp_Going_worth) (h_Going_worth : k_Going_worth ≤ k) {sp : Sp} (len : ∀ vs H Q E, sp vs H Q E → vs.length = 2) (h : ∀ vs H Q E, sp vs H Q E → t_behind K A sp_Going_init sp_Going_worth { nx := fun _ H' => Q .non H', rt := Q } (start N_behind vs) H) : FnOk P w K mg base CX0 (k + 1) A.f_behind A.d_behind P_behind sp := by
  refine T.d_behind.F.ok sc_behind len fun cdv A' outer s H vs Q E hr hs => ⟨t_behind K A sp_Going_init sp_Going_worth, ?_, h vs H Q E hs⟩
  have hu := hr.units
  exact pss_cons (ps_set (i := 2) sc_behind.nd rfl (by first | exact Or.inl rfl | exact Or.inr rfl) (pe_make T.d_Going_init.M G_Going_init (hr.mono (Nat.succ_le_of_lt h_Going_init)) (by rfl) T.c_Going.m (T.d_Going_init.B) .nil pass0 (pa_cons (pv 1) pa_nil)))
    (pss_cons (ps_set (i := 3) sc_behind.nd rfl (by first | exact Or.inl rfl | exact Or.inr rfl) (pe_meth (pv 2) T.c_Going.c T.d_Going_worth.M G_Going_worth (hr.mono h_Going_worth) T.d_Going_worth.B .nil pass0 (pa_cons (pv 0) pa_nil)))
    (pss_cons (ps_if (pt_cmpR op_notNn (pe_fldC T.c_Going.c (T.c_Going.na "lacking" (.tail _ (.head _))) (pv 2)) (pe_non) (nomark _)) (pss_one (ps_ret (pe_tup (pa_cons (pe_str) (pa_cons (pe_fldC T.c_Going.c (T.c_Going.na "lacking" (.tail _ (.head _))) (pv 2)) pa_nil)))))
    (pss_nil))
    (pss_cons (ps_if (pt_cmpR op_ltI (pe_callB call_lenU (by rfl) T.b_len (by decide +kernel) (pa_cons (pe_fldC T.c_Going.c (T.c_Going.na "had" (.head _)) (pv 2)) pa_nil)) (pe_callB call_lenU (by rfl) T.b_len (by decide +kernel) (pa_cons (pv 1) pa_nil)) (nomark _)) (pss_one (ps_never))
    (pss_nil))
    (pss_one (ps_ret (pe_tup (pa_cons (pe_str) (pa_cons (pv 3) pa_nil))))))))
/-- NoName.__init__ -/
abbrev t_NoName_init (K : PySem.W.Frag) (A : Ad) : TS := tOst K "name" (tVar 0) (tVar 1)
theorem fn_NoName_init {k : Nat} (T : Tx K mg A) {sp : Sp} (len : ∀ vs H Q E, sp vs H Q E → vs.length = 2) (h : ∀ vs H Q E, sp vs H Q E → t_NoName_init K A  { nx := fun _ H' => Q .non H', rt := Q } (start N_NoName_init vs) H) : FnOk P w K mg base CX0 (k + 1) A.f_NoName_init A.d_NoName_init P_NoName_init sp := by
  refine T.e_NoName.F.ok sc_NoName_init len fun cdv A' outer s H vs Q E hr hs => ⟨t_NoName_init K A , ?_, h vs H Q E hs⟩
  have hu := hr.units
  exact pss_one (ps_ost (pv 0) (pv 1))
/-- Ring.__init__ -/
abbrev t_Ring_init (K : PySem.W.Frag) (A : Ad) : TS := tOst K "ring" (tVar 0) (tCB (rListOf K) (tCons (tVar 1) tNil))
theorem fn_Ring_init {k : Nat} (T : Tx K mg A) {sp : Sp} (len : ∀ vs H Q E, sp vs H Q E → vs.length = 2) (h : ∀ vs H Q E, sp vs H Q E → t_Ring_init K A  { nx := fun _ H' => Q .non H', rt := Q } (start N_Ring_init vs) H) : FnOk P w K mg base CX0 (k + 1) A.f_Ring_init A.d_Ring_init P_Ring_init sp := by
  refine T.e_Ring.F.ok sc_Ring_init len fun cdv A' outer s H vs Q E hr hs => ⟨t_Ring_init K A , ?_, h vs H Q E hs⟩
  have hu := hr.units
  exact pss_one (ps_ost (pv 0) (pe_callTy call_listOf (by rfl) T.b_list (by decide +kernel) (pa_cons (pv 1) pa_nil)))
/-- Weaving.__init__ -/
abbrev t_Weaving_init (K : PySem.W.Frag) (A : Ad) (sp_NoName_init sp_Weaving_begin : Sp) (E : XK) : TS := tSeq (tAsg (tVar 1) (gTup K 2 (gCons (gF A.C_Weaving (tVar 0) "given") (gCons (gF A.C_Weaving (tVar 0) "recipes") (gNil)))))
  (tSeq (sF A.C_Weaving (tVar 0) (tCB (rDictOf) (tCons (tF A.C_Weaving (tVar 0) "given") tNil)) "worths")
  (tSeq (sF A.C_Weaving (tVar 0) (tLst (tNil)) "begun")
  (tSeq (sF A.C_Weaving (tVar 0) (tDNewK) "waits")
  (tSeq (tFor (iSeq K (tVar 2)) (gName 3) (tIfS (tAnd (tTest (tOp (rNotInU K) (tVar 3) (tF A.C_Weaving (tVar 0) "given"))) (tTest (tOp (rNotInU K) (tVar 3) (tF A.C_Weaving (tVar 0) "recipes")))) (tRaiseW A.C_NoName sp_NoName_init (fun cls d _ H => E cls d H) (tCons (tVar 3) tNil))
  (tNext)))
  (tFor (iSeq K (tVar 2)) (gName 3) (tIfS (tTest (tOp (rInU K) (tVar 3) (tF A.C_Weaving (tVar 0) "recipes"))) (tDrop (tMeth A.C_Weaving "begin" sp_Weaving_begin [] E0 (tVar 0) (tCons (tVar 3) tNil)))
  (tNext)))))))
theorem fn_Weaving_init {k : Nat} (T : Tx K mg A) {k_NoName_init : Nat} {sp_NoName_init : Sp} (G_NoName_init : FnOk P w K mg base CX0 k_NoName_init A.f_NoName_init A.d_NoName_init P_NoName_init sp_NoName_init) (h_NoName_init : k_NoName_init < k) {k_Weaving_begin : Nat} {sp_Weaving_begin : Sp} (G_Weaving_begin : FnOk P w K mg base CX0 k_Weaving_begin A.f_Weaving_begin A.d_Weaving_begin P_Weaving_begin sp_Weaving_begin) (h_Weaving_begin : k_Weaving_begin ≤ k) {sp : Sp} (len : ∀ vs H Q E, sp vs H Q E → vs.length = 3) (h : ∀ vs H Q E, sp vs H Q E → t_Weaving_init K A sp_NoName_init sp_Weaving_begin E { nx := fun _ H' => Q .non H', rt := Q } (start N_Weaving_init vs) H) : FnOk P w K mg base (L2.CX P w) (k + 1) A.f_Weaving_init A.d_Weaving_init P_Weaving_init sp := by
  refine T.d_Weaving_init.F.okX sc_Weaving_init len fun cdv A' outer s H vs Q E hr hs => ⟨t_Weaving_init K A sp_NoName_init sp_Weaving_begin E, ?_, h vs H Q E hs⟩
  have hu := hr.units
  have tk := takes_of (X := cxOf (L2.CX P w) P w K mg base N_Weaving_init "Weaving.__init__" (defScope s_Weaving_init) A.f_Weaving_init cdv A' outer s H E) rfl rfl rfl rfl
  exact pss_cons (ps_asg (pv 1) (pg_tup rfl (pgs_cons (pg_fldC T.c_Weaving.c (T.c_Weaving.na "given" (.tail _ (.head _))) (pv 0)) (pgs_cons (pg_fldC T.c_Weaving.c (T.c_Weaving.na "recipes" (.tail _ (.tail _ (.head _)))) (pv 0)) (pgs_nil)))))
    (pss_cons (ps_fldC T.c_Weaving.c (T.c_Weaving.na "worths" (.tail _ (.tail _ (.tail _ (.tail _ (.head _)))))) (pv 0) (pe_callTy call_dictOf (by rfl) T.b_dict (by decide +kernel) (pa_cons (pe_fldC T.c_Weaving.c (T.c_Weaving.na "given" (.tail _ (.head _))) (pv 0)) pa_nil)))
    (pss_cons (ps_fldC T.c_Weaving.c (T.c_Weaving.na "begun" (.head _)) (pv 0) (pe_lst (pa_nil)))
    (pss_cons (ps_fldC T.c_Weaving.c (T.c_Weaving.na "waits" (.tail _ (.tail _ (.tail _ (.head _))))) (pv 0) (pe_dnewK))
    (pss_cons (ps_for (passes_of rfl) rfl (pi_or (pi_list (pv 2)) (pi_tup (pv 2))) (pg_name (i := 3) sc_Weaving_init.nd rfl (by first | exact Or.inl rfl | exact Or.inr rfl)) (pss_one (ps_if (PW.pt (pw_and (pt_cmpR (op_notInU hu) (pv 3) (pe_fldC T.c_Weaving.c (T.c_Weaving.na "given" (.tail _ (.head _))) (pv 0)) rfl) (pw_and1 (pt_cmpR (op_notInU hu) (pv 3) (pe_fldC T.c_Weaving.c (T.c_Weaving.na "recipes" (.tail _ (.tail _ (.head _)))) (pv 0)) rfl)))) (pss_one (ps_raise rfl tk (pmk_oex T.e_NoName.c T.e_NoName.i T.e_NoName.tI G_NoName_init (hr.mono (Nat.succ_le_of_lt h_NoName_init)) T.e_NoName.B .nil pass0 (by rfl) T.e_NoName.m (pa_cons (pv 3) pa_nil))))
    (pss_nil))))
    (pss_one (ps_for (passes_of rfl) rfl (pi_or (pi_list (pv 2)) (pi_tup (pv 2))) (pg_name (i := 3) sc_Weaving_init.nd rfl (by first | exact Or.inl rfl | exact Or.inr rfl)) (pss_one (ps_if (pt_cmpR (op_inU hu) (pv 3) (pe_fldC T.c_Weaving.c (T.c_Weaving.na "recipes" (.tail _ (.tail _ (.head _)))) (pv 0)) rfl) (pss_one (ps_expr (pe_meth (pv 0) T.c_Weaving.c T.d_Weaving_begin.M G_Weaving_begin (hr.mono h_Weaving_begin) T.d_Weaving_begin.B .nil pass0 (pa_cons (pv 3) pa_nil))))
    (pss_nil)))))))))
/-- Weaving.begin -/
abbrev t_Weaving_begin (K : PySem.W.Frag) (A : Ad) : TS := tIfS (tTest (tOp (rNotInU K) (tVar 1) (tF A.C_Weaving (tVar 0) "begun"))) (tDrop (tBM K "list" rAppend (tF A.C_Weaving (tVar 0) "begun") (tCons (tVar 1) tNil)))
  (tNext)
theorem fn_Weaving_begin {k : Nat} (T : Tx K mg A) {sp : Sp} (len : ∀ vs H Q E, sp vs H Q E → vs.length = 2) (h : ∀ vs H Q E, sp vs H Q E → t_Weaving_begin K A  { nx := fun _ H' => Q .non H', rt := Q } (start N_Weaving_begin vs) H) : FnOk P w K mg base CX0 (k + 1) A.f_Weaving_begin A.d_Weaving_begin P_Weaving_begin sp := by
  refine T.d_Weaving_begin.F.ok sc_Weaving_begin len fun cdv A' outer s H vs Q E hr hs => ⟨t_Weaving_begin K A , ?_, h vs H Q E hs⟩
  have hu := hr.units
  exact pss_one (ps_if (pt_cmpR (op_notInU hu) (pv 1) (pe_fldC T.c_Weaving.c (T.c_Weaving.na "begun" (.head _)) (pv 0)) rfl) (pss_one (ps_expr (pe_bm PySem.F.plainAttrs_list PySem.F.slot_list_append PySem.F.type_list_append mt_append (pe_fldC T.c_Weaving.c (T.c_Weaving.na "begun" (.head _)) (pv 0)) (pa_cons (pv 1) pa_nil))))
    (pss_nil))
/-- Weaving.is_over -/
abbrev t_Weaving_is_over (K : PySem.W.Frag) (A : Ad) : TS := tRet (tOp (rEqU) (tLc (iSeq K (tF A.C_Weaving (tVar 0) "begun")) (gName 1) (tTest (tOp (rNotInU K) (tVar 1) (tF A.C_Weaving (tVar 0) "worths"))) (tVar 1) [1]) (tLst (tNil)))
theorem fn_Weaving_is_over {k : Nat} (T : Tx K mg A) {sp : Sp} (len : ∀ vs H Q E, sp vs H Q E → vs.length = 1) (h : ∀ vs H Q E, sp vs H Q E → t_Weaving_is_over K A  { nx := fun _ H' => Q .non H', rt := Q } (start N_Weaving_is_over vs) H) : FnOk P w K mg base CX0 (k + 1) A.f_Weaving_is_over A.d_Weaving_is_over P_Weaving_is_over sp := by
  refine T.d_Weaving_is_over.F.ok sc_Weaving_is_over len fun cdv A' outer s H vs Q E hr hs => ⟨t_Weaving_is_over K A , ?_, h vs H Q E hs⟩
  have hu := hr.units
  exact pss_one (ps_ret (pe_cmpR (op_eqU hu) (pe_lc (own := [("name", 1)]) (g := gName 1) (tt := tTest (tOp (rNotInU K) (tVar 1) (tF A.C_Weaving (tVar 0) "worths"))) rfl sc_Weaving_is_over.nd (pi_or (pi_list (pe_fldC T.c_Weaving.c (T.c_Weaving.na "begun" (.head _)) (pv 0))) (pi_tup (pe_fldC T.c_Weaving.c (T.c_Weaving.na "begun" (.head _)) (pv 0)))) (blkOk_by (own := [("name", 1)]) (N := N_Weaving_is_over) (sc := defScope s_Weaving_is_over) (by decide +kernel)) (fun _ _ _ _ _ => pg_name (i := 1) sc_Weaving_is_over.nd rfl (by first | exact Or.inl rfl | exact Or.inr rfl)) (fun _ _ _ _ _ => pts_one (pt_cmpR (op_notInU hu) (pv 1) (pe_fldC T.c_Weaving.c (T.c_Weaving.na "worths" (.tail _ (.tail _ (.tail _ (.tail _ (.head _)))))) (pv 0)) rfl)) (fun _ _ _ _ _ => pv 1)) (pe_lst (pa_nil)) (nomark _)))
/-- Weaving.ready -/
abbrev t_Weaving_ready (K : PySem.W.Frag) (A : Ad) : TS := tRet (tLc (iSeq K (tF A.C_Weaving (tVar 0) "begun")) (gName 1) (tAnd (tTest (tOp (rNotInU K) (tVar 1) (tF A.C_Weaving (tVar 0) "worths"))) (tTest (tOp (rNotInU K) (tVar 1) (tF A.C_Weaving (tVar 0) "waits")))) (tVar 1) [1])
theorem fn_Weaving_ready {k : Nat} (T : Tx K mg A) {sp : Sp} (len : ∀ vs H Q E, sp vs H Q E → vs.length = 1) (h : ∀ vs H Q E, sp vs H Q E → t_Weaving_ready K A  { nx := fun _ H' => Q .non H', rt := Q } (start N_Weaving_ready vs) H) : FnOk P w K mg base CX0 (k + 1) A.f_Weaving_ready A.d_Weaving_ready P_Weaving_ready sp := by
  refine T.d_Weaving_ready.F.ok sc_Weaving_ready len fun cdv A' outer s H vs Q E hr hs => ⟨t_Weaving_ready K A , ?_, h vs H Q E hs⟩
  have hu := hr.units
  exact pss_one (ps_ret (pe_lc (own := [("name", 1)]) (g := gName 1) (tt := tAnd (tTest (tOp (rNotInU K) (tVar 1) (tF A.C_Weaving (tVar 0) "worths"))) (tTest (tOp (rNotInU K) (tVar 1) (tF A.C_Weaving (tVar 0) "waits")))) rfl sc_Weaving_ready.nd (pi_or (pi_list (pe_fldC T.c_Weaving.c (T.c_Weaving.na "begun" (.head _)) (pv 0))) (pi_tup (pe_fldC T.c_Weaving.c (T.c_Weaving.na "begun" (.head _)) (pv 0)))) (blkOk_by (own := [("name", 1)]) (N := N_Weaving_ready) (sc := defScope s_Weaving_ready) (by decide +kernel)) (fun _ _ _ _ _ => pg_name (i := 1) sc_Weaving_ready.nd rfl (by first | exact Or.inl rfl | exact Or.inr rfl)) (fun _ _ _ _ _ => pts_one (PW.pt (pw_and (pt_cmpR (op_notInU hu) (pv 1) (pe_fldC T.c_Weaving.c (T.c_Weaving.na "worths" (.tail _ (.tail _ (.tail _ (.tail _ (.head _)))))) (pv 0)) rfl) (pw_and1 (pt_cmpR (op_notInU hu) (pv 1) (pe_fldC T.c_Weaving.c (T.c_Weaving.na "waits" (.tail _ (.tail _ (.tail _ (.head _))))) (pv 0)) rfl))))) (fun _ _ _ _ _ => pv 1)))
/-- Weaving.go_on -/
abbrev t_Weaving_go_on (K : PySem.W.Frag) (A : Ad) (sp_behind sp_NoName_init sp_Weaving_begin : Sp) (E : XK) : TS := tSeq (tAsg (tLst (tNil)) (gName 2))
  (tSeq (tAsg (tCall sp_behind [] E0 (tCons (tOp (rIxU K) (tF A.C_Weaving (tVar 0) "recipes") (tVar 1)) (tCons (tVar 2) tNil))) (gName 3))
  (tSeq (tWhile (tAnd (tTest (tOp (rEqU) (tOp (rIxU K) (tVar 3) (tC (.int 0))) (tC (.str "read")))) (tTest (tOp (rInU K) (tOp (rIxU K) (tVar 3) (tC (.int 1))) (tF A.C_Weaving (tVar 0) "worths")))) (tSeq (tDrop (tBM K "list" rAppend (tVar 2) (tCons (tTup (tCons (tOp (rIxU K) (tVar 3) (tC (.int 1))) (tCons (tOp (rIxU K) (tF A.C_Weaving (tVar 0) "worths") (tOp (rIxU K) (tVar 3) (tC (.int 1)))) tNil))) tNil)))
  (tAsg (tCall sp_behind [] E0 (tCons (tOp (rIxU K) (tF A.C_Weaving (tVar 0) "recipes") (tVar 1)) (tCons (tVar 2) tNil))) (gName 3))))
  (tSeq (tIfS (tTest (tOp (rEqU) (tOp (rIxU K) (tVar 3) (tC (.int 0))) (tC (.str "read")))) (tSeq (tIfS (tTest (tOp (rNotInU K) (tOp (rIxU K) (tVar 3) (tC (.int 1))) (tF A.C_Weaving (tVar 0) "recipes"))) (tRaiseW A.C_NoName sp_NoName_init (fun cls d _ H => E cls d H) (tCons (tOp (rIxU K) (tVar 3) (tC (.int 1))) tNil))
  (tNext))
  (tSeq (tDrop (tMeth A.C_Weaving "begin" sp_Weaving_begin [] E0 (tVar 0) (tCons (tOp (rIxU K) (tVar 3) (tC (.int 1))) tNil)))
  (tSeq (tAsg (tOp (rIxU K) (tVar 3) (tC (.int 1))) (gSub (tF A.C_Weaving (tVar 0) "waits") (tVar 1) rSetU))
  (tRet (tTup (tCons (tVar 1) (tCons (tC (.str "waits")) (tCons (tOp (rIxU K) (tVar 3) (tC (.int 1))) tNil))))))))
  (tNext))
  (tSeq (tAsg (tOp (rIxU K) (tVar 3) (tC (.int 1))) (gSub (tF A.C_Weaving (tVar 0) "worths") (tVar 1) rSetU))
  (tSeq (tFor (iSeq K (tF A.C_Weaving (tVar 0) "begun")) (gName 4) (tIfS (tTest (tOp (rEqU) (tDGet1 (tF A.C_Weaving (tVar 0) "waits") (tVar 4)) (tVar 1))) (tDrop (tDPop1 (tF A.C_Weaving (tVar 0) "waits") (tVar 4)))
  (tNext)))
  (tRet (tTup (tCons (tVar 1) (tCons (tC (.str "known")) (tCons (tOp (rIxU K) (tVar 3) (tC (.int 1))) tNil))))))))))
theorem fn_Weaving_go_on {k : Nat} (T : Tx K mg A) {k_behind : Nat} {sp_behind : Sp} (G_behind : FnOk P w K mg base CX0 k_behind A.f_behind A.d_behind P_behind sp_behind) (h_behind : k_behind ≤ k) {k_NoName_init : Nat} {sp_NoName_init : Sp} (G_NoName_init : FnOk P w K mg base CX0 k_NoName_init A.f_NoName_init A.d_NoName_init P_NoName_init sp_NoName_init) (h_NoName_init : k_NoName_init < k) {k_Weaving_begin : Nat} {sp_Weaving_begin : Sp} (G_Weaving_begin : FnOk P w K mg base CX0 k_Weaving_begin A.f_Weaving_begin A.d_Weaving_begin P_Weaving_begin sp_Weaving_begin) (h_Weaving_begin : k_Weaving_begin ≤ k) {sp : Sp} (len : ∀ vs H Q E, sp vs H Q E → vs.length = 2) (h : ∀ vs H Q E, sp vs H Q E → t_Weaving_go_on K A sp_behind sp_NoName_init sp_Weaving_begin E { nx := fun _ H' => Q .non H', rt := Q } (start N_Weaving_go_on vs) H) : FnOk P w K mg base (L2.CX P w) (k + 1) A.f_Weaving_go_on A.d_Weaving_go_on P_Weaving_go_on sp := by
  refine T.d_Weaving_go_on.F.okX sc_Weaving_go_on len fun cdv A' outer s H vs Q E hr hs => ⟨t_Weaving_go_on K A sp_behind sp_NoName_init sp_Weaving_begin E, ?_, h vs H Q E hs⟩
  have hu := hr.units
  have tk := takes_of (X := cxOf (L2.CX P w) P w K mg base N_Weaving_go_on "Weaving.go_on" (defScope s_Weaving_go_on) A.f_Weaving_go_on cdv A' outer s H E) rfl rfl rfl rfl
  exact pss_cons (ps_set (i := 2) sc_Weaving_go_on.nd rfl (by first | exact Or.inl rfl | exact Or.inr rfl) (pe_lst (pa_nil)))
    (pss_cons (ps_set (i := 3) sc_Weaving_go_on.nd rfl (by first | exact Or.inl rfl | exact Or.inr rfl) (pe_call G_behind (hr.mono h_behind) (by rfl) T.d_behind.m T.d_behind.F.kp T.d_behind.B .nil pass0 (pa_cons (pe_ix (ix_U hu) (pe_fldC T.c_Weaving.c (T.c_Weaving.na "recipes" (.tail _ (.tail _ (.head _)))) (pv 0)) (pv 1) (fun _ _ => rfl)) (pa_cons (pv 2) pa_nil))))
    (pss_cons (ps_while (passes_of rfl) (PW.pt (pw_and (pt_cmpR (op_eqU hu) (pe_ix (ix_U hu) (pv 3) (pe_int) (fun _ _ => rfl)) (pe_str) (nomark _)) (pw_and1 (pt_cmpR (op_inU hu) (pe_ix (ix_U hu) (pv 3) (pe_int) (fun _ _ => rfl)) (pe_fldC T.c_Weaving.c (T.c_Weaving.na "worths" (.tail _ (.tail _ (.tail _ (.tail _ (.head _)))))) (pv 0)) rfl)))) (pss_cons (ps_expr (pe_bm PySem.F.plainAttrs_list PySem.F.slot_list_append PySem.F.type_list_append mt_append (pv 2) (pa_cons (pe_tup (pa_cons (pe_ix (ix_U hu) (pv 3) (pe_int) (fun _ _ => rfl)) (pa_cons (pe_ix (ix_U hu) (pe_fldC T.c_Weaving.c (T.c_Weaving.na "worths" (.tail _ (.tail _ (.tail _ (.tail _ (.head _)))))) (pv 0)) (pe_ix (ix_U hu) (pv 3) (pe_int) (fun _ _ => rfl)) (fun _ _ => rfl)) pa_nil))) pa_nil)))
    (pss_one (ps_set (i := 3) sc_Weaving_go_on.nd rfl (by first | exact Or.inl rfl | exact Or.inr rfl) (pe_call G_behind (hr.mono h_behind) (by rfl) T.d_behind.m T.d_behind.F.kp T.d_behind.B .nil pass0 (pa_cons (pe_ix (ix_U hu) (pe_fldC T.c_Weaving.c (T.c_Weaving.na "recipes" (.tail _ (.tail _ (.head _)))) (pv 0)) (pv 1) (fun _ _ => rfl)) (pa_cons (pv 2) pa_nil)))))))
    (pss_cons (ps_if (pt_cmpR (op_eqU hu) (pe_ix (ix_U hu) (pv 3) (pe_int) (fun _ _ => rfl)) (pe_str) (nomark _)) (pss_cons (ps_if (pt_cmpR (op_notInU hu) (pe_ix (ix_U hu) (pv 3) (pe_int) (fun _ _ => rfl)) (pe_fldC T.c_Weaving.c (T.c_Weaving.na "recipes" (.tail _ (.tail _ (.head _)))) (pv 0)) rfl) (pss_one (ps_raise rfl tk (pmk_oex T.e_NoName.c T.e_NoName.i T.e_NoName.tI G_NoName_init (hr.mono (Nat.succ_le_of_lt h_NoName_init)) T.e_NoName.B .nil pass0 (by rfl) T.e_NoName.m (pa_cons (pe_ix (ix_U hu) (pv 3) (pe_int) (fun _ _ => rfl)) pa_nil))))
    (pss_nil))
    (pss_cons (ps_expr (pe_meth (pv 0) T.c_Weaving.c T.d_Weaving_begin.M G_Weaving_begin (hr.mono h_Weaving_begin) T.d_Weaving_begin.B .nil pass0 (pa_cons (pe_ix (ix_U hu) (pv 3) (pe_int) (fun _ _ => rfl)) pa_nil)))
    (pss_cons (ps_asg (pe_ix (ix_U hu) (pv 3) (pe_int) (fun _ _ => rfl)) (pg_sub (pe_fldC T.c_Weaving.c (T.c_Weaving.na "waits" (.tail _ (.tail _ (.tail _ (.head _))))) (pv 0)) (pv 1) (set_U hu)))
    (pss_one (ps_ret (pe_tup (pa_cons (pv 1) (pa_cons (pe_glob (by rfl) T.g_WAITS.choose_spec ⟨_, rfl⟩) (pa_cons (pe_ix (ix_U hu) (pv 3) (pe_int) (fun _ _ => rfl)) pa_nil)))))))))
    (pss_nil))
    (pss_cons (ps_asg (pe_ix (ix_U hu) (pv 3) (pe_int) (fun _ _ => rfl)) (pg_sub (pe_fldC T.c_Weaving.c (T.c_Weaving.na "worths" (.tail _ (.tail _ (.tail _ (.tail _ (.head _)))))) (pv 0)) (pv 1) (set_U hu)))
    (pss_cons (ps_for (passes_of rfl) rfl (pi_or (pi_list (pe_fldC T.c_Weaving.c (T.c_Weaving.na "begun" (.head _)) (pv 0))) (pi_tup (pe_fldC T.c_Weaving.c (T.c_Weaving.na "begun" (.head _)) (pv 0)))) (pg_name (i := 4) sc_Weaving_go_on.nd rfl (by first | exact Or.inl rfl | exact Or.inr rfl)) (pss_one (ps_if (pt_cmpR (op_eqU hu) (pe_dget1 (hu_of hr) (pe_fldC T.c_Weaving.c (T.c_Weaving.na "waits" (.tail _ (.tail _ (.tail _ (.head _))))) (pv 0)) (pv 4) ⟨rfl, rfl, rfl, rfl⟩) (pv 1) (nomark _)) (pss_one (ps_expr (pe_dpop1 (pe_fldC T.c_Weaving.c (T.c_Weaving.na "waits" (.tail _ (.tail _ (.tail _ (.head _))))) (pv 0)) (pv 4) ⟨rfl, rfl, rfl, rfl⟩)))
    (pss_nil))))
    (pss_one (ps_ret (pe_tup (pa_cons (pv 1) (pa_cons (pe_glob (by rfl) T.g_KNOWN.choose_spec ⟨_, rfl⟩) (pa_cons (pe_ix (ix_U hu) (pv 3) (pe_int) (fun _ _ => rfl)) pa_nil)))))))))))
/-- Weaving.first_ring -/
abbrev t_Weaving_first_ring (K : PySem.W.Frag) (A : Ad) : TS := tSeq (tFor (iSeq K (tF A.C_Weaving (tVar 0) "begun")) (gName 1) (tSeq (tAsg (tLst (tCons (tVar 1) tNil)) (gName 2))
  (tWhile (tAnd (tTest (tOp (rInU K) (tOp (rIxU K) (tVar 2) (tUn (rU fun i => .int (-i)) (tC (.int 1)))) (tF A.C_Weaving (tVar 0) "waits"))) (tTest (tOp (rLeI) (tCB (rLenU K) (tCons (tVar 2) tNil)) (tCB (rLenU K) (tCons (tF A.C_Weaving (tVar 0) "begun") tNil))))) (tSeq (tDrop (tBM K "list" rAppend (tVar 2) (tCons (tOp (rIxU K) (tF A.C_Weaving (tVar 0) "waits") (tOp (rIxU K) (tVar 2) (tUn (rU fun i => .int (-i)) (tC (.int 1))))) tNil)))
  (tIfS (tTest (tOp (rEqU) (tOp (rIxU K) (tVar 2) (tUn (rU fun i => .int (-i)) (tC (.int 1)))) (tVar 1))) (tRet (tVar 2))
  (tNext))))))
  (tRet (tLst (tNil)))
theorem fn_Weaving_first_ring {k : Nat} (T : Tx K mg A) {sp : Sp} (len : ∀ vs H Q E, sp vs H Q E → vs.length = 1) (h : ∀ vs H Q E, sp vs H Q E → t_Weaving_first_ring K A  { nx := fun _ H' => Q .non H', rt := Q } (start N_Weaving_first_ring vs) H) : FnOk P w K mg base CX0 (k + 1) A.f_Weaving_first_ring A.d_Weaving_first_ring P_Weaving_first_ring sp := by
  refine T.d_Weaving_first_ring.F.ok sc_Weaving_first_ring len fun cdv A' outer s H vs Q E hr hs => ⟨t_Weaving_first_ring K A , ?_, h vs H Q E hs⟩
  have hu := hr.units
  exact pss_cons (ps_for PassesOwn.never rfl (pi_or (pi_list (pe_fldC T.c_Weaving.c (T.c_Weaving.na "begun" (.head _)) (pv 0))) (pi_tup (pe_fldC T.c_Weaving.c (T.c_Weaving.na "begun" (.head _)) (pv 0)))) (pg_name (i := 1) sc_Weaving_first_ring.nd rfl (by first | exact Or.inl rfl | exact Or.inr rfl)) (pss_cons (ps_set (i := 2) sc_Weaving_first_ring.nd rfl (by first | exact Or.inl rfl | exact Or.inr rfl) (pe_lst (pa_cons (pv 1) pa_nil)))
    (pss_one (ps_while PassesOwn.never (PW.pt (pw_and (pt_cmpR (op_inU hu) (pe_ix (ix_U hu) (pv 2) (pe_un un_neg (pe_int)) (fun _ _ => rfl)) (pe_fldC T.c_Weaving.c (T.c_Weaving.na "waits" (.tail _ (.tail _ (.tail _ (.head _))))) (pv 0)) rfl) (pw_and1 (pt_cmpR op_leI (pe_callB call_lenU (by rfl) T.b_len (by decide +kernel) (pa_cons (pv 2) pa_nil)) (pe_callB call_lenU (by rfl) T.b_len (by decide +kernel) (pa_cons (pe_fldC T.c_Weaving.c (T.c_Weaving.na "begun" (.head _)) (pv 0)) pa_nil)) (nomark _))))) (pss_cons (ps_expr (pe_bm PySem.F.plainAttrs_list PySem.F.slot_list_append PySem.F.type_list_append mt_append (pv 2) (pa_cons (pe_ix (ix_U hu) (pe_fldC T.c_Weaving.c (T.c_Weaving.na "waits" (.tail _ (.tail _ (.tail _ (.head _))))) (pv 0)) (pe_ix (ix_U hu) (pv 2) (pe_un un_neg (pe_int)) (fun _ _ => rfl)) (fun _ _ => rfl)) pa_nil)))
    (pss_one (ps_if (pt_cmpR (op_eqU hu) (pe_ix (ix_U hu) (pv 2) (pe_un un_neg (pe_int)) (fun _ _ => rfl)) (pv 1) (nomark _)) (pss_one (ps_ret (pv 2)))
    (pss_nil))))))))
    (pss_one (ps_ret (pe_lst (pa_nil))))
/-- woven -/
abbrev t_woven (K : PySem.W.Frag) (A : Ad) (sp_Weaving_init sp_Weaving_is_over sp_Weaving_ready sp_Ring_init sp_Weaving_first_ring sp_Weaving_go_on : Sp) (E : XK) : TS := tSeq (tAsg (tMakeW A.C_Weaving sp_Weaving_init (WE (fun cls d _ H => E cls d H)) (tCons (tVar 0) (tCons (tVar 1) tNil))) (gName 3))
  (tSeq (tAsg (tLst (tNil)) (gName 4))
  (tSeq (tWhile (tNot (tB (tMeth A.C_Weaving "is_over" sp_Weaving_is_over [] E0 (tVar 3) tNil))) (tSeq (tAsg (tMeth A.C_Weaving "ready" sp_Weaving_ready [] E0 (tVar 3) tNil) (gName 5))
  (tSeq (tIfS (tTest (tOp (rEqU) (tVar 5) (tLst (tNil)))) (tRaiseW A.C_Ring sp_Ring_init (fun cls d _ H => E cls d H) (tCons (tMeth A.C_Weaving "first_ring" sp_Weaving_first_ring [] E0 (tVar 3) tNil) tNil))
  (tNext))
  (tSeq (tAsg (tC (.int 0)) (gName 6))
  (tSeq (tIfS (tTest (tOp (rLtI) (tCB (rLenU K) (tCons (tVar 4) tNil)) (tCB (rLenU K) (tCons (tVar 2) tNil)))) (tAsg (tOp (rIxU K) (tVar 2) (tCB (rLenU K) (tCons (tVar 4) tNil))) (gName 6))
  (tNext))
  (tDrop (tBM K "list" rAppend (tVar 4) (tCons (tMethW A.C_Weaving "go_on" sp_Weaving_go_on (WE (fun cls d _ H => E cls d H)) (tVar 3) (tCons (tOp (rIxU K) (tVar 5) (tOp (rModI) (tVar 6) (tCB (rLenU K) (tCons (tVar 5) tNil)))) tNil)) tNil))))))))
  (tRet (tVar 4))))
theorem fn_woven {k : Nat} (T : Tx K mg A) {k_Weaving_init : Nat} {sp_Weaving_init : Sp} (G_Weaving_init : FnOk P w K mg base (L2.CX P w) k_Weaving_init A.f_Weaving_init A.d_Weaving_init P_Weaving_init sp_Weaving_init) (h_Weaving_init : k_Weaving_init < k) {k_Weaving_is_over : Nat} {sp_Weaving_is_over : Sp} (G_Weaving_is_over : FnOk P w K mg base CX0 k_Weaving_is_over A.f_Weaving_is_over A.d_Weaving_is_over P_Weaving_is_over sp_Weaving_is_over) (h_Weaving_is_over : k_Weaving_is_over ≤ k) {k_Weaving_ready : Nat} {sp_Weaving_ready : Sp} (G_Weaving_ready : FnOk P w K mg base CX0 k_Weaving_ready A.f_Weaving_ready A.d_Weaving_ready P_Weaving_ready sp_Weaving_ready) (h_Weaving_ready : k_Weaving_ready ≤ k) {k_Ring_init : Nat} {sp_Ring_init : Sp} (G_Ring_init : FnOk P w K mg base CX0 k_Ring_init A.f_Ring_init A.d_Ring_init P_Ring_init sp_Ring_init) (h_Ring_init : k_Ring_init < k) {k_Weaving_first_ring : Nat} {sp_Weaving_first_ring : Sp} (G_Weaving_first_ring : FnOk P w K mg base CX0 k_Weaving_first_ring A.f_Weaving_first_ring A.d_Weaving_first_ring P_Weaving_first_ring sp_Weaving_first_ring) (h_Weaving_first_ring : k_Weaving_first_ring ≤ k) {k_Weaving_go_on : Nat} {sp_Weaving_go_on : Sp} (G_Weaving_go_on : FnOk P w K mg base (L2.CX P w) k_Weaving_go_on A.f_Weaving_go_on A.d_Weaving_go_on P_Weaving_go_on sp_Weaving_go_on) (h_Weaving_go_on : k_Weaving_go_on ≤ k) {sp : Sp} (len : ∀ vs H Q E, sp vs H Q E → vs.length = 3) (h : ∀ vs H Q E, sp vs H Q E → t_woven K A sp_Weaving_init sp_Weaving_is_over sp_Weaving_ready sp_Ring_init sp_Weaving_first_ring sp_Weaving_go_on E { nx := fun _ H' => Q .non H', rt := Q } (start N_woven vs) H) : FnOk P w K mg base (L2.CX P w) (k + 1) A.f_woven A.d_woven P_woven sp := by
  refine T.d_woven.F.okX sc_woven len fun cdv A' outer s H vs Q E hr hs => ⟨t_woven K A sp_Weaving_init sp_Weaving_is_over sp_Weaving_ready sp_Ring_init sp_Weaving_first_ring sp_Weaving_go_on E, ?_, h vs H Q E hs⟩
  have hu := hr.units
  have tk := takes_of (X := cxOf (L2.CX P w) P w K mg base N_woven "woven" (defScope s_woven) A.f_woven cdv A' outer s H E) rfl rfl rfl rfl
  exact pss_cons (ps_set (i := 3) sc_woven.nd rfl (by first | exact Or.inl rfl | exact Or.inr rfl) (pe_makeW T.d_Weaving_init.M G_Weaving_init (hr.mono (Nat.succ_le_of_lt h_Weaving_init)) (by rfl) T.c_Weaving.m (T.d_Weaving_init.B) (fun σ => passAt tk σ) (pa_cons (pv 0) (pa_cons (pv 1) pa_nil))))
    (pss_cons (ps_set (i := 4) sc_woven.nd rfl (by first | exact Or.inl rfl | exact Or.inr rfl) (pe_lst (pa_nil)))
    (pss_cons (ps_while (passes_of rfl) (pt_not (pt_val (pe_meth0 (pv 3) T.c_Weaving.c T.d_Weaving_is_over.M G_Weaving_is_over (hr.mono h_Weaving_is_over) T.d_Weaving_is_over.B .nil pass0))) (pss_cons (ps_set (i := 5) sc_woven.nd rfl (by first | exact Or.inl rfl | exact Or.inr rfl) (pe_meth0 (pv 3) T.c_Weaving.c T.d_Weaving_ready.M G_Weaving_ready (hr.mono h_Weaving_ready) T.d_Weaving_ready.B .nil pass0))
    (pss_cons (ps_if (pt_cmpR (op_eqU hu) (pv 5) (pe_lst (pa_nil)) (nomark _)) (pss_one (ps_raise rfl tk (pmk_oex T.e_Ring.c T.e_Ring.i T.e_Ring.tI G_Ring_init (hr.mono (Nat.succ_le_of_lt h_Ring_init)) T.e_Ring.B .nil pass0 (by rfl) T.e_Ring.m (pa_cons (pe_meth0 (pv 3) T.c_Weaving.c T.d_Weaving_first_ring.M G_Weaving_first_ring (hr.mono h_Weaving_first_ring) T.d_Weaving_first_ring.B .nil pass0) pa_nil))))
    (pss_nil))
    (pss_cons (ps_set (i := 6) sc_woven.nd rfl (by first | exact Or.inl rfl | exact Or.inr rfl) (pe_int))
    (pss_cons (ps_if (pt_cmpR op_ltI (pe_callB call_lenU (by rfl) T.b_len (by decide +kernel) (pa_cons (pv 4) pa_nil)) (pe_callB call_lenU (by rfl) T.b_len (by decide +kernel) (pa_cons (pv 2) pa_nil)) (nomark _)) (pss_one (ps_set (i := 6) sc_woven.nd rfl (by first | exact Or.inl rfl | exact Or.inr rfl) (pe_ix (ix_U hu) (pv 2) (pe_callB call_lenU (by rfl) T.b_len (by decide +kernel) (pa_cons (pv 4) pa_nil)) (fun _ _ => rfl))))
    (pss_nil))
    (pss_one (ps_expr (pe_bm PySem.F.plainAttrs_list PySem.F.slot_list_append PySem.F.type_list_append mt_append (pv 4) (pa_cons (pe_methW (pv 3) T.c_Weaving.c T.d_Weaving_go_on.M G_Weaving_go_on (hr.mono h_Weaving_go_on) T.d_Weaving_go_on.B (fun σ => passAt tk σ) (pa_cons (pe_ix (ix_U hu) (pv 5) (pe_op op_modI (pv 6) (pe_callB call_lenU (by rfl) T.b_len (by decide +kernel) (pa_cons (pv 5) pa_nil))) (fun _ _ => rfl)) pa_nil)) pa_nil)))))))))
    (pss_one (ps_ret (pv 4)))))
/-- _law_state -/
abbrev t__law_state (K : PySem.W.Frag) (A : Ad) : TS := tSeq (tAsg (tC (.int 0)) (gName 2))
  (tSeq (tIfS (tTest (tOp (rLtI) (tVar 1) (tCB (rLenU K) (tCons (tVar 0) tNil)))) (tAsg (tOp (rIxU K) (tVar 0) (tVar 1)) (gName 2))
  (tNext))
  (tRet (tDisp [(tC (.str "rest"), tVar 2), (tC (.str "digits"), tOrV (tOp (rGeI) (tVar 1) (tCB (rLenU K) (tCons (tVar 0) tNil))) (tOp (rGeI) (tVar 2) (tOp (rPowI) (tC (.int 10)) (tC (.int 18))))), (tC (.str "count"), tVar 1)])))
theorem fn__law_state {k : Nat} (T : Tx K mg A) {sp : Sp} (len : ∀ vs H Q E, sp vs H Q E → vs.length = 2) (h : ∀ vs H Q E, sp vs H Q E → t__law_state K A  { nx := fun _ H' => Q .non H', rt := Q } (start N__law_state vs) H) : FnOk P w K mg base CX0 (k + 1) A.f__law_state A.d__law_state P__law_state sp := by
  refine T.d__law_state.F.ok sc__law_state len fun cdv A' outer s H vs Q E hr hs => ⟨t__law_state K A , ?_, h vs H Q E hs⟩
  have hu := hr.units
  exact pss_cons (ps_set (i := 2) sc__law_state.nd rfl (by first | exact Or.inl rfl | exact Or.inr rfl) (pe_int))
    (pss_cons (ps_if (pt_cmpR op_ltI (pv 1) (pe_callB call_lenU (by rfl) T.b_len (by decide +kernel) (pa_cons (pv 0) pa_nil)) (nomark _)) (pss_one (ps_set (i := 2) sc__law_state.nd rfl (by first | exact Or.inl rfl | exact Or.inr rfl) (pe_ix (ix_U hu) (pv 0) (pv 1) (fun _ _ => rfl))))
    (pss_nil))
    (pss_one (ps_ret (pe_disp (pps_cons (pe_str) (pv 2) (pps_cons (pe_str) (pe_or (pe_cmpR op_geI (pv 1) (pe_callB call_lenU (by rfl) T.b_len (by decide +kernel) (pa_cons (pv 0) pa_nil)) (nomark _)) (pe_one (pe_cmpR op_geI (pv 2) (pe_op op_powI (pe_int) (pe_int)) (nomark _)))) (pps_cons (pe_str) (pv 1) (pps_nil)))) (by rfl) (by rfl) (fun z => by cases z) (by decide)))))
/-- _law_draw -/
abbrev t__law_draw (K : PySem.W.Frag) (A : Ad) : TS := tSeq (tIfS (tB (tOp (rIxU K) (tVar 0) (tC (.str "digits")))) (tSeq (tAsg (tOp (rModI) (tOp (rIxU K) (tVar 0) (tC (.str "rest"))) (tVar 1)) (gName 2))
  (tSeq (tAsg (tOp (rDivI) (tOp (rIxU K) (tVar 0) (tC (.str "rest"))) (tVar 1)) (gSub (tVar 0) (tC (.str "rest")) rSetU))
  (tRet (tVar 2))))
  (tNext))
  (tSeq (tAsg (tOp (rAddU K) (tOp (rIxU K) (tVar 0) (tC (.str "count"))) (tC (.int 1))) (gSub (tVar 0) (tC (.str "count")) rSetU))
  (tSeq (tAsg (tOp (rModI) (tOp (rAddU K) (tOp (rModI) (tOp (rIxU K) (tVar 0) (tC (.str "rest"))) (tC (.int 999999999989))) (tOp (rMulI) (tC (.int 290027)) (tOp (rIxU K) (tVar 0) (tC (.str "count"))))) (tC (.int 999999999989))) (gName 3))
  (tSeq (tAsg (tOp (rModI) (tOp (rMulI) (tVar 3) (tVar 3)) (tC (.int 1000000000039))) (gName 3))
  (tSeq (tAsg (tOp (rModI) (tOp (rMulI) (tOp (rAddU K) (tVar 3) (tC (.int 350377))) (tVar 3)) (tC (.int 999999999961))) (gName 3))
  (tRet (tOp (rModI) (tOp (rDivI) (tVar 3) (tC (.int 9))) (tVar 1)))))))
theorem fn__law_draw {k : Nat} (T : Tx K mg A) {sp : Sp} (len : ∀ vs H Q E, sp vs H Q E → vs.length = 2) (h : ∀ vs H Q E, sp vs H Q E → t__law_draw K A  { nx := fun _ H' => Q .non H', rt := Q } (start N__law_draw vs) H) : FnOk P w K mg base CX0 (k + 1) A.f__law_draw A.d__law_draw P__law_draw sp := by
  refine T.d__law_draw.F.ok sc__law_draw len fun cdv A' outer s H vs Q E hr hs => ⟨t__law_draw K A , ?_, h vs H Q E hs⟩
  have hu := hr.units
  exact pss_cons (ps_if (pt_val (pe_ix (ix_U hu) (pv 0) (pe_str) (fun _ _ => rfl))) (pss_cons (ps_set (i := 2) sc__law_draw.nd rfl (by first | exact Or.inl rfl | exact Or.inr rfl) (pe_op op_modI (pe_ix (ix_U hu) (pv 0) (pe_str) (fun _ _ => rfl)) (pv 1)))
    (pss_cons (ps_asg (pe_op op_divI (pe_ix (ix_U hu) (pv 0) (pe_str) (fun _ _ => rfl)) (pv 1)) (pg_sub (pv 0) (pe_str) (set_U hu)))
    (pss_one (ps_ret (pv 2)))))
    (pss_nil))
    (pss_cons (ps_asg (pe_op op_addU (pe_ix (ix_U hu) (pv 0) (pe_str) (fun _ _ => rfl)) (pe_int)) (pg_sub (pv 0) (pe_str) (set_U hu)))
    (pss_cons (ps_set (i := 3) sc__law_draw.nd rfl (by first | exact Or.inl rfl | exact Or.inr rfl) (pe_op op_modI (pe_op op_addU (pe_op op_modI (pe_ix (ix_U hu) (pv 0) (pe_str) (fun _ _ => rfl)) (pe_int)) (pe_op op_mulI (pe_int) (pe_ix (ix_U hu) (pv 0) (pe_str) (fun _ _ => rfl)))) (pe_int)))
    (pss_cons (ps_set (i := 3) sc__law_draw.nd rfl (by first | exact Or.inl rfl | exact Or.inr rfl) (pe_op op_modI (pe_op op_mulI (pv 3) (pv 3)) (pe_int)))
    (pss_cons (ps_set (i := 3) sc__law_draw.nd rfl (by first | exact Or.inl rfl | exact Or.inr rfl) (pe_op op_modI (pe_op op_mulI (pe_op op_addU (pv 3) (pe_int)) (pv 3)) (pe_int)))
    (pss_one (ps_ret (pe_op op_modI (pe_op op_divI (pv 3) (pe_int)) (pv 1))))))))
/-- _law_names -/
abbrev t__law_names (K : PySem.W.Frag) (A : Ad) (sp__law_state sp__law_draw : Sp) : TS := tSeq (tAsg (tC (.str "abcdefghijklmnopqrstuvwxyz")) (gName 1))
  (tSeq (tAsg (tCall sp__law_state [] E0 (tCons (tVar 0) (tCons (tC (.int 1)) tNil))) (gName 2))
  (tSeq (tAsg (tCall sp__law_draw [] E0 (tCons (tVar 2) (tCons (tC (.int 2)) tNil))) (gName 3))
  (tSeq (tAsg (tCall sp__law_draw [] E0 (tCons (tVar 2) (tCons (tC (.int 26)) tNil))) (gName 4))
  (tSeq (tAsg (tM1 (rJoinU K) (tC (.str "")) (tLc (iRng1 (tCons (tC (.int 7)) tNil)) (gName 7) (tYes) (tOp (rIxU K) (tVar 1) (tCall sp__law_draw [] E0 (tCons (tVar 2) (tCons (tC (.int 26)) tNil)))) [7])) (gName 5))
  (tSeq (tAsg (tLst (tNil)) (gName 6))
  (tSeq (tFor (iRng1 (tCons (tC (.int 14)) tNil)) (gName 7) (tSeq (tAsg (tOp (rIxU K) (tVar 1) (tOp (rModI) (tOp (rAddU K) (tVar 4) (tOp (rDivI) (tVar 7) (tC (.int 8)))) (tC (.int 26)))) (gName 8))
  (tDrop (tBM K "list" rAppend (tVar 6) (tCons (tOp (rIxU K) (tLst (tCons (tOp (rAddU K) (tVar 8) (tSl (rSlU K) (tVar 5) tNoPart (tPart (tOp (rModI) (tVar 7) (tC (.int 8)))))) (tCons (tOp (rAddU K) (tSl (rSlU K) (tVar 5) (tPart (tOp (rSubI) (tC (.int 7)) (tOp (rModI) (tVar 7) (tC (.int 8))))) tNoPart) (tVar 8)) tNil))) (tVar 3)) tNil)))))
  (tRet (tVar 6))))))))
theorem fn__law_names {k : Nat} (T : Tx K mg A) {k__law_state : Nat} {sp__law_state : Sp} (G__law_state : FnOk P w K mg base CX0 k__law_state A.f__law_state A.d__law_state P__law_state sp__law_state) (h__law_state : k__law_state ≤ k) {k__law_draw : Nat} {sp__law_draw : Sp} (G__law_draw : FnOk P w K mg base CX0 k__law_draw A.f__law_draw A.d__law_draw P__law_draw sp__law_draw) (h__law_draw : k__law_draw ≤ k) {sp : Sp} (len : ∀ vs H Q E, sp vs H Q E → vs.length = 1) (h : ∀ vs H Q E, sp vs H Q E → t__law_names K A sp__law_state sp__law_draw { nx := fun _ H' => Q .non H', rt := Q } (start N__law_names vs) H) : FnOk P w K mg base CX0 (k + 1) A.f__law_names A.d__law_names P__law_names sp := by
  refine T.d__law_names.F.ok sc__law_names len fun cdv A' outer s H vs Q E hr hs => ⟨t__law_names K A sp__law_state sp__law_draw, ?_, h vs H Q E hs⟩
  have hu := hr.units
  exact pss_cons (ps_set (i := 1) sc__law_names.nd rfl (by first | exact Or.inl rfl | exact Or.inr rfl) (pe_str))
    (pss_cons (ps_set (i := 2) sc__law_names.nd rfl (by first | exact Or.inl rfl | exact Or.inr rfl) (pe_call G__law_state (hr.mono h__law_state) (by rfl) T.d__law_state.m T.d__law_state.F.kp T.d__law_state.B .nil pass0 (pa_cons (pv 0) (pa_cons (pe_int) pa_nil))))
    (pss_cons (ps_set (i := 3) sc__law_names.nd rfl (by first | exact Or.inl rfl | exact Or.inr rfl) (pe_call G__law_draw (hr.mono h__law_draw) (by rfl) T.d__law_draw.m T.d__law_draw.F.kp T.d__law_draw.B .nil pass0 (pa_cons (pv 2) (pa_cons (pe_int) pa_nil))))
    (pss_cons (ps_set (i := 4) sc__law_names.nd rfl (by first | exact Or.inl rfl | exact Or.inr rfl) (pe_call G__law_draw (hr.mono h__law_draw) (by rfl) T.d__law_draw.m T.d__law_draw.F.kp T.d__law_draw.B .nil pass0 (pa_cons (pv 2) (pa_cons (pe_int) pa_nil))))
    (pss_cons (ps_set (i := 5) sc__law_names.nd rfl (by first | exact Or.inl rfl | exact Or.inr rfl) (pe_joinU (pe_str) (pe_lc (own := [("k", 7)]) (g := gName 7) (tt := tYes) rfl sc__law_names.nd (pi_range1 (by rfl) T.b_range (pa_cons (pe_int) pa_nil)) (blkOk_by (own := [("k", 7)]) (N := N__law_names) (sc := defScope s__law_names) (by decide +kernel)) (fun _ _ _ _ _ => pg_name (i := 7) sc__law_names.nd rfl (by first | exact Or.inl rfl | exact Or.inr rfl)) (fun _ _ _ _ _ => pts_nil) (fun _ _ _ _ _ => pe_ix (ix_U hu) (pv 1) (pe_call G__law_draw (hr.mono h__law_draw) (by rfl) T.d__law_draw.m T.d__law_draw.F.kp T.d__law_draw.B .nil pass0 (pa_cons (pv 2) (pa_cons (pe_int) pa_nil))) (fun _ _ => rfl)))))
    (pss_cons (ps_set (i := 6) sc__law_names.nd rfl (by first | exact Or.inl rfl | exact Or.inr rfl) (pe_lst (pa_nil)))
    (pss_cons (ps_for PassesOwn.never rfl (pi_range1 (by rfl) T.b_range (pa_cons (pe_int) pa_nil)) (pg_name (i := 7) sc__law_names.nd rfl (by first | exact Or.inl rfl | exact Or.inr rfl)) (pss_cons (ps_set (i := 8) sc__law_names.nd rfl (by first | exact Or.inl rfl | exact Or.inr rfl) (pe_ix (ix_U hu) (pv 1) (pe_op op_modI (pe_op op_addU (pv 4) (pe_op op_divI (pv 7) (pe_int))) (pe_int)) (fun _ _ => rfl)))
    (pss_one (ps_expr (pe_bm PySem.F.plainAttrs_list PySem.F.slot_list_append PySem.F.type_list_append mt_append (pv 6) (pa_cons (pe_ix (ix_U hu) (pe_lst (pa_cons (pe_op op_addU (pv 8) (pe_slice sl_U (pv 5) po_none (po_some (pe_op op_modI (pv 7) (pe_int))))) (pa_cons (pe_op op_addU (pe_slice sl_U (pv 5) (po_some (pe_op op_subI (pe_int) (pe_op op_modI (pv 7) (pe_int)))) po_none) (pv 8)) pa_nil))) (pv 3) (fun _ _ => rfl)) pa_nil))))))
    (pss_one (ps_ret (pv 6)))))))))
/-- _law_number -/
abbrev t__law_number (K : PySem.W.Frag) (A : Ad) (sp__law_draw : Sp) : TS := tSeq (tAsg (tLst (tCons (tOp (rSubI) (tCall sp__law_draw [] E0 (tCons (tVar 0) (tCons (tC (.int 7)) tNil))) (tC (.int 3))) (tCons (tCall sp__law_draw [] E0 (tCons (tVar 0) (tCons (tC (.int 2)) tNil))) (tCons (tOp (rSubI) (tCall sp__law_draw [] E0 (tCons (tVar 0) (tCons (tOp (rPowI) (tC (.int 10)) (tC (.int 20))) tNil))) (tOp (rMulI) (tC (.int 5)) (tOp (rPowI) (tC (.int 10)) (tC (.int 19))))) tNil)))) (gName 1))
  (tRet (tOp (rIxU K) (tVar 1) (tCall sp__law_draw [] E0 (tCons (tVar 0) (tCons (tC (.int 3)) tNil)))))
theorem fn__law_number {k : Nat} (T : Tx K mg A) {k__law_draw : Nat} {sp__law_draw : Sp} (G__law_draw : FnOk P w K mg base CX0 k__law_draw A.f__law_draw A.d__law_draw P__law_draw sp__law_draw) (h__law_draw : k__law_draw ≤ k) {sp : Sp} (len : ∀ vs H Q E, sp vs H Q E → vs.length = 1) (h : ∀ vs H Q E, sp vs H Q E → t__law_number K A sp__law_draw { nx := fun _ H' => Q .non H', rt := Q } (start N__law_number vs) H) : FnOk P w K mg base CX0 (k + 1) A.f__law_number A.d__law_number P__law_number sp := by
  refine T.d__law_number.F.ok sc__law_number len fun cdv A' outer s H vs Q E hr hs => ⟨t__law_number K A sp__law_draw, ?_, h vs H Q E hs⟩
  have hu := hr.units
  exact pss_cons (ps_set (i := 1) sc__law_number.nd rfl (by first | exact Or.inl rfl | exact Or.inr rfl) (pe_lst (pa_cons (pe_op op_subI (pe_call G__law_draw (hr.mono h__law_draw) (by rfl) T.d__law_draw.m T.d__law_draw.F.kp T.d__law_draw.B .nil pass0 (pa_cons (pv 0) (pa_cons (pe_int) pa_nil))) (pe_int)) (pa_cons (pe_call G__law_draw (hr.mono h__law_draw) (by rfl) T.d__law_draw.m T.d__law_draw.F.kp T.d__law_draw.B .nil pass0 (pa_cons (pv 0) (pa_cons (pe_int) pa_nil))) (pa_cons (pe_op op_subI (pe_call G__law_draw (hr.mono h__law_draw) (by rfl) T.d__law_draw.m T.d__law_draw.F.kp T.d__law_draw.B .nil pass0 (pa_cons (pv 0) (pa_cons (pe_op op_powI (pe_int) (pe_int)) pa_nil))) (pe_op op_mulI (pe_int) (pe_op op_powI (pe_int) (pe_int)))) pa_nil)))))
    (pss_one (ps_ret (pe_ix (ix_U hu) (pv 1) (pe_call G__law_draw (hr.mono h__law_draw) (by rfl) T.d__law_draw.m T.d__law_draw.F.kp T.d__law_draw.B .nil pass0 (pa_cons (pv 0) (pa_cons (pe_int) pa_nil))) (fun _ _ => rfl))))
/-- _law_product -/
abbrev t__law_product (K : PySem.W.Frag) (A : Ad) (sp__law_draw : Sp) : TS := tSeq (tAsg (tTup (tCons (tC (.str "pick")) (tCons (tVar 1) (tCons (tTup (tCons (tC (.str "number")) (tCons (tCall sp__law_draw [] E0 (tCons (tVar 0) (tCons (tC (.int 4)) tNil))) tNil))) (tCons (tTup (tCons (tC (.str "number")) (tCons (tOp (rSubI) (tCall sp__law_draw [] E0 (tCons (tVar 0) (tCons (tC (.int 7)) tNil))) (tC (.int 3))) tNil))) tNil))))) (gName 3))
  (tSeq (tAsg (tLst (tCons (tTup (tCons (tC (.str "times")) (tCons (tVar 1) (tCons (tTup (tCons (tC (.str "number")) (tCons (tOp (rSubI) (tCall sp__law_draw [] E0 (tCons (tVar 0) (tCons (tC (.int 7)) tNil))) (tC (.int 3))) tNil))) tNil)))) (tCons (tTup (tCons (tC (.str "times")) (tCons (tTup (tCons (tC (.str "number")) (tCons (tC (.int 2)) tNil))) (tCons (tVar 1) tNil)))) tNil))) (gName 4))
  (tRet (tOp (rIxU K) (tOp (rAddU K) (tVar 4) (tLst (tCons (tTup (tCons (tC (.str "times")) (tCons (tVar 3) (tCons (tVar 2) tNil)))) (tCons (tTup (tCons (tC (.str "times")) (tCons (tVar 2) (tCons (tVar 3) tNil)))) tNil)))) (tCall sp__law_draw [] E0 (tCons (tVar 0) (tCons (tC (.int 4)) tNil))))))
theorem fn__law_product {k : Nat} (T : Tx K mg A) {k__law_draw : Nat} {sp__law_draw : Sp} (G__law_draw : FnOk P w K mg base CX0 k__law_draw A.f__law_draw A.d__law_draw P__law_draw sp__law_draw) (h__law_draw : k__law_draw ≤ k) {sp : Sp} (len : ∀ vs H Q E, sp vs H Q E → vs.length = 3) (h : ∀ vs H Q E, sp vs H Q E → t__law_product K A sp__law_draw { nx := fun _ H' => Q .non H', rt := Q } (start N__law_product vs) H) : FnOk P w K mg base CX0 (k + 1) A.f__law_product A.d__law_product P__law_product sp := by
  refine T.d__law_product.F.ok sc__law_product len fun cdv A' outer s H vs Q E hr hs => ⟨t__law_product K A sp__law_draw, ?_, h vs H Q E hs⟩
  have hu := hr.units
  exact pss_cons (ps_set (i := 3) sc__law_product.nd rfl (by first | exact Or.inl rfl | exact Or.inr rfl) (pe_tup (pa_cons (pe_str) (pa_cons (pv 1) (pa_cons (pe_tup (pa_cons (pe_str) (pa_cons (pe_call G__law_draw (hr.mono h__law_draw) (by rfl) T.d__law_draw.m T.d__law_draw.F.kp T.d__law_draw.B .nil pass0 (pa_cons (pv 0) (pa_cons (pe_int) pa_nil))) pa_nil))) (pa_cons (pe_tup (pa_cons (pe_str) (pa_cons (pe_op op_subI (pe_call G__law_draw (hr.mono h__law_draw) (by rfl) T.d__law_draw.m T.d__law_draw.F.kp T.d__law_draw.B .nil pass0 (pa_cons (pv 0) (pa_cons (pe_int) pa_nil))) (pe_int)) pa_nil))) pa_nil))))))
    (pss_cons (ps_set (i := 4) sc__law_product.nd rfl (by first | exact Or.inl rfl | exact Or.inr rfl) (pe_lst (pa_cons (pe_tup (pa_cons (pe_str) (pa_cons (pv 1) (pa_cons (pe_tup (pa_cons (pe_str) (pa_cons (pe_op op_subI (pe_call G__law_draw (hr.mono h__law_draw) (by rfl) T.d__law_draw.m T.d__law_draw.F.kp T.d__law_draw.B .nil pass0 (pa_cons (pv 0) (pa_cons (pe_int) pa_nil))) (pe_int)) pa_nil))) pa_nil)))) (pa_cons (pe_tup (pa_cons (pe_str) (pa_cons (pe_tup (pa_cons (pe_str) (pa_cons (pe_int) pa_nil))) (pa_cons (pv 1) pa_nil)))) pa_nil))))
    (pss_one (ps_ret (pe_ix (ix_U hu) (pe_op op_addU (pv 4) (pe_lst (pa_cons (pe_tup (pa_cons (pe_str) (pa_cons (pv 3) (pa_cons (pv 2) pa_nil)))) (pa_cons (pe_tup (pa_cons (pe_str) (pa_cons (pv 2) (pa_cons (pv 3) pa_nil)))) pa_nil)))) (pe_call G__law_draw (hr.mono h__law_draw) (by rfl) T.d__law_draw.m T.d__law_draw.F.kp T.d__law_draw.B .nil pass0 (pa_cons (pv 0) (pa_cons (pe_int) pa_nil))) (fun _ _ => rfl)))))
/-- _law_recipe -/
abbrev t__law_recipe (K : PySem.W.Frag) (A : Ad) (sp__law_draw sp__law_number sp__law_recipe sp__law_product : Sp) : TS := tSeq (tAsg (tCall sp__law_draw [] E0 (tCons (tVar 0) (tCons (tC (.int 9)) tNil))) (gName 3))
  (tSeq (tIfS (tOr (tTest (tOp (rEqU) (tVar 1) (tLst (tNil)))) (tTest (tOp (rEqU) (tVar 3) (tC (.int 0))))) (tRet (tTup (tCons (tC (.str "number")) (tCons (tCall sp__law_number [] E0 (tCons (tVar 0) tNil)) tNil))))
  (tNext))
  (tSeq (tIfS (tOr (tTest (tOp (rEqU) (tVar 2) (tC (.int 0)))) (tTest (tOp (rLtI) (tVar 3) (tC (.int 3))))) (tRet (tTup (tCons (tC (.str "read")) (tCons (tOp (rIxU K) (tVar 1) (tCall sp__law_draw [] E0 (tCons (tVar 0) (tCons (tCB (rLenU K) (tCons (tVar 1) tNil)) tNil)))) tNil))))
  (tNext))
  (tSeq (tAsg (tCall sp__law_recipe [] E0 (tCons (tVar 0) (tCons (tVar 1) (tCons (tOp (rSubI) (tVar 2) (tC (.int 1))) tNil)))) (gName 4))
  (tSeq (tIfS (tTest (tOp (rEqU) (tVar 3) (tC (.int 3)))) (tRet (tCall sp__law_product [] E0 (tCons (tVar 0) (tCons (tVar 4) (tCons (tCall sp__law_recipe [] E0 (tCons (tVar 0) (tCons (tVar 1) (tCons (tOp (rSubI) (tVar 2) (tC (.int 1))) tNil)))) tNil)))))
  (tNext))
  (tSeq (tIfS (tTest (tOp (rEqU) (tVar 3) (tC (.int 4)))) (tRet (tTup (tCons (tC (.str "choose")) (tCons (tVar 4) (tCons (tCB (rTupOf K) (tCons (tLc (iRng1 (tCons (tOp (rAddU K) (tC (.int 1)) (tCall sp__law_draw [] E0 (tCons (tVar 0) (tCons (tC (.int 3)) tNil)))) tNil)) (gName 6) (tYes) (tOp (rIxU K) (tVar 1) (tCall sp__law_draw [] E0 (tCons (tVar 0) (tCons (tCB (rLenU K) (tCons (tVar 1) tNil)) tNil)))) [6]) tNil)) tNil)))))
  (tNext))
  (tSeq (tAsg (tCall sp__law_recipe [] E0 (tCons (tVar 0) (tCons (tVar 1) (tCons (tOp (rSubI) (tVar 2) (tC (.int 1))) tNil)))) (gName 5))
  (tSeq (tIfS (tTest (tOp (rEqU) (tVar 3) (tC (.int 5)))) (tRet (tTup (tCons (tC (.str "pick")) (tCons (tVar 4) (tCons (tVar 5) (tCons (tCall sp__law_recipe [] E0 (tCons (tVar 0) (tCons (tVar 1) (tCons (tOp (rSubI) (tVar 2) (tC (.int 1))) tNil)))) tNil))))))
  (tNext))
  (tRet (tTup (tCons (tOp (rIxU K) (tLst (tCons (tC (.str "plus")) (tCons (tC (.str "minus")) (tCons (tC (.str "most")) tNil)))) (tOp (rSubI) (tVar 3) (tC (.int 6)))) (tCons (tVar 4) (tCons (tVar 5) tNil))))))))))))
theorem fn__law_recipe {k : Nat} (T : Tx K mg A) {k__law_draw : Nat} {sp__law_draw : Sp} (G__law_draw : FnOk P w K mg base CX0 k__law_draw A.f__law_draw A.d__law_draw P__law_draw sp__law_draw) (h__law_draw : k__law_draw ≤ k) {k__law_number : Nat} {sp__law_number : Sp} (G__law_number : FnOk P w K mg base CX0 k__law_number A.f__law_number A.d__law_number P__law_number sp__law_number) (h__law_number : k__law_number ≤ k) {k__law_recipe : Nat} {sp__law_recipe : Sp} (G__law_recipe : FnOk P w K mg base CX0 k__law_recipe A.f__law_recipe A.d__law_recipe P__law_recipe sp__law_recipe) (h__law_recipe : k__law_recipe ≤ k) {k__law_product : Nat} {sp__law_product : Sp} (G__law_product : FnOk P w K mg base CX0 k__law_product A.f__law_product A.d__law_product P__law_product sp__law_product) (h__law_product : k__law_product ≤ k) {sp : Sp} (len : ∀ vs H Q E, sp vs H Q E → vs.length = 3) (h : ∀ vs H Q E, sp vs H Q E → t__law_recipe K A sp__law_draw sp__law_number sp__law_recipe sp__law_product { nx := fun _ H' => Q .non H', rt := Q } (start N__law_recipe vs) H) : FnOk P w K mg base CX0 (k + 1) A.f__law_recipe A.d__law_recipe P__law_recipe sp := by
  refine T.d__law_recipe.F.ok sc__law_recipe len fun cdv A' outer s H vs Q E hr hs => ⟨t__law_recipe K A sp__law_draw sp__law_number sp__law_recipe sp__law_product, ?_, h vs H Q E hs⟩
  have hu := hr.units
  exact pss_cons (ps_set (i := 3) sc__law_recipe.nd rfl (by first | exact Or.inl rfl | exact Or.inr rfl) (pe_call G__law_draw (hr.mono h__law_draw) (by rfl) T.d__law_draw.m T.d__law_draw.F.kp T.d__law_draw.B .nil pass0 (pa_cons (pv 0) (pa_cons (pe_int) pa_nil))))
    (pss_cons (ps_if (PW.pt (pw_or (pt_cmpR (op_eqU hu) (pv 1) (pe_lst (pa_nil)) (nomark _)) (pw_or1 (pt_cmpR (op_eqU hu) (pv 3) (pe_int) (nomark _))))) (pss_one (ps_ret (pe_tup (pa_cons (pe_str) (pa_cons (pe_call G__law_number (hr.mono h__law_number) (by rfl) T.d__law_number.m T.d__law_number.F.kp T.d__law_number.B .nil pass0 (pa_cons (pv 0) pa_nil)) pa_nil)))))
    (pss_nil))
    (pss_cons (ps_if (PW.pt (pw_or (pt_cmpR (op_eqU hu) (pv 2) (pe_int) (nomark _)) (pw_or1 (pt_cmpR op_ltI (pv 3) (pe_int) (nomark _))))) (pss_one (ps_ret (pe_tup (pa_cons (pe_str) (pa_cons (pe_ix (ix_U hu) (pv 1) (pe_call G__law_draw (hr.mono h__law_draw) (by rfl) T.d__law_draw.m T.d__law_draw.F.kp T.d__law_draw.B .nil pass0 (pa_cons (pv 0) (pa_cons (pe_callB call_lenU (by rfl) T.b_len (by decide +kernel) (pa_cons (pv 1) pa_nil)) pa_nil))) (fun _ _ => rfl)) pa_nil)))))
    (pss_nil))
    (pss_cons (ps_set (i := 4) sc__law_recipe.nd rfl (by first | exact Or.inl rfl | exact Or.inr rfl) (pe_call G__law_recipe (hr.mono h__law_recipe) (by rfl) T.d__law_recipe.m T.d__law_recipe.F.kp T.d__law_recipe.B .nil pass0 (pa_cons (pv 0) (pa_cons (pv 1) (pa_cons (pe_op op_subI (pv 2) (pe_int)) pa_nil)))))
    (pss_cons (ps_if (pt_cmpR (op_eqU hu) (pv 3) (pe_int) (nomark _)) (pss_one (ps_ret (pe_call G__law_product (hr.mono h__law_product) (by rfl) T.d__law_product.m T.d__law_product.F.kp T.d__law_product.B .nil pass0 (pa_cons (pv 0) (pa_cons (pv 4) (pa_cons (pe_call G__law_recipe (hr.mono h__law_recipe) (by rfl) T.d__law_recipe.m T.d__law_recipe.F.kp T.d__law_recipe.B .nil pass0 (pa_cons (pv 0) (pa_cons (pv 1) (pa_cons (pe_op op_subI (pv 2) (pe_int)) pa_nil)))) pa_nil))))))
    (pss_nil))
    (pss_cons (ps_if (pt_cmpR (op_eqU hu) (pv 3) (pe_int) (nomark _)) (pss_one (ps_ret (pe_tup (pa_cons (pe_str) (pa_cons (pv 4) (pa_cons (pe_callTy call_tupOf (by rfl) T.b_tuple (by decide +kernel) (pa_cons (pe_lc (own := [("k", 6)]) (g := gName 6) (tt := tYes) rfl sc__law_recipe.nd (pi_range1 (by rfl) T.b_range (pa_cons (pe_op op_addU (pe_int) (pe_call G__law_draw (hr.mono h__law_draw) (by rfl) T.d__law_draw.m T.d__law_draw.F.kp T.d__law_draw.B .nil pass0 (pa_cons (pv 0) (pa_cons (pe_int) pa_nil)))) pa_nil)) (blkOk_by (own := [("k", 6)]) (N := N__law_recipe) (sc := defScope s__law_recipe) (by decide +kernel)) (fun _ _ _ _ _ => pg_name (i := 6) sc__law_recipe.nd rfl (by first | exact Or.inl rfl | exact Or.inr rfl)) (fun _ _ _ _ _ => pts_nil) (fun _ _ _ _ _ => pe_ix (ix_U hu) (pv 1) (pe_call G__law_draw (hr.mono h__law_draw) (by rfl) T.d__law_draw.m T.d__law_draw.F.kp T.d__law_draw.B .nil pass0 (pa_cons (pv 0) (pa_cons (pe_callB call_lenU (by rfl) T.b_len (by decide +kernel) (pa_cons (pv 1) pa_nil)) pa_nil))) (fun _ _ => rfl))) pa_nil)) pa_nil))))))
    (pss_nil))
    (pss_cons (ps_set (i := 5) sc__law_recipe.nd rfl (by first | exact Or.inl rfl | exact Or.inr rfl) (pe_call G__law_recipe (hr.mono h__law_recipe) (by rfl) T.d__law_recipe.m T.d__law_recipe.F.kp T.d__law_recipe.B .nil pass0 (pa_cons (pv 0) (pa_cons (pv 1) (pa_cons (pe_op op_subI (pv 2) (pe_int)) pa_nil)))))
    (pss_cons (ps_if (pt_cmpR (op_eqU hu) (pv 3) (pe_int) (nomark _)) (pss_one (ps_ret (pe_tup (pa_cons (pe_str) (pa_cons (pv 4) (pa_cons (pv 5) (pa_cons (pe_call G__law_recipe (hr.mono h__law_recipe) (by rfl) T.d__law_recipe.m T.d__law_recipe.F.kp T.d__law_recipe.B .nil pass0 (pa_cons (pv 0) (pa_cons (pv 1) (pa_cons (pe_op op_subI (pv 2) (pe_int)) pa_nil)))) pa_nil)))))))
    (pss_nil))
    (pss_one (ps_ret (pe_tup (pa_cons (pe_ix (ix_U hu) (pe_lst (pa_cons (pe_str) (pa_cons (pe_str) (pa_cons (pe_str) pa_nil)))) (pe_op op_subI (pv 3) (pe_int)) (fun _ _ => rfl)) (pa_cons (pv 4) (pa_cons (pv 5) pa_nil)))))))))))))
/-- _law_house -/
abbrev t__law_house (K : PySem.W.Frag) (A : Ad) (sp__law_state sp__law_draw sp__law_number sp__law_recipe : Sp) : TS := tSeq (tAsg (tDNewK) (gName 3))
  (tSeq (tAsg (tDNewK) (gName 4))
  (tSeq (tFor (iRng1 (tCons (tC (.int 12)) tNil)) (gName 5) (tSeq (tAsg (tCall sp__law_state [] E0 (tCons (tVar 0) (tCons (tOp (rAddU K) (tC (.int 3)) (tVar 5)) tNil))) (gName 6))
  (tIfS (tOr (tTest (tOp (rLtI) (tVar 5) (tC (.int 2)))) (tTest (tOp (rEqU) (tCall sp__law_draw [] E0 (tCons (tVar 6) (tCons (tC (.int 5)) tNil))) (tC (.int 0))))) (tAsg (tCall sp__law_number [] E0 (tCons (tVar 6) tNil)) (gSub (tVar 3) (tOp (rIxU K) (tVar 1) (tVar 5)) rSetU))
  (tSeq (tAsg (tSl (rSlU K) (tVar 1) tNoPart (tPart (tVar 5))) (gName 7))
  (tSeq (tIfS (tAnd (tB (tVar 2)) (tTest (tOp (rEqU) (tCall sp__law_draw [] E0 (tCons (tVar 6) (tCons (tC (.int 4)) tNil))) (tC (.int 0))))) (tAsg (tSl (rSlU K) (tVar 1) tNoPart (tPart (tC (.int 14)))) (gName 7))
  (tNext))
  (tAsg (tCall sp__law_recipe [] E0 (tCons (tVar 6) (tCons (tVar 7) (tCons (tC (.int 3)) tNil)))) (gSub (tVar 4) (tOp (rIxU K) (tVar 1) (tVar 5)) rSetU)))))))
  (tRet (tTup (tCons (tVar 3) (tCons (tVar 4) tNil))))))
theorem fn__law_house {k : Nat} (T : Tx K mg A) {k__law_state : Nat} {sp__law_state : Sp} (G__law_state : FnOk P w K mg base CX0 k__law_state A.f__law_state A.d__law_state P__law_state sp__law_state) (h__law_state : k__law_state ≤ k) {k__law_draw : Nat} {sp__law_draw : Sp} (G__law_draw : FnOk P w K mg base CX0 k__law_draw A.f__law_draw A.d__law_draw P__law_draw sp__law_draw) (h__law_draw : k__law_draw ≤ k) {k__law_number : Nat} {sp__law_number : Sp} (G__law_number : FnOk P w K mg base CX0 k__law_number A.f__law_number A.d__law_number P__law_number sp__law_number) (h__law_number : k__law_number ≤ k) {k__law_recipe : Nat} {sp__law_recipe : Sp} (G__law_recipe : FnOk P w K mg base CX0 k__law_recipe A.f__law_recipe A.d__law_recipe P__law_recipe sp__law_recipe) (h__law_recipe : k__law_recipe ≤ k) {sp : Sp} (len : ∀ vs H Q E, sp vs H Q E → vs.length = 3) (h : ∀ vs H Q E, sp vs H Q E → t__law_house K A sp__law_state sp__law_draw sp__law_number sp__law_recipe { nx := fun _ H' => Q .non H', rt := Q } (start N__law_house vs) H) : FnOk P w K mg base CX0 (k + 1) A.f__law_house A.d__law_house P__law_house sp := by
  refine T.d__law_house.F.ok sc__law_house len fun cdv A' outer s H vs Q E hr hs => ⟨t__law_house K A sp__law_state sp__law_draw sp__law_number sp__law_recipe, ?_, h vs H Q E hs⟩
  have hu := hr.units
  exact pss_cons (ps_set (i := 3) sc__law_house.nd rfl (by first | exact Or.inl rfl | exact Or.inr rfl) (pe_dnewK))
    (pss_cons (ps_set (i := 4) sc__law_house.nd rfl (by first | exact Or.inl rfl | exact Or.inr rfl) (pe_dnewK))
    (pss_cons (ps_for PassesOwn.never rfl (pi_range1 (by rfl) T.b_range (pa_cons (pe_int) pa_nil)) (pg_name (i := 5) sc__law_house.nd rfl (by first | exact Or.inl rfl | exact Or.inr rfl)) (pss_cons (ps_set (i := 6) sc__law_house.nd rfl (by first | exact Or.inl rfl | exact Or.inr rfl) (pe_call G__law_state (hr.mono h__law_state) (by rfl) T.d__law_state.m T.d__law_state.F.kp T.d__law_state.B .nil pass0 (pa_cons (pv 0) (pa_cons (pe_op op_addU (pe_int) (pv 5)) pa_nil))))
    (pss_one (ps_if (PW.pt (pw_or (pt_cmpR op_ltI (pv 5) (pe_int) (nomark _)) (pw_or1 (pt_cmpR (op_eqU hu) (pe_call G__law_draw (hr.mono h__law_draw) (by rfl) T.d__law_draw.m T.d__law_draw.F.kp T.d__law_draw.B .nil pass0 (pa_cons (pv 6) (pa_cons (pe_int) pa_nil))) (pe_int) (nomark _))))) (pss_one (ps_asg (pe_call G__law_number (hr.mono h__law_number) (by rfl) T.d__law_number.m T.d__law_number.F.kp T.d__law_number.B .nil pass0 (pa_cons (pv 6) pa_nil)) (pg_sub (pv 3) (pe_ix (ix_U hu) (pv 1) (pv 5) (fun _ _ => rfl)) (set_U hu))))
    (pss_cons (ps_set (i := 7) sc__law_house.nd rfl (by first | exact Or.inl rfl | exact Or.inr rfl) (pe_slice sl_U (pv 1) po_none (po_some (pv 5))))
    (pss_cons (ps_if (PW.pt (pw_and (pt_val (pv 2)) (pw_and1 (pt_cmpR (op_eqU hu) (pe_call G__law_draw (hr.mono h__law_draw) (by rfl) T.d__law_draw.m T.d__law_draw.F.kp T.d__law_draw.B .nil pass0 (pa_cons (pv 6) (pa_cons (pe_int) pa_nil))) (pe_int) (nomark _))))) (pss_one (ps_set (i := 7) sc__law_house.nd rfl (by first | exact Or.inl rfl | exact Or.inr rfl) (pe_slice sl_U (pv 1) po_none (po_some (pe_int)))))
    (pss_nil))
    (pss_one (ps_asg (pe_call G__law_recipe (hr.mono h__law_recipe) (by rfl) T.d__law_recipe.m T.d__law_recipe.F.kp T.d__law_recipe.B .nil pass0 (pa_cons (pv 6) (pa_cons (pv 7) (pa_cons (pe_int) pa_nil)))) (pg_sub (pv 4) (pe_ix (ix_U hu) (pv 1) (pv 5) (fun _ _ => rfl)) (set_U hu))))))))))
    (pss_one (ps_ret (pe_tup (pa_cons (pv 3) (pa_cons (pv 4) pa_nil)))))))
/-- _law_changed -/
abbrev t__law_changed (K : PySem.W.Frag) (A : Ad) (sp__law_draw sp__law_number sp__law_recipe : Sp) : TS := tSeq (tAsg (tCB (rDictOf) (tCons (tOp (rIxU K) (tVar 0) (tC (.int 0))) tNil)) (gName 3))
  (tSeq (tAsg (tCB (rDictOf) (tCons (tOp (rIxU K) (tVar 0) (tC (.int 1))) tNil)) (gName 4))
  (tSeq (tAsg (tCall sp__law_draw [] E0 (tCons (tVar 2) (tCons (tC (.int 12)) tNil))) (gName 5))
  (tSeq (tAsg (tOp (rIxU K) (tVar 1) (tVar 5)) (gName 6))
  (tSeq (tAsg (tCall sp__law_draw [] E0 (tCons (tVar 2) (tCons (tC (.int 5)) tNil))) (gName 7))
  (tSeq (tIfS (tAnd (tTest (tOp (rInU K) (tVar 6) (tVar 3))) (tTest (tOp (rLtI) (tVar 7) (tC (.int 3))))) (tAsg (tOp (rIxU K) (tLst (tCons (tOp (rAddU K) (tOp (rIxU K) (tVar 3) (tVar 6)) (tC (.int 1))) (tCons (tCall sp__law_number [] E0 (tCons (tVar 2) tNil)) tNil))) (tCall sp__law_draw [] E0 (tCons (tVar 2) (tCons (tC (.int 2)) tNil)))) (gSub (tVar 3) (tVar 6) rSetU))
  (tIfS (tAnd (tTest (tOp (rInU K) (tVar 6) (tVar 4))) (tTest (tOp (rLtI) (tVar 7) (tC (.int 2))))) (tAsg (tCall sp__law_recipe [] E0 (tCons (tVar 2) (tCons (tSl (rSlU K) (tVar 1) tNoPart (tPart (tVar 5))) (tCons (tC (.int 3)) tNil)))) (gSub (tVar 4) (tVar 6) rSetU))
  (tIfS (tAnd (tTest (tOp (rInU K) (tVar 6) (tVar 4))) (tTest (tOp (rEqU) (tVar 7) (tC (.int 2))))) (tSeq (tAsg (tCall sp__law_number [] E0 (tCons (tVar 2) tNil)) (gSub (tVar 3) (tVar 6) rSetU))
  (tDrop (tDPop1 (tVar 4) (tVar 6))))
  (tIfS (tAnd (tTest (tOp (rEqU) (tVar 7) (tC (.int 3)))) (tTest (tOp (rGtI) (tVar 5) (tC (.int 2))))) (tSeq (tDrop (tDPop2 (tVar 3) (tVar 6) (tC (.int 0))))
  (tAsg (tCall sp__law_recipe [] E0 (tCons (tVar 2) (tCons (tSl (rSlU K) (tVar 1) tNoPart (tPart (tVar 5))) (tCons (tC (.int 2)) tNil)))) (gSub (tVar 4) (tVar 6) rSetU)))
  (tNext)))))
  (tRet (tTup (tCons (tVar 3) (tCons (tVar 4) tNil)))))))))
theorem fn__law_changed {k : Nat} (T : Tx K mg A) {k__law_draw : Nat} {sp__law_draw : Sp} (G__law_draw : FnOk P w K mg base CX0 k__law_draw A.f__law_draw A.d__law_draw P__law_draw sp__law_draw) (h__law_draw : k__law_draw ≤ k) {k__law_number : Nat} {sp__law_number : Sp} (G__law_number : FnOk P w K mg base CX0 k__law_number A.f__law_number A.d__law_number P__law_number sp__law_number) (h__law_number : k__law_number ≤ k) {k__law_recipe : Nat} {sp__law_recipe : Sp} (G__law_recipe : FnOk P w K mg base CX0 k__law_recipe A.f__law_recipe A.d__law_recipe P__law_recipe sp__law_recipe) (h__law_recipe : k__law_recipe ≤ k) {sp : Sp} (len : ∀ vs H Q E, sp vs H Q E → vs.length = 3) (h : ∀ vs H Q E, sp vs H Q E → t__law_changed K A sp__law_draw sp__law_number sp__law_recipe { nx := fun _ H' => Q .non H', rt := Q } (start N__law_changed vs) H) : FnOk P w K mg base CX0 (k + 1) A.f__law_changed A.d__law_changed P__law_changed sp := by
  refine T.d__law_changed.F.ok sc__law_changed len fun cdv A' outer s H vs Q E hr hs => ⟨t__law_changed K A sp__law_draw sp__law_number sp__law_recipe, ?_, h vs H Q E hs⟩
  have hu := hr.units
  exact pss_cons (ps_set (i := 3) sc__law_changed.nd rfl (by first | exact Or.inl rfl | exact Or.inr rfl) (pe_callTy call_dictOf (by rfl) T.b_dict (by decide +kernel) (pa_cons (pe_ix (ix_U hu) (pv 0) (pe_int) (fun _ _ => rfl)) pa_nil)))
    (pss_cons (ps_set (i := 4) sc__law_changed.nd rfl (by first | exact Or.inl rfl | exact Or.inr rfl) (pe_callTy call_dictOf (by rfl) T.b_dict (by decide +kernel) (pa_cons (pe_ix (ix_U hu) (pv 0) (pe_int) (fun _ _ => rfl)) pa_nil)))
    (pss_cons (ps_set (i := 5) sc__law_changed.nd rfl (by first | exact Or.inl rfl | exact Or.inr rfl) (pe_call G__law_draw (hr.mono h__law_draw) (by rfl) T.d__law_draw.m T.d__law_draw.F.kp T.d__law_draw.B .nil pass0 (pa_cons (pv 2) (pa_cons (pe_int) pa_nil))))
    (pss_cons (ps_set (i := 6) sc__law_changed.nd rfl (by first | exact Or.inl rfl | exact Or.inr rfl) (pe_ix (ix_U hu) (pv 1) (pv 5) (fun _ _ => rfl)))
    (pss_cons (ps_set (i := 7) sc__law_changed.nd rfl (by first | exact Or.inl rfl | exact Or.inr rfl) (pe_call G__law_draw (hr.mono h__law_draw) (by rfl) T.d__law_draw.m T.d__law_draw.F.kp T.d__law_draw.B .nil pass0 (pa_cons (pv 2) (pa_cons (pe_int) pa_nil))))
    (pss_cons (ps_if (PW.pt (pw_and (pt_cmpR (op_inU hu) (pv 6) (pv 3) rfl) (pw_and1 (pt_cmpR op_ltI (pv 7) (pe_int) (nomark _))))) (pss_one (ps_asg (pe_ix (ix_U hu) (pe_lst (pa_cons (pe_op op_addU (pe_ix (ix_U hu) (pv 3) (pv 6) (fun _ _ => rfl)) (pe_int)) (pa_cons (pe_call G__law_number (hr.mono h__law_number) (by rfl) T.d__law_number.m T.d__law_number.F.kp T.d__law_number.B .nil pass0 (pa_cons (pv 2) pa_nil)) pa_nil))) (pe_call G__law_draw (hr.mono h__law_draw) (by rfl) T.d__law_draw.m T.d__law_draw.F.kp T.d__law_draw.B .nil pass0 (pa_cons (pv 2) (pa_cons (pe_int) pa_nil))) (fun _ _ => rfl)) (pg_sub (pv 3) (pv 6) (set_U hu))))
    (pss_one (ps_if (PW.pt (pw_and (pt_cmpR (op_inU hu) (pv 6) (pv 4) rfl) (pw_and1 (pt_cmpR op_ltI (pv 7) (pe_int) (nomark _))))) (pss_one (ps_asg (pe_call G__law_recipe (hr.mono h__law_recipe) (by rfl) T.d__law_recipe.m T.d__law_recipe.F.kp T.d__law_recipe.B .nil pass0 (pa_cons (pv 2) (pa_cons (pe_slice sl_U (pv 1) po_none (po_some (pv 5))) (pa_cons (pe_int) pa_nil)))) (pg_sub (pv 4) (pv 6) (set_U hu))))
    (pss_one (ps_if (PW.pt (pw_and (pt_cmpR (op_inU hu) (pv 6) (pv 4) rfl) (pw_and1 (pt_cmpR (op_eqU hu) (pv 7) (pe_int) (nomark _))))) (pss_cons (ps_asg (pe_call G__law_number (hr.mono h__law_number) (by rfl) T.d__law_number.m T.d__law_number.F.kp T.d__law_number.B .nil pass0 (pa_cons (pv 2) pa_nil)) (pg_sub (pv 3) (pv 6) (set_U hu)))
    (pss_one (ps_expr (pe_dpop1 (pv 4) (pv 6) ⟨rfl, rfl, rfl, rfl⟩))))
    (pss_one (ps_if (PW.pt (pw_and (pt_cmpR (op_eqU hu) (pv 7) (pe_int) (nomark _)) (pw_and1 (pt_cmpR op_gtI (pv 5) (pe_int) (nomark _))))) (pss_cons (ps_expr (pe_dpop2 (pv 3) (pv 6) (pe_int) ⟨rfl, rfl, rfl, rfl⟩))
    (pss_one (ps_asg (pe_call G__law_recipe (hr.mono h__law_recipe) (by rfl) T.d__law_recipe.m T.d__law_recipe.F.kp T.d__law_recipe.B .nil pass0 (pa_cons (pv 2) (pa_cons (pe_slice sl_U (pv 1) po_none (po_some (pv 5))) (pa_cons (pe_int) pa_nil)))) (pg_sub (pv 4) (pv 6) (set_U hu)))))
    (pss_nil))))))))
    (pss_one (ps_ret (pe_tup (pa_cons (pv 3) (pa_cons (pv 4) pa_nil))))))))))
/-- _law_wishes -/
abbrev t__law_wishes (K : PySem.W.Frag) (A : Ad) (sp__law_draw : Sp) : TS := tSeq (tAsg (tOp (rIxU K) (tLst (tCons (tCall sp__law_draw [] E0 (tCons (tVar 0) (tCons (tC (.int 5)) tNil))) (tCons (tCall sp__law_draw [] E0 (tCons (tVar 0) (tCons (tC (.int 13)) tNil))) tNil))) (tCall sp__law_draw [] E0 (tCons (tVar 0) (tCons (tC (.int 2)) tNil)))) (gName 2))
  (tRet (tLc (iRng1 (tCons (tVar 2) tNil)) (gName 3) (tYes) (tOp (rIxU K) (tVar 1) (tCall sp__law_draw [] E0 (tCons (tVar 0) (tCons (tC (.int 12)) tNil)))) [3]))
theorem fn__law_wishes {k : Nat} (T : Tx K mg A) {k__law_draw : Nat} {sp__law_draw : Sp} (G__law_draw : FnOk P w K mg base CX0 k__law_draw A.f__law_draw A.d__law_draw P__law_draw sp__law_draw) (h__law_draw : k__law_draw ≤ k) {sp : Sp} (len : ∀ vs H Q E, sp vs H Q E → vs.length = 2) (h : ∀ vs H Q E, sp vs H Q E → t__law_wishes K A sp__law_draw { nx := fun _ H' => Q .non H', rt := Q } (start N__law_wishes vs) H) : FnOk P w K mg base CX0 (k + 1) A.f__law_wishes A.d__law_wishes P__law_wishes sp := by
  refine T.d__law_wishes.F.ok sc__law_wishes len fun cdv A' outer s H vs Q E hr hs => ⟨t__law_wishes K A sp__law_draw, ?_, h vs H Q E hs⟩
  have hu := hr.units
  exact pss_cons (ps_set (i := 2) sc__law_wishes.nd rfl (by first | exact Or.inl rfl | exact Or.inr rfl) (pe_ix (ix_U hu) (pe_lst (pa_cons (pe_call G__law_draw (hr.mono h__law_draw) (by rfl) T.d__law_draw.m T.d__law_draw.F.kp T.d__law_draw.B .nil pass0 (pa_cons (pv 0) (pa_cons (pe_int) pa_nil))) (pa_cons (pe_call G__law_draw (hr.mono h__law_draw) (by rfl) T.d__law_draw.m T.d__law_draw.F.kp T.d__law_draw.B .nil pass0 (pa_cons (pv 0) (pa_cons (pe_int) pa_nil))) pa_nil))) (pe_call G__law_draw (hr.mono h__law_draw) (by rfl) T.d__law_draw.m T.d__law_draw.F.kp T.d__law_draw.B .nil pass0 (pa_cons (pv 0) (pa_cons (pe_int) pa_nil))) (fun _ _ => rfl)))
    (pss_one (ps_ret (pe_lc (own := [("k", 3)]) (g := gName 3) (tt := tYes) rfl sc__law_wishes.nd (pi_range1 (by rfl) T.b_range (pa_cons (pv 2) pa_nil)) (blkOk_by (own := [("k", 3)]) (N := N__law_wishes) (sc := defScope s__law_wishes) (by decide +kernel)) (fun _ _ _ _ _ => pg_name (i := 3) sc__law_wishes.nd rfl (by first | exact Or.inl rfl | exact Or.inr rfl)) (fun _ _ _ _ _ => pts_nil) (fun _ _ _ _ _ => pe_ix (ix_U hu) (pv 1) (pe_call G__law_draw (hr.mono h__law_draw) (by rfl) T.d__law_draw.m T.d__law_draw.F.kp T.d__law_draw.B .nil pass0 (pa_cons (pv 0) (pa_cons (pe_int) pa_nil))) (fun _ _ => rfl)))))
/-- _law_reckoned -/
abbrev t__law_reckoned (K : PySem.W.Frag) (A : Ad) (sp__law_reckoned : Sp) : TS := tSeq (tAsg (tOp (rIxU K) (tVar 0) (tC (.int 0))) (gName 2))
  (tSeq (tIfS (tTest (tOp (rEqU) (tVar 2) (tC (.str "number")))) (tRet (tTup (tCons (tC (.str "worth")) (tCons (tOp (rIxU K) (tVar 0) (tC (.int 1))) tNil))))
  (tNext))
  (tSeq (tIfS (tTest (tOp (rEqU) (tVar 2) (tC (.str "read")))) (tSeq (tIfS (tTest (tOp (rInU K) (tOp (rIxU K) (tVar 0) (tC (.int 1))) (tVar 1))) (tRet (tTup (tCons (tC (.str "worth")) (tCons (tOp (rIxU K) (tVar 1) (tOp (rIxU K) (tVar 0) (tC (.int 1)))) tNil))))
  (tNext))
  (tRet (tVar 0)))
  (tNext))
  (tSeq (tAsg (tCall sp__law_reckoned [] E0 (tCons (tOp (rIxU K) (tVar 0) (tC (.int 1))) (tCons (tVar 1) tNil))) (gName 3))
  (tSeq (tIfS (tTest (tOp (rEqU) (tOp (rIxU K) (tVar 3) (tC (.int 0))) (tC (.str "read")))) (tRet (tVar 3))
  (tNext))
  (tSeq (tIfS (tTest (tOp (rEqU) (tVar 2) (tC (.str "choose")))) (tRet (tCall sp__law_reckoned [] E0 (tCons (tTup (tCons (tC (.str "read")) (tCons (tOp (rIxU K) (tOp (rIxU K) (tVar 0) (tC (.int 2))) (tOp (rModI) (tOp (rIxU K) (tVar 3) (tC (.int 1))) (tCB (rLenU K) (tCons (tOp (rIxU K) (tVar 0) (tC (.int 2))) tNil)))) tNil))) (tCons (tVar 1) tNil))))
  (tNext))
  (tSeq (tIfS (tTest (tOp (rEqU) (tVar 2) (tC (.str "pick")))) (tRet (tCall sp__law_reckoned [] E0 (tCons (tOp (rIxU K) (tVar 0) (tOp (rAddU K) (tC (.int 2)) (tCB (rIntU) (tCons (tOp (rLeI) (tOp (rIxU K) (tVar 3) (tC (.int 1))) (tC (.int 0))) tNil)))) (tCons (tVar 1) tNil))))
  (tNext))
  (tSeq (tAsg (tCall sp__law_reckoned [] E0 (tCons (tOp (rIxU K) (tVar 0) (tC (.int 2))) (tCons (tVar 1) tNil))) (gName 4))
  (tSeq (tIfS (tTest (tOp (rEqU) (tOp (rIxU K) (tVar 4) (tC (.int 0))) (tC (.str "read")))) (tRet (tVar 4))
  (tNext))
  (tSeq (tAsg (tDisp [(tC (.str "plus"), tOp (rAddU K) (tOp (rIxU K) (tVar 3) (tC (.int 1))) (tOp (rIxU K) (tVar 4) (tC (.int 1)))), (tC (.str "minus"), tOp (rSubI) (tOp (rIxU K) (tVar 3) (tC (.int 1))) (tOp (rIxU K) (tVar 4) (tC (.int 1)))), (tC (.str "times"), tOp (rMulI) (tOp (rIxU K) (tVar 3) (tC (.int 1))) (tOp (rIxU K) (tVar 4) (tC (.int 1))))]) (gName 5))
  (tRet (tTup (tCons (tC (.str "worth")) (tCons (tDGet2 (tVar 5) (tVar 2) (tCB (rMax2) (tCons (tOp (rIxU K) (tVar 3) (tC (.int 1))) (tCons (tOp (rIxU K) (tVar 4) (tC (.int 1))) tNil)))) tNil)))))))))))))
theorem fn__law_reckoned {k : Nat} (T : Tx K mg A) {k__law_reckoned : Nat} {sp__law_reckoned : Sp} (G__law_reckoned : FnOk P w K mg base CX0 k__law_reckoned A.f__law_reckoned A.d__law_reckoned P__law_reckoned sp__law_reckoned) (h__law_reckoned : k__law_reckoned ≤ k) {sp : Sp} (len : ∀ vs H Q E, sp vs H Q E → vs.length = 2) (h : ∀ vs H Q E, sp vs H Q E → t__law_reckoned K A sp__law_reckoned { nx := fun _ H' => Q .non H', rt := Q } (start N__law_reckoned vs) H) : FnOk P w K mg base CX0 (k + 1) A.f__law_reckoned A.d__law_reckoned P__law_reckoned sp := by
  refine T.d__law_reckoned.F.ok sc__law_reckoned len fun cdv A' outer s H vs Q E hr hs => ⟨t__law_reckoned K A sp__law_reckoned, ?_, h vs H Q E hs⟩
  have hu := hr.units
  exact pss_cons (ps_set (i := 2) sc__law_reckoned.nd rfl (by first | exact Or.inl rfl | exact Or.inr rfl) (pe_ix (ix_U hu) (pv 0) (pe_int) (fun _ _ => rfl)))
    (pss_cons (ps_if (pt_cmpR (op_eqU hu) (pv 2) (pe_str) (nomark _)) (pss_one (ps_ret (pe_tup (pa_cons (pe_str) (pa_cons (pe_ix (ix_U hu) (pv 0) (pe_int) (fun _ _ => rfl)) pa_nil)))))
    (pss_nil))
    (pss_cons (ps_if (pt_cmpR (op_eqU hu) (pv 2) (pe_str) (nomark _)) (pss_cons (ps_if (pt_cmpR (op_inU hu) (pe_ix (ix_U hu) (pv 0) (pe_int) (fun _ _ => rfl)) (pv 1) rfl) (pss_one (ps_ret (pe_tup (pa_cons (pe_str) (pa_cons (pe_ix (ix_U hu) (pv 1) (pe_ix (ix_U hu) (pv 0) (pe_int) (fun _ _ => rfl)) (fun _ _ => rfl)) pa_nil)))))
    (pss_nil))
    (pss_one (ps_ret (pv 0))))
    (pss_nil))
    (pss_cons (ps_set (i := 3) sc__law_reckoned.nd rfl (by first | exact Or.inl rfl | exact Or.inr rfl) (pe_call G__law_reckoned (hr.mono h__law_reckoned) (by rfl) T.d__law_reckoned.m T.d__law_reckoned.F.kp T.d__law_reckoned.B .nil pass0 (pa_cons (pe_ix (ix_U hu) (pv 0) (pe_int) (fun _ _ => rfl)) (pa_cons (pv 1) pa_nil))))
    (pss_cons (ps_if (pt_cmpR (op_eqU hu) (pe_ix (ix_U hu) (pv 3) (pe_int) (fun _ _ => rfl)) (pe_str) (nomark _)) (pss_one (ps_ret (pv 3)))
    (pss_nil))
    (pss_cons (ps_if (pt_cmpR (op_eqU hu) (pv 2) (pe_str) (nomark _)) (pss_one (ps_ret (pe_call G__law_reckoned (hr.mono h__law_reckoned) (by rfl) T.d__law_reckoned.m T.d__law_reckoned.F.kp T.d__law_reckoned.B .nil pass0 (pa_cons (pe_tup (pa_cons (pe_str) (pa_cons (pe_ix (ix_U hu) (pe_ix (ix_U hu) (pv 0) (pe_int) (fun _ _ => rfl)) (pe_op op_modI (pe_ix (ix_U hu) (pv 3) (pe_int) (fun _ _ => rfl)) (pe_callB call_lenU (by rfl) T.b_len (by decide +kernel) (pa_cons (pe_ix (ix_U hu) (pv 0) (pe_int) (fun _ _ => rfl)) pa_nil))) (fun _ _ => rfl)) pa_nil))) (pa_cons (pv 1) pa_nil)))))
    (pss_nil))
    (pss_cons (ps_if (pt_cmpR (op_eqU hu) (pv 2) (pe_str) (nomark _)) (pss_one (ps_ret (pe_call G__law_reckoned (hr.mono h__law_reckoned) (by rfl) T.d__law_reckoned.m T.d__law_reckoned.F.kp T.d__law_reckoned.B .nil pass0 (pa_cons (pe_ix (ix_U hu) (pv 0) (pe_op op_addU (pe_int) (pe_callTy call_intU (by rfl) T.b_int (by decide +kernel) (pa_cons (pe_cmpR op_leI (pe_ix (ix_U hu) (pv 3) (pe_int) (fun _ _ => rfl)) (pe_int) (nomark _)) pa_nil))) (fun _ _ => rfl)) (pa_cons (pv 1) pa_nil)))))
    (pss_nil))
    (pss_cons (ps_set (i := 4) sc__law_reckoned.nd rfl (by first | exact Or.inl rfl | exact Or.inr rfl) (pe_call G__law_reckoned (hr.mono h__law_reckoned) (by rfl) T.d__law_reckoned.m T.d__law_reckoned.F.kp T.d__law_reckoned.B .nil pass0 (pa_cons (pe_ix (ix_U hu) (pv 0) (pe_int) (fun _ _ => rfl)) (pa_cons (pv 1) pa_nil))))
    (pss_cons (ps_if (pt_cmpR (op_eqU hu) (pe_ix (ix_U hu) (pv 4) (pe_int) (fun _ _ => rfl)) (pe_str) (nomark _)) (pss_one (ps_ret (pv 4)))
    (pss_nil))
    (pss_cons (ps_set (i := 5) sc__law_reckoned.nd rfl (by first | exact Or.inl rfl | exact Or.inr rfl) (pe_disp (pps_cons (pe_str) (pe_op op_addU (pe_ix (ix_U hu) (pv 3) (pe_int) (fun _ _ => rfl)) (pe_ix (ix_U hu) (pv 4) (pe_int) (fun _ _ => rfl))) (pps_cons (pe_str) (pe_op op_subI (pe_ix (ix_U hu) (pv 3) (pe_int) (fun _ _ => rfl)) (pe_ix (ix_U hu) (pv 4) (pe_int) (fun _ _ => rfl))) (pps_cons (pe_str) (pe_op op_mulI (pe_ix (ix_U hu) (pv 3) (pe_int) (fun _ _ => rfl)) (pe_ix (ix_U hu) (pv 4) (pe_int) (fun _ _ => rfl))) (pps_nil)))) (by rfl) (by rfl) (fun z => by cases z) (by decide)))
    (pss_one (ps_ret (pe_tup (pa_cons (pe_str) (pa_cons (pe_dget2 (hu_of hr) (pv 5) (pv 2) (pe_callB (call_maxU rfl) (by rfl) T.b_max (by decide +kernel) (pa_cons (pe_ix (ix_U hu) (pv 3) (pe_int) (fun _ _ => rfl)) (pa_cons (pe_ix (ix_U hu) (pv 4) (pe_int) (fun _ _ => rfl)) pa_nil))) ⟨rfl, rfl, rfl, rfl⟩) pa_nil))))))))))))))
/-- _law_begun -/
abbrev t__law_begun (K : PySem.W.Frag) (A : Ad) : TS := tSeq (tAsg (tDisp [(tC (.str "known"), tCB (rDictOf) (tCons (tOp (rIxU K) (tVar 0) (tC (.int 0))) tNil)), (tC (.str "begun"), tLst (tNil)), (tC (.str "waits"), tDNewK), (tC (.str "bad"), tC .non)]) (gName 2))
  (tSeq (tFor (iSeq K (tVar 1)) (gName 3) (tSeq (tIfS (tAnd (tTest (tOp (rNotInU K) (tVar 3) (tOp (rIxU K) (tVar 0) (tC (.int 0))))) (tAnd (tTest (tOp (rNotInU K) (tVar 3) (tOp (rIxU K) (tVar 0) (tC (.int 1))))) (tTest (tOp (rIsN) (tOp (rIxU K) (tVar 2) (tC (.str "bad"))) (tC .non))))) (tAsg (tTup (tCons (tC (.str "name")) (tCons (tVar 3) tNil))) (gSub (tVar 2) (tC (.str "bad")) rSetU))
  (tNext))
  (tIfS (tAnd (tTest (tOp (rInU K) (tVar 3) (tOp (rIxU K) (tVar 0) (tC (.int 1))))) (tTest (tOp (rNotInU K) (tVar 3) (tOp (rIxU K) (tVar 2) (tC (.str "begun")))))) (tDrop (tBM K "list" rAppend (tOp (rIxU K) (tVar 2) (tC (.str "begun"))) (tCons (tVar 3) tNil)))
  (tNext))))
  (tRet (tVar 2)))
theorem fn__law_begun {k : Nat} (T : Tx K mg A) {sp : Sp} (len : ∀ vs H Q E, sp vs H Q E → vs.length = 2) (h : ∀ vs H Q E, sp vs H Q E → t__law_begun K A  { nx := fun _ H' => Q .non H', rt := Q } (start N__law_begun vs) H) : FnOk P w K mg base CX0 (k + 1) A.f__law_begun A.d__law_begun P__law_begun sp := by
  refine T.d__law_begun.F.ok sc__law_begun len fun cdv A' outer s H vs Q E hr hs => ⟨t__law_begun K A , ?_, h vs H Q E hs⟩
  have hu := hr.units
  exact pss_cons (ps_set (i := 2) sc__law_begun.nd rfl (by first | exact Or.inl rfl | exact Or.inr rfl) (pe_disp (pps_cons (pe_str) (pe_callTy call_dictOf (by rfl) T.b_dict (by decide +kernel) (pa_cons (pe_ix (ix_U hu) (pv 0) (pe_int) (fun _ _ => rfl)) pa_nil)) (pps_cons (pe_str) (pe_lst (pa_nil)) (pps_cons (pe_str) (pe_dnewK) (pps_cons (pe_str) (pe_non) (pps_nil))))) (by rfl) (by rfl) (fun z => by cases z) (by decide)))
    (pss_cons (ps_for PassesOwn.never rfl (pi_or (pi_list (pv 1)) (pi_tup (pv 1))) (pg_name (i := 3) sc__law_begun.nd rfl (by first | exact Or.inl rfl | exact Or.inr rfl)) (pss_cons (ps_if (PW.pt (pw_and (pt_cmpR (op_notInU hu) (pv 3) (pe_ix (ix_U hu) (pv 0) (pe_int) (fun _ _ => rfl)) rfl) (pw_and (pt_cmpR (op_notInU hu) (pv 3) (pe_ix (ix_U hu) (pv 0) (pe_int) (fun _ _ => rfl)) rfl) (pw_and1 (pt_cmpR op_isNn (pe_ix (ix_U hu) (pv 2) (pe_str) (fun _ _ => rfl)) (pe_non) (nomark _)))))) (pss_one (ps_asg (pe_tup (pa_cons (pe_str) (pa_cons (pv 3) pa_nil))) (pg_sub (pv 2) (pe_str) (set_U hu))))
    (pss_nil))
    (pss_one (ps_if (PW.pt (pw_and (pt_cmpR (op_inU hu) (pv 3) (pe_ix (ix_U hu) (pv 0) (pe_int) (fun _ _ => rfl)) rfl) (pw_and1 (pt_cmpR (op_notInU hu) (pv 3) (pe_ix (ix_U hu) (pv 2) (pe_str) (fun _ _ => rfl)) rfl)))) (pss_one (ps_expr (pe_bm PySem.F.plainAttrs_list PySem.F.slot_list_append PySem.F.type_list_append mt_append (pe_ix (ix_U hu) (pv 2) (pe_str) (fun _ _ => rfl)) (pa_cons (pv 3) pa_nil))))
    (pss_nil)))))
    (pss_one (ps_ret (pv 2))))
/-- _law_ready -/
abbrev t__law_ready (K : PySem.W.Frag) (A : Ad) : TS := tRet (tLc (iSeq K (tOp (rIxU K) (tVar 0) (tC (.str "begun")))) (gName 1) (tAnd (tTest (tOp (rNotInU K) (tVar 1) (tOp (rIxU K) (tVar 0) (tC (.str "known"))))) (tTest (tOp (rNotInU K) (tVar 1) (tOp (rIxU K) (tVar 0) (tC (.str "waits")))))) (tVar 1) [1])
theorem fn__law_ready {k : Nat} (T : Tx K mg A) {sp : Sp} (len : ∀ vs H Q E, sp vs H Q E → vs.length = 1) (h : ∀ vs H Q E, sp vs H Q E → t__law_ready K A  { nx := fun _ H' => Q .non H', rt := Q } (start N__law_ready vs) H) : FnOk P w K mg base CX0 (k + 1) A.f__law_ready A.d__law_ready P__law_ready sp := by
  refine T.d__law_ready.F.ok sc__law_ready len fun cdv A' outer s H vs Q E hr hs => ⟨t__law_ready K A , ?_, h vs H Q E hs⟩
  have hu := hr.units
  exact pss_one (ps_ret (pe_lc (own := [("name", 1)]) (g := gName 1) (tt := tAnd (tTest (tOp (rNotInU K) (tVar 1) (tOp (rIxU K) (tVar 0) (tC (.str "known"))))) (tTest (tOp (rNotInU K) (tVar 1) (tOp (rIxU K) (tVar 0) (tC (.str "waits")))))) rfl sc__law_ready.nd (pi_or (pi_list (pe_ix (ix_U hu) (pv 0) (pe_str) (fun _ _ => rfl))) (pi_tup (pe_ix (ix_U hu) (pv 0) (pe_str) (fun _ _ => rfl)))) (blkOk_by (own := [("name", 1)]) (N := N__law_ready) (sc := defScope s__law_ready) (by decide +kernel)) (fun _ _ _ _ _ => pg_name (i := 1) sc__law_ready.nd rfl (by first | exact Or.inl rfl | exact Or.inr rfl)) (fun _ _ _ _ _ => pts_one (PW.pt (pw_and (pt_cmpR (op_notInU hu) (pv 1) (pe_ix (ix_U hu) (pv 0) (pe_str) (fun _ _ => rfl)) rfl) (pw_and1 (pt_cmpR (op_notInU hu) (pv 1) (pe_ix (ix_U hu) (pv 0) (pe_str) (fun _ _ => rfl)) rfl))))) (fun _ _ _ _ _ => pv 1)))
/-- _law_step -/
abbrev t__law_step (K : PySem.W.Frag) (A : Ad) (sp__law_reckoned : Sp) : TS := tSeq (tAsg (tCall sp__law_reckoned [] E0 (tCons (tOp (rIxU K) (tOp (rIxU K) (tVar 0) (tC (.int 1))) (tVar 2)) (tCons (tOp (rIxU K) (tVar 1) (tC (.str "known"))) tNil))) (gName 3))
  (tSeq (tIfS (tTest (tOp (rEqU) (tOp (rIxU K) (tVar 3) (tC (.int 0))) (tC (.str "worth")))) (tSeq (tAsg (tOp (rIxU K) (tVar 3) (tC (.int 1))) (gSub (tOp (rIxU K) (tVar 1) (tC (.str "known"))) (tVar 2) rSetU))
  (tSeq (tFor (iSeq K (tOp (rIxU K) (tVar 1) (tC (.str "begun")))) (gName 4) (tIfS (tAnd (tTest (tOp (rInU K) (tVar 4) (tOp (rIxU K) (tVar 1) (tC (.str "waits"))))) (tTest (tOp (rEqU) (tOp (rIxU K) (tOp (rIxU K) (tVar 1) (tC (.str "waits"))) (tVar 4)) (tVar 2)))) (tDrop (tDPop1 (tOp (rIxU K) (tVar 1) (tC (.str "waits"))) (tVar 4)))
  (tNext)))
  (tRet (tTup (tCons (tVar 2) (tCons (tC (.str "known")) (tCons (tOp (rIxU K) (tVar 3) (tC (.int 1))) tNil)))))))
  (tNext))
  (tSeq (tIfS (tTest (tOp (rNotInU K) (tOp (rIxU K) (tVar 3) (tC (.int 1))) (tOp (rIxU K) (tVar 0) (tC (.int 1))))) (tSeq (tAsg (tTup (tCons (tC (.str "name")) (tCons (tOp (rIxU K) (tVar 3) (tC (.int 1))) tNil))) (gSub (tVar 1) (tC (.str "bad")) rSetU))
  (tRet (tC .non)))
  (tNext))
  (tSeq (tIfS (tTest (tOp (rNotInU K) (tOp (rIxU K) (tVar 3) (tC (.int 1))) (tOp (rIxU K) (tVar 1) (tC (.str "begun"))))) (tDrop (tBM K "list" rAppend (tOp (rIxU K) (tVar 1) (tC (.str "begun"))) (tCons (tOp (rIxU K) (tVar 3) (tC (.int 1))) tNil)))
  (tNext))
  (tSeq (tAsg (tOp (rIxU K) (tVar 3) (tC (.int 1))) (gSub (tOp (rIxU K) (tVar 1) (tC (.str "waits"))) (tVar 2) rSetU))
  (tRet (tTup (tCons (tVar 2) (tCons (tC (.str "waits")) (tCons (tOp (rIxU K) (tVar 3) (tC (.int 1))) tNil)))))))))
theorem fn__law_step {k : Nat} (T : Tx K mg A) {k__law_reckoned : Nat} {sp__law_reckoned : Sp} (G__law_reckoned : FnOk P w K mg base CX0 k__law_reckoned A.f__law_reckoned A.d__law_reckoned P__law_reckoned sp__law_reckoned) (h__law_reckoned : k__law_reckoned ≤ k) {sp : Sp} (len : ∀ vs H Q E, sp vs H Q E → vs.length = 3) (h : ∀ vs H Q E, sp vs H Q E → t__law_step K A sp__law_reckoned { nx := fun _ H' => Q .non H', rt := Q } (start N__law_step vs) H) : FnOk P w K mg base CX0 (k + 1) A.f__law_step A.d__law_step P__law_step sp := by
  refine T.d__law_step.F.ok sc__law_step len fun cdv A' outer s H vs Q E hr hs => ⟨t__law_step K A sp__law_reckoned, ?_, h vs H Q E hs⟩
  have hu := hr.units
  exact pss_cons (ps_set (i := 3) sc__law_step.nd rfl (by first | exact Or.inl rfl | exact Or.inr rfl) (pe_call G__law_reckoned (hr.mono h__law_reckoned) (by rfl) T.d__law_reckoned.m T.d__law_reckoned.F.kp T.d__law_reckoned.B .nil pass0 (pa_cons (pe_ix (ix_U hu) (pe_ix (ix_U hu) (pv 0) (pe_int) (fun _ _ => rfl)) (pv 2) (fun _ _ => rfl)) (pa_cons (pe_ix (ix_U hu) (pv 1) (pe_str) (fun _ _ => rfl)) pa_nil))))
    (pss_cons (ps_if (pt_cmpR (op_eqU hu) (pe_ix (ix_U hu) (pv 3) (pe_int) (fun _ _ => rfl)) (pe_str) (nomark _)) (pss_cons (ps_asg (pe_ix (ix_U hu) (pv 3) (pe_int) (fun _ _ => rfl)) (pg_sub (pe_ix (ix_U hu) (pv 1) (pe_str) (fun _ _ => rfl)) (pv 2) (set_U hu)))
    (pss_cons (ps_for PassesOwn.never rfl (pi_or (pi_list (pe_ix (ix_U hu) (pv 1) (pe_str) (fun _ _ => rfl))) (pi_tup (pe_ix (ix_U hu) (pv 1) (pe_str) (fun _ _ => rfl)))) (pg_name (i := 4) sc__law_step.nd rfl (by first | exact Or.inl rfl | exact Or.inr rfl)) (pss_one (ps_if (PW.pt (pw_and (pt_cmpR (op_inU hu) (pv 4) (pe_ix (ix_U hu) (pv 1) (pe_str) (fun _ _ => rfl)) rfl) (pw_and1 (pt_cmpR (op_eqU hu) (pe_ix (ix_U hu) (pe_ix (ix_U hu) (pv 1) (pe_str) (fun _ _ => rfl)) (pv 4) (fun _ _ => rfl)) (pv 2) (nomark _))))) (pss_one (ps_expr (pe_dpop1 (pe_ix (ix_U hu) (pv 1) (pe_str) (fun _ _ => rfl)) (pv 4) ⟨rfl, rfl, rfl, rfl⟩)))
    (pss_nil))))
    (pss_one (ps_ret (pe_tup (pa_cons (pv 2) (pa_cons (pe_str) (pa_cons (pe_ix (ix_U hu) (pv 3) (pe_int) (fun _ _ => rfl)) pa_nil))))))))
    (pss_nil))
    (pss_cons (ps_if (pt_cmpR (op_notInU hu) (pe_ix (ix_U hu) (pv 3) (pe_int) (fun _ _ => rfl)) (pe_ix (ix_U hu) (pv 0) (pe_int) (fun _ _ => rfl)) rfl) (pss_cons (ps_asg (pe_tup (pa_cons (pe_str) (pa_cons (pe_ix (ix_U hu) (pv 3) (pe_int) (fun _ _ => rfl)) pa_nil))) (pg_sub (pv 1) (pe_str) (set_U hu)))
    (pss_one (ps_ret (pe_non))))
    (pss_nil))
    (pss_cons (ps_if (pt_cmpR (op_notInU hu) (pe_ix (ix_U hu) (pv 3) (pe_int) (fun _ _ => rfl)) (pe_ix (ix_U hu) (pv 1) (pe_str) (fun _ _ => rfl)) rfl) (pss_one (ps_expr (pe_bm PySem.F.plainAttrs_list PySem.F.slot_list_append PySem.F.type_list_append mt_append (pe_ix (ix_U hu) (pv 1) (pe_str) (fun _ _ => rfl)) (pa_cons (pe_ix (ix_U hu) (pv 3) (pe_int) (fun _ _ => rfl)) pa_nil))))
    (pss_nil))
    (pss_cons (ps_asg (pe_ix (ix_U hu) (pv 3) (pe_int) (fun _ _ => rfl)) (pg_sub (pe_ix (ix_U hu) (pv 1) (pe_str) (fun _ _ => rfl)) (pv 2) (set_U hu)))
    (pss_one (ps_ret (pe_tup (pa_cons (pv 2) (pa_cons (pe_str) (pa_cons (pe_ix (ix_U hu) (pv 3) (pe_int) (fun _ _ => rfl)) pa_nil))))))))))
/-- _law_over -/
abbrev t__law_over (K : PySem.W.Frag) (A : Ad) : TS := tRet (tOp (rEqU) (tLc (iSeq K (tOp (rIxU K) (tVar 0) (tC (.str "begun")))) (gName 1) (tTest (tOp (rNotInU K) (tVar 1) (tOp (rIxU K) (tVar 0) (tC (.str "known"))))) (tVar 1) [1]) (tLst (tNil)))
theorem fn__law_over {k : Nat} (T : Tx K mg A) {sp : Sp} (len : ∀ vs H Q E, sp vs H Q E → vs.length = 1) (h : ∀ vs H Q E, sp vs H Q E → t__law_over K A  { nx := fun _ H' => Q .non H', rt := Q } (start N__law_over vs) H) : FnOk P w K mg base CX0 (k + 1) A.f__law_over A.d__law_over P__law_over sp := by
  refine T.d__law_over.F.ok sc__law_over len fun cdv A' outer s H vs Q E hr hs => ⟨t__law_over K A , ?_, h vs H Q E hs⟩
  have hu := hr.units
  exact pss_one (ps_ret (pe_cmpR (op_eqU hu) (pe_lc (own := [("name", 1)]) (g := gName 1) (tt := tTest (tOp (rNotInU K) (tVar 1) (tOp (rIxU K) (tVar 0) (tC (.str "known"))))) rfl sc__law_over.nd (pi_or (pi_list (pe_ix (ix_U hu) (pv 0) (pe_str) (fun _ _ => rfl))) (pi_tup (pe_ix (ix_U hu) (pv 0) (pe_str) (fun _ _ => rfl)))) (blkOk_by (own := [("name", 1)]) (N := N__law_over) (sc := defScope s__law_over) (by decide +kernel)) (fun _ _ _ _ _ => pg_name (i := 1) sc__law_over.nd rfl (by first | exact Or.inl rfl | exact Or.inr rfl)) (fun _ _ _ _ _ => pts_one (pt_cmpR (op_notInU hu) (pv 1) (pe_ix (ix_U hu) (pv 0) (pe_str) (fun _ _ => rfl)) rfl)) (fun _ _ _ _ _ => pv 1)) (pe_lst (pa_nil)) (nomark _)))
/-- begun_weaving -/
abbrev t_begun_weaving (K : PySem.W.Frag) (A : Ad) (sp_Weaving_init : Sp) : TS := tSeq (tAsg (tC .non) (gName 2))
  (tSeq (tTry K (fun W1 => tAsg (tMakeW A.C_Weaving sp_Weaving_init (WE W1) (tCons (tVar 0) (tCons (tVar 1) tNil))) (gName 2)) (fun _ _ _ _ => False) [(.ref A.C_NoName, fun a cls d => tAsg (tC .non) (gName 2))])
  (tRet (tVar 2)))
theorem fn_begun_weaving {k : Nat} (T : Tx K mg A) {k_Weaving_init : Nat} {sp_Weaving_init : Sp} (G_Weaving_init : FnOk P w K mg base (L2.CX P w) k_Weaving_init A.f_Weaving_init A.d_Weaving_init P_Weaving_init sp_Weaving_init) (h_Weaving_init : k_Weaving_init < k) {sp : Sp} (len : ∀ vs H Q E, sp vs H Q E → vs.length = 2) (h : ∀ vs H Q E, sp vs H Q E → t_begun_weaving K A sp_Weaving_init { nx := fun _ H' => Q .non H', rt := Q } (start N_begun_weaving vs) H) : FnOk P w K mg base CX0 (k + 1) A.f_begun_weaving A.d_begun_weaving P_begun_weaving sp := by
  refine T.d_begun_weaving.F.ok sc_begun_weaving len fun cdv A' outer s H vs Q E hr hs => ⟨t_begun_weaving K A sp_Weaving_init, ?_, h vs H Q E hs⟩
  have hu := hr.units
  exact pss_cons (ps_set (i := 2) sc_begun_weaving.nd rfl (by first | exact Or.inl rfl | exact Or.inr rfl) (pe_non))
    (pss_cons (ps_try_many rfl rfl takes0 (fun W1 pn xe tk po => pss_one (ps_set (i := 2) sc_begun_weaving.nd rfl (by first | exact Or.inl rfl | exact Or.inr rfl) (pe_makeW T.d_Weaving_init.M G_Weaving_init (hr.mono (Nat.succ_le_of_lt h_Weaving_init)) (by rfl) T.c_Weaving.m (T.d_Weaving_init.B) (fun σ => passAt tk σ) (pa_cons (pv 0) (pa_cons (pv 1) pa_nil))))) (.cons ⟨rfl, by decide, .inl T.e_NoName.m⟩ (fun a oe cls d pn _ _ => pss_one (ps_set (i := 2) sc_begun_weaving.nd rfl (by first | exact Or.inl rfl | exact Or.inr rfl) (pe_non))) (.nil)))
    (pss_one (ps_ret (pv 2))))
/-- step_done -/
abbrev t_step_done (K : PySem.W.Frag) (A : Ad) (sp_Weaving_go_on : Sp) : TS := tSeq (tAsg (tC .non) (gName 2))
  (tSeq (tTry K (fun W1 => tAsg (tMethW A.C_Weaving "go_on" sp_Weaving_go_on (WE W1) (tVar 0) (tCons (tVar 1) tNil)) (gName 2)) (fun _ _ _ _ => False) [(.ref A.C_NoName, fun a cls d => tAsg (tC .non) (gName 2))])
  (tRet (tVar 2)))
theorem fn_step_done {k : Nat} (T : Tx K mg A) {k_Weaving_go_on : Nat} {sp_Weaving_go_on : Sp} (G_Weaving_go_on : FnOk P w K mg base (L2.CX P w) k_Weaving_go_on A.f_Weaving_go_on A.d_Weaving_go_on P_Weaving_go_on sp_Weaving_go_on) (h_Weaving_go_on : k_Weaving_go_on ≤ k) {sp : Sp} (len : ∀ vs H Q E, sp vs H Q E → vs.length = 2) (h : ∀ vs H Q E, sp vs H Q E → t_step_done K A sp_Weaving_go_on { nx := fun _ H' => Q .non H', rt := Q } (start N_step_done vs) H) : FnOk P w K mg base CX0 (k + 1) A.f_step_done A.d_step_done P_step_done sp := by
  refine T.d_step_done.F.ok sc_step_done len fun cdv A' outer s H vs Q E hr hs => ⟨t_step_done K A sp_Weaving_go_on, ?_, h vs H Q E hs⟩
  have hu := hr.units
  exact pss_cons (ps_set (i := 2) sc_step_done.nd rfl (by first | exact Or.inl rfl | exact Or.inr rfl) (pe_non))
    (pss_cons (ps_try_many rfl rfl takes0 (fun W1 pn xe tk po => pss_one (ps_set (i := 2) sc_step_done.nd rfl (by first | exact Or.inl rfl | exact Or.inr rfl) (pe_methW (pv 0) T.c_Weaving.c T.d_Weaving_go_on.M G_Weaving_go_on (hr.mono h_Weaving_go_on) T.d_Weaving_go_on.B (fun σ => passAt tk σ) (pa_cons (pv 1) pa_nil)))) (.cons ⟨rfl, by decide, .inl T.e_NoName.m⟩ (fun a oe cls d pn _ _ => pss_one (ps_set (i := 2) sc_step_done.nd rfl (by first | exact Or.inl rfl | exact Or.inr rfl) (pe_non))) (.nil)))
    (pss_one (ps_ret (pv 2))))
/-- is_step -/
abbrev t_is_step (K : PySem.W.Frag) (A : Ad) : TS := tSeq (tIfS (tOr (tNot (tB (tCB (rIsi K) (tCons (tVar 0) (tCons (tC (.ty "tuple")) tNil))))) (tOr (tTest (tOp (rNeU) (tCB (rLenU K) (tCons (tVar 0) tNil)) (tC (.int 3)))) (tNot (tB (tCB (rIsi K) (tCons (tOp (rIxU K) (tVar 0) (tC (.int 0))) (tCons (tC (.ty "str")) tNil))))))) (tRet (tC (.bl false)))
  (tNext))
  (tRet (tNotV (tCB (rIsi K) (tCons (tOp (rIxU K) (tVar 0) (tC (.int 2))) (tCons (tC (.ty "bool")) tNil)))))
theorem fn_is_step {k : Nat} (T : Tx K mg A) {sp : Sp} (len : ∀ vs H Q E, sp vs H Q E → vs.length = 1) (h : ∀ vs H Q E, sp vs H Q E → t_is_step K A  { nx := fun _ H' => Q .non H', rt := Q } (start N_is_step vs) H) : FnOk P w K mg base CX0 (k + 1) A.f_is_step A.d_is_step P_is_step sp := by
  refine T.d_is_step.F.ok sc_is_step len fun cdv A' outer s H vs Q E hr hs => ⟨t_is_step K A , ?_, h vs H Q E hs⟩
  have hu := hr.units
  exact pss_cons (ps_if (PW.pt (pw_or (pt_not (pt_val (pe_callB call_isi (by rfl) T.b_isinstance (by decide +kernel) (pa_cons (pv 0) (pa_cons (pe_bltn (v := .ty "tuple") (by rfl) T.b_tuple (by decide +kernel) rfl) pa_nil))))) (pw_or (pt_cmpR (op_neU hu) (pe_callB call_lenU (by rfl) T.b_len (by decide +kernel) (pa_cons (pv 0) pa_nil)) (pe_int) (nomark _)) (pw_or1 (pt_not (pt_val (pe_callB call_isi (by rfl) T.b_isinstance (by decide +kernel) (pa_cons (pe_ix (ix_U hu) (pv 0) (pe_int) (fun _ _ => rfl)) (pa_cons (pe_bltn (v := .ty "str") (by rfl) T.b_str (by decide +kernel) rfl) pa_nil))))))))) (pss_one (ps_ret (pe_bl)))
    (pss_nil))
    (pss_one (ps_ret (pe_not (pe_callB call_isi (by rfl) T.b_isinstance (by decide +kernel) (pa_cons (pe_ix (ix_U hu) (pv 0) (pe_int) (fun _ _ => rfl)) (pa_cons (pe_bltn (v := .ty "bool") (by rfl) T.b_bool (by decide +kernel) rfl) pa_nil))))))
/-- trace_shows -/
abbrev t_trace_shows (K : PySem.W.Frag) (A : Ad) (sp_begun_weaving sp_is_step sp_Weaving_ready sp_step_done sp_Weaving_is_over : Sp) : TS := tSeq (tAsg (tCall sp_begun_weaving [] E0 (tCons (tVar 0) (tCons (tVar 1) tNil))) (gName 3))
  (tSeq (tIfS (tTest (tOp (rIsN) (tVar 3) (tC .non))) (tRet (tC (.bl false)))
  (tNext))
  (tSeq (tFor (iSeq K (tVar 2)) (gName 4) (tSeq (tIfS (tOr (tNot (tB (tCall sp_is_step [] E0 (tCons (tVar 4) tNil)))) (tTest (tOp (rNotInU K) (tOp (rIxU K) (tVar 4) (tC (.int 0))) (tMeth A.C_Weaving "ready" sp_Weaving_ready [] E0 (tVar 3) tNil)))) (tRet (tC (.bl false)))
  (tNext))
  (tIfS (tTest (tOp (rNeU) (tCall sp_step_done [] E0 (tCons (tVar 3) (tCons (tOp (rIxU K) (tVar 4) (tC (.int 0))) tNil))) (tVar 4))) (tRet (tC (.bl false)))
  (tNext))))
  (tRet (tMeth A.C_Weaving "is_over" sp_Weaving_is_over [] E0 (tVar 3) tNil))))
theorem fn_trace_shows {k : Nat} (T : Tx K mg A) {k_begun_weaving : Nat} {sp_begun_weaving : Sp} (G_begun_weaving : FnOk P w K mg base CX0 k_begun_weaving A.f_begun_weaving A.d_begun_weaving P_begun_weaving sp_begun_weaving) (h_begun_weaving : k_begun_weaving ≤ k) {k_is_step : Nat} {sp_is_step : Sp} (G_is_step : FnOk P w K mg base CX0 k_is_step A.f_is_step A.d_is_step P_is_step sp_is_step) (h_is_step : k_is_step ≤ k) {k_Weaving_ready : Nat} {sp_Weaving_ready : Sp} (G_Weaving_ready : FnOk P w K mg base CX0 k_Weaving_ready A.f_Weaving_ready A.d_Weaving_ready P_Weaving_ready sp_Weaving_ready) (h_Weaving_ready : k_Weaving_ready ≤ k) {k_step_done : Nat} {sp_step_done : Sp} (G_step_done : FnOk P w K mg base CX0 k_step_done A.f_step_done A.d_step_done P_step_done sp_step_done) (h_step_done : k_step_done ≤ k) {k_Weaving_is_over : Nat} {sp_Weaving_is_over : Sp} (G_Weaving_is_over : FnOk P w K mg base CX0 k_Weaving_is_over A.f_Weaving_is_over A.d_Weaving_is_over P_Weaving_is_over sp_Weaving_is_over) (h_Weaving_is_over : k_Weaving_is_over ≤ k) {sp : Sp} (len : ∀ vs H Q E, sp vs H Q E → vs.length = 3) (h : ∀ vs H Q E, sp vs H Q E → t_trace_shows K A sp_begun_weaving sp_is_step sp_Weaving_ready sp_step_done sp_Weaving_is_over { nx := fun _ H' => Q .non H', rt := Q } (start N_trace_shows vs) H) : FnOk P w K mg base CX0 (k + 1) A.f_trace_shows A.d_trace_shows P_trace_shows sp := by
  refine T.d_trace_shows.F.ok sc_trace_shows len fun cdv A' outer s H vs Q E hr hs => ⟨t_trace_shows K A sp_begun_weaving sp_is_step sp_Weaving_ready sp_step_done sp_Weaving_is_over, ?_, h vs H Q E hs⟩
  have hu := hr.units
  exact pss_cons (ps_set (i := 3) sc_trace_shows.nd rfl (by first | exact Or.inl rfl | exact Or.inr rfl) (pe_call G_begun_weaving (hr.mono h_begun_weaving) (by rfl) T.d_begun_weaving.m T.d_begun_weaving.F.kp T.d_begun_weaving.B .nil pass0 (pa_cons (pv 0) (pa_cons (pv 1) pa_nil))))
    (pss_cons (ps_if (pt_cmpR op_isNn (pv 3) (pe_non) (nomark _)) (pss_one (ps_ret (pe_bl)))
    (pss_nil))
    (pss_cons (ps_for PassesOwn.never rfl (pi_or (pi_list (pv 2)) (pi_tup (pv 2))) (pg_name (i := 4) sc_trace_shows.nd rfl (by first | exact Or.inl rfl | exact Or.inr rfl)) (pss_cons (ps_if (PW.pt (pw_or (pt_not (pt_val (pe_call G_is_step (hr.mono h_is_step) (by rfl) T.d_is_step.m T.d_is_step.F.kp T.d_is_step.B .nil pass0 (pa_cons (pv 4) pa_nil)))) (pw_or1 (pt_cmpR (op_notInU hu) (pe_ix (ix_U hu) (pv 4) (pe_int) (fun _ _ => rfl)) (pe_meth0 (pv 3) T.c_Weaving.c T.d_Weaving_ready.M G_Weaving_ready (hr.mono h_Weaving_ready) T.d_Weaving_ready.B .nil pass0) rfl)))) (pss_one (ps_ret (pe_bl)))
    (pss_nil))
    (pss_one (ps_if (pt_cmpR (op_neU hu) (pe_call G_step_done (hr.mono h_step_done) (by rfl) T.d_step_done.m T.d_step_done.F.kp T.d_step_done.B .nil pass0 (pa_cons (pv 3) (pa_cons (pe_ix (ix_U hu) (pv 4) (pe_int) (fun _ _ => rfl)) pa_nil))) (pv 4) (nomark _)) (pss_one (ps_ret (pe_bl)))
    (pss_nil)))))
    (pss_one (ps_ret (pe_meth0 (pv 3) T.c_Weaving.c T.d_Weaving_is_over.M G_Weaving_is_over (hr.mono h_Weaving_is_over) T.d_Weaving_is_over.B .nil pass0)))))
/-- _law_taken -/
abbrev t__law_taken (K : PySem.W.Frag) (A : Ad) (sp__law_begun sp__law_over sp__law_ready sp__law_draw sp__law_step : Sp) : TS := tSeq (tAsg (tCall sp__law_begun [] E0 (tCons (tVar 0) (tCons (tVar 1) tNil))) (gName 3))
  (tSeq (tAsg (tLst (tNil)) (gName 4))
  (tSeq (tAsg (tLst (tNil)) (gName 5))
  (tSeq (tWhile (tAnd (tTest (tOp (rIsN) (tOp (rIxU K) (tVar 3) (tC (.str "bad"))) (tC .non))) (tNot (tB (tCall sp__law_over [] E0 (tCons (tVar 3) tNil))))) (tSeq (tAsg (tCall sp__law_ready [] E0 (tCons (tVar 3) tNil)) (gName 6))
  (tIfS (tTest (tOp (rEqU) (tVar 6) (tLst (tNil)))) (tAsg (tTup (tCons (tC (.str "ring")) (tCons (tLst (tNil)) tNil))) (gSub (tVar 3) (tC (.str "bad")) rSetU))
  (tSeq (tDrop (tBM K "list" rAppend (tVar 5) (tCons (tOp (rSubI) (tCall sp__law_draw [] E0 (tCons (tVar 2) (tCons (tOp (rMulI) (tC (.int 2)) (tCB (rLenU K) (tCons (tVar 6) tNil))) tNil))) (tCB (rLenU K) (tCons (tVar 6) tNil))) tNil)))
  (tSeq (tAsg (tCall sp__law_step [] E0 (tCons (tVar 0) (tCons (tVar 3) (tCons (tOp (rIxU K) (tVar 6) (tOp (rModI) (tOp (rIxU K) (tVar 5) (tUn (rU fun i => .int (-i)) (tC (.int 1)))) (tCB (rLenU K) (tCons (tVar 6) tNil)))) tNil)))) (gName 7))
  (tIfS (tTest (tOp (rNotN) (tVar 7) (tC .non))) (tDrop (tBM K "list" rAppend (tVar 4) (tCons (tVar 7) tNil)))
  (tNext)))))))
  (tRet (tTup (tCons (tVar 4) (tCons (tVar 5) (tCons (tOp (rIxU K) (tVar 3) (tC (.str "bad"))) tNil))))))))
theorem fn__law_taken {k : Nat} (T : Tx K mg A) {k__law_begun : Nat} {sp__law_begun : Sp} (G__law_begun : FnOk P w K mg base CX0 k__law_begun A.f__law_begun A.d__law_begun P__law_begun sp__law_begun) (h__law_begun : k__law_begun ≤ k) {k__law_over : Nat} {sp__law_over : Sp} (G__law_over : FnOk P w K mg base CX0 k__law_over A.f__law_over A.d__law_over P__law_over sp__law_over) (h__law_over : k__law_over ≤ k) {k__law_ready : Nat} {sp__law_ready : Sp} (G__law_ready : FnOk P w K mg base CX0 k__law_ready A.f__law_ready A.d__law_ready P__law_ready sp__law_ready) (h__law_ready : k__law_ready ≤ k) {k__law_draw : Nat} {sp__law_draw : Sp} (G__law_draw : FnOk P w K mg base CX0 k__law_draw A.f__law_draw A.d__law_draw P__law_draw sp__law_draw) (h__law_draw : k__law_draw ≤ k) {k__law_step : Nat} {sp__law_step : Sp} (G__law_step : FnOk P w K mg base CX0 k__law_step A.f__law_step A.d__law_step P__law_step sp__law_step) (h__law_step : k__law_step ≤ k) {sp : Sp} (len : ∀ vs H Q E, sp vs H Q E → vs.length = 3) (h : ∀ vs H Q E, sp vs H Q E → t__law_taken K A sp__law_begun sp__law_over sp__law_ready sp__law_draw sp__law_step { nx := fun _ H' => Q .non H', rt := Q } (start N__law_taken vs) H) : FnOk P w K mg base CX0 (k + 1) A.f__law_taken A.d__law_taken P__law_taken sp := by
  refine T.d__law_taken.F.ok sc__law_taken len fun cdv A' outer s H vs Q E hr hs => ⟨t__law_taken K A sp__law_begun sp__law_over sp__law_ready sp__law_draw sp__law_step, ?_, h vs H Q E hs⟩
  have hu := hr.units
  exact pss_cons (ps_set (i := 3) sc__law_taken.nd rfl (by first | exact Or.inl rfl | exact Or.inr rfl) (pe_call G__law_begun (hr.mono h__law_begun) (by rfl) T.d__law_begun.m T.d__law_begun.F.kp T.d__law_begun.B .nil pass0 (pa_cons (pv 0) (pa_cons (pv 1) pa_nil))))
    (pss_cons (ps_set (i := 4) sc__law_taken.nd rfl (by first | exact Or.inl rfl | exact Or.inr rfl) (pe_lst (pa_nil)))
    (pss_cons (ps_set (i := 5) sc__law_taken.nd rfl (by first | exact Or.inl rfl | exact Or.inr rfl) (pe_lst (pa_nil)))
    (pss_cons (ps_while PassesOwn.never (PW.pt (pw_and (pt_cmpR op_isNn (pe_ix (ix_U hu) (pv 3) (pe_str) (fun _ _ => rfl)) (pe_non) (nomark _)) (pw_and1 (pt_not (pt_val (pe_call G__law_over (hr.mono h__law_over) (by rfl) T.d__law_over.m T.d__law_over.F.kp T.d__law_over.B .nil pass0 (pa_cons (pv 3) pa_nil))))))) (pss_cons (ps_set (i := 6) sc__law_taken.nd rfl (by first | exact Or.inl rfl | exact Or.inr rfl) (pe_call G__law_ready (hr.mono h__law_ready) (by rfl) T.d__law_ready.m T.d__law_ready.F.kp T.d__law_ready.B .nil pass0 (pa_cons (pv 3) pa_nil)))
    (pss_one (ps_if (pt_cmpR (op_eqU hu) (pv 6) (pe_lst (pa_nil)) (nomark _)) (pss_one (ps_asg (pe_tup (pa_cons (pe_str) (pa_cons (pe_lst (pa_nil)) pa_nil))) (pg_sub (pv 3) (pe_str) (set_U hu))))
    (pss_cons (ps_expr (pe_bm PySem.F.plainAttrs_list PySem.F.slot_list_append PySem.F.type_list_append mt_append (pv 5) (pa_cons (pe_op op_subI (pe_call G__law_draw (hr.mono h__law_draw) (by rfl) T.d__law_draw.m T.d__law_draw.F.kp T.d__law_draw.B .nil pass0 (pa_cons (pv 2) (pa_cons (pe_op op_mulI (pe_int) (pe_callB call_lenU (by rfl) T.b_len (by decide +kernel) (pa_cons (pv 6) pa_nil))) pa_nil))) (pe_callB call_lenU (by rfl) T.b_len (by decide +kernel) (pa_cons (pv 6) pa_nil))) pa_nil)))
    (pss_cons (ps_set (i := 7) sc__law_taken.nd rfl (by first | exact Or.inl rfl | exact Or.inr rfl) (pe_call G__law_step (hr.mono h__law_step) (by rfl) T.d__law_step.m T.d__law_step.F.kp T.d__law_step.B .nil pass0 (pa_cons (pv 0) (pa_cons (pv 3) (pa_cons (pe_ix (ix_U hu) (pv 6) (pe_op op_modI (pe_ix (ix_U hu) (pv 5) (pe_un un_neg (pe_int)) (fun _ _ => rfl)) (pe_callB call_lenU (by rfl) T.b_len (by decide +kernel) (pa_cons (pv 6) pa_nil))) (fun _ _ => rfl)) pa_nil)))))
    (pss_one (ps_if (pt_cmpR op_notNn (pv 7) (pe_non) (nomark _)) (pss_one (ps_expr (pe_bm PySem.F.plainAttrs_list PySem.F.slot_list_append PySem.F.type_list_append mt_append (pv 4) (pa_cons (pv 7) pa_nil))))
    (pss_nil)))))))))
    (pss_one (ps_ret (pe_tup (pa_cons (pv 4) (pa_cons (pv 5) (pa_cons (pe_ix (ix_U hu) (pv 3) (pe_str) (fun _ _ => rfl)) pa_nil)))))))))
/-- _law_woven_told -/
abbrev t__law_woven_told (K : PySem.W.Frag) (A : Ad) (sp_woven : Sp) : TS := tSeq (tAsg (tC .non) (gName 3))
  (tSeq (tTry K (fun W1 => tAsg (tCallS sp_woven (WE W1) (tCons (tVar 0) (tCons (tVar 1) (tCons (tVar 2) tNil)))) (gName 3)) (fun _ _ _ _ => False) [(.ref A.C_NoName, fun a cls d => tAsg (tC .non) (gName 3)), (.ref A.C_Ring, fun a cls d => tAsg (tC .non) (gName 3))])
  (tRet (tVar 3)))
theorem fn__law_woven_told {k : Nat} (T : Tx K mg A) {k_woven : Nat} {sp_woven : Sp} (G_woven : FnOk P w K mg base (L2.CX P w) k_woven A.f_woven A.d_woven P_woven sp_woven) (h_woven : k_woven ≤ k) {sp : Sp} (len : ∀ vs H Q E, sp vs H Q E → vs.length = 3) (h : ∀ vs H Q E, sp vs H Q E → t__law_woven_told K A sp_woven { nx := fun _ H' => Q .non H', rt := Q } (start N__law_woven_told vs) H) : FnOk P w K mg base CX0 (k + 1) A.f__law_woven_told A.d__law_woven_told P__law_woven_told sp := by
  refine T.d__law_woven_told.F.ok sc__law_woven_told len fun cdv A' outer s H vs Q E hr hs => ⟨t__law_woven_told K A sp_woven, ?_, h vs H Q E hs⟩
  have hu := hr.units
  exact pss_cons (ps_set (i := 3) sc__law_woven_told.nd rfl (by first | exact Or.inl rfl | exact Or.inr rfl) (pe_non))
    (pss_cons (ps_try_many rfl rfl takes0 (fun W1 pn xe tk po => pss_one (ps_set (i := 3) sc__law_woven_told.nd rfl (by first | exact Or.inl rfl | exact Or.inr rfl) (pe_callS G_woven (hr.mono h_woven) (by rfl) T.d_woven.m T.d_woven.F.kp T.d_woven.B (fun σ => passAt tk σ) (pa_cons (pv 0) (pa_cons (pv 1) (pa_cons (pv 2) pa_nil)))))) (.cons ⟨rfl, by decide, .inl T.e_NoName.m⟩ (fun a oe cls d pn _ _ => pss_one (ps_set (i := 3) sc__law_woven_told.nd rfl (by first | exact Or.inl rfl | exact Or.inr rfl) (pe_non))) (.cons ⟨rfl, by decide, .inl T.e_Ring.m⟩ (fun a oe cls d pn _ _ => pss_one (ps_set (i := 3) sc__law_woven_told.nd rfl (by first | exact Or.inl rfl | exact Or.inr rfl) (pe_non))) (.nil))))
    (pss_one (ps_ret (pv 3))))
/-- law -/
abbrev t_law (K : PySem.W.Frag) (A : Ad) (sp__law_names sp__law_house sp__law_state sp__law_changed sp__law_wishes sp__law_draw sp__law_taken sp_trace_shows sp__law_woven_told : Sp) : TS := tSeq (tAsg (tCall sp__law_names [] E0 (tCons (tVar 0) tNil)) (gName 1))
  (tSeq (tAsg (tCall sp__law_house [] E0 (tCons (tVar 0) (tCons (tVar 1) (tCons (tC (.bl true)) tNil)))) (gName 2))
  (tSeq (tFor (iRng2 (tCons (tC (.int 15)) (tCons (tCB (rMax2) (tCons (tC (.int 18)) (tCons (tCB (rMin2) (tCons (tC (.int 40)) (tCons (tCB (rLenU K) (tCons (tVar 0) tNil)) tNil))) tNil))) tNil))) (gName 3) (tSeq (tAsg (tCall sp__law_state [] E0 (tCons (tVar 0) (tCons (tVar 3) tNil))) (gName 4))
  (tSeq (tIfS (tTest (tOp (rGtI) (tVar 3) (tC (.int 15)))) (tAsg (tCall sp__law_changed [] E0 (tCons (tVar 2) (tCons (tVar 1) (tCons (tVar 4) tNil)))) (gName 2))
  (tNext))
  (tSeq (tAsg (tOp (rAddU K) (tCall sp__law_wishes [] E0 (tCons (tVar 4) (tCons (tVar 1) tNil))) (tOp (rRep) (tLst (tCons (tOp (rIxU K) (tVar 1) (tC (.int 12))) tNil)) (tCB (rIntU) (tCons (tOp (rEqU) (tCall sp__law_draw [] E0 (tCons (tVar 4) (tCons (tC (.int 12)) tNil))) (tC (.int 0))) tNil)))) (gName 5))
  (tSeq (tAsg (tCall sp__law_taken [] E0 (tCons (tVar 2) (tCons (tVar 5) (tCons (tVar 4) tNil)))) (gTup K 3 (gCons (gName 6) (gCons (gName 7) (gCons (gName 8) (gNil))))))
  (tSeq (tAsg (tCB (rListOf K) (tCons (tVar 5) tNil)) (gName 9))
  (tSeq (tDrop (tBM K "list" rInsert (tVar 9) (tCons (tCall sp__law_draw [] E0 (tCons (tVar 4) (tCons (tOp (rAddU K) (tCB (rLenU K) (tCons (tVar 9) tNil)) (tC (.int 1))) tNil))) (tCons (tOp (rIxU K) (tVar 1) (tOp (rAddU K) (tC (.int 12)) (tCall sp__law_draw [] E0 (tCons (tVar 4) (tCons (tC (.int 2)) tNil))))) tNil))))
  (tSeq (tIfS (tB (tCall sp_trace_shows [] E0 (tCons (tVar 2) (tCons (tVar 9) (tCons (tVar 6) tNil))))) (tRet (tC (.bl false)))
  (tNext))
  (tSeq (tAsg (tC .non) (gName 10))
  (tSeq (tIfS (tTest (tOp (rIsN) (tVar 8) (tC .non))) (tAsg (tVar 6) (gName 10))
  (tNext))
  (tSeq (tIfS (tTest (tOp (rNeU) (tCall sp__law_woven_told [] E0 (tCons (tVar 2) (tCons (tVar 5) (tCons (tVar 7) tNil)))) (tVar 10))) (tRet (tC (.bl false)))
  (tNext))
  (tFor (iSeq K (tOp (rAddU K) (tLstRg (tRg1 (tCB (rMin2) (tCons (tC (.int 8)) (tCons (tCB (rLenU K) (tCons (tVar 6) tNil)) tNil))))) (tLst (tCons (tCB (rMax2) (tCons (tC (.int 0)) (tCons (tOp (rSubI) (tCB (rLenU K) (tCons (tVar 6) tNil)) (tC (.int 1))) tNil))) (tCons (tCB (rLenU K) (tCons (tVar 6) tNil)) tNil))))) (gName 11) (tSeq (tAsg (tCall sp_trace_shows [] E0 (tCons (tVar 2) (tCons (tVar 5) (tCons (tSl (rSlU K) (tVar 6) tNoPart (tPart (tVar 11))) tNil)))) (gName 12))
  (tIfS (tTest (tOp (rNeU) (tVar 12) (tAndV (tOp (rEqU) (tVar 11) (tCB (rLenU K) (tCons (tVar 6) tNil))) (tOp (rIsN) (tVar 8) (tC .non))))) (tRet (tC (.bl false)))
  (tNext)))))))))))))))
  (tRet (tC (.bl true)))))
theorem fn_law {k : Nat} (T : Tx K mg A) {k__law_names : Nat} {sp__law_names : Sp} (G__law_names : FnOk P w K mg base CX0 k__law_names A.f__law_names A.d__law_names P__law_names sp__law_names) (h__law_names : k__law_names ≤ k) {k__law_house : Nat} {sp__law_house : Sp} (G__law_house : FnOk P w K mg base CX0 k__law_house A.f__law_house A.d__law_house P__law_house sp__law_house) (h__law_house : k__law_house ≤ k) {k__law_state : Nat} {sp__law_state : Sp} (G__law_state : FnOk P w K mg base CX0 k__law_state A.f__law_state A.d__law_state P__law_state sp__law_state) (h__law_state : k__law_state ≤ k) {k__law_changed : Nat} {sp__law_changed : Sp} (G__law_changed : FnOk P w K mg base CX0 k__law_changed A.f__law_changed A.d__law_changed P__law_changed sp__law_changed) (h__law_changed : k__law_changed ≤ k) {k__law_wishes : Nat} {sp__law_wishes : Sp} (G__law_wishes : FnOk P w K mg base CX0 k__law_wishes A.f__law_wishes A.d__law_wishes P__law_wishes sp__law_wishes) (h__law_wishes : k__law_wishes ≤ k) {k__law_draw : Nat} {sp__law_draw : Sp} (G__law_draw : FnOk P w K mg base CX0 k__law_draw A.f__law_draw A.d__law_draw P__law_draw sp__law_draw) (h__law_draw : k__law_draw ≤ k) {k__law_taken : Nat} {sp__law_taken : Sp} (G__law_taken : FnOk P w K mg base CX0 k__law_taken A.f__law_taken A.d__law_taken P__law_taken sp__law_taken) (h__law_taken : k__law_taken ≤ k) {k_trace_shows : Nat} {sp_trace_shows : Sp} (G_trace_shows : FnOk P w K mg base CX0 k_trace_shows A.f_trace_shows A.d_trace_shows P_trace_shows sp_trace_shows) (h_trace_shows : k_trace_shows ≤ k) {k__law_woven_told : Nat} {sp__law_woven_told : Sp} (G__law_woven_told : FnOk P w K mg base CX0 k__law_woven_told A.f__law_woven_told A.d__law_woven_told P__law_woven_told sp__law_woven_told) (h__law_woven_told : k__law_woven_told ≤ k) {sp : Sp} (len : ∀ vs H Q E, sp vs H Q E → vs.length = 1) (h : ∀ vs H Q E, sp vs H Q E → t_law K A sp__law_names sp__law_house sp__law_state sp__law_changed sp__law_wishes sp__law_draw sp__law_taken sp_trace_shows sp__law_woven_told { nx := fun _ H' => Q .non H', rt := Q } (start N_law vs) H) : FnOk P w K mg base CX0 (k + 1) A.f_law A.d_law P_law sp := by
  refine T.d_law.F.ok sc_law len fun cdv A' outer s H vs Q E hr hs => ⟨t_law K A sp__law_names sp__law_house sp__law_state sp__law_changed sp__law_wishes sp__law_draw sp__law_taken sp_trace_shows sp__law_woven_told, ?_, h vs H Q E hs⟩
  have hu := hr.units
  exact pss_cons (ps_set (i := 1) sc_law.nd rfl (by first | exact Or.inl rfl | exact Or.inr rfl) (pe_call G__law_names (hr.mono h__law_names) (by rfl) T.d__law_names.m T.d__law_names.F.kp T.d__law_names.B .nil pass0 (pa_cons (pv 0) pa_nil)))
    (pss_cons (ps_set (i := 2) sc_law.nd rfl (by first | exact Or.inl rfl | exact Or.inr rfl) (pe_call G__law_house (hr.mono h__law_house) (by rfl) T.d__law_house.m T.d__law_house.F.kp T.d__law_house.B .nil pass0 (pa_cons (pv 0) (pa_cons (pv 1) (pa_cons (pe_bl) pa_nil)))))
    (pss_cons (ps_for PassesOwn.never rfl (pi_range2 (by rfl) T.b_range (pa_cons (pe_int) (pa_cons (pe_callB (call_maxU rfl) (by rfl) T.b_max (by decide +kernel) (pa_cons (pe_int) (pa_cons (pe_callB (call_minU rfl) (by rfl) T.b_min (by decide +kernel) (pa_cons (pe_int) (pa_cons (pe_callB call_lenU (by rfl) T.b_len (by decide +kernel) (pa_cons (pv 0) pa_nil)) pa_nil))) pa_nil))) pa_nil))) (pg_name (i := 3) sc_law.nd rfl (by first | exact Or.inl rfl | exact Or.inr rfl)) (pss_cons (ps_set (i := 4) sc_law.nd rfl (by first | exact Or.inl rfl | exact Or.inr rfl) (pe_call G__law_state (hr.mono h__law_state) (by rfl) T.d__law_state.m T.d__law_state.F.kp T.d__law_state.B .nil pass0 (pa_cons (pv 0) (pa_cons (pv 3) pa_nil))))
    (pss_cons (ps_if (pt_cmpR op_gtI (pv 3) (pe_int) (nomark _)) (pss_one (ps_set (i := 2) sc_law.nd rfl (by first | exact Or.inl rfl | exact Or.inr rfl) (pe_call G__law_changed (hr.mono h__law_changed) (by rfl) T.d__law_changed.m T.d__law_changed.F.kp T.d__law_changed.B .nil pass0 (pa_cons (pv 2) (pa_cons (pv 1) (pa_cons (pv 4) pa_nil))))))
    (pss_nil))
    (pss_cons (ps_set (i := 5) sc_law.nd rfl (by first | exact Or.inl rfl | exact Or.inr rfl) (pe_op op_addU (pe_call G__law_wishes (hr.mono h__law_wishes) (by rfl) T.d__law_wishes.m T.d__law_wishes.F.kp T.d__law_wishes.B .nil pass0 (pa_cons (pv 4) (pa_cons (pv 1) pa_nil))) (pe_op op_rep (pe_lst (pa_cons (pe_ix (ix_U hu) (pv 1) (pe_int) (fun _ _ => rfl)) pa_nil)) (pe_callTy call_intU (by rfl) T.b_int (by decide +kernel) (pa_cons (pe_cmpR (op_eqU hu) (pe_call G__law_draw (hr.mono h__law_draw) (by rfl) T.d__law_draw.m T.d__law_draw.F.kp T.d__law_draw.B .nil pass0 (pa_cons (pv 4) (pa_cons (pe_int) pa_nil))) (pe_int) (nomark _)) pa_nil)))))
    (pss_cons (ps_asg (pe_call G__law_taken (hr.mono h__law_taken) (by rfl) T.d__law_taken.m T.d__law_taken.F.kp T.d__law_taken.B .nil pass0 (pa_cons (pv 2) (pa_cons (pv 5) (pa_cons (pv 4) pa_nil)))) (pg_tup rfl (pgs_cons (pg_name (i := 6) sc_law.nd rfl (by first | exact Or.inl rfl | exact Or.inr rfl)) (pgs_cons (pg_name (i := 7) sc_law.nd rfl (by first | exact Or.inl rfl | exact Or.inr rfl)) (pgs_cons (pg_name (i := 8) sc_law.nd rfl (by first | exact Or.inl rfl | exact Or.inr rfl)) (pgs_nil))))))
    (pss_cons (ps_set (i := 9) sc_law.nd rfl (by first | exact Or.inl rfl | exact Or.inr rfl) (pe_callTy call_listOf (by rfl) T.b_list (by decide +kernel) (pa_cons (pv 5) pa_nil)))
    (pss_cons (ps_expr (pe_bm PySem.F.plainAttrs_list PySem.F.slot_list_insert PySem.F.type_list_insert mt_insertU (pv 9) (pa_cons (pe_call G__law_draw (hr.mono h__law_draw) (by rfl) T.d__law_draw.m T.d__law_draw.F.kp T.d__law_draw.B .nil pass0 (pa_cons (pv 4) (pa_cons (pe_op op_addU (pe_callB call_lenU (by rfl) T.b_len (by decide +kernel) (pa_cons (pv 9) pa_nil)) (pe_int)) pa_nil))) (pa_cons (pe_ix (ix_U hu) (pv 1) (pe_op op_addU (pe_int) (pe_call G__law_draw (hr.mono h__law_draw) (by rfl) T.d__law_draw.m T.d__law_draw.F.kp T.d__law_draw.B .nil pass0 (pa_cons (pv 4) (pa_cons (pe_int) pa_nil)))) (fun _ _ => rfl)) pa_nil))))
    (pss_cons (ps_if (pt_val (pe_call G_trace_shows (hr.mono h_trace_shows) (by rfl) T.d_trace_shows.m T.d_trace_shows.F.kp T.d_trace_shows.B .nil pass0 (pa_cons (pv 2) (pa_cons (pv 9) (pa_cons (pv 6) pa_nil))))) (pss_one (ps_ret (pe_bl)))
    (pss_nil))
    (pss_cons (ps_set (i := 10) sc_law.nd rfl (by first | exact Or.inl rfl | exact Or.inr rfl) (pe_non))
    (pss_cons (ps_if (pt_cmpR op_isNn (pv 8) (pe_non) (nomark _)) (pss_one (ps_set (i := 10) sc_law.nd rfl (by first | exact Or.inl rfl | exact Or.inr rfl) (pv 6)))
    (pss_nil))
    (pss_cons (ps_if (pt_cmpR (op_neU hu) (pe_call G__law_woven_told (hr.mono h__law_woven_told) (by rfl) T.d__law_woven_told.m T.d__law_woven_told.F.kp T.d__law_woven_told.B .nil pass0 (pa_cons (pv 2) (pa_cons (pv 5) (pa_cons (pv 7) pa_nil)))) (pv 10) (nomark _)) (pss_one (ps_ret (pe_bl)))
    (pss_nil))
    (pss_one (ps_for PassesOwn.never rfl (pi_or (pi_list (pe_op op_addU (pe_listRg rfl (by rfl) T.b_list (prg_1 (by rfl) T.b_range (pe_callB (call_minU rfl) (by rfl) T.b_min (by decide +kernel) (pa_cons (pe_int) (pa_cons (pe_callB call_lenU (by rfl) T.b_len (by decide +kernel) (pa_cons (pv 6) pa_nil)) pa_nil))))) (pe_lst (pa_cons (pe_callB (call_maxU rfl) (by rfl) T.b_max (by decide +kernel) (pa_cons (pe_int) (pa_cons (pe_op op_subI (pe_callB call_lenU (by rfl) T.b_len (by decide +kernel) (pa_cons (pv 6) pa_nil)) (pe_int)) pa_nil))) (pa_cons (pe_callB call_lenU (by rfl) T.b_len (by decide +kernel) (pa_cons (pv 6) pa_nil)) pa_nil))))) (pi_tup (pe_op op_addU (pe_listRg rfl (by rfl) T.b_list (prg_1 (by rfl) T.b_range (pe_callB (call_minU rfl) (by rfl) T.b_min (by decide +kernel) (pa_cons (pe_int) (pa_cons (pe_callB call_lenU (by rfl) T.b_len (by decide +kernel) (pa_cons (pv 6) pa_nil)) pa_nil))))) (pe_lst (pa_cons (pe_callB (call_maxU rfl) (by rfl) T.b_max (by decide +kernel) (pa_cons (pe_int) (pa_cons (pe_op op_subI (pe_callB call_lenU (by rfl) T.b_len (by decide +kernel) (pa_cons (pv 6) pa_nil)) (pe_int)) pa_nil))) (pa_cons (pe_callB call_lenU (by rfl) T.b_len (by decide +kernel) (pa_cons (pv 6) pa_nil)) pa_nil)))))) (pg_name (i := 11) sc_law.nd rfl (by first | exact Or.inl rfl | exact Or.inr rfl)) (pss_cons (ps_set (i := 12) sc_law.nd rfl (by first | exact Or.inl rfl | exact Or.inr rfl) (pe_call G_trace_shows (hr.mono h_trace_shows) (by rfl) T.d_trace_shows.m T.d_trace_shows.F.kp T.d_trace_shows.B .nil pass0 (pa_cons (pv 2) (pa_cons (pv 5) (pa_cons (pe_slice sl_U (pv 6) po_none (po_some (pv 11))) pa_nil)))))
    (pss_one (ps_if (pt_cmpR (op_neU hu) (pv 12) (pe_and (pe_cmpR (op_eqU hu) (pv 11) (pe_callB call_lenU (by rfl) T.b_len (by decide +kernel) (pa_cons (pv 6) pa_nil)) (nomark _)) (pe_one (pe_cmpR op_isNn (pv 8) (pe_non) (nomark _)))) (nomark _)) (pss_one (ps_ret (pe_bl)))
    (pss_nil)))))))))))))))))
    (pss_one (ps_ret (pe_bl)))))
end

end Law

end
section
set_option maxHeartbeats 4000000
set_option exponentiation.threshold 8000
/-! words: fail "le", "hq" (what stands at an address), "ne" (two addresses differ), "fn" (an address is new to an older heap), "al" (places of a frame), "ni", "frm" (a frame) -/
local macro_rules | `(tactic| fail "le") => `(tactic| first
  | (with_reducible exact U.Le.refl _)
  | ((with_reducible refine U.Le.upd ?_); fail "le")
  | ((with_reducible apply U.Le.fr); (rotate_left 1); (focus assumption); (focus fail "le")))
local macro_rules | `(tactic| fail "fn") => `(tactic| first
  | assumption
  | ((with_reducible apply U.none_le); (rotate_left 1); (focus assumption); (focus fail "le")))
local macro_rules | `(tactic| fail "hq") => `(tactic| first
  | (with_reducible assumption)
  | (with_reducible exact L2.upd_same)
  | ((with_reducible apply U.look_upd); (focus fail "hq"); (focus fail "ne"))
  | ((with_reducible apply U.look_fr); (focus assumption); (focus fail "hq"); (focus fail "ni"))
  | ((with_reducible apply U.look_tup); (focus assumption); (focus fail "hq")))
local macro_rules | `(tactic| fail "hx") => `(tactic| first
  | fail "hq"
  | ((with_reducible apply U.hq_to); (focus fail "hq"); (focus rfl)))
local macro_rules | `(tactic| fail "ni") => `(tactic| first
  | (with_reducible exact U.ni_nil)
  | ((with_reducible refine U.ni_cons ?_ ?_); (focus fail "ne"); (focus fail "ni"))
  | assumption)
local macro_rules | `(tactic| fail "ne") => `(tactic| first
  | (with_reducible assumption)
  | ((with_reducible apply Ne.symm); (focus assumption))
  | ((with_reducible apply U.ne_new); (focus with_reducible assumption); (focus fail "hq"))
  | ((with_reducible apply U.ne_new'); (focus with_reducible assumption); (focus fail "hq"))
  | ((with_reducible apply L2.ne_of); (focus with_reducible assumption); (focus fail "hq"); (focus (intro z; cases z))))
local macro_rules | `(tactic| fail "mem") => `(tactic| first
  | (with_reducible exact U.mem_hd)
  | ((with_reducible refine U.mem_tl ?_); fail "mem")
  | assumption)
local macro_rules | `(tactic| fail "in") => `(tactic| first
  | ((with_reducible apply Or.inl); (focus fail "mem"))
  | ((with_reducible apply Or.inr); (focus fail "fn")))
local macro_rules | `(tactic| fail "al") => `(tactic| first
  | (with_reducible exact U.al_nil)
  | ((with_reducible refine U.al_cons ?_ ?_); (focus fail "in"); (focus fail "al"))
  | assumption)
local macro_rules | `(tactic| fail "frm") => `(tactic| first
  | (with_reducible exact U.Fr.refl _)
  | (with_reducible assumption)
  | ((with_reducible apply U.fr_new); (focus assumption); (focus fail "frm"))
  | ((with_reducible apply U.fr_upd); (focus fail "hq"); (focus rfl); (focus fail "in"); (focus fail "frm"))
  | ((with_reducible apply U.fr_call); (focus assumption); (focus fail "frm"); (focus fail "al")))
local macro_rules | `(tactic| fail "sne") => `(tactic| first
  | assumption
  | decide +kernel
  | ((with_reducible apply U.inr_ne); (focus fail "sne"))
  | ((with_reducible apply Ne.symm); (focus assumption)))
local macro_rules | `(tactic| fail "lk") => `(tactic| first
  | (with_reducible exact U.lk_hit)
  | ((with_reducible apply U.lk_miss); (focus fail "sne"); (focus fail "lk"))
  | (with_reducible exact U.lk_nil)
  | assumption)
local macro_rules | `(tactic| fail "pf") => `(tactic| first
  | (with_reducible exact U.pf_hit)
  | ((with_reducible apply U.pf_miss); (focus fail "sne"); (focus fail "pf"))
  | (with_reducible exact U.pf_nil))
local macro_rules | `(tactic| fail "vv") => `(tactic| first
  | (with_reducible assumption)
  | (with_reducible exact U.vv_hit)
  | ((with_reducible apply U.vv_miss); (focus fail "sne"); (focus fail "vv"))
  | (with_reducible exact U.vv_nil))
local macro_rules | `(tactic| fail "nk") => `(tactic| first
  | (with_reducible exact U.nk_nil)
  | ((with_reducible apply U.nk_cons); (focus fail "sne"); (focus fail "nk")))
local macro_rules | `(tactic| fail "pk") => `(tactic| first
  | ((with_reducible apply U.pk_hit); fail "nk")
  | ((with_reducible apply U.pk_miss); (focus fail "sne"); (focus fail "pk"))
  | (with_reducible exact U.pk_nil))
local macro_rules | `(tactic| fail "at") => `(tactic| first
  | (with_reducible assumption)
  | ((with_reducible apply L2.atI_nat); (focus assumption))
  | rfl)
local macro_rules | `(tactic| fail "sz") => `(tactic| first
  | assumption
  | decide
  | (simp only [List.length_cons, List.length_nil]; decide)
  | (show _ < (16777216 : Nat); omega)
  | (show _ ≤ (16777216 : Nat); omega))
local macro_rules | `(tactic| fail "lf") => `(tactic| first
  | (with_reducible exact U.lf_addI)
  | (with_reducible exact U.lf_sub)
  | (with_reducible exact U.lf_eqI)
  | (with_reducible exact U.lf_eqS)
  | (with_reducible exact U.lf_neI)
  | (with_reducible exact U.lf_neS)
  | (with_reducible exact U.lf_lt)
  | (with_reducible exact U.lf_le)
  | (with_reducible exact U.lf_gt)
  | (with_reducible exact U.lf_ge)
  | (with_reducible exact U.lf_isN)
  | (with_reducible exact U.lf_notN)
  | ((with_reducible apply U.lf_ixT); (focus fail "hq"); (focus fail "at"))
  | ((with_reducible apply U.lf_ixL); (focus fail "hq"); (focus fail "at"))
  | ((with_reducible apply U.lf_ixD); (focus fail "hq"); (focus fail "vv"))
  | ((with_reducible apply U.lf_inD); (focus fail "hq"))
  | ((with_reducible apply U.lf_notInD); (focus fail "hq"))
  | ((with_reducible apply U.lf_inL); (focus fail "hq"))
  | ((with_reducible apply U.lf_notInL); (focus fail "hq"))
  | (with_reducible exact U.lf_inS)
  | (with_reducible exact U.lf_notInS)
  | ((with_reducible apply U.lf_mod); (focus first | assumption | decide | omega))
  | (with_reducible assumption))
local macro_rules | `(tactic| fail "lc") => `(tactic| first
  | ((with_reducible apply U.lc_lenUL); (focus fail "hq"))
  | ((with_reducible apply U.lc_lenUT); (focus fail "hq"))
  | ((with_reducible apply U.lc_lenUD); (focus fail "hq"))
  | ((with_reducible apply U.lc_lenUS); (focus fail "sz"))
  | (with_reducible exact U.lc_intB)
  | (with_reducible exact U.lc_max)
  | (with_reducible assumption))
local macro_rules | `(tactic| fail "va") => `(tactic| first
  | (with_reducible exact U.va_nil)
  | ((with_reducible apply U.va_cons); (focus fail "vt"); (focus fail "va")))
local macro_rules | `(tactic| fail "vt") => `(tactic| first
  | (with_reducible assumption)
  | (with_reducible exact U.val_c)
  | exact U.val_var rfl
  | ((with_reducible apply U.val_op); (focus fail "vt"); (focus fail "vt"); (focus fail "lf"))
  | ((with_reducible apply U.val_fld); (focus fail "vt"); (focus fail "hq"); (focus fail "lk"))
  | ((with_reducible apply U.val_cb); (focus fail "va"); (focus fail "lc"))
  | ((with_reducible apply U.val_get1); (focus fail "vt"); (focus fail "vt"); (focus fail "hq"))
  | ((with_reducible apply U.val_notV); (focus fail "vt"))
  | ((with_reducible apply U.val_andV); (focus fail "vt"); (intro _; fail "vt"))
  | ((with_reducible apply U.val_orV); (focus fail "vt"); (intro _; fail "vt")))
local macro_rules | `(tactic| fail "an") => `(tactic| first
  | (with_reducible assumption)
  | ((with_reducible apply U.ans_T); fail "vt")
  | ((with_reducible apply U.ans_B); fail "vt")
  | ((with_reducible apply U.ans_not); fail "an")
  | ((with_reducible apply U.ans_and); (focus fail "an"); (intro _; fail "an"))
  | ((with_reducible apply U.ans_or); (focus fail "an"); (intro _; fail "an")))
local macro_rules | `(tactic| fail "put") => `(tactic| first
  | fail "pk"
  | ((apply Law.im_put); (focus assumption))
  | ((apply Law.sm_put); (focus assumption)))
local macro_rules | `(tactic| fail "st") => `(tactic| first
  | (with_reducible refine U.st_seq ?_)
  | ((with_reducible apply U.st_asg); (focus fail "vt"); (try dsimp only [List.set]))
  | ((with_reducible apply U.st_ret); (focus fail "vt"); (try dsimp only))
  | ((with_reducible apply U.st_fld); (focus fail "vt"); (focus fail "vt"); (focus fail "hq"); (focus fail "sz"); (focus fail "pf"); (try dsimp only))
  | ((with_reducible apply U.st_fld1); (focus fail "vt"); (focus fail "hq"); (focus fail "sz"); (focus fail "pf"); (try dsimp only))
  | ((with_reducible apply U.st_untup); (focus fail "vt"); (focus fail "hq"); (focus rfl))
  | ((with_reducible refine U.st_gcons ?_); (try dsimp only))
  | ((with_reducible refine U.st_gname ?_); (try dsimp only [List.set]))
  | ((with_reducible refine U.st_gnil ?_); (try dsimp only))
  | ((with_reducible apply U.st_gf); (focus fail "vt"); (focus fail "hq"); (focus fail "sz"); (focus fail "pf"); (try dsimp only))
  | ((with_reducible refine U.st_next ?_); (try dsimp only))
  | (with_reducible refine U.st_drop ?_)
  | ((with_reducible apply U.st_append); (focus fail "vt"); (focus fail "hq"); (focus fail "vt"); (focus fail "sz"); (try dsimp only))
  | ((with_reducible apply U.st_setDL); (focus fail "vt"); (focus fail "vt"); (focus fail "vt"); (focus fail "hq"); (focus fail "sz"); (focus fail "put"); (try dsimp only))
  | ((with_reducible apply U.st_set1); (focus fail "vt"); (focus fail "vt"); (focus fail "hq"); (focus fail "sz"); (focus fail "put"); (try dsimp only))
  | ((with_reducible apply U.st_call); (focus fail "va"))
  | ((with_reducible apply U.st_methV); (focus fail "vt"); (focus fail "hq"); (focus fail "lk"); (focus fail "va"))
  | (with_reducible refine U.st_fldE ?_)
  | (with_reducible refine U.st_setE ?_)
  | (with_reducible refine U.st_asgC ?_)
  | (with_reducible refine U.st_retC ?_)
  | ((with_reducible refine U.st_dnew ?_); (intro p hp); (try dsimp only))
  | ((with_reducible apply U.st_tup); (focus fail "va"); (focus fail "sz"); (intro p hp); (try dsimp only))
  | ((with_reducible apply U.st_lst); (focus fail "va"); (focus fail "sz"); (intro p hp); (try dsimp only))
  | ((with_reducible apply U.st_listOf); (focus fail "va"); (focus fail "hq"); (intro p hp); (try dsimp only))
  | ((with_reducible apply U.st_dictOf); (focus fail "va"); (focus fail "hq"); (intro p hp); (try dsimp only))
  | ((with_reducible apply U.st_apE); (focus fail "vt"); (focus fail "hq"))
  | ((with_reducible apply U.st_ap1); (focus fail "hq"); (focus fail "sz"); (try dsimp only)))
local macro_rules | `(tactic| fail "go") => `(tactic| repeat fail "st")

namespace Law
open PySem PySem.Spec PyProof.Rows L2 U
def prT (p : Str × Int) : T := .tup [.str p.1, .int p.2]
def RdsAt (H : Hp) (ra : Addr) (reads : List (Str × Int)) : Prop := ∃ vs, H ra = some (.lst vs) ∧ RpL H (reads.map prT) vs
def lackV : Option Str → V
  | none => .non
  | some x => .str x
def numV : Option Int → V
  | none => .non
  | some n => .int n
def GoAt (C : Addr) (H : Hp) (a ra hd : Addr) (g : Go) : Prop := ∃ dx, H a = some (.ins C dx [("reads", .ref ra), ("had", .ref hd), ("lacking", lackV g.lack)]) ∧ H hd = some (.dK (im g.had))

def sp_gInit (A : Ad) : Sp := fun vs H Q _ => ∃ (a dx ra : Addr), vs = [.ref a, .ref ra] ∧ H a = some (.ins A.C_Going dx []) ∧ ∀ H' hd, H hd = none → Fr [a] H H' → GoAt A.C_Going H' a ra hd ⟨[], none⟩ → Q .non H'
theorem r_Going_init {K : PySem.W.Frag} {A : Ad} (vs : List V) (H : Hp) (Q : VK) (E : XK) (h : sp_gInit A vs H Q E) : t_Going_init K A { nx := fun _ H' => Q .non H', rt := Q } (start N_Going_init vs) H := by
  obtain ⟨a, dx, ra, rfl, ha, k⟩ := h
  fail "go"
  exact k _ _ (by fail "fn") (by fail "frm") ⟨_, by fail "hx", by fail "hx"⟩
/-- going.look(name) -/
def sp_look (A : Ad) : Sp := fun vs H Q _ => ∃ (a ra hd : Addr) (x : Str) (g g' : Go) (reads : List (Str × Int)) (v : Option Int), vs = [.ref a, .str x] ∧ GoAt A.C_Going H a ra hd g ∧ RdsAt H ra reads ∧ g.had.length ≤ reads.length ∧ reads.length ≤ 1000 ∧
  lookG reads g x = some (v, g') ∧ ∀ H', Fr [a, hd] H H' → GoAt A.C_Going H' a ra hd g' → Q (numV v) H'
theorem r_Going_look {K : PySem.W.Frag} {A : Ad} (vs : List V) (H : Hp) (Q : VK) (E : XK) (h : sp_look A vs H Q E) : t_Going_look K A { nx := fun _ H' => Q .non H', rt := Q } (start N_Going_look vs) H := by
  obtain ⟨a, ra, hd, x, ⟨had, lack⟩, g', reads, v, rfl, ⟨dx, ha, hh⟩, ⟨rs, hr, hR⟩, hl, hz, e, k⟩ := h
  have eL : rs.length = reads.length := by rw [← hR.len, List.length_map]
  unfold lookG at e
  dsimp only at hl ha hh e
  fail "st"
  refine st_ifT (by fail "an") (fun q => ?_) fun q => ?_
  · rw [im_get] at q
    cases ev : had.lookup x with
    | none => rw [ev] at q; cases q
    | some n =>
      have e1 : valV (im had) (.inr x) = some (.int n) := by rw [im_get, ev]; rfl
      simp only [ev] at e
      cases e
      fail "go"
      exact k _ (Fr.refl _) ⟨_, ha, hh⟩
  · rw [im_get] at q
    cases ev : had.lookup x with
    | some n => rw [ev] at q; cases q
    | none =>
      simp only [ev] at e
      fail "go"
      refine st_ifT (by fail "an") (fun q => ?_) fun q => ?_
      · have q := of_decide_eq_true q
        rw [im_len] at q
        have e2 : reads[had.length]? = none := List.getElem?_eq_none_iff.mpr (by omega)
        simp only [e2] at e
        cases e
        fail "go"
        exact k _ (by fail "frm") ⟨_, by fail "hx", by fail "hx"⟩
      · have q := of_decide_eq_false q
        rw [im_len] at q
        have hlt : had.length < reads.length := by omega
        rcases hp : reads[had.length] with ⟨y, n⟩
        have e2 : reads[had.length]? = some (y, n) := by rw [List.getElem?_eq_getElem hlt, hp]
        simp only [e2] at e
        obtain ⟨u, eu, p, ws, rfl, hp2, hw⟩ := hR.get (j := had.length) (t := prT (y, n)) (by rw [List.getElem?_map, e2]; rfl)
        obtain ⟨_, _, rfl, rfl, _, _, rfl, rfl, rfl⟩ := hw
        have at1 : atI rs ((im had).length : Int) = some (.ref p) := by rw [im_len]; exact atI_nat eu
        fail "go"
        split at e
        · rename_i ey
          subst ey
          cases e
          refine st_ifT (by fail "an") (fun q => absurd q (by simp)) fun q => ?_
          have hz1 : (im had).length < sizeLine := by rw [im_len]; show _ < (16777216 : Nat); omega
          fail "go"
          exact k _ (by fail "frm") ⟨_, by fail "hx", by fail "hx"⟩
        · cases e

theorem Rc.imm : ∀ r : Rc, imm r.t = true
  | .num _ => rfl
  | .rd _ => rfl
  | .two k a b => by show (true && (U.imm a.t && (U.imm b.t && true))) = true; rw [a.imm, b.imm]; rfl
  | .pick a b c => by show (true && (U.imm a.t && (U.imm b.t && (U.imm c.t && true)))) = true; rw [a.imm, b.imm, c.imm]; rfl
  | .choose a xs => by
    have e : ∀ xs : List Str, immL (xs.map T.str) = true := fun xs => by
      induction xs with
      | nil => rfl
      | cons x xs ih => show (true && immL (xs.map T.str)) = true; rw [ih]; rfl
    show (true && (U.imm a.t && (immL (xs.map T.str) && true))) = true
    rw [a.imm, e]
    rfl
theorem rp_fr {F : List Addr} {H H' : Hp} {r : Rc} {v : V} (f : Fr F H H') (h : Rp H r.t v) : Rp H' r.t v := Rp.tups f.tup _ _ r.imm h
theorem prs_imm : ∀ l : List (Str × Int), immL (l.map prT) = true
  | [] => rfl
  | p :: l => by show (true && immL (l.map prT)) = true; rw [prs_imm l]; rfl
theorem RdsAt.fr {F : List Addr} {H H' : Hp} {ra : Addr} {l : List (Str × Int)} (f : Fr F H H') (h : RdsAt H ra l) (n : ra ∉ F) : RdsAt H' ra l := by
  obtain ⟨vs, h1, h2⟩ := h
  exact ⟨vs, f.keep _ _ h1 n, RpL.tups f.tup _ _ (prs_imm l) h2⟩
theorem lookG_len {reads : List (Str × Int)} {g g' : Go} {x : Str} {v : Option Int} (h : lookG reads g x = some (v, g')) (hl : g.had.length ≤ reads.length) : g'.had.length ≤ reads.length := by
  unfold lookG at h
  split at h
  · cases h; exact hl
  · split at h
    · cases h; exact hl
    · rename_i e
      split at h
      · cases h
        have := (List.getElem?_eq_some_iff.mp e).1
        simp
        omega
      · cases h
theorem worthG_len {reads : List (Str × Int)} : ∀ (r : Rc) (g g' : Go) (v : Option Int), worthG reads r g = some (v, g') → g.had.length ≤ reads.length → g'.had.length ≤ reads.length
  | .num n, g, g', v, h, hl => by cases h; exact hl
  | .rd x, g, g', v, h, hl => lookG_len h hl
  | .two k a b, g, g', v, h, hl => by
    unfold worthG at h
    split at h
    · cases h
    · rename_i e; cases h; exact worthG_len a _ _ _ e hl
    · rename_i e
      have l1 := worthG_len a _ _ _ e hl
      split at h
      · cases h
      · rename_i e; cases h; exact worthG_len b _ _ _ e l1
      · rename_i e; cases h; exact worthG_len b _ _ _ e l1
  | .pick a b c, g, g', v, h, hl => by
    unfold worthG at h
    split at h
    · cases h
    · rename_i e; cases h; exact worthG_len a _ _ _ e hl
    · rename_i e
      have l1 := worthG_len a _ _ _ e hl
      split at h
      · exact worthG_len c _ _ _ h l1
      · exact worthG_len b _ _ _ h l1
  | .choose a xs, g, g', v, h, hl => by
    unfold worthG at h
    split at h
    · cases h
    · rename_i e; cases h; exact worthG_len a _ _ _ e hl
    · rename_i e
      have l1 := worthG_len a _ _ _ e hl
      split at h
      · cases h
      · exact lookG_len h l1
/-- what stands around a going -/
structure GPre (A : Ad) (H : Hp) (a ra hd : Addr) (g : Go) (reads : List (Str × Int)) (M : Nat) : Prop where
  go : GoAt A.C_Going H a ra hd g
  rds : RdsAt H ra reads
  len : g.had.length ≤ reads.length
  sz : reads.length ≤ 1000
  br : Bd M reads
  bh : Bd M g.had
theorem GPre.ra_ni {A : Ad} {H : Hp} {a ra hd : Addr} {g : Go} {reads : List (Str × Int)} {M : Nat} (p : GPre A H a ra hd g reads M) : ra ∉ [a, hd] := by
  obtain ⟨dx, h1, h2⟩ := p.go
  obtain ⟨vs, h3, _⟩ := p.rds
  fail "ni"
theorem GPre.next {A : Ad} {H H' : Hp} {a ra hd : Addr} {g g' : Go} {reads : List (Str × Int)} {M : Nat} {r : Rc} {v : Option Int} (p : GPre A H a ra hd g reads M) (f : Fr [a, hd] H H') (go : GoAt A.C_Going H' a ra hd g') (s : Sm M r) (e : worthG reads r g = some (v, g')) : GPre A H' a ra hd g' reads M :=
  ⟨go, p.rds.fr f p.ra_ni, worthG_len r _ _ _ e p.len, p.sz, p.br, (worthG_bd p.br r _ _ _ s p.bh e).1⟩
def sp_worth (A : Ad) (n : Nat) : Sp := fun vs H Q _ => ∃ (a ra hd : Addr) (r : Rc) (rv : V) (g g' : Go) (reads : List (Str × Int)) (v : Option Int) (M : Nat), vs = [.ref a, rv] ∧ GPre A H a ra hd g reads M ∧ Rp H r.t rv ∧ r.dp < n ∧ Sm M r ∧ M + wb r ≤ 4000 ∧
  worthG reads r g = some (v, g') ∧ ∀ H', Fr [a, hd] H H' → GoAt A.C_Going H' a ra hd g' → Q (numV v) H'
def sp_two (A : Ad) (n : Nat) : Sp := fun vs H Q _ => ∃ (a ra hd : Addr) (k : Tw) (i : Int) (r : Rc) (rv : V) (g g' : Go) (reads : List (Str × Int)) (v : Option Int) (M : Nat), vs = [.ref a, .str k.str, .int i, rv] ∧ GPre A H a ra hd g reads M ∧ Rp H r.t rv ∧ r.dp < n ∧ Sm M r ∧ M + wb r ≤ 4000 ∧
  i.natAbs < 2 ^ 4000 ∧ worthG reads r g = some (v, g') ∧ ∀ H', Fr [a, hd] H H' → GoAt A.C_Going H' a ra hd g' → Q (numV (v.map fun j => k.op i j)) H'
theorem mul_ok {i j : Int} (hi : i.natAbs < 2 ^ 4000) (hj : j.natAbs < 2 ^ 4000) : CMulW i j := wide_mul hi hj (by decide) (by decide) (by decide)
theorem plus_ne (k : Tw) (h : ¬ k = .plus) : ¬ k.str = "plus" := by cases k <;> first | exact absurd rfl h | decide +kernel
theorem minus_ne (k : Tw) (h : ¬ k = .minus) : ¬ k.str = "minus" := by cases k <;> first | exact absurd rfl h | decide +kernel
theorem times_ne (k : Tw) (h : ¬ k = .times) : ¬ k.str = "times" := by cases k <;> first | exact absurd rfl h | decide +kernel
theorem r_Going_two {K : PySem.W.Frag} {A : Ad} {n : Nat} (vs : List V) (H : Hp) (Q : VK) (E : XK) (h : sp_two A n vs H Q E) : t_Going_two K A (sp_worth A n) { nx := fun _ H' => Q .non H', rt := Q } (start N_Going_two vs) H := by
  obtain ⟨a, ra, hd, k, i, r, rv, g, g', reads, v, M, rfl, p, hr, hd', hs, hM, hi, e, kk⟩ := h
  obtain ⟨dx, ha, _⟩ := id p.go
  have bd := worthG_bd p.br r _ _ _ hs p.bh e
  fail "go"
  refine ⟨a, ra, hd, r, rv, g, g', reads, v, M, rfl, p, hr, hd', hs, hM, e, fun H' f go => ?_⟩
  dsimp only
  fail "st"
  cases v with
  | none =>
    refine st_ifT (by fail "an") (fun _ => ?_) fun q => absurd q (by simp [numV])
    fail "go"
    exact kk H' f go
  | some j =>
    have hj : j.natAbs < 2 ^ 4000 := Nat.lt_of_lt_of_le (bd.2 j rfl).1 (two_pow_le hM)
    refine st_ifT (by fail "an") (fun q => absurd q (by simp [numV])) fun _ => ?_
    fail "go"
    have hm := mul_ok hi hj
    have em : Lf rMulI (.int i) (.int j) H' (.int (i * j)) := lf_mul hm
    have e4 : Val (tVar 4) (List.set (start N_Going_two [.ref a, .str k.str, .int i, rv]) 4 (some (numV (some j)))) H' (.int j) := val_var rfl
    cases k with
    | plus =>
      refine st_ifT (by fail "an") (fun _ => ?_) fun q => absurd q (by simp [Tw.str])
      fail "go"
      exact kk H' f go
    | minus =>
      refine st_ifT (by fail "an") (fun q => absurd (of_decide_eq_true q) (by decide +kernel)) fun _ => ?_
      fail "go"
      refine st_ifT (by fail "an") (fun _ => ?_) fun q => absurd q (by simp [Tw.str])
      fail "go"
      exact kk H' f go
    | times =>
      refine st_ifT (by fail "an") (fun q => absurd (of_decide_eq_true q) (by decide +kernel)) fun _ => ?_
      fail "go"
      refine st_ifT (by fail "an") (fun q => absurd (of_decide_eq_true q) (by decide +kernel)) fun _ => ?_
      fail "go"
      refine st_ifT (by fail "an") (fun _ => ?_) fun q => absurd q (by simp [Tw.str])
      fail "go"
      exact kk H' f go
    | most =>
      refine st_ifT (by fail "an") (fun q => absurd (of_decide_eq_true q) (by decide +kernel)) fun _ => ?_
      fail "go"
      refine st_ifT (by fail "an") (fun q => absurd (of_decide_eq_true q) (by decide +kernel)) fun _ => ?_
      fail "go"
      refine st_ifT (by fail "an") (fun q => absurd (of_decide_eq_true q) (by decide +kernel)) fun _ => ?_
      fail "go"
      exact kk H' f go
theorem r_Going_worth {K : PySem.W.Frag} {A : Ad} {n : Nat} (vs : List V) (H : Hp) (Q : VK) (E : XK) (h : sp_worth A (n + 1) vs H Q E) : t_Going_worth K A (sp_look A) (sp_worth A n) (sp_two A n) { nx := fun _ H' => Q .non H', rt := Q } (start N_Going_worth vs) H := by
  obtain ⟨a, ra, hd, r, rv, g, g', reads, v, M, rfl, p, hr, hd', hs, hM, e, kk⟩ := h
  obtain ⟨dx, ha, _⟩ := id p.go
  cases r with
  | num c =>
    obtain ⟨q, ws, rfl, hq, hw⟩ := hr
    obtain ⟨_, _, rfl, rfl, _, _, rfl, rfl, rfl⟩ := hw
    cases e
    fail "go"
    refine st_ifT (by fail "an") (fun _ => ?_) fun q => absurd q (by simp)
    fail "go"
    exact kk H (Fr.refl _) p.go
  | rd x =>
    obtain ⟨q, ws, rfl, hq, hw⟩ := hr
    obtain ⟨_, _, rfl, rfl, _, _, rfl, rfl, rfl⟩ := hw
    fail "go"
    refine st_ifT (by fail "an") (fun q => absurd (of_decide_eq_true q) (by decide +kernel)) fun _ => ?_
    fail "go"
    refine st_ifT (by fail "an") (fun _ => ?_) fun q => absurd q (by simp)
    fail "go"
    exact ⟨a, ra, hd, x, g, g', reads, v, rfl, p.go, p.rds, p.len, p.sz, e, kk⟩
  | two k b c =>
    obtain ⟨q, ws, rfl, hq, hw⟩ := hr
    obtain ⟨_, _, rfl, rfl, bv, _, rfl, hb, cv, _, rfl, hc, rfl⟩ := hw
    obtain ⟨st, sb, sc⟩ := hs
    have nk1 : ¬ k.str = "number" := by cases k <;> decide +kernel
    have nk2 : ¬ k.str = "read" := by cases k <;> decide +kernel
    have nk3 : ¬ k.str = "choose" := by cases k <;> decide +kernel
    have nk4 : ¬ k.str = "pick" := by cases k <;> decide +kernel
    have w1 : wb b + 2 ≤ wb (.two k b c) := by show _ ≤ max (wb b) (wb c) + 2; omega
    have w2 : wb c + 2 ≤ wb (.two k b c) := by show _ ≤ max (wb b) (wb c) + 2; omega
    have d1 : b.dp < n := by have : max b.dp c.dp + 1 < n + 1 := hd'; omega
    have d2 : c.dp < n := by have : max b.dp c.dp + 1 < n + 1 := hd'; omega
    fail "go"
    refine st_ifT (by fail "an") (fun q => absurd (of_decide_eq_true q) nk1) fun _ => ?_
    fail "go"
    refine st_ifT (by fail "an") (fun q => absurd (of_decide_eq_true q) nk2) fun _ => ?_
    fail "go"
    unfold worthG at e
    rcases eb : worthG reads b g with _ | ⟨v1, g1⟩
    · rw [eb] at e; cases e
    · rw [eb] at e
      try dsimp only at e
      refine ⟨a, ra, hd, b, bv, g, g1, reads, v1, M, rfl, p, hb, d1, sb, by omega, eb, fun H1 f1 go1 => ?_⟩
      have p1 := p.next f1 go1 sb eb
      have bd := worthG_bd p.br b _ _ _ sb p.bh eb
      obtain ⟨dx1, ha1, _⟩ := id go1
      cases v1 with
      | none =>
        cases e
        fail "go"
        refine st_ifT (by fail "an") (fun _ => ?_) fun q => absurd q (by simp [numV])
        fail "go"
        exact kk H1 f1 go1
      | some i =>
        dsimp only at e
        have hi : i.natAbs < 2 ^ 4000 := Nat.lt_of_lt_of_le (bd.2 i rfl).1 (two_pow_le (by omega))
        fail "go"
        refine st_ifT (by fail "an") (fun q => absurd q (by simp [numV])) fun _ => ?_
        fail "go"
        refine st_ifT (by fail "an") (fun q => absurd (of_decide_eq_true q) nk3) fun _ => ?_
        fail "go"
        refine st_ifT (by fail "an") (fun q => absurd (of_decide_eq_true q) nk4) fun _ => ?_
        fail "go"
        rcases ec : worthG reads c g1 with _ | ⟨v2, g2⟩
        · rw [ec] at e; cases e
        · rw [ec] at e
          have eg : g2 = g' ∧ v = v2.map fun j => k.op i j := by
            cases v2 with
            | none => cases e; exact ⟨rfl, rfl⟩
            | some j => cases e; exact ⟨rfl, rfl⟩
          obtain ⟨rfl, rfl⟩ := eg
          exact ⟨a, ra, hd, k, i, c, cv, g1, g2, reads, v2, M, rfl, p1, rp_fr f1 hc, d2, sc, by omega, hi, ec, fun H2 f2 go2 => kk H2 (f1.trans f2) go2⟩
  | pick b c d =>
    obtain ⟨q, ws, rfl, hq, hw⟩ := hr
    obtain ⟨_, _, rfl, rfl, bv, _, rfl, hb, cv, _, rfl, hc, dv, _, rfl, hdd, rfl⟩ := hw
    obtain ⟨sb, sc, sd⟩ := hs
    have w1 : wb b ≤ wb (.pick b c d) := Nat.le_max_left _ _
    have w2 : wb c ≤ wb (.pick b c d) := Nat.le_trans (Nat.le_max_left _ _) (Nat.le_max_right _ _)
    have w3 : wb d ≤ wb (.pick b c d) := Nat.le_trans (Nat.le_max_right _ _) (Nat.le_max_right _ _)
    have dd : max b.dp (max c.dp d.dp) + 1 < n + 1 := hd'
    fail "go"
    refine st_ifT (by fail "an") (fun q => absurd (of_decide_eq_true q) (by decide +kernel)) fun _ => ?_
    fail "go"
    refine st_ifT (by fail "an") (fun q => absurd (of_decide_eq_true q) (by decide +kernel)) fun _ => ?_
    fail "go"
    unfold worthG at e
    rcases eb : worthG reads b g with _ | ⟨v1, g1⟩
    · rw [eb] at e; cases e
    · rw [eb] at e
      try dsimp only at e
      refine ⟨a, ra, hd, b, bv, g, g1, reads, v1, M, rfl, p, hb, by omega, sb, by omega, eb, fun H1 f1 go1 => ?_⟩
      have p1 := p.next f1 go1 sb eb
      obtain ⟨dx1, ha1, _⟩ := id go1
      cases v1 with
      | none =>
        cases e
        fail "go"
        refine st_ifT (by fail "an") (fun _ => ?_) fun q => absurd q (by simp [numV])
        fail "go"
        exact kk H1 f1 go1
      | some i =>
        dsimp only at e
        fail "go"
        refine st_ifT (by fail "an") (fun q => absurd q (by simp [numV])) fun _ => ?_
        fail "go"
        refine st_ifT (by fail "an") (fun q => absurd (of_decide_eq_true q) (by decide +kernel)) fun _ => ?_
        fail "go"
        refine st_ifT (by fail "an") (fun _ => ?_) fun q => absurd q (by simp)
        by_cases hi : i ≤ 0
        · rw [if_pos hi] at e
          have at1 : atI [V.str "pick", bv, cv, dv] (2 + if decide (i ≤ 0) = true then 1 else 0) = some dv := by rw [decide_eq_true hi]; rfl
          have e4 : Val (tVar 2) (List.set (start N_Going_worth [.ref a, .ref q]) 2 (some (numV (some i)))) H1 (.int i) := val_var rfl
          fail "go"
          exact ⟨a, ra, hd, d, dv, g1, g', reads, v, M, rfl, p1, rp_fr f1 hdd, by omega, sd, by omega, e, fun H2 f2 go2 => kk H2 (f1.trans f2) go2⟩
        · rw [if_neg hi] at e
          have at1 : atI [V.str "pick", bv, cv, dv] (2 + if decide (i ≤ 0) = true then 1 else 0) = some cv := by rw [decide_eq_false hi]; rfl
          have e4 : Val (tVar 2) (List.set (start N_Going_worth [.ref a, .ref q]) 2 (some (numV (some i)))) H1 (.int i) := val_var rfl
          fail "go"
          exact ⟨a, ra, hd, c, cv, g1, g', reads, v, M, rfl, p1, rp_fr f1 hc, by omega, sc, by omega, e, fun H2 f2 go2 => kk H2 (f1.trans f2) go2⟩
  | choose b xs =>
    obtain ⟨q, ws, rfl, hq, hw⟩ := hr
    obtain ⟨_, _, rfl, rfl, bv, _, rfl, hb, _, _, rfl, ⟨q2, us, rfl, hq2, hu⟩, rfl⟩ := hw
    obtain ⟨sb, hx⟩ := hs
    have eu : us = xs.map V.str := by
      have gen : ∀ (xs : List Str) (us : List V), RpL H (xs.map T.str) us → us = xs.map V.str := fun xs => by
        induction xs with
        | nil => intro us h; exact h
        | cons x xs ih =>
          intro us h
          obtain ⟨_, r, rfl, rfl, h⟩ := h
          rw [ih r h]
          rfl
      exact gen xs us hu
    subst eu
    have dd : b.dp + 1 < n + 1 := hd'
    have w1 : wb b ≤ wb (.choose b xs) := Nat.le_refl _
    fail "go"
    refine st_ifT (by fail "an") (fun q => absurd (of_decide_eq_true q) (by decide +kernel)) fun _ => ?_
    fail "go"
    refine st_ifT (by fail "an") (fun q => absurd (of_decide_eq_true q) (by decide +kernel)) fun _ => ?_
    fail "go"
    unfold worthG at e
    rcases eb : worthG reads b g with _ | ⟨v1, g1⟩
    · rw [eb] at e; cases e
    · rw [eb] at e
      try dsimp only at e
      refine ⟨a, ra, hd, b, bv, g, g1, reads, v1, M, rfl, p, hb, by omega, sb, by omega, eb, fun H1 f1 go1 => ?_⟩
      have p1 := p.next f1 go1 sb eb
      obtain ⟨dx1, ha1, _⟩ := id go1
      cases v1 with
      | none =>
        cases e
        fail "go"
        refine st_ifT (by fail "an") (fun _ => ?_) fun q => absurd q (by simp [numV])
        fail "go"
        exact kk H1 f1 go1
      | some i =>
        dsimp only at e
        fail "go"
        refine st_ifT (by fail "an") (fun q => absurd q (by simp [numV])) fun _ => ?_
        fail "go"
        refine st_ifT (by fail "an") (fun _ => ?_) fun q => absurd q (by simp)
        have hl : (0 : Int) < ((xs.map V.str).length : Int) := by rw [List.length_map]; omega
        have e4 : Val (tVar 2) (List.set (start N_Going_worth [.ref a, .ref q]) 2 (some (numV (some i)))) H1 (.int i) := val_var rfl
        rcases ex : xs[(i % (xs.length : Int)).toNat]? with _ | x
        · rw [ex] at e; cases e
        · rw [ex] at e
          dsimp only at e
          have at1 : atI (xs.map V.str) (i % ((xs.map V.str).length : Int)) = some (.str x) := by
            rw [List.length_map]
            have h0 : 0 ≤ i % (xs.length : Int) := Int.emod_nonneg _ (by omega)
            refine at_of (j := (i % (xs.length : Int)).toNat) (by omega) ?_
            rw [List.getElem?_map, ex]
            rfl
          fail "go"
          exact ⟨a, ra, hd, x, g1, g', reads, v, rfl, p1.go, p1.rds, p1.len, p1.sz, e, fun H2 f2 go2 => kk H2 (f1.trans f2) go2⟩
/-- behind(r, reads) -/
def sp_behind (A : Ad) (n : Nat) : Sp := fun vs H Q _ => ∃ (ra : Addr) (r : Rc) (rv : V) (reads : List (Str × Int)) (t : Told) (M : Nat), vs = [rv, .ref ra] ∧ RdsAt H ra reads ∧ reads.length ≤ 1000 ∧ Bd M reads ∧ Rp H r.t rv ∧ r.dp < n ∧ Sm M r ∧ M + wb r ≤ 4000 ∧
  behindG r reads = some t ∧ ∀ H' v, Fr [] H H' → Rp H' t.t v → Q v H'
theorem r_behind {K : PySem.W.Frag} {A : Ad} {n : Nat} (vs : List V) (H : Hp) (Q : VK) (E : XK) (h : sp_behind A n vs H Q E) : t_behind K A (sp_gInit A) (sp_worth A n) { nx := fun _ H' => Q .non H', rt := Q } (start N_behind vs) H := by
  obtain ⟨ra, r, rv, reads, t, M, rfl, hr, hz, hb, hp, hd, hs, hM, e, k⟩ := h
  unfold behindG at e
  fail "go"
  refine st_makeC (by fail "va") fun a dx na nd ne nx => ?_
  have ra0 : H ra ≠ none := by obtain ⟨vs, h1, _⟩ := hr; rw [h1]; exact fun z => nomatch z
  have fx : Fr [] H (upd (upd H dx (.own a)) a (.ins A.C_Going dx [])) := by fail "frm"
  have na1 : ¬ ra = a := fun z => ra0 (by rw [z]; exact na)
  refine ⟨a, dx, ra, rfl, by fail "hq", fun H1 h1 n1 f1 go1 => ⟨rfl, ?_⟩⟩
  have f1' : Fr [] H H1 := fx.call f1 (by fail "al")
  have h1n : H h1 = none := by fail "fn"
  obtain ⟨dx1, ha1, hh1⟩ := id go1
  fail "go"
  rcases ew : worthG reads r ⟨[], none⟩ with _ | ⟨v, g⟩
  · rw [ew] at e; cases e
  · rw [ew] at e
    have p : GPre A H1 a ra h1 ⟨[], none⟩ reads M := ⟨go1, hr.fr f1' (by simp), Nat.zero_le _, hz, hb, fun _ m => nomatch m⟩
    refine ⟨a, ra, h1, r, rv, _, g, reads, v, M, rfl, p, rp_fr f1' hp, hd, hs, hM, ew, fun H2 f2 go2 => ?_⟩
    have p2 := p.next f2 go2 hs ew
    obtain ⟨dx2, ha2, hh2⟩ := id go2
    obtain ⟨rs, hr2, hR2⟩ := id p2.rds
    have eL : rs.length = reads.length := by rw [← hR2.len, List.length_map]
    have f2' : Fr [] H H2 := f1'.call f2 (by fail "al")
    obtain ⟨had, lack⟩ := g
    try dsimp only at e ha2 hh2
    cases lack with
    | some x =>
      cases e
      have ha3 : H2 a = some (.ins A.C_Going dx2 [("reads", .ref ra), ("had", .ref h1), ("lacking", .str x)]) := ha2
      clear ha2
      fail "go"
      refine st_ifT (by fail "an") (fun _ => ?_) fun q => absurd q (by simp)
      fail "go"
      exact k _ _ (by fail "frm") ⟨_, _, rfl, by fail "hx", _, _, rfl, rfl, _, _, rfl, rfl, rfl⟩
    | none =>
      have ha3 : H2 a = some (.ins A.C_Going dx2 [("reads", .ref ra), ("had", .ref h1), ("lacking", .non)]) := ha2
      clear ha2
      have e : (if had.length < reads.length then none else match v with | some n => some (Told.worth n) | none => none) = some t := e
      fail "go"
      refine st_ifT (by fail "an") (fun q => absurd q (by simp)) fun _ => ?_
      fail "go"
      by_cases hl : had.length < reads.length
      · rw [if_pos hl] at e; cases e
      · rw [if_neg hl] at e
        refine st_ifT (by fail "an") (fun q => ?_) fun _ => ?_
        · have q := of_decide_eq_true q
          rw [im_len] at q
          exact absurd (show had.length < reads.length by omega) hl
        · cases v with
          | none => cases e
          | some n =>
            cases e
            fail "go"
            exact k _ _ (by fail "frm") ⟨_, _, rfl, by fail "hx", _, _, rfl, rfl, _, _, rfl, rfl, rfl⟩
end Law

end
section
set_option maxHeartbeats 4000000
/-! words: fail "le", "hq" (what stands at an address), "ne" (two addresses differ), "fn" (an address is new to an older heap), "al" (places of a frame), "ni", "frm" (a frame) -/
local macro_rules | `(tactic| fail "le") => `(tactic| first
  | (with_reducible exact U.Le.refl _)
  | ((with_reducible refine U.Le.upd ?_); fail "le")
  | ((with_reducible apply U.Le.fr); (rotate_left 1); (focus assumption); (focus fail "le")))
local macro_rules | `(tactic| fail "fn") => `(tactic| first
  | assumption
  | ((with_reducible apply U.none_le); (rotate_left 1); (focus assumption); (focus fail "le")))
local macro_rules | `(tactic| fail "hq") => `(tactic| first
  | (with_reducible assumption)
  | (with_reducible exact L2.upd_same)
  | ((with_reducible apply U.look_upd); (focus fail "hq"); (focus fail "ne"))
  | ((with_reducible apply U.look_fr); (focus assumption); (focus fail "hq"); (focus fail "ni"))
  | ((with_reducible apply U.look_tup); (focus assumption); (focus fail "hq")))
local macro_rules | `(tactic| fail "hx") => `(tactic| first
  | fail "hq"
  | ((with_reducible apply U.hq_to); (focus fail "hq"); (focus rfl)))
local macro_rules | `(tactic| fail "ni") => `(tactic| first
  | (with_reducible exact U.ni_nil)
  | ((with_reducible refine U.ni_cons ?_ ?_); (focus fail "ne"); (focus fail "ni"))
  | assumption)
local macro_rules | `(tactic| fail "ne") => `(tactic| first
  | (with_reducible assumption)
  | ((with_reducible apply Ne.symm); (focus assumption))
  | ((with_reducible apply U.ne_new); (focus with_reducible assumption); (focus fail "hq"))
  | ((with_reducible apply U.ne_new'); (focus with_reducible assumption); (focus fail "hq"))
  | ((with_reducible apply L2.ne_of); (focus with_reducible assumption); (focus fail "hq"); (focus (intro z; cases z))))
local macro_rules | `(tactic| fail "mem") => `(tactic| first
  | (with_reducible exact U.mem_hd)
  | ((with_reducible refine U.mem_tl ?_); fail "mem")
  | assumption)
local macro_rules | `(tactic| fail "in") => `(tactic| first
  | ((with_reducible apply Or.inl); (focus fail "mem"))
  | ((with_reducible apply Or.inr); (focus fail "fn")))
local macro_rules | `(tactic| fail "al") => `(tactic| first
  | (with_reducible exact U.al_nil)
  | ((with_reducible refine U.al_cons ?_ ?_); (focus fail "in"); (focus fail "al"))
  | assumption)
local macro_rules | `(tactic| fail "frm") => `(tactic| first
  | (with_reducible exact U.Fr.refl _)
  | (with_reducible assumption)
  | ((with_reducible apply U.fr_new); (focus assumption); (focus fail "frm"))
  | ((with_reducible apply U.fr_upd); (focus fail "hq"); (focus rfl); (focus fail "in"); (focus fail "frm"))
  | ((with_reducible apply U.fr_call); (focus assumption); (focus fail "frm"); (focus fail "al")))
local macro_rules | `(tactic| fail "sne") => `(tactic| first
  | assumption
  | decide +kernel
  | ((with_reducible apply U.inr_ne); (focus fail "sne"))
  | ((with_reducible apply Ne.symm); (focus assumption)))
local macro_rules | `(tactic| fail "lk") => `(tactic| first
  | (with_reducible exact U.lk_hit)
  | ((with_reducible apply U.lk_miss); (focus fail "sne"); (focus fail "lk"))
  | (with_reducible exact U.lk_nil)
  | assumption)
local macro_rules | `(tactic| fail "pf") => `(tactic| first
  | (with_reducible exact U.pf_hit)
  | ((with_reducible apply U.pf_miss); (focus fail "sne"); (focus fail "pf"))
  | (with_reducible exact U.pf_nil))
local macro_rules | `(tactic| fail "vv") => `(tactic| first
  | (with_reducible assumption)
  | (with_reducible exact U.vv_hit)
  | ((with_reducible apply U.vv_miss); (focus fail "sne"); (focus fail "vv"))
  | (with_reducible exact U.vv_nil))
local macro_rules | `(tactic| fail "nk") => `(tactic| first
  | (with_reducible exact U.nk_nil)
  | ((with_reducible apply U.nk_cons); (focus fail "sne"); (focus fail "nk")))
local macro_rules | `(tactic| fail "pk") => `(tactic| first
  | ((with_reducible apply U.pk_hit); fail "nk")
  | ((with_reducible apply U.pk_miss); (focus fail "sne"); (focus fail "pk"))
  | (with_reducible exact U.pk_nil))
local macro_rules | `(tactic| fail "at") => `(tactic| first
  | (with_reducible assumption)
  | ((with_reducible apply L2.atI_nat); (focus assumption))
  | rfl)
local macro_rules | `(tactic| fail "sz") => `(tactic| first
  | assumption
  | decide
  | (simp only [List.length_cons, List.length_nil]; decide)
  | (show _ < (16777216 : Nat); omega)
  | (show _ ≤ (16777216 : Nat); omega))
local macro_rules | `(tactic| fail "lf") => `(tactic| first
  | (with_reducible exact U.lf_addI)
  | (with_reducible exact U.lf_sub)
  | (with_reducible exact U.lf_eqI)
  | (with_reducible exact U.lf_eqS)
  | (with_reducible exact U.lf_neI)
  | (with_reducible exact U.lf_neS)
  | (with_reducible exact U.lf_lt)
  | (with_reducible exact U.lf_le)
  | (with_reducible exact U.lf_gt)
  | (with_reducible exact U.lf_ge)
  | (with_reducible exact U.lf_isN)
  | (with_reducible exact U.lf_notN)
  | ((with_reducible apply U.lf_ixT); (focus fail "hq"); (focus fail "at"))
  | ((with_reducible apply U.lf_ixL); (focus fail "hq"); (focus fail "at"))
  | ((with_reducible apply U.lf_ixD); (focus fail "hq"); (focus fail "vv"))
  | ((with_reducible apply U.lf_inD); (focus fail "hq"))
  | ((with_reducible apply U.lf_notInD); (focus fail "hq"))
  | ((with_reducible apply U.lf_inL); (focus fail "hq"))
  | ((with_reducible apply U.lf_notInL); (focus fail "hq"))
  | (with_reducible exact U.lf_inS)
  | (with_reducible exact U.lf_notInS)
  | ((with_reducible apply U.lf_mod); (focus first | assumption | decide | omega))
  | (with_reducible assumption))
local macro_rules | `(tactic| fail "lc") => `(tactic| first
  | ((with_reducible apply U.lc_lenUL); (focus fail "hq"))
  | ((with_reducible apply U.lc_lenUT); (focus fail "hq"))
  | ((with_reducible apply U.lc_lenUD); (focus fail "hq"))
  | ((with_reducible apply U.lc_lenUS); (focus fail "sz"))
  | (with_reducible exact U.lc_intB)
  | (with_reducible exact U.lc_max)
  | (with_reducible assumption))
local macro_rules | `(tactic| fail "va") => `(tactic| first
  | (with_reducible exact U.va_nil)
  | ((with_reducible apply U.va_cons); (focus fail "vt"); (focus fail "va")))
local macro_rules | `(tactic| fail "vt") => `(tactic| first
  | (with_reducible assumption)
  | (with_reducible exact U.val_c)
  | exact U.val_var rfl
  | ((with_reducible apply U.val_op); (focus fail "vt"); (focus fail "vt"); (focus fail "lf"))
  | ((with_reducible apply U.val_fld); (focus fail "vt"); (focus fail "hq"); (focus fail "lk"))
  | ((with_reducible apply U.val_cb); (focus fail "va"); (focus fail "lc"))
  | ((with_reducible apply U.val_get1); (focus fail "vt"); (focus fail "vt"); (focus fail "hq"))
  | ((with_reducible apply U.val_notV); (focus fail "vt"))
  | ((with_reducible apply U.val_andV); (focus fail "vt"); (intro _; fail "vt"))
  | ((with_reducible apply U.val_orV); (focus fail "vt"); (intro _; fail "vt")))
local macro_rules | `(tactic| fail "an") => `(tactic| first
  | (with_reducible assumption)
  | ((with_reducible apply U.ans_T); fail "vt")
  | ((with_reducible apply U.ans_B); fail "vt")
  | ((with_reducible apply U.ans_not); fail "an")
  | ((with_reducible apply U.ans_and); (focus fail "an"); (intro _; fail "an"))
  | ((with_reducible apply U.ans_or); (focus fail "an"); (intro _; fail "an")))
local macro_rules | `(tactic| fail "put") => `(tactic| first
  | fail "pk"
  | ((apply Law.im_put); (focus assumption))
  | ((apply Law.sm_put); (focus assumption)))
local macro_rules | `(tactic| fail "st") => `(tactic| first
  | (with_reducible refine U.st_seq ?_)
  | ((with_reducible apply U.st_asg); (focus fail "vt"); (try dsimp only [List.set]))
  | ((with_reducible apply U.st_ret); (focus fail "vt"); (try dsimp only))
  | ((with_reducible apply U.st_fld); (focus fail "vt"); (focus fail "vt"); (focus fail "hq"); (focus fail "sz"); (focus fail "pf"); (try dsimp only))
  | ((with_reducible apply U.st_fld1); (focus fail "vt"); (focus fail "hq"); (focus fail "sz"); (focus fail "pf"); (try dsimp only))
  | ((with_reducible apply U.st_untup); (focus fail "vt"); (focus fail "hq"); (focus rfl))
  | ((with_reducible refine U.st_gcons ?_); (try dsimp only))
  | ((with_reducible refine U.st_gname ?_); (try dsimp only [List.set]))
  | ((with_reducible refine U.st_gnil ?_); (try dsimp only))
  | ((with_reducible apply U.st_gf); (focus fail "vt"); (focus fail "hq"); (focus fail "sz"); (focus fail "pf"); (try dsimp only))
  | ((with_reducible refine U.st_next ?_); (try dsimp only))
  | (with_reducible refine U.st_drop ?_)
  | ((with_reducible apply U.st_append); (focus fail "vt"); (focus fail "hq"); (focus fail "vt"); (focus fail "sz"); (try dsimp only))
  | ((with_reducible apply U.st_setDL); (focus fail "vt"); (focus fail "vt"); (focus fail "vt"); (focus fail "hq"); (focus fail "sz"); (focus fail "put"); (try dsimp only))
  | ((with_reducible apply U.st_set1); (focus fail "vt"); (focus fail "vt"); (focus fail "hq"); (focus fail "sz"); (focus fail "put"); (try dsimp only))
  | ((with_reducible apply U.st_call); (focus fail "va"))
  | ((with_reducible apply U.st_methV); (focus fail "vt"); (focus fail "hq"); (focus fail "lk"); (focus fail "va"))
  | (with_reducible refine U.st_fldE ?_)
  | (with_reducible refine U.st_setE ?_)
  | (with_reducible refine U.st_asgC ?_)
  | (with_reducible refine U.st_retC ?_)
  | ((with_reducible refine U.st_dnew ?_); (intro p hp); (try dsimp only))
  | ((with_reducible apply U.st_tup); (focus fail "va"); (focus fail "sz"); (intro p hp); (try dsimp only))
  | ((with_reducible apply U.st_lst); (focus fail "va"); (focus fail "sz"); (intro p hp); (try dsimp only))
  | ((with_reducible apply U.st_listOf); (focus fail "va"); (focus fail "hq"); (intro p hp); (try dsimp only))
  | ((with_reducible apply U.st_dictOf); (focus fail "va"); (focus fail "hq"); (intro p hp); (try dsimp only))
  | ((with_reducible apply U.st_apE); (focus fail "vt"); (focus fail "hq"))
  | ((with_reducible apply U.st_ap1); (focus fail "hq"); (focus fail "sz"); (try dsimp only)))
local macro_rules | `(tactic| fail "go") => `(tactic| repeat fail "st")

namespace Law
open PySem PySem.Spec PyProof.Rows L2 U
/-! ### a house as it stands -/
def rcsT (R : List (Str × Rc)) : T := .dic (R.map fun p => Sum.inr p.1) (R.map fun p => p.2.t)
structure HsAt (H : Hp) (g r : Addr) (G : List (Str × Int)) (R : List (Str × Rc)) : Prop where
  g : H g = some (.dK (im G))
  r : Rp H (rcsT R) (.ref r)
theorem rcs_look (R : List (Str × Rc)) (x : Str) : lookT (R.map fun p => (Sum.inr p.1 : Key)) (R.map fun p => p.2.t) (.inr x) = (R.lookup x).map Rc.t := by
  induction R with
  | nil => rfl
  | cons p R ih =>
    obtain ⟨y, rc⟩ := p
    show (if (Sum.inr y : Key) = .inr x then some rc.t else lookT (R.map fun p => (Sum.inr p.1 : Key)) (R.map fun p => p.2.t) (.inr x)) = _
    by_cases e : y = x
    · subst e
      rw [if_pos rfl]
      simp [List.lookup]
    · rw [if_neg (inr_ne e), ih]
      have e' : (x == y) = false := by simpa using fun z : x = y => e z.symm
      simp only [List.lookup, e']
/-- the recipes' dict: what a name holds -/
theorem HsAt.rcs {H : Hp} {g r : Addr} {G : List (Str × Int)} {R : List (Str × Rc)} (h : HsAt H g r G R) : ∃ kvs, H r = some (.dK kvs) ∧ kvs.length = R.length ∧ (∀ x, R.lookup x = none → valV kvs (.inr x) = none) ∧ ∀ x rc, R.lookup x = some rc → ∃ v, valV kvs (.inr x) = some v ∧ Rp H rc.t v := by
  obtain ⟨r', vs, e, hr, hl, hs⟩ := h.r
  cases e
  refine ⟨_, hr, ?_, fun x hx => ?_, fun x rc hx => ?_⟩
  · rw [List.length_zip, hl, Nat.min_self, ← hl, List.length_map]
  · rcases look_val (k := .inr x) hl hs with ⟨l1, l2⟩ | ⟨t, v, l1, l2, l3⟩
    · exact l2
    · rw [rcs_look, hx] at l1; cases l1
  · rcases look_val (k := .inr x) hl hs with ⟨l1, l2⟩ | ⟨t, v, l1, l2, l3⟩
    · rw [rcs_look, hx] at l1; cases l1
    · rw [rcs_look, hx] at l1
      cases l1
      exact ⟨v, l2, l3⟩
theorem HsAt.has {H : Hp} {g r : Addr} {G : List (Str × Int)} {R : List (Str × Rc)} (h : HsAt H g r G R) : ∃ kvs, H r = some (.dK kvs) ∧ ∀ x, (valV kvs (.inr x)).isSome = (R.lookup x).isSome := by
  obtain ⟨kvs, h1, _, h2, h3⟩ := h.rcs
  refine ⟨kvs, h1, fun x => ?_⟩
  cases e : R.lookup x with
  | none => rw [h2 x e]; rfl
  | some rc => obtain ⟨v, e1, _⟩ := h3 x rc e; rw [e1]; rfl
theorem rcs_immL : ∀ R : List (Str × Rc), immL (R.map fun p => p.2.t) = true
  | [] => rfl
  | p :: R => by show (imm p.2.t && immL (R.map fun p => p.2.t)) = true; rw [p.2.imm, rcs_immL R]; rfl
theorem HsAt.fr {F : List Addr} {H H' : Hp} {g r : Addr} {G : List (Str × Int)} {R : List (Str × Rc)} (f : Fr F H H') (h : HsAt H g r G R) (ng : g ∉ F) (nr : r ∉ F) : HsAt H' g r G R := by
  obtain ⟨r', vs, e, hr, hl, hs⟩ := h.r
  cases e
  exact ⟨f.keep _ _ h.g ng, r, vs, rfl, f.keep _ _ hr nr, hl, RpL.tups f.tup _ _ (rcs_immL R) hs⟩
/-! ### a weaving as it stands -/
structure WvAt (A : Ad) (H : Hp) (w g r ws bs wt : Addr) (G : List (Str × Int)) (R : List (Str × Rc)) (W : Wv) : Prop where
  o : ∃ dx, H w = some (.ins A.C_Weaving dx [("given", .ref g), ("recipes", .ref r), ("worths", .ref ws), ("begun", .ref bs), ("waits", .ref wt)])
  hs : HsAt H g r G R
  hw : H ws = some (.dK (im W.worths))
  hb : H bs = some (.lst (W.begun.map V.str))
  ht : H wt = some (.dK (sm W.waits))
  n1 : ws ≠ wt
  n2 : r ≠ ws
  n3 : r ≠ wt
  n4 : g ≠ ws
  n5 : g ≠ wt
def sp_begin (A : Ad) : Sp := fun vs H Q _ => ∃ (w g r ws bs wt : Addr) (G : List (Str × Int)) (R : List (Str × Rc)) (W : Wv) (x : Str), vs = [.ref w, .str x] ∧ WvAt A H w g r ws bs wt G R W ∧ W.begun.length ≤ 100000 ∧
  ∀ H', Fr [bs] H H' → WvAt A H' w g r ws bs wt G R ⟨W.worths, beginW W.begun x, W.waits⟩ → Q .non H'
theorem WvAt.fr {A : Ad} {H H' : Hp} {w g r ws bs wt : Addr} {G : List (Str × Int)} {R : List (Str × Rc)} {W : Wv} (p : WvAt A H w g r ws bs wt G R W) (f : Fr [] H H') : WvAt A H' w g r ws bs wt G R W := by
  obtain ⟨⟨dx, h0⟩, hs, h1, h2, h3, n1, n2, n3, n4, n5⟩ := p
  exact ⟨⟨dx, f.keep _ _ h0 (by simp)⟩, hs.fr f (by simp) (by simp), f.keep _ _ h1 (by simp), f.keep _ _ h2 (by simp), f.keep _ _ h3 (by simp), n1, n2, n3, n4, n5⟩
theorem r_Weaving_begin {K : PySem.W.Frag} {A : Ad} (vs : List V) (H : Hp) (Q : VK) (E : XK) (h : sp_begin A vs H Q E) : t_Weaving_begin K A { nx := fun _ H' => Q .non H', rt := Q } (start N_Weaving_begin vs) H := by
  obtain ⟨w, g, r, ws, bs, wt, G, R, W, x, rfl, p, hz, k⟩ := h
  obtain ⟨⟨dx, h0⟩, hs, h1, h2, h3, n1, n2, n3, n4, n5⟩ := id p
  obtain ⟨kvs, hr, _⟩ := hs.rcs
  have hg := hs.g
  have lz : (W.begun.map V.str).length < sizeLine := by rw [List.length_map]; show _ < (16777216 : Nat); omega
  refine st_ifT (by fail "an") (fun q => ?_) fun q => ?_
  · have q : ¬ x ∈ W.begun := by simpa using q
    fail "go"
    have f : Fr [bs] H (upd H bs (.lst (W.begun.map V.str ++ [.str x]))) := by fail "frm"
    refine k _ f ⟨⟨dx, by fail "hx"⟩, hs.fr f (by fail "ni") (by fail "ni"), by fail "hx", ?_, by fail "hx", n1, n2, n3, n4, n5⟩
    rw [upd_same]
    show _ = some (HO.lst ((beginW W.begun x).map V.str))
    unfold beginW
    rw [if_neg q, List.map_append]
    rfl
  · have q : x ∈ W.begun := by simpa using q
    fail "go"
    refine k _ (Fr.refl _) ⟨⟨dx, h0⟩, hs, h1, ?_, h3, n1, n2, n3, n4, n5⟩
    show _ = some (HO.lst ((beginW W.begun x).map V.str))
    unfold beginW
    rw [if_pos q]
    exact h2

theorem rp_strs {H : Hp} {d : Addr} (xs : List Str) (h : H d = some (.lst (xs.map V.str))) : Rp H (.lst (xs.map T.str)) (.ref d) := by
  refine ⟨d, _, rfl, h, ?_⟩
  clear h
  induction xs with
  | nil => rfl
  | cons x xs ih => exact ⟨_, _, rfl, rfl, ih⟩
theorem okEL_nil (ts : List T) : okEL ts [] = true := by cases ts <;> rfl
theorem depL_strs (xs : List Str) : depL (xs.map T.str) = 0 := by
  induction xs with
  | nil => rfl
  | cons x xs ih => show max 0 (depL (xs.map T.str)) = 0; rw [ih]; rfl
/-- [..] == [] of a list of names -/
theorem lf_strsNil {H : Hp} {d e : Addr} {xs : List Str} (h : H d = some (.lst (xs.map V.str))) (h2 : H e = some (.lst [])) : Lf rEqU (.ref d) (.ref e) H (.bl (decide (xs = []))) := by
  have q := lf_eqT (rp_strs xs h) (show Rp H (.lst []) (.ref e) from ⟨e, [], rfl, h2, rfl⟩) rfl (okEL_nil _) (by show depL _ + 1 ≤ 60; rw [depL_strs]; decide)
  have e : eqv (.lst (xs.map T.str)) (.lst []) = decide (xs = []) := by cases xs <;> simp [eqv, eqvL]
  rwa [e] at q
def sp_is_over (A : Ad) : Sp := fun vs H Q _ => ∃ (w g r ws bs wt : Addr) (G : List (Str × Int)) (R : List (Str × Rc)) (W : Wv), vs = [.ref w] ∧ WvAt A H w g r ws bs wt G R W ∧ W.begun.length ≤ 100000 ∧
  ∀ H', Fr [] H H' → Q (.bl (decide (W.open = []))) H'
theorem map_id_str {l : List Str} : (l.map V.str) = l.map (fun x => V.str x) := rfl
theorem r_Weaving_is_over {K : PySem.W.Frag} {A : Ad} (vs : List V) (H : Hp) (Q : VK) (E : XK) (h : sp_is_over A vs H Q E) : t_Weaving_is_over K A { nx := fun _ H' => Q .non H', rt := Q } (start N_Weaving_is_over vs) H := by
  obtain ⟨w, g, r, ws, bs, wt, G, R, W, rfl, p, hz, k⟩ := h
  obtain ⟨⟨dx, h0⟩, hs, h1, h2, h3, n1, n2, n3, n4, n5⟩ := id p
  fail "go"
  refine st_opC (st_lcP (emb := V.str) (xs := W.begun) (e := V.str) (f := fun x => !(W.worths.lookup x).isSome) (by fail "vt") h2 (by show _ ≤ (16777216 : Nat); omega) (fun a => rfl) (fun a H' _ f => ⟨?_, fun _ => val_var rfl⟩) fun d H' d0 f hd => ?_)
  · have q : Ans (tTest (tOp (rNotInU K) (tVar 1) (tF A.C_Weaving (tVar 0) "worths"))) ((wipe (start N_Weaving_is_over [.ref w]) [1]).set 1 (some (.str a))) H' (!(valV (im W.worths) (.inr a)).isSome) := by fail "an"
    rw [im_get] at q
    cases e : W.worths.lookup a with
    | none => rw [e] at q; simpa [e] using q
    | some v => rw [e] at q; simpa [e] using q
  · fail "go"
    rename_i e e0
    refine st_lf (lf_strsNil (xs := W.open) (by fail "hx") (by fail "hx")) ?_
    exact k _ (by fail "frm")
def sp_ready (A : Ad) : Sp := fun vs H Q _ => ∃ (w g r ws bs wt : Addr) (G : List (Str × Int)) (R : List (Str × Rc)) (W : Wv), vs = [.ref w] ∧ WvAt A H w g r ws bs wt G R W ∧ W.begun.length ≤ 100000 ∧
  ∀ H' d, H d = none → Fr [] H H' → H' d = some (.lst (W.ready.map V.str)) → Q (.ref d) H'
theorem r_Weaving_ready {K : PySem.W.Frag} {A : Ad} (vs : List V) (H : Hp) (Q : VK) (E : XK) (h : sp_ready A vs H Q E) : t_Weaving_ready K A { nx := fun _ H' => Q .non H', rt := Q } (start N_Weaving_ready vs) H := by
  obtain ⟨w, g, r, ws, bs, wt, G, R, W, rfl, p, hz, k⟩ := h
  obtain ⟨⟨dx, h0⟩, hs, h1, h2, h3, n1, n2, n3, n4, n5⟩ := id p
  fail "go"
  refine st_lcP (emb := V.str) (xs := W.begun) (e := V.str) (f := fun x => (!(W.worths.lookup x).isSome && !(W.waits.lookup x).isSome)) (by fail "vt") h2 (by show _ ≤ (16777216 : Nat); omega) (fun a => rfl) (fun a H' _ f => ⟨?_, fun _ => val_var rfl⟩) fun d H' d0 f hd => k _ _ d0 f hd
  have q : Ans (tAnd (tTest (tOp (rNotInU K) (tVar 1) (tF A.C_Weaving (tVar 0) "worths"))) (tTest (tOp (rNotInU K) (tVar 1) (tF A.C_Weaving (tVar 0) "waits")))) ((wipe (start N_Weaving_ready [.ref w]) [1]).set 1 (some (.str a))) H' (!(valV (im W.worths) (.inr a)).isSome && !(valV (sm W.waits) (.inr a)).isSome) := by fail "an"
  rw [im_get, sm_get] at q
  cases e : W.worths.lookup a <;> cases e2 : W.waits.lookup a <;> rw [e, e2] at q <;> simpa [e, e2] using q
/-- Weaving(house, wishes) -/
def sp_wInit (A : Ad) : Sp := fun vs H Q _ => ∃ (w dx h g r l : Addr) (G : List (Str × Int)) (R : List (Str × Rc)) (wl : List Str), vs = [.ref w, .ref h, .ref l] ∧ H w = some (.ins A.C_Weaving dx []) ∧ H h = some (.tup [.ref g, .ref r]) ∧ HsAt H g r G R ∧ H l = some (.lst (wl.map V.str)) ∧
  (∀ x ∈ wl, (G.lookup x).isSome ∨ (R.lookup x).isSome) ∧ wl.length ≤ 900 ∧ ∀ H' ws bs wt, Fr [w] H H' → H ws = none → H bs = none → H wt = none → WvAt A H' w g r ws bs wt G R ⟨G, beginAll R wl [], []⟩ → Q .non H'
theorem beginAll_len (R : List (Str × Rc)) : ∀ (l b : List Str), (beginAll R l b).length ≤ b.length + l.length := by
  intro l
  induction l with
  | nil => intro b; exact Nat.le_refl _
  | cons x l ih =>
    intro b
    have q := ih (if (R.lookup x).isSome then beginW b x else b)
    have z : (if (R.lookup x).isSome then beginW b x else b).length ≤ b.length + 1 := by
      split
      · unfold beginW
        split <;> simp
      · omega
    show (beginAll R l (if (R.lookup x).isSome then beginW b x else b)).length ≤ _
    rw [List.length_cons]
    omega
end Law

end
section
set_option maxHeartbeats 4000000
/-! words: fail "le", "hq" (what stands at an address), "ne" (two addresses differ), "fn" (an address is new to an older heap), "al" (places of a frame), "ni", "frm" (a frame) -/
local macro_rules | `(tactic| fail "le") => `(tactic| first
  | (with_reducible exact U.Le.refl _)
  | ((with_reducible refine U.Le.upd ?_); fail "le")
  | ((with_reducible apply U.Le.fr); (rotate_left 1); (focus assumption); (focus fail "le")))
local macro_rules | `(tactic| fail "fn") => `(tactic| first
  | assumption
  | ((with_reducible apply U.none_le); (rotate_left 1); (focus assumption); (focus fail "le")))
local macro_rules | `(tactic| fail "hq") => `(tactic| first
  | (with_reducible assumption)
  | (with_reducible exact L2.upd_same)
  | ((with_reducible apply U.look_upd); (focus fail "hq"); (focus fail "ne"))
  | ((with_reducible apply U.look_fr); (focus assumption); (focus fail "hq"); (focus fail "ni"))
  | ((with_reducible apply U.look_tup); (focus assumption); (focus fail "hq")))
local macro_rules | `(tactic| fail "hx") => `(tactic| first
  | fail "hq"
  | ((with_reducible apply U.hq_to); (focus fail "hq"); (focus rfl)))
local macro_rules | `(tactic| fail "ni") => `(tactic| first
  | (with_reducible exact U.ni_nil)
  | ((with_reducible refine U.ni_cons ?_ ?_); (focus fail "ne"); (focus fail "ni"))
  | assumption)
local macro_rules | `(tactic| fail "ne") => `(tactic| first
  | (with_reducible assumption)
  | ((with_reducible apply Ne.symm); (focus assumption))
  | ((with_reducible apply U.ne_new); (focus with_reducible assumption); (focus fail "hq"))
  | ((with_reducible apply U.ne_new'); (focus with_reducible assumption); (focus fail "hq"))
  | ((with_reducible apply L2.ne_of); (focus with_reducible assumption); (focus fail "hq"); (focus (intro z; cases z))))
local macro_rules | `(tactic| fail "mem") => `(tactic| first
  | (with_reducible exact U.mem_hd)
  | ((with_reducible refine U.mem_tl ?_); fail "mem")
  | assumption)
local macro_rules | `(tactic| fail "in") => `(tactic| first
  | ((with_reducible apply Or.inl); (focus fail "mem"))
  | ((with_reducible apply Or.inr); (focus fail "fn")))
local macro_rules | `(tactic| fail "al") => `(tactic| first
  | (with_reducible exact U.al_nil)
  | ((with_reducible refine U.al_cons ?_ ?_); (focus fail "in"); (focus fail "al"))
  | assumption)
local macro_rules | `(tactic| fail "frm") => `(tactic| first
  | (with_reducible exact U.Fr.refl _)
  | (with_reducible assumption)
  | ((with_reducible apply U.fr_new); (focus assumption); (focus fail "frm"))
  | ((with_reducible apply U.fr_upd); (focus fail "hq"); (focus rfl); (focus fail "in"); (focus fail "frm"))
  | ((with_reducible apply U.fr_call); (focus assumption); (focus fail "frm"); (focus fail "al")))
local macro_rules | `(tactic| fail "sne") => `(tactic| first
  | assumption
  | decide +kernel
  | ((with_reducible apply U.inr_ne); (focus fail "sne"))
  | ((with_reducible apply Ne.symm); (focus assumption)))
local macro_rules | `(tactic| fail "lk") => `(tactic| first
  | (with_reducible exact U.lk_hit)
  | ((with_reducible apply U.lk_miss); (focus fail "sne"); (focus fail "lk"))
  | (with_reducible exact U.lk_nil)
  | assumption)
local macro_rules | `(tactic| fail "pf") => `(tactic| first
  | (with_reducible exact U.pf_hit)
  | ((with_reducible apply U.pf_miss); (focus fail "sne"); (focus fail "pf"))
  | (with_reducible exact U.pf_nil))
local macro_rules | `(tactic| fail "vv") => `(tactic| first
  | (with_reducible assumption)
  | (with_reducible exact U.vv_hit)
  | ((with_reducible apply U.vv_miss); (focus fail "sne"); (focus fail "vv"))
  | (with_reducible exact U.vv_nil))
local macro_rules | `(tactic| fail "nk") => `(tactic| first
  | (with_reducible exact U.nk_nil)
  | ((with_reducible apply U.nk_cons); (focus fail "sne"); (focus fail "nk")))
local macro_rules | `(tactic| fail "pk") => `(tactic| first
  | ((with_reducible apply U.pk_hit); fail "nk")
  | ((with_reducible apply U.pk_miss); (focus fail "sne"); (focus fail "pk"))
  | (with_reducible exact U.pk_nil))
local macro_rules | `(tactic| fail "at") => `(tactic| first
  | (with_reducible assumption)
  | ((with_reducible apply L2.atI_nat); (focus assumption))
  | rfl)
local macro_rules | `(tactic| fail "sz") => `(tactic| first
  | assumption
  | decide
  | (simp only [List.length_cons, List.length_nil]; decide)
  | (show _ < (16777216 : Nat); omega)
  | (show _ ≤ (16777216 : Nat); omega))
local macro_rules | `(tactic| fail "lf") => `(tactic| first
  | (with_reducible exact U.lf_addI)
  | (with_reducible exact U.lf_sub)
  | (with_reducible exact U.lf_eqI)
  | (with_reducible exact U.lf_eqS)
  | (with_reducible exact U.lf_neI)
  | (with_reducible exact U.lf_neS)
  | (with_reducible exact U.lf_lt)
  | (with_reducible exact U.lf_le)
  | (with_reducible exact U.lf_gt)
  | (with_reducible exact U.lf_ge)
  | (with_reducible exact U.lf_isN)
  | (with_reducible exact U.lf_notN)
  | ((with_reducible apply U.lf_ixT); (focus fail "hq"); (focus fail "at"))
  | ((with_reducible apply U.lf_ixL); (focus fail "hq"); (focus fail "at"))
  | ((with_reducible apply U.lf_ixD); (focus fail "hq"); (focus fail "vv"))
  | ((with_reducible apply U.lf_inD); (focus fail "hq"))
  | ((with_reducible apply U.lf_notInD); (focus fail "hq"))
  | ((with_reducible apply U.lf_inL); (focus fail "hq"))
  | ((with_reducible apply U.lf_notInL); (focus fail "hq"))
  | (with_reducible exact U.lf_inS)
  | (with_reducible exact U.lf_notInS)
  | ((with_reducible apply U.lf_mod); (focus first | assumption | decide | omega))
  | (with_reducible assumption))
local macro_rules | `(tactic| fail "lc") => `(tactic| first
  | ((with_reducible apply U.lc_lenUL); (focus fail "hq"))
  | ((with_reducible apply U.lc_lenUT); (focus fail "hq"))
  | ((with_reducible apply U.lc_lenUD); (focus fail "hq"))
  | ((with_reducible apply U.lc_lenUS); (focus fail "sz"))
  | (with_reducible exact U.lc_intB)
  | (with_reducible exact U.lc_max)
  | (with_reducible assumption))
local macro_rules | `(tactic| fail "va") => `(tactic| first
  | (with_reducible exact U.va_nil)
  | ((with_reducible apply U.va_cons); (focus fail "vt"); (focus fail "va")))
local macro_rules | `(tactic| fail "vt") => `(tactic| first
  | (with_reducible assumption)
  | (with_reducible exact U.val_c)
  | exact U.val_var rfl
  | ((with_reducible apply U.val_op); (focus fail "vt"); (focus fail "vt"); (focus fail "lf"))
  | ((with_reducible apply U.val_fld); (focus fail "vt"); (focus fail "hq"); (focus fail "lk"))
  | ((with_reducible apply U.val_cb); (focus fail "va"); (focus fail "lc"))
  | ((with_reducible apply U.val_get1); (focus fail "vt"); (focus fail "vt"); (focus fail "hq"))
  | ((with_reducible apply U.val_notV); (focus fail "vt"))
  | ((with_reducible apply U.val_andV); (focus fail "vt"); (intro _; fail "vt"))
  | ((with_reducible apply U.val_orV); (focus fail "vt"); (intro _; fail "vt")))
local macro_rules | `(tactic| fail "an") => `(tactic| first
  | (with_reducible assumption)
  | ((with_reducible apply U.ans_T); fail "vt")
  | ((with_reducible apply U.ans_B); fail "vt")
  | ((with_reducible apply U.ans_not); fail "an")
  | ((with_reducible apply U.ans_and); (focus fail "an"); (intro _; fail "an"))
  | ((with_reducible apply U.ans_or); (focus fail "an"); (intro _; fail "an")))
local macro_rules | `(tactic| fail "put") => `(tactic| first
  | fail "pk"
  | ((apply Law.im_put); (focus assumption))
  | ((apply Law.sm_put); (focus assumption)))
local macro_rules | `(tactic| fail "st") => `(tactic| first
  | (with_reducible refine U.st_seq ?_)
  | ((with_reducible apply U.st_asg); (focus fail "vt"); (try dsimp only [List.set]))
  | ((with_reducible apply U.st_ret); (focus fail "vt"); (try dsimp only))
  | ((with_reducible apply U.st_fld); (focus fail "vt"); (focus fail "vt"); (focus fail "hq"); (focus fail "sz"); (focus fail "pf"); (try dsimp only))
  | ((with_reducible apply U.st_fld1); (focus fail "vt"); (focus fail "hq"); (focus fail "sz"); (focus fail "pf"); (try dsimp only))
  | ((with_reducible apply U.st_untup); (focus fail "vt"); (focus fail "hq"); (focus rfl))
  | ((with_reducible refine U.st_gcons ?_); (try dsimp only))
  | ((with_reducible refine U.st_gname ?_); (try dsimp only [List.set]))
  | ((with_reducible refine U.st_gnil ?_); (try dsimp only))
  | ((with_reducible apply U.st_gf); (focus fail "vt"); (focus fail "hq"); (focus fail "sz"); (focus fail "pf"); (try dsimp only))
  | ((with_reducible refine U.st_next ?_); (try dsimp only))
  | (with_reducible refine U.st_drop ?_)
  | ((with_reducible apply U.st_append); (focus fail "vt"); (focus fail "hq"); (focus fail "vt"); (focus fail "sz"); (try dsimp only))
  | ((with_reducible apply U.st_setDL); (focus fail "vt"); (focus fail "vt"); (focus fail "vt"); (focus fail "hq"); (focus fail "sz"); (focus fail "put"); (try dsimp only))
  | ((with_reducible apply U.st_set1); (focus fail "vt"); (focus fail "vt"); (focus fail "hq"); (focus fail "sz"); (focus fail "put"); (try dsimp only))
  | ((with_reducible apply U.st_call); (focus fail "va"))
  | ((with_reducible apply U.st_methV); (focus fail "vt"); (focus fail "hq"); (focus fail "lk"); (focus fail "va"))
  | (with_reducible refine U.st_fldE ?_)
  | (with_reducible refine U.st_setE ?_)
  | (with_reducible refine U.st_asgC ?_)
  | (with_reducible refine U.st_retC ?_)
  | ((with_reducible refine U.st_dnew ?_); (intro p hp); (try dsimp only))
  | ((with_reducible apply U.st_tup); (focus fail "va"); (focus fail "sz"); (intro p hp); (try dsimp only))
  | ((with_reducible apply U.st_lst); (focus fail "va"); (focus fail "sz"); (intro p hp); (try dsimp only))
  | ((with_reducible apply U.st_listOf); (focus fail "va"); (focus fail "hq"); (intro p hp); (try dsimp only))
  | ((with_reducible apply U.st_dictOf); (focus fail "va"); (focus fail "hq"); (intro p hp); (try dsimp only))
  | ((with_reducible apply U.st_apE); (focus fail "vt"); (focus fail "hq"))
  | ((with_reducible apply U.st_ap1); (focus fail "hq"); (focus fail "sz"); (try dsimp only)))
local macro_rules | `(tactic| fail "go") => `(tactic| repeat fail "st")

namespace Law
open PySem PySem.Spec PyProof.Rows L2 U
structure ErrN (K : PySem.W.Frag) (A : Ad) : Prop where
  c : OexC K A.C_NoName
  n : PySem.W.findIn K (.ref A.C_NoName) "name" = some none
def sp_wInitX (A : Ad) : Sp := fun vs H Q E => ∃ (w dx h g r l : Addr) (G : List (Str × Int)) (R : List (Str × Rc)) (wl : List Str), vs = [.ref w, .ref h, .ref l] ∧ H w = some (.ins A.C_Weaving dx []) ∧ H h = some (.tup [.ref g, .ref r]) ∧ HsAt H g r G R ∧ H l = some (.lst (wl.map V.str)) ∧ wl.length ≤ 900 ∧
  (badW G R wl = none → ∀ H' ws bs wt, Fr [w] H H' → H ws = none → H bs = none → H wt = none → WvAt A H' w g r ws bs wt G R ⟨G, beginAll R wl [], []⟩ → Q .non H') ∧
  (∀ y, badW G R wl = some y → ∀ H' d, Fr [w] H H' → H d = none → H' d = some (.xd [("name", .str y)]) → E (.ref A.C_NoName) (some d) H')
theorem r_Weaving_init {K : PySem.W.Frag} {A : Ad} (vs : List V) (H : Hp) (Q : VK) (E : XK) (er : ErrN K A) (h : sp_wInitX A vs H Q E) : t_Weaving_init K A (sp_err1 K A.C_NoName "name") (sp_begin A) E { nx := fun _ H' => Q .non H', rt := Q } (start N_Weaving_init vs) H := by
  obtain ⟨w, dx, h, g, r, l, G, R, wl, rfl, hw, hh, hs, hl, hz, k, ke⟩ := h
  obtain ⟨rk, hr, hrk⟩ := hs.has
  have hg := hs.g
  fail "go"
  rename_i ws ws0 bs bs0 wt wt0
  have wl0 : ¬ w = l := fun z => by rw [z, hl] at hw; cases hw
  have lw : l ∉ [w] := by fail "ni"
  have gd : g ∉ [w] := by fail "ni"
  have rd : r ∉ [w] := by fail "ni"
  refine st_forL (K := K) (p := l) (emb := V.str) (xs := wl) ?_ ?_ (fun rest σ' H' => (∃ x, σ' = [some (.ref w), some (.ref h), some (.ref l), x]) ∧ Fr [w] H H' ∧ WvAt A H' w g r ws bs wt G R ⟨G, [], []⟩ ∧ badW G R wl = badW G R rest) ?_ ?_ ?_ ?_
  · fail "vt"
  · exact SqL.of (by fail "hq")
  · refine ⟨⟨_, rfl⟩, by fail "frm", ⟨⟨dx, by fail "hq"⟩, hs.fr (F := [w]) (by fail "frm") gd rd, by fail "hq", by fail "hx", by fail "hx", by fail "ne", by fail "ne", by fail "ne", by fail "ne", by fail "ne"⟩, rfl⟩
  · exact fun rest σ' H' ⟨_, f, _⟩ => SqL.of (f.keep _ _ hl lw)
  · rintro a rest σ' H' ⟨⟨x, rfl⟩, f, p, hi⟩
    obtain ⟨⟨dx1, h0⟩, hs1, h1, h2, h3, n1, n2, n3, n4, n5⟩ := id p
    obtain ⟨rk1, hr1, hrk1⟩ := hs1.has
    have hg1 := hs1.g
    fail "go"
    refine st_ifT (by fail "an") (fun q => ?_) fun q => ?_
    · rw [im_get, hrk1] at q
      have q1 : (G.lookup a).isSome = false ∧ (R.lookup a).isSome = false := by
        cases e : G.lookup a <;> cases e2 : R.lookup a <;> rw [e, e2] at q <;> simp at q ⊢
      fail "go"
      refine st_raise1 (va_cons (val_var rfl) va_nil) er.c er.n fun d H2 d0 f2 hd => ?_
      exact ke a (by rw [hi, badW_hit q1.1 q1.2]) H2 d (f.call f2 (by fail "al")) (f.old _ d0) hd
    · rw [im_get, hrk1] at q
      have q1 : (G.lookup a).isSome = true ∨ (R.lookup a).isSome = true := by
        cases e : G.lookup a <;> cases e2 : R.lookup a <;> rw [e, e2] at q <;> simp at q ⊢
      fail "go"
      exact ⟨⟨_, rfl⟩, f, p, by rw [hi, badW_miss q1]⟩
  · rintro σ' H' ⟨⟨x, rfl⟩, f, p, ebad⟩
    have wbs : H bs = none := by fail "fn"
    have wwt : H wt = none := by fail "fn"
    have wws : H ws = none := by fail "fn"
    clear ws0 bs0 wt0
    refine st_forL (K := K) (p := l) (emb := V.str) (xs := wl) (by fail "vt") (SqL.of (f.keep _ _ hl lw)) (fun rest σ' H' => ∃ x b, σ' = [some (.ref w), some (.ref h), some (.ref l), x] ∧ Fr [w] H H' ∧ WvAt A H' w g r ws bs wt G R ⟨G, b, []⟩ ∧ beginAll R rest b = beginAll R wl [] ∧ b.length + rest.length ≤ 900)
      ⟨_, [], rfl, f, p, rfl, by simpa using hz⟩ (fun rest σ' H' ⟨_, _, _, f, _⟩ => SqL.of (f.keep _ _ hl lw)) ?_ ?_
    · rintro a rest σ' H' ⟨x, b, rfl, f, p, e, z⟩
      obtain ⟨⟨dx1, h0⟩, hs1, h1, h2, h3, n1, n2, n3, n4, n5⟩ := id p
      obtain ⟨rk1, hr1, hrk1⟩ := hs1.has
      fail "go"
      rw [List.length_cons] at z
      refine st_ifT (by fail "an") (fun q => ?_) fun q => ?_
      · rw [hrk1] at q
        fail "go"
        refine ⟨w, g, r, ws, bs, wt, G, R, _, a, rfl, p, by show b.length ≤ 100000; omega, fun H2 f2 p2 => ?_⟩
        refine ⟨_, _, rfl, by fail "frm", p2, ?_, ?_⟩
        · rw [← e]
          show beginAll R rest (beginW b a) = beginAll R rest (if (R.lookup a).isSome then beginW b a else b)
          rw [if_pos q]
        · have : (beginW b a).length ≤ b.length + 1 := by
            unfold beginW
            split <;> simp
          show (beginW b a).length + rest.length ≤ 900
          omega
      · rw [hrk1] at q
        fail "go"
        refine ⟨_, _, rfl, f, p, ?_, by omega⟩
        rw [← e]
        show beginAll R rest b = beginAll R rest (if (R.lookup a).isSome then beginW b a else b)
        rw [q]
        rfl
    · rintro σ' H' ⟨x, b, rfl, f, p, e, z⟩
      refine k ebad H' ws bs wt f wws wbs wwt ?_
      rw [← e]
      exact p
end Law

end
section
set_option maxHeartbeats 4000000
/-! words: fail "le", "hq" (what stands at an address), "ne" (two addresses differ), "fn" (an address is new to an older heap), "al" (places of a frame), "ni", "frm" (a frame) -/
local macro_rules | `(tactic| fail "le") => `(tactic| first
  | (with_reducible exact U.Le.refl _)
  | ((with_reducible refine U.Le.upd ?_); fail "le")
  | ((with_reducible apply U.Le.fr); (rotate_left 1); (focus assumption); (focus fail "le")))
local macro_rules | `(tactic| fail "fn") => `(tactic| first
  | assumption
  | ((with_reducible apply U.none_le); (rotate_left 1); (focus assumption); (focus fail "le")))
local macro_rules | `(tactic| fail "hq") => `(tactic| first
  | (with_reducible assumption)
  | (with_reducible exact L2.upd_same)
  | ((with_reducible apply U.look_upd); (focus fail "hq"); (focus fail "ne"))
  | ((with_reducible apply U.look_fr); (focus assumption); (focus fail "hq"); (focus fail "ni"))
  | ((with_reducible apply U.look_tup); (focus assumption); (focus fail "hq")))
local macro_rules | `(tactic| fail "hx") => `(tactic| first
  | fail "hq"
  | ((with_reducible apply U.hq_to); (focus fail "hq"); (focus rfl)))
local macro_rules | `(tactic| fail "ni") => `(tactic| first
  | (with_reducible exact U.ni_nil)
  | ((with_reducible refine U.ni_cons ?_ ?_); (focus fail "ne"); (focus fail "ni"))
  | assumption)
local macro_rules | `(tactic| fail "ne") => `(tactic| first
  | (with_reducible assumption)
  | ((with_reducible apply Ne.symm); (focus assumption))
  | ((with_reducible apply U.ne_new); (focus with_reducible assumption); (focus fail "hq"))
  | ((with_reducible apply U.ne_new'); (focus with_reducible assumption); (focus fail "hq"))
  | ((with_reducible apply L2.ne_of); (focus with_reducible assumption); (focus fail "hq"); (focus (intro z; cases z))))
local macro_rules | `(tactic| fail "mem") => `(tactic| first
  | (with_reducible exact U.mem_hd)
  | ((with_reducible refine U.mem_tl ?_); fail "mem")
  | assumption)
local macro_rules | `(tactic| fail "in") => `(tactic| first
  | ((with_reducible apply Or.inl); (focus fail "mem"))
  | ((with_reducible apply Or.inr); (focus fail "fn")))
local macro_rules | `(tactic| fail "al") => `(tactic| first
  | (with_reducible exact U.al_nil)
  | ((with_reducible refine U.al_cons ?_ ?_); (focus fail "in"); (focus fail "al"))
  | assumption)
local macro_rules | `(tactic| fail "frm") => `(tactic| first
  | (with_reducible exact U.Fr.refl _)
  | (with_reducible assumption)
  | ((with_reducible apply U.fr_new); (focus assumption); (focus fail "frm"))
  | ((with_reducible apply U.fr_upd); (focus fail "hq"); (focus rfl); (focus fail "in"); (focus fail "frm"))
  | ((with_reducible apply U.fr_call); (focus assumption); (focus fail "frm"); (focus fail "al")))
local macro_rules | `(tactic| fail "sne") => `(tactic| first
  | assumption
  | decide +kernel
  | ((with_reducible apply U.inr_ne); (focus fail "sne"))
  | ((with_reducible apply Ne.symm); (focus assumption)))
local macro_rules | `(tactic| fail "lk") => `(tactic| first
  | (with_reducible exact U.lk_hit)
  | ((with_reducible apply U.lk_miss); (focus fail "sne"); (focus fail "lk"))
  | (with_reducible exact U.lk_nil)
  | assumption)
local macro_rules | `(tactic| fail "pf") => `(tactic| first
  | (with_reducible exact U.pf_hit)
  | ((with_reducible apply U.pf_miss); (focus fail "sne"); (focus fail "pf"))
  | (with_reducible exact U.pf_nil))
local macro_rules | `(tactic| fail "vv") => `(tactic| first
  | (with_reducible assumption)
  | (with_reducible exact U.vv_hit)
  | ((with_reducible apply U.vv_miss); (focus fail "sne"); (focus fail "vv"))
  | (with_reducible exact U.vv_nil))
local macro_rules | `(tactic| fail "nk") => `(tactic| first
  | (with_reducible exact U.nk_nil)
  | ((with_reducible apply U.nk_cons); (focus fail "sne"); (focus fail "nk")))
local macro_rules | `(tactic| fail "pk") => `(tactic| first
  | ((with_reducible apply U.pk_hit); fail "nk")
  | ((with_reducible apply U.pk_miss); (focus fail "sne"); (focus fail "pk"))
  | (with_reducible exact U.pk_nil))
local macro_rules | `(tactic| fail "at") => `(tactic| first
  | (with_reducible assumption)
  | ((with_reducible apply L2.atI_nat); (focus assumption))
  | rfl)
local macro_rules | `(tactic| fail "sz") => `(tactic| first
  | assumption
  | decide
  | (simp only [List.length_cons, List.length_nil]; decide)
  | (show _ < (16777216 : Nat); omega)
  | (show _ ≤ (16777216 : Nat); omega))
local macro_rules | `(tactic| fail "lf") => `(tactic| first
  | (with_reducible exact U.lf_addI)
  | (with_reducible exact U.lf_sub)
  | (with_reducible exact U.lf_eqI)
  | (with_reducible exact U.lf_eqS)
  | (with_reducible exact U.lf_neI)
  | (with_reducible exact U.lf_neS)
  | (with_reducible exact U.lf_lt)
  | (with_reducible exact U.lf_le)
  | (with_reducible exact U.lf_gt)
  | (with_reducible exact U.lf_ge)
  | (with_reducible exact U.lf_isN)
  | (with_reducible exact U.lf_notN)
  | ((with_reducible apply U.lf_ixT); (focus fail "hq"); (focus fail "at"))
  | ((with_reducible apply U.lf_ixL); (focus fail "hq"); (focus fail "at"))
  | ((with_reducible apply U.lf_ixD); (focus fail "hq"); (focus fail "vv"))
  | ((with_reducible apply U.lf_inD); (focus fail "hq"))
  | ((with_reducible apply U.lf_notInD); (focus fail "hq"))
  | ((with_reducible apply U.lf_inL); (focus fail "hq"))
  | ((with_reducible apply U.lf_notInL); (focus fail "hq"))
  | (with_reducible exact U.lf_inS)
  | (with_reducible exact U.lf_notInS)
  | ((with_reducible apply U.lf_mod); (focus first | assumption | decide | omega))
  | (with_reducible assumption))
local macro_rules | `(tactic| fail "lc") => `(tactic| first
  | ((with_reducible apply U.lc_lenUL); (focus fail "hq"))
  | ((with_reducible apply U.lc_lenUT); (focus fail "hq"))
  | ((with_reducible apply U.lc_lenUD); (focus fail "hq"))
  | ((with_reducible apply U.lc_lenUS); (focus fail "sz"))
  | (with_reducible exact U.lc_intB)
  | (with_reducible exact U.lc_max)
  | (with_reducible assumption))
local macro_rules | `(tactic| fail "va") => `(tactic| first
  | (with_reducible exact U.va_nil)
  | ((with_reducible apply U.va_cons); (focus fail "vt"); (focus fail "va")))
local macro_rules | `(tactic| fail "vt") => `(tactic| first
  | (with_reducible assumption)
  | (with_reducible exact U.val_c)
  | exact U.val_var rfl
  | ((with_reducible apply U.val_op); (focus fail "vt"); (focus fail "vt"); (focus fail "lf"))
  | ((with_reducible apply U.val_fld); (focus fail "vt"); (focus fail "hq"); (focus fail "lk"))
  | ((with_reducible apply U.val_cb); (focus fail "va"); (focus fail "lc"))
  | ((with_reducible apply U.val_get1); (focus fail "vt"); (focus fail "vt"); (focus fail "hq"))
  | ((with_reducible apply U.val_notV); (focus fail "vt"))
  | ((with_reducible apply U.val_andV); (focus fail "vt"); (intro _; fail "vt"))
  | ((with_reducible apply U.val_orV); (focus fail "vt"); (intro _; fail "vt")))
local macro_rules | `(tactic| fail "an") => `(tactic| first
  | (with_reducible assumption)
  | ((with_reducible apply U.ans_T); fail "vt")
  | ((with_reducible apply U.ans_B); fail "vt")
  | ((with_reducible apply U.ans_not); fail "an")
  | ((with_reducible apply U.ans_and); (focus fail "an"); (intro _; fail "an"))
  | ((with_reducible apply U.ans_or); (focus fail "an"); (intro _; fail "an")))
local macro_rules | `(tactic| fail "put") => `(tactic| first
  | fail "pk"
  | ((apply Law.im_put); (focus assumption))
  | ((apply Law.sm_put); (focus assumption)))
local macro_rules | `(tactic| fail "st") => `(tactic| first
  | (with_reducible refine U.st_seq ?_)
  | ((with_reducible apply U.st_asg); (focus fail "vt"); (try dsimp only [List.set]))
  | ((with_reducible apply U.st_ret); (focus fail "vt"); (try dsimp only))
  | ((with_reducible apply U.st_fld); (focus fail "vt"); (focus fail "vt"); (focus fail "hq"); (focus fail "sz"); (focus fail "pf"); (try dsimp only))
  | ((with_reducible apply U.st_fld1); (focus fail "vt"); (focus fail "hq"); (focus fail "sz"); (focus fail "pf"); (try dsimp only))
  | ((with_reducible apply U.st_untup); (focus fail "vt"); (focus fail "hq"); (focus rfl))
  | ((with_reducible refine U.st_gcons ?_); (try dsimp only))
  | ((with_reducible refine U.st_gname ?_); (try dsimp only [List.set]))
  | ((with_reducible refine U.st_gnil ?_); (try dsimp only))
  | ((with_reducible apply U.st_gf); (focus fail "vt"); (focus fail "hq"); (focus fail "sz"); (focus fail "pf"); (try dsimp only))
  | ((with_reducible refine U.st_next ?_); (try dsimp only))
  | (with_reducible refine U.st_drop ?_)
  | ((with_reducible apply U.st_append); (focus fail "vt"); (focus fail "hq"); (focus fail "vt"); (focus fail "sz"); (try dsimp only))
  | ((with_reducible apply U.st_setDL); (focus fail "vt"); (focus fail "vt"); (focus fail "vt"); (focus fail "hq"); (focus fail "sz"); (focus fail "put"); (try dsimp only))
  | ((with_reducible apply U.st_set1); (focus fail "vt"); (focus fail "vt"); (focus fail "hq"); (focus fail "sz"); (focus fail "put"); (try dsimp only))
  | ((with_reducible apply U.st_call); (focus fail "va"))
  | ((with_reducible apply U.st_methV); (focus fail "vt"); (focus fail "hq"); (focus fail "lk"); (focus fail "va"))
  | (with_reducible refine U.st_fldE ?_)
  | (with_reducible refine U.st_setE ?_)
  | (with_reducible refine U.st_asgC ?_)
  | (with_reducible refine U.st_retC ?_)
  | ((with_reducible refine U.st_dnew ?_); (intro p hp); (try dsimp only))
  | ((with_reducible apply U.st_tup); (focus fail "va"); (focus fail "sz"); (intro p hp); (try dsimp only))
  | ((with_reducible apply U.st_lst); (focus fail "va"); (focus fail "sz"); (intro p hp); (try dsimp only))
  | ((with_reducible apply U.st_listOf); (focus fail "va"); (focus fail "hq"); (intro p hp); (try dsimp only))
  | ((with_reducible apply U.st_dictOf); (focus fail "va"); (focus fail "hq"); (intro p hp); (try dsimp only))
  | ((with_reducible apply U.st_apE); (focus fail "vt"); (focus fail "hq"))
  | ((with_reducible apply U.st_ap1); (focus fail "hq"); (focus fail "sz"); (try dsimp only)))
local macro_rules | `(tactic| fail "go") => `(tactic| repeat fail "st")

namespace Law
open PySem PySem.Spec PyProof.Rows L2 U
/-- while, by a word that counts down; the test may make things -/
theorem st_whileN {tc : TT} {t : TS} {D : Ends} {σ : L2.St} {H : Hp} (P : Nat → L2.St → Hp → Prop) {m : Nat} (h0 : P m σ H)
    (hs : ∀ m σ H, P m σ H → tc σ H fun b H1 => if b = true then ∃ I : L2.St → Hp → Prop, (∀ σ' H', I σ' H' → ∃ m', m' < m ∧ P m' σ' H') ∧ t { D with nx := I, ct := I, bk := D.nx } σ H1 else D.nx σ H1) : tWhile tc t D σ H :=
  ⟨P, ⟨_, h0⟩, hs⟩
theorem told_read {H : Hp} {v : V} {y : Str} (h : Rp H (Told.read y).t v) : ∃ b, v = .ref b ∧ H b = some (.tup [.str "read", .str y]) := by
  obtain ⟨b, xs, rfl, hb, _, _, rfl, rfl, _, _, rfl, rfl, rfl⟩ := h
  exact ⟨b, rfl, hb⟩
theorem told_worth {H : Hp} {v : V} {y : Int} (h : Rp H (Told.worth y).t v) : ∃ b, v = .ref b ∧ H b = some (.tup [.str "worth", .int y]) := by
  obtain ⟨b, xs, rfl, hb, _, _, rfl, rfl, _, _, rfl, rfl, rfl⟩ := h
  exact ⟨b, rfl, hb⟩
theorem bd_nil {M : Nat} : Bd M [] := fun _ m => nomatch m
theorem rpl_append {H : Hp} {us : List T} {ys : List V} (h2 : RpL H us ys) : ∀ {ts : List T} {xs : List V}, RpL H ts xs → RpL H (ts ++ us) (xs ++ ys)
  | [], xs, h => by
    have : xs = [] := h
    subst this
    exact h2
  | t :: ts, xs, h => by
    obtain ⟨x, xs', rfl, hx, hr⟩ := h
    exact ⟨x, xs' ++ ys, rfl, hx, rpl_append h2 hr⟩
theorem rpl_one {H : Hp} {t : T} {x : V} (h : Rp H t x) : RpL H [t] [x] := ⟨_, _, rfl, h, rfl⟩
theorem ans_andF {t u : TT} {σ : L2.St} {H : Hp} (h1 : Ans t σ H false) : Ans (tAnd t u) σ H false := fun Q q => h1 _ (by
  rw [if_neg Bool.false_ne_true]; exact q)
theorem told_imm : ∀ t : Told, imm t.t = true
  | .read _ => rfl
  | .worth _ => rfl

end Law

end
section
set_option maxHeartbeats 4000000
/-! words: fail "le", "hq" (what stands at an address), "ne" (two addresses differ), "fn" (an address is new to an older heap), "al" (places of a frame), "ni", "frm" (a frame) -/
local macro_rules | `(tactic| fail "le") => `(tactic| first
  | (with_reducible exact U.Le.refl _)
  | ((with_reducible refine U.Le.upd ?_); fail "le")
  | ((with_reducible apply U.Le.fr); (rotate_left 1); (focus assumption); (focus fail "le")))
local macro_rules | `(tactic| fail "fn") => `(tactic| first
  | assumption
  | ((with_reducible apply U.none_le); (rotate_left 1); (focus assumption); (focus fail "le")))
local macro_rules | `(tactic| fail "hq") => `(tactic| first
  | (with_reducible assumption)
  | (with_reducible exact L2.upd_same)
  | ((with_reducible apply U.look_upd); (focus fail "hq"); (focus fail "ne"))
  | ((with_reducible apply U.look_fr); (focus assumption); (focus fail "hq"); (focus fail "ni"))
  | ((with_reducible apply U.look_tup); (focus assumption); (focus fail "hq")))
local macro_rules | `(tactic| fail "hx") => `(tactic| first
  | fail "hq"
  | ((with_reducible apply U.hq_to); (focus fail "hq"); (focus rfl)))
local macro_rules | `(tactic| fail "ni") => `(tactic| first
  | (with_reducible exact U.ni_nil)
  | ((with_reducible refine U.ni_cons ?_ ?_); (focus fail "ne"); (focus fail "ni"))
  | assumption)
local macro_rules | `(tactic| fail "ne") => `(tactic| first
  | (with_reducible assumption)
  | ((with_reducible apply Ne.symm); (focus assumption))
  | ((with_reducible apply U.ne_new); (focus with_reducible assumption); (focus fail "hq"))
  | ((with_reducible apply U.ne_new'); (focus with_reducible assumption); (focus fail "hq"))
  | ((with_reducible apply L2.ne_of); (focus with_reducible assumption); (focus fail "hq"); (focus (intro z; cases z))))
local macro_rules | `(tactic| fail "mem") => `(tactic| first
  | (with_reducible exact U.mem_hd)
  | ((with_reducible refine U.mem_tl ?_); fail "mem")
  | assumption)
local macro_rules | `(tactic| fail "in") => `(tactic| first
  | ((with_reducible apply Or.inl); (focus fail "mem"))
  | ((with_reducible apply Or.inr); (focus fail "fn")))
local macro_rules | `(tactic| fail "al") => `(tactic| first
  | (with_reducible exact U.al_nil)
  | ((with_reducible refine U.al_cons ?_ ?_); (focus fail "in"); (focus fail "al"))
  | assumption)
local macro_rules | `(tactic| fail "frm") => `(tactic| first
  | (with_reducible exact U.Fr.refl _)
  | (with_reducible assumption)
  | ((with_reducible apply U.fr_new); (focus assumption); (focus fail "frm"))
  | ((with_reducible apply U.fr_upd); (focus fail "hq"); (focus rfl); (focus fail "in"); (focus fail "frm"))
  | ((with_reducible apply U.fr_call); (focus assumption); (focus fail "frm"); (focus fail "al")))
local macro_rules | `(tactic| fail "sne") => `(tactic| first
  | assumption
  | decide +kernel
  | ((with_reducible apply U.inr_ne); (focus fail "sne"))
  | ((with_reducible apply Ne.symm); (focus assumption)))
local macro_rules | `(tactic| fail "lk") => `(tactic| first
  | (with_reducible exact U.lk_hit)
  | ((with_reducible apply U.lk_miss); (focus fail "sne"); (focus fail "lk"))
  | (with_reducible exact U.lk_nil)
  | assumption)
local macro_rules | `(tactic| fail "pf") => `(tactic| first
  | (with_reducible exact U.pf_hit)
  | ((with_reducible apply U.pf_miss); (focus fail "sne"); (focus fail "pf"))
  | (with_reducible exact U.pf_nil))
local macro_rules | `(tactic| fail "vv") => `(tactic| first
  | (with_reducible assumption)
  | (with_reducible exact U.vv_hit)
  | ((with_reducible apply U.vv_miss); (focus fail "sne"); (focus fail "vv"))
  | (with_reducible exact U.vv_nil))
local macro_rules | `(tactic| fail "nk") => `(tactic| first
  | (with_reducible exact U.nk_nil)
  | ((with_reducible apply U.nk_cons); (focus fail "sne"); (focus fail "nk")))
local macro_rules | `(tactic| fail "pk") => `(tactic| first
  | ((with_reducible apply U.pk_hit); fail "nk")
  | ((with_reducible apply U.pk_miss); (focus fail "sne"); (focus fail "pk"))
  | (with_reducible exact U.pk_nil))
local macro_rules | `(tactic| fail "at") => `(tactic| first
  | (with_reducible assumption)
  | ((with_reducible apply L2.atI_nat); (focus assumption))
  | rfl)
local macro_rules | `(tactic| fail "sz") => `(tactic| first
  | assumption
  | decide
  | (simp only [List.length_cons, List.length_nil]; decide)
  | (show _ < (16777216 : Nat); omega)
  | (show _ ≤ (16777216 : Nat); omega))
local macro_rules | `(tactic| fail "lf") => `(tactic| first
  | (with_reducible exact U.lf_addI)
  | (with_reducible exact U.lf_sub)
  | (with_reducible exact U.lf_eqI)
  | (with_reducible exact U.lf_eqS)
  | (with_reducible exact U.lf_neI)
  | (with_reducible exact U.lf_neS)
  | (with_reducible exact U.lf_lt)
  | (with_reducible exact U.lf_le)
  | (with_reducible exact U.lf_gt)
  | (with_reducible exact U.lf_ge)
  | (with_reducible exact U.lf_isN)
  | (with_reducible exact U.lf_notN)
  | ((with_reducible apply U.lf_ixT); (focus fail "hq"); (focus fail "at"))
  | ((with_reducible apply U.lf_ixL); (focus fail "hq"); (focus fail "at"))
  | ((with_reducible apply U.lf_ixD); (focus fail "hq"); (focus fail "vv"))
  | ((with_reducible apply U.lf_inD); (focus fail "hq"))
  | ((with_reducible apply U.lf_notInD); (focus fail "hq"))
  | ((with_reducible apply U.lf_inL); (focus fail "hq"))
  | ((with_reducible apply U.lf_notInL); (focus fail "hq"))
  | (with_reducible exact U.lf_inS)
  | (with_reducible exact U.lf_notInS)
  | ((with_reducible apply U.lf_mod); (focus first | assumption | decide | omega))
  | (with_reducible assumption))
local macro_rules | `(tactic| fail "lc") => `(tactic| first
  | ((with_reducible apply U.lc_lenUL); (focus fail "hq"))
  | ((with_reducible apply U.lc_lenUT); (focus fail "hq"))
  | ((with_reducible apply U.lc_lenUD); (focus fail "hq"))
  | ((with_reducible apply U.lc_lenUS); (focus fail "sz"))
  | (with_reducible exact U.lc_intB)
  | (with_reducible exact U.lc_max)
  | (with_reducible assumption))
local macro_rules | `(tactic| fail "va") => `(tactic| first
  | (with_reducible exact U.va_nil)
  | ((with_reducible apply U.va_cons); (focus fail "vt"); (focus fail "va")))
local macro_rules | `(tactic| fail "vt") => `(tactic| first
  | (with_reducible assumption)
  | (with_reducible exact U.val_c)
  | exact U.val_var rfl
  | ((with_reducible apply U.val_op); (focus fail "vt"); (focus fail "vt"); (focus fail "lf"))
  | ((with_reducible apply U.val_fld); (focus fail "vt"); (focus fail "hq"); (focus fail "lk"))
  | ((with_reducible apply U.val_cb); (focus fail "va"); (focus fail "lc"))
  | ((with_reducible apply U.val_get1); (focus fail "vt"); (focus fail "vt"); (focus fail "hq"))
  | ((with_reducible apply U.val_notV); (focus fail "vt"))
  | ((with_reducible apply U.val_andV); (focus fail "vt"); (intro _; fail "vt"))
  | ((with_reducible apply U.val_orV); (focus fail "vt"); (intro _; fail "vt")))
local macro_rules | `(tactic| fail "an") => `(tactic| first
  | (with_reducible assumption)
  | ((with_reducible apply U.ans_T); fail "vt")
  | ((with_reducible apply U.ans_B); fail "vt")
  | ((with_reducible apply U.ans_not); fail "an")
  | ((with_reducible apply U.ans_and); (focus fail "an"); (intro _; fail "an"))
  | ((with_reducible apply U.ans_or); (focus fail "an"); (intro _; fail "an")))
local macro_rules | `(tactic| fail "put") => `(tactic| first
  | fail "pk"
  | ((apply Law.im_put); (focus assumption))
  | ((apply Law.sm_put); (focus assumption)))
local macro_rules | `(tactic| fail "st") => `(tactic| first
  | (with_reducible refine U.st_seq ?_)
  | ((with_reducible apply U.st_asg); (focus fail "vt"); (try dsimp only [List.set]))
  | ((with_reducible apply U.st_ret); (focus fail "vt"); (try dsimp only))
  | ((with_reducible apply U.st_fld); (focus fail "vt"); (focus fail "vt"); (focus fail "hq"); (focus fail "sz"); (focus fail "pf"); (try dsimp only))
  | ((with_reducible apply U.st_fld1); (focus fail "vt"); (focus fail "hq"); (focus fail "sz"); (focus fail "pf"); (try dsimp only))
  | ((with_reducible apply U.st_untup); (focus fail "vt"); (focus fail "hq"); (focus rfl))
  | ((with_reducible refine U.st_gcons ?_); (try dsimp only))
  | ((with_reducible refine U.st_gname ?_); (try dsimp only [List.set]))
  | ((with_reducible refine U.st_gnil ?_); (try dsimp only))
  | ((with_reducible apply U.st_gf); (focus fail "vt"); (focus fail "hq"); (focus fail "sz"); (focus fail "pf"); (try dsimp only))
  | ((with_reducible refine U.st_next ?_); (try dsimp only))
  | (with_reducible refine U.st_drop ?_)
  | ((with_reducible apply U.st_append); (focus fail "vt"); (focus fail "hq"); (focus fail "vt"); (focus fail "sz"); (try dsimp only))
  | ((with_reducible apply U.st_setDL); (focus fail "vt"); (focus fail "vt"); (focus fail "vt"); (focus fail "hq"); (focus fail "sz"); (focus fail "put"); (try dsimp only))
  | ((with_reducible apply U.st_set1); (focus fail "vt"); (focus fail "vt"); (focus fail "hq"); (focus fail "sz"); (focus fail "put"); (try dsimp only))
  | ((with_reducible apply U.st_call); (focus fail "va"))
  | ((with_reducible apply U.st_methV); (focus fail "vt"); (focus fail "hq"); (focus fail "lk"); (focus fail "va"))
  | (with_reducible refine U.st_fldE ?_)
  | (with_reducible refine U.st_setE ?_)
  | (with_reducible refine U.st_asgC ?_)
  | (with_reducible refine U.st_retC ?_)
  | ((with_reducible refine U.st_dnew ?_); (intro p hp); (try dsimp only))
  | ((with_reducible apply U.st_tup); (focus fail "va"); (focus fail "sz"); (intro p hp); (try dsimp only))
  | ((with_reducible apply U.st_lst); (focus fail "va"); (focus fail "sz"); (intro p hp); (try dsimp only))
  | ((with_reducible apply U.st_listOf); (focus fail "va"); (focus fail "hq"); (intro p hp); (try dsimp only))
  | ((with_reducible apply U.st_dictOf); (focus fail "va"); (focus fail "hq"); (intro p hp); (try dsimp only))
  | ((with_reducible apply U.st_apE); (focus fail "vt"); (focus fail "hq"))
  | ((with_reducible apply U.st_ap1); (focus fail "hq"); (focus fail "sz"); (try dsimp only)))
local macro_rules | `(tactic| fail "go") => `(tactic| repeat fail "st")

namespace Law
open PySem PySem.Spec PyProof.Rows L2 U
def sp_goOnX (A : Ad) (n : Nat) : Sp := fun vs H Q E => ∃ (w g r ws bs wt : Addr) (G : List (Str × Int)) (R : List (Str × Rc)) (W : Wv) (name : Str) (rc : Rc) (M : Nat), vs = [.ref w, .str name] ∧ WvAt A H w g r ws bs wt G R W ∧
  W.begun.length ≤ 50000 ∧ W.worths.length ≤ 100000 ∧ W.waits.length ≤ 100000 ∧ R.lookup name = some rc ∧ W.worths.lookup name = none ∧ W.waits.lookup name = none ∧ rc.dp < n ∧ Sm M rc ∧ M + wb rc ≤ 4000 ∧ rn rc ≤ 900 ∧
  (∀ x ∈ nm rc, ∀ v, W.worths.lookup x = some v → v.natAbs < 2 ^ M) ∧
  ((∀ y, told (W.worths.lookup ·) rc = .read y → (R.lookup y).isSome = true) → ∀ H' v, Fr [ws, bs, wt] H H' → WvAt A H' w g r ws bs wt G R (stepW W name rc).1 → Rp H' (stepW W name rc).2.t v → Q v H') ∧
  (∀ y, told (W.worths.lookup ·) rc = .read y → R.lookup y = none → ∀ H' d, Fr [] H H' → H d = none → H' d = some (.xd [("name", .str y)]) → E (.ref A.C_NoName) (some d) H')
theorem r_Weaving_go_on {K : PySem.W.Frag} {A : Ad} {n : Nat} (vs : List V) (H : Hp) (Q : VK) (E : XK) (en : ErrN K A) (h : sp_goOnX A n vs H Q E) : t_Weaving_go_on K A (sp_behind A n) (sp_err1 K A.C_NoName "name") (sp_begin A) E { nx := fun _ H' => Q .non H', rt := Q } (start N_Weaving_go_on vs) H := by
  obtain ⟨w, g, r, ws, bs, wt, G, R, W, name, rc, M, rfl, p, z1, z2, z3, hl, nw, nt, hd, hsm, hM, hrn, hbd, k, ke⟩ := h
  obtain ⟨⟨dx, h0⟩, hs, h1, h2, h3, n1, n2, n3, n4, n5⟩ := id p
  obtain ⟨rk, hr, _, _, hrk⟩ := hs.rcs
  obtain ⟨rv, hrv, hrp⟩ := hrk _ _ hl
  obtain ⟨F, eF⟩ : ∃ F, F = (walk (W.worths.lookup ·) rc []).1 := ⟨_, rfl⟩
  have lF : F.length ≤ 900 := by
    have q := walk_len (f := (W.worths.lookup ·)) rc []
    rw [← eF, List.length_nil] at q
    omega
  have bF : Bd M F := by rw [eF]; exact walk_bd hsm.ch hbd
  have bT : ∀ k, Bd M (F.take k) := fun k p m => bF p (List.mem_of_mem_take m)
  fail "go"
  rename_i ra ra0
  have tl : ∀ k, k ≤ F.length → ∃ t, behindG rc (F.take k) = some t ∧ (∀ h : k < F.length, t = .read F[k].1 ∧ W.worths.lookup F[k].1 = some F[k].2) ∧ (k = F.length → t = told (W.worths.lookup ·) rc) := by
    intro k hk
    rcases Nat.lt_or_ge k F.length with h | h
    · have e := behind_at (f := (W.worths.lookup ·)) (k := k) (y := F[k].1) (n := F[k].2) hsm.ch (by rw [← eF]; exact List.getElem?_eq_getElem h)
      rw [← eF] at e
      refine ⟨_, e, fun _ => ⟨rfl, ?_⟩, fun z => by omega⟩
      have c := walk_con (f := (W.worths.lookup ·)) rc [] (fun _ m => by cases m)
      rw [← eF] at c
      exact c _ (List.getElem_mem h)
    · have e : k = F.length := by omega
      have q := behind_end (f := (W.worths.lookup ·)) hsm.ch
      rw [← eF] at q
      refine ⟨_, ?_, fun h => by omega, fun _ => rfl⟩
      rw [e, List.take_length]
      exact q
  obtain ⟨t0, tb0, t1, t2⟩ := tl 0 (Nat.zero_le _)
  refine ⟨ra, rc, rv, [], t0, M, rfl, ⟨[], by fail "hq", rfl⟩, Nat.zero_le _, bd_nil, rp_fr (H := H) (F := []) (by fail "frm") hrp, hd, hsm, hM, tb0, fun H1 tv f1 hp1 => ?_⟩
  have r1 : RdsAt H1 ra [] := ⟨[], by fail "hq", rfl⟩
  have f1' : Fr [] H H1 := by fail "frm"
  clear f1
  have ra1 : H ra = none := ra0
  clear ra0
  dsimp only [L2.start, List.set]
  refine st_whileN (m := F.length) (fun m σ' H' => ∃ k t tv, m = F.length - k ∧ k ≤ F.length ∧ σ' = [some (.ref w), some (.str name), some (.ref ra), some tv, none] ∧ Fr [] H H' ∧ RdsAt H' ra (F.take k) ∧ behindG rc (F.take k) = some t ∧ Rp H' t.t tv)
    ⟨0, t0, tv, rfl, Nat.zero_le _, rfl, f1', r1, tb0, hp1⟩ ?_
  rintro m σ' H' ⟨k0, t, tv, rfl, lk, rfl, f, rd, eb, ht⟩
  have p' := p.fr f
  obtain ⟨⟨dx, h0⟩, hs, h1, h2, h3, n1, n2, n3, n4, n5⟩ := id p'
  obtain ⟨rk, hr, _, hrn, hrk⟩ := hs.rcs
  obtain ⟨rv, hrv, hrp⟩ := hrk _ _ hl
  obtain ⟨t', eb', c1, c2⟩ := tl k0 lk
  rw [eb] at eb'
  cases eb'
  rcases Nat.lt_or_ge k0 F.length with lt | ge
  · obtain ⟨rfl, hv⟩ := c1 lt
    obtain ⟨ta, rfl, hta⟩ := told_read ht
    obtain ⟨rs, hrs, hR⟩ := id rd
    have vv1 : valV (im W.worths) (.inr F[k0].1) = some (.int F[k0].2) := by rw [im_get, hv]; rfl
    have lrs : rs.length = k0 := by rw [← hR.len, List.length_map, List.length_take]; omega
    have lz : rs.length < sizeLine := by show _ < (16777216 : Nat); omega
    refine st_ansC (by fail "an") ?_
    refine ifT (by rw [vv1]; rfl) ⟨_, fun _ _ q => q, ?_⟩
    fail "go"
    rename_i pa pa0
    have fa : Fr [ra] H' (upd (upd H' pa (.tup [.str F[k0].1, .int F[k0].2])) ra (.lst (rs ++ [.ref pa]))) := by fail "frm"
    have fb : Fr [] H (upd (upd H' pa (.tup [.str F[k0].1, .int F[k0].2])) ra (.lst (rs ++ [.ref pa]))) := by fail "frm"
    have er : F.take (k0 + 1) = F.take k0 ++ [F[k0]] := by rw [List.take_succ, List.getElem?_eq_getElem lt]; rfl
    have rd2 : RdsAt (upd (upd H' pa (.tup [.str F[k0].1, .int F[k0].2])) ra (.lst (rs ++ [.ref pa]))) ra (F.take (k0 + 1)) := by
      refine ⟨_, upd_same, ?_⟩
      rw [er, List.map_append]
      exact rpl_append (rpl_one (t := prT F[k0]) ⟨_, _, rfl, by fail "hq", _, _, rfl, rfl, _, _, rfl, rfl, rfl⟩) (RpL.tups fa.tup _ _ (prs_imm _) hR)
    obtain ⟨t2, tb2, _, _⟩ := tl (k0 + 1) lt
    refine ⟨ra, rc, rv, _, t2, M, rfl, rd2, by rw [List.length_take]; omega, bT _, rp_fr fa hrp, hd, hsm, hM, tb2, fun H2 tv2 f2 hp2 => ?_⟩
    refine ⟨_, by omega, k0 + 1, t2, tv2, rfl, lt, rfl, fb.call f2 (by fail "al"), ?_, tb2, hp2⟩
    obtain ⟨rs2, hrs2, hR2⟩ := rd2
    exact ⟨rs2, f2.keep _ _ hrs2 (by fail "ni"), RpL.tups f2.tup _ _ (prs_imm _) hR2⟩
  · have e := c2 (by omega)
    subst e
    rcases et : told (W.worths.lookup ·) rc with y | v
    · rw [et] at ht
      obtain ⟨ta, rfl, hta⟩ := told_read ht
      have hf := (walk_read (f := (W.worths.lookup ·)) rc [] y hsm.ch et).2
      have vv1 : valV (im W.worths) (.inr y) = none := by rw [im_get, hf]; rfl
      refine st_ansC (by fail "an") ?_
      refine ifF (by rw [vv1]; rfl) ?_
      fail "go"
      by_cases hy : (R.lookup y).isSome = true
      rotate_left 1
      · have hy : R.lookup y = none := by
          cases e : R.lookup y with
          | none => rfl
          | some v => rw [e] at hy; exact absurd rfl hy
        have rn := hrn y hy
        refine st_ifT (by fail "an") (fun _ => ?_) fun q => by simp at q
        fail "go"
        refine st_ifT (by fail "an") (fun _ => ?_) fun q => by rw [rn] at q; simp at q
        fail "go"
        refine st_raise1 (va_cons (by fail "vt") va_nil) en.c en.n fun d H2 d0 f2 hd => ?_
        exact ke y et hy H2 d (f.call f2 (by fail "al")) (f.old _ d0) hd
      obtain ⟨rcy, ey⟩ := Option.isSome_iff_exists.mp hy
      obtain ⟨vy, hvy, _⟩ := hrk _ _ ey
      refine st_ifT (by fail "an") (fun _ => ?_) fun q => by simp at q
      fail "go"
      refine st_ifT (by fail "an") (fun q => by rw [hvy] at q; simp at q) fun _ => ?_
      fail "go"
      refine ⟨w, g, r, ws, bs, wt, G, R, W, y, rfl, p', by omega, fun H2 f2 p2 => ?_⟩
      obtain ⟨⟨dx2, h02⟩, hs2, h12, h22, h32, m1, m2, m3, m4, m5⟩ := id p2
      have sl : (sm W.waits).length < sizeLine := by rw [sm_len]; show _ < (16777216 : Nat); omega
      have hta2 := f2.tup _ _ hta
      have f' : Fr [ws, bs, wt] H H2 := (Fr.mono f (by simp)).call f2 (by fail "al")
      clear f2
      fail "go"
      have es : stepW W name rc = (⟨W.worths, beginW W.begun y, W.waits ++ [(name, y)]⟩, .waits name y) := by unfold stepW; rw [et]
      rename_i q q0
      have fq : Fr [wt] H2 (upd (upd H2 wt (HO.dK (sm (W.waits ++ [(name, y)])))) q (HO.tup [V.str name, V.str (Str.ofString "waits"), V.str y])) := by fail "frm"
      refine k (fun z e => by rw [et] at e; cases e; exact hy) _ _ (by fail "frm") ?_ ?_
      · rw [es]
        exact ⟨⟨_, by fail "hq"⟩, hs2.fr fq (by fail "ni") (by fail "ni"), by fail "hq", by fail "hq", by fail "hq", n1, n2, n3, n4, n5⟩
      · rw [es]
        exact ⟨_, _, rfl, by fail "hq", _, _, rfl, rfl, _, _, rfl, rfl, _, _, rfl, rfl, rfl⟩
    · rw [et] at ht
      obtain ⟨ta, rfl, hta⟩ := told_worth ht
      refine st_ansC (ans_andF (ans_is (by fail "an") (by rfl))) ?_
      refine ifF rfl ?_
      have sl : (im W.worths).length < sizeLine := by rw [im_len]; show _ < (16777216 : Nat); omega
      fail "go"
      refine st_ifT (by fail "an") (fun q => absurd q (by decide)) fun _ => ?_
      fail "go"
      have fz : Fr [ws] H' (upd H' ws (HO.dK (im (W.worths ++ [(name, v)])))) := by fail "frm"
      have es : stepW W name rc = (⟨W.worths ++ [(name, v)], W.begun, popW W.begun name W.waits⟩, .known name v) := by unfold stepW; rw [et]
      have lz : W.begun.length ≤ sizeLine := by show _ ≤ (16777216 : Nat); omega
      refine st_forL (K := K) (p := bs) (emb := V.str) (xs := W.begun) ?_ ?_ (fun rest σ' H2 => ∃ o wt', σ' = [some (.ref w), some (.str name), some (.ref ra), some (.ref ta), o] ∧ Fr [ws, wt] H H2 ∧ WvAt A H2 w g r ws bs wt G R ⟨W.worths ++ [(name, v)], W.begun, wt'⟩ ∧ popW rest name wt' = popW W.begun name W.waits ∧ H2 ta = some (.tup [.str "worth", .int v])) ?_ ?_ ?_ ?_
      · fail "vt"
      · exact SqL.of (by fail "hq")
      · exact ⟨_, W.waits, rfl, by fail "frm", ⟨⟨_, by fail "hq"⟩, hs.fr fz (by fail "ni") (by fail "ni"), by fail "hq", by fail "hq", by fail "hq", n1, n2, n3, n4, n5⟩, rfl, by fail "hq"⟩
      · exact fun rest σ' H2 ⟨_, _, _, _, q, _⟩ => SqL.of q.hb
      · rintro o rest σ' H2 ⟨o', wt', rfl, f2, p2, ep, hta2⟩
        obtain ⟨⟨dx2, h02⟩, hs2, h12, h22, h32, m1, m2, m3, m4, m5⟩ := id p2
        dsimp only at h12 h22 h32
        fail "go"
        cases eo : wt'.lookup o with
        | none =>
          have vn : (valV (sm wt') (.inr o)).getD .non = .non := by rw [sm_get, eo]; rfl
          refine st_ifT (b := false) (ans_T (val_op (val_is (by fail "vt") vn) (by fail "vt") lf_eqNS)) (fun q => by cases q) fun _ => ?_
          fail "go"
          refine ⟨_, wt', rfl, f2, p2, ?_, hta2⟩
          rw [← ep]
          show _ = popW rest name (if wt'.lookup o = some name then wt'.filter fun p => decide (p.1 ≠ o) else wt')
          rw [eo, if_neg (fun z => by cases z)]
        | some u =>
          have vn : valV (sm wt') (.inr o) = some (.str u) := by rw [sm_get, eo]; rfl
          refine st_ifT (b := decide (u = name)) (ans_T (val_op (val_is (by fail "vt") (by rw [vn]; rfl)) (by fail "vt") lf_eqS)) (fun q => ?_) fun q => ?_
          · have q := of_decide_eq_true q
            subst q
            fail "go"
            refine st_pop1 (by fail "vt") (by fail "vt") (by fail "hq") vn ?_
            rw [sm_drop]
            have fy : Fr [wt] H2 (upd H2 wt (HO.dK (sm (wt'.filter fun p => decide (p.1 ≠ o))))) := by fail "frm"
            refine ⟨_, wt'.filter fun p => decide (p.1 ≠ o), rfl, by fail "frm", ⟨⟨_, by fail "hq"⟩, hs2.fr fy (by fail "ni") (by fail "ni"), by fail "hq", by fail "hq", by fail "hq", n1, n2, n3, n4, n5⟩, ?_, by fail "hq"⟩
            rw [← ep]
            show _ = popW rest u (if wt'.lookup o = some u then wt'.filter fun p => decide (p.1 ≠ o) else wt')
            rw [eo, if_pos rfl]
          · have q := of_decide_eq_false q
            fail "go"
            refine ⟨_, wt', rfl, f2, p2, ?_, hta2⟩
            rw [← ep]
            show _ = popW rest name (if wt'.lookup o = some name then wt'.filter fun p => decide (p.1 ≠ o) else wt')
            rw [eo, if_neg (fun z => q (Option.some.inj z))]
      · rintro σ' H2 ⟨o', wt', rfl, f2, p2, ep, hta2⟩
        fail "go"
        rename_i q q0
        have ep : wt' = popW W.begun name W.waits := ep
        have fq : Fr [] H2 (upd H2 q (HO.tup [V.str name, V.str (Str.ofString "known"), V.int v])) := by fail "frm"
        refine k (fun z e => by rw [et] at e; cases e) _ _ (by fail "frm") ?_ ?_
        · rw [es, ← ep]
          exact p2.fr fq
        · rw [es]
          exact ⟨_, _, rfl, by fail "hq", _, _, rfl, rfl, _, _, rfl, rfl, _, _, rfl, rfl, rfl⟩
end Law

end
section
set_option maxHeartbeats 4000000
/-! words: fail "le", "hq" (what stands at an address), "ne" (two addresses differ), "fn" (an address is new to an older heap), "al" (places of a frame), "ni", "frm" (a frame) -/
local macro_rules | `(tactic| fail "le") => `(tactic| first
  | (with_reducible exact U.Le.refl _)
  | ((with_reducible refine U.Le.upd ?_); fail "le")
  | ((with_reducible apply U.Le.fr); (rotate_left 1); (focus assumption); (focus fail "le")))
local macro_rules | `(tactic| fail "fn") => `(tactic| first
  | assumption
  | ((with_reducible apply U.none_le); (rotate_left 1); (focus assumption); (focus fail "le")))
local macro_rules | `(tactic| fail "hq") => `(tactic| first
  | (with_reducible assumption)
  | (with_reducible exact L2.upd_same)
  | ((with_reducible apply U.look_upd); (focus fail "hq"); (focus fail "ne"))
  | ((with_reducible apply U.look_fr); (focus assumption); (focus fail "hq"); (focus fail "ni"))
  | ((with_reducible apply U.look_tup); (focus assumption); (focus fail "hq")))
local macro_rules | `(tactic| fail "hx") => `(tactic| first
  | fail "hq"
  | ((with_reducible apply U.hq_to); (focus fail "hq"); (focus rfl)))
local macro_rules | `(tactic| fail "ni") => `(tactic| first
  | (with_reducible exact U.ni_nil)
  | ((with_reducible refine U.ni_cons ?_ ?_); (focus fail "ne"); (focus fail "ni"))
  | assumption)
local macro_rules | `(tactic| fail "ne") => `(tactic| first
  | (with_reducible assumption)
  | ((with_reducible apply Ne.symm); (focus assumption))
  | ((with_reducible apply U.ne_new); (focus with_reducible assumption); (focus fail "hq"))
  | ((with_reducible apply U.ne_new'); (focus with_reducible assumption); (focus fail "hq"))
  | ((with_reducible apply L2.ne_of); (focus with_reducible assumption); (focus fail "hq"); (focus (intro z; cases z))))
local macro_rules | `(tactic| fail "mem") => `(tactic| first
  | (with_reducible exact U.mem_hd)
  | ((with_reducible refine U.mem_tl ?_); fail "mem")
  | assumption)
local macro_rules | `(tactic| fail "in") => `(tactic| first
  | ((with_reducible apply Or.inl); (focus fail "mem"))
  | ((with_reducible apply Or.inr); (focus fail "fn")))
local macro_rules | `(tactic| fail "al") => `(tactic| first
  | (with_reducible exact U.al_nil)
  | ((with_reducible refine U.al_cons ?_ ?_); (focus fail "in"); (focus fail "al"))
  | assumption)
local macro_rules | `(tactic| fail "frm") => `(tactic| first
  | (with_reducible exact U.Fr.refl _)
  | (with_reducible assumption)
  | ((with_reducible apply U.fr_new); (focus assumption); (focus fail "frm"))
  | ((with_reducible apply U.fr_upd); (focus fail "hq"); (focus rfl); (focus fail "in"); (focus fail "frm"))
  | ((with_reducible apply U.fr_call); (focus assumption); (focus fail "frm"); (focus fail "al")))
local macro_rules | `(tactic| fail "sne") => `(tactic| first
  | assumption
  | decide +kernel
  | ((with_reducible apply U.inr_ne); (focus fail "sne"))
  | ((with_reducible apply Ne.symm); (focus assumption)))
local macro_rules | `(tactic| fail "lk") => `(tactic| first
  | (with_reducible exact U.lk_hit)
  | ((with_reducible apply U.lk_miss); (focus fail "sne"); (focus fail "lk"))
  | (with_reducible exact U.lk_nil)
  | assumption)
local macro_rules | `(tactic| fail "pf") => `(tactic| first
  | (with_reducible exact U.pf_hit)
  | ((with_reducible apply U.pf_miss); (focus fail "sne"); (focus fail "pf"))
  | (with_reducible exact U.pf_nil))
local macro_rules | `(tactic| fail "vv") => `(tactic| first
  | (with_reducible assumption)
  | (with_reducible exact U.vv_hit)
  | ((with_reducible apply U.vv_miss); (focus fail "sne"); (focus fail "vv"))
  | (with_reducible exact U.vv_nil))
local macro_rules | `(tactic| fail "nk") => `(tactic| first
  | (with_reducible exact U.nk_nil)
  | ((with_reducible apply U.nk_cons); (focus fail "sne"); (focus fail "nk")))
local macro_rules | `(tactic| fail "pk") => `(tactic| first
  | ((with_reducible apply U.pk_hit); fail "nk")
  | ((with_reducible apply U.pk_miss); (focus fail "sne"); (focus fail "pk"))
  | (with_reducible exact U.pk_nil))
local macro_rules | `(tactic| fail "at") => `(tactic| first
  | (with_reducible assumption)
  | ((with_reducible apply L2.atI_nat); (focus assumption))
  | rfl)
local macro_rules | `(tactic| fail "sz") => `(tactic| first
  | assumption
  | decide
  | (simp only [List.length_cons, List.length_nil]; decide)
  | (show _ < (16777216 : Nat); omega)
  | (show _ ≤ (16777216 : Nat); omega))
local macro_rules | `(tactic| fail "lf") => `(tactic| first
  | (with_reducible exact U.lf_addI)
  | (with_reducible exact U.lf_sub)
  | (with_reducible exact U.lf_eqI)
  | (with_reducible exact U.lf_eqS)
  | (with_reducible exact U.lf_neI)
  | (with_reducible exact U.lf_neS)
  | (with_reducible exact U.lf_lt)
  | (with_reducible exact U.lf_le)
  | (with_reducible exact U.lf_gt)
  | (with_reducible exact U.lf_ge)
  | (with_reducible exact U.lf_isN)
  | (with_reducible exact U.lf_notN)
  | ((with_reducible apply U.lf_ixT); (focus fail "hq"); (focus fail "at"))
  | ((with_reducible apply U.lf_ixL); (focus fail "hq"); (focus fail "at"))
  | ((with_reducible apply U.lf_ixD); (focus fail "hq"); (focus fail "vv"))
  | ((with_reducible apply U.lf_inD); (focus fail "hq"))
  | ((with_reducible apply U.lf_notInD); (focus fail "hq"))
  | ((with_reducible apply U.lf_inL); (focus fail "hq"))
  | ((with_reducible apply U.lf_notInL); (focus fail "hq"))
  | (with_reducible exact U.lf_inS)
  | (with_reducible exact U.lf_notInS)
  | ((with_reducible apply U.lf_mod); (focus first | assumption | decide | omega))
  | ((with_reducible apply U.lf_mul); (focus first | assumption | ((apply U.mul64); (focus decide); (focus decide)) | ((apply U.mul64); (focus omega); (focus omega))))
  | ((with_reducible apply U.lf_div); (focus first | assumption | exact ⟨by decide, by decide +kernel⟩))
  | ((with_reducible apply U.lf_pow); (focus exact ⟨by decide, by decide, by decide⟩))
  | ((with_reducible apply U.lf_addS); (focus first | assumption | (show _ ≤ (16777216 : Nat); omega)))
  | (with_reducible assumption))
local macro_rules | `(tactic| fail "lc") => `(tactic| first
  | ((with_reducible apply U.lc_lenUL); (focus fail "hq"))
  | ((with_reducible apply U.lc_lenUT); (focus fail "hq"))
  | ((with_reducible apply U.lc_lenUD); (focus fail "hq"))
  | ((with_reducible apply U.lc_lenUS); (focus fail "sz"))
  | (with_reducible exact U.lc_intB)
  | (with_reducible exact U.lc_max)
  | (with_reducible exact U.lc_min)
  | ((with_reducible apply U.lc_lenUq); assumption)
  | ((with_reducible apply U.lc_isiL); (focus fail "hq"))
  | ((with_reducible apply U.lc_isiT); (focus fail "hq"))
  | (with_reducible exact U.lc_isiSb)
  | (with_reducible exact U.lc_isiIb)
  | (with_reducible assumption))
local macro_rules | `(tactic| fail "va") => `(tactic| first
  | (with_reducible exact U.va_nil)
  | ((with_reducible apply U.va_cons); (focus fail "vt"); (focus fail "va")))
local macro_rules | `(tactic| fail "vt") => `(tactic| first
  | (with_reducible assumption)
  | (with_reducible exact U.val_c)
  | exact U.val_var rfl
  | ((with_reducible apply U.val_op); (focus fail "vt"); (focus fail "vt"); (focus fail "lf"))
  | ((with_reducible apply U.val_fld); (focus fail "vt"); (focus fail "hq"); (focus fail "lk"))
  | ((with_reducible apply U.val_cb); (focus fail "va"); (focus fail "lc"))
  | ((with_reducible apply U.val_get1); (focus fail "vt"); (focus fail "vt"); (focus fail "hq"))
  | ((with_reducible apply U.val_notV); (focus fail "vt"))
  | ((with_reducible apply U.val_andV); (focus fail "vt"); (intro _; fail "vt"))
  | ((with_reducible apply U.val_orV); (focus fail "vt"); (intro _; fail "vt"))
  | ((with_reducible apply U.val_un); (focus fail "vt"); (focus with_reducible exact U.l1_neg)))
local macro_rules | `(tactic| fail "an") => `(tactic| first
  | (with_reducible assumption)
  | ((with_reducible apply U.ans_T); fail "vt")
  | ((with_reducible apply U.ans_B); fail "vt")
  | ((with_reducible apply U.ans_not); fail "an")
  | ((with_reducible apply U.ans_and); (focus fail "an"); (intro _; fail "an"))
  | ((with_reducible apply U.ans_or); (focus fail "an"); (intro _; fail "an")))
local macro_rules | `(tactic| fail "put") => `(tactic| first
  | fail "pk"
  | ((apply Law.im_put); (focus assumption))
  | ((apply Law.sm_put); (focus assumption)))
local macro_rules | `(tactic| fail "st") => `(tactic| first
  | (with_reducible refine U.st_seq ?_)
  | ((with_reducible apply U.st_asg); (focus fail "vt"); (try dsimp only [List.set]))
  | ((with_reducible apply U.st_ret); (focus fail "vt"); (try dsimp only))
  | ((with_reducible apply U.st_fld); (focus fail "vt"); (focus fail "vt"); (focus fail "hq"); (focus fail "sz"); (focus fail "pf"); (try dsimp only))
  | ((with_reducible apply U.st_fld1); (focus fail "vt"); (focus fail "hq"); (focus fail "sz"); (focus fail "pf"); (try dsimp only))
  | ((with_reducible apply U.st_untup); (focus fail "vt"); (focus fail "hq"); (focus rfl))
  | ((with_reducible refine U.st_gcons ?_); (try dsimp only))
  | ((with_reducible refine U.st_gname ?_); (try dsimp only [List.set]))
  | ((with_reducible refine U.st_gnil ?_); (try dsimp only))
  | ((with_reducible apply U.st_gf); (focus fail "vt"); (focus fail "hq"); (focus fail "sz"); (focus fail "pf"); (try dsimp only))
  | ((with_reducible refine U.st_next ?_); (try dsimp only))
  | (with_reducible refine U.st_drop ?_)
  | ((with_reducible apply U.st_append); (focus fail "vt"); (focus fail "hq"); (focus fail "vt"); (focus fail "sz"); (try dsimp only))
  | ((with_reducible apply U.st_setDL); (focus fail "vt"); (focus fail "vt"); (focus fail "vt"); (focus fail "hq"); (focus fail "sz"); (focus fail "put"); (try dsimp only))
  | ((with_reducible apply U.st_set1); (focus fail "vt"); (focus fail "vt"); (focus fail "hq"); (focus fail "sz"); (focus fail "put"); (try dsimp only))
  | ((with_reducible apply U.st_call); (focus fail "va"))
  | ((with_reducible apply U.st_methV); (focus fail "vt"); (focus fail "hq"); (focus fail "lk"); (focus fail "va"))
  | (with_reducible refine U.st_fldE ?_)
  | (with_reducible refine U.st_setE ?_)
  | (with_reducible refine U.st_asgC ?_)
  | (with_reducible refine U.st_retC ?_)
  | ((with_reducible refine U.st_dnew ?_); (intro p hp); (try dsimp only))
  | ((with_reducible apply U.st_tup); (focus fail "va"); (focus fail "sz"); (intro p hp); (try dsimp only))
  | ((with_reducible apply U.st_lst); (focus fail "va"); (focus fail "sz"); (intro p hp); (try dsimp only))
  | ((with_reducible apply U.st_listOf); (focus fail "va"); (focus fail "hq"); (intro p hp); (try dsimp only))
  | ((with_reducible apply U.st_dictOf); (focus fail "va"); (focus fail "hq"); (intro p hp); (try dsimp only))
  | ((with_reducible apply U.st_apE); (focus fail "vt"); (focus fail "hq"))
  | ((with_reducible apply U.st_ap1); (focus fail "hq"); (focus fail "sz"); (try dsimp only)))
local macro_rules | `(tactic| fail "go") => `(tactic| repeat fail "st")
/-! words: "cp", one step of the general way; "cgo" -/
local macro_rules | `(tactic| fail "cp") => `(tactic| first
  | ((with_reducible apply U.st_val); (focus fail "vt"); (try dsimp only))
  | ((with_reducible apply U.st_vals); (focus fail "va"); (try dsimp only))
  | (with_reducible refine U.st_opC ?_)
  | (with_reducible refine U.st_consC ?_)
  | (with_reducible refine U.st_nilC ?_)
  | ((with_reducible apply U.st_lf); (focus fail "lf"); (try dsimp only))
  | ((with_reducible apply U.st_mkEnd); (focus fail "sz"); (intro p hp); (try dsimp only))
  | ((with_reducible apply U.st_gset); (focus fail "vt"); (focus fail "vt"); (focus fail "hq"); (focus fail "sz"); (focus fail "put"); (try dsimp only))
  | fail "st"
  | ((with_reducible apply U.st_cat); (focus fail "hq"); (focus fail "hq"); (focus fail "sz"); (intro p hp); (try dsimp only))
  | (with_reducible refine U.st_tupC ?_)
  | (with_reducible refine U.st_lstC ?_)
  | (with_reducible refine U.st_callC ?_)
  | (with_reducible refine U.st_cbC ?_))
local macro_rules | `(tactic| fail "cgo") => `(tactic| repeat fail "cp")

namespace Law
open PySem PySem.Spec PyProof.Rows L2 U
def sp_first_ring (A : Ad) : Sp := fun vs H Q _ => ∃ (w g r ws bs wt : Addr) (G : List (Str × Int)) (R : List (Str × Rc)) (W : Wv), vs = [.ref w] ∧ WvAt A H w g r ws bs wt G R W ∧ W.begun.length ≤ 50000 ∧
  ∀ H' d, H d = none → Fr [] H H' → H' d = some (.lst ((ringOf W W.begun).map V.str)) → Q (.ref d) H'
theorem at_last {xs : List V} {v : V} : atI (xs ++ [v]) (-1) = some v := by
  unfold atI
  have e : ixN (xs ++ [v]).length (-1) = some xs.length := by
    unfold ixN
    rw [if_neg (by decide), List.length_append]
    show (if _ then _ else _) = _
    rw [if_pos (by simp only [List.length_cons, List.length_nil]; omega)]
    congr 1
    simp only [List.length_cons, List.length_nil]
    omega
  rw [e]
  show (xs ++ [v])[xs.length]? = some v
  rw [List.getElem?_append_right (Nat.le_refl _), Nat.sub_self]
  rfl
theorem r_Weaving_first_ring {K : PySem.W.Frag} {A : Ad} (vs : List V) (H : Hp) (Q : VK) (E : XK) (h : sp_first_ring A vs H Q E) : t_Weaving_first_ring K A { nx := fun _ H' => Q .non H', rt := Q } (start N_Weaving_first_ring vs) H := by
  obtain ⟨w, g, r, ws, bs, wt, G, R, W, rfl, p, hz, k⟩ := h
  obtain ⟨⟨dx, h0⟩, hs, h1, h2, h3, n1, n2, n3, n4, n5⟩ := id p
  refine st_seq (st_forL (K := K) (p := bs) (emb := V.str) (xs := W.begun) (by fail "vt") (SqL.of h2) (fun rest σ' H' => (∃ x y, σ' = [some (.ref w), x, y]) ∧ Fr [] H H' ∧ ringOf W W.begun = ringOf W rest)
    ⟨⟨_, _, rfl⟩, Fr.refl _, rfl⟩ (fun rest σ' H' ⟨_, f, _⟩ => SqL.of (f.keep _ _ h2 (by simp))) ?_ ?_)
  · rintro a rest σ' H1 ⟨⟨x, y, rfl⟩, f1, e1⟩
    have p1 := p.fr f1
    obtain ⟨⟨dx1, h01⟩, _, _, h21, h31, _⟩ := id p1
    fail "cgo"
    rename_i d d0
    have d00 : H d = none := f1.old _ d0
    have fd : Fr [] H (upd H1 d (.lst [.str a])) := by fail "frm"
    refine st_whileN (m := W.begun.length + 1) (fun m σ' H' => ∃ (fs : List Str) (last : Str), σ' = [some (.ref w), some (.str a), some (.ref d)] ∧ Fr [] H H' ∧ H' d = some (.lst ((fs ++ [last]).map V.str)) ∧ m + fs.length = W.begun.length + 1 ∧ ringGo W a (W.begun.length + 1) [a] a = ringGo W a m (fs ++ [last]) last)
      ⟨[], a, rfl, fd, upd_same, rfl, rfl⟩ ?_
    rintro m σ' H2 ⟨fs, last, rfl, f2, hd, em, er⟩
    have p2 := p.fr f2
    obtain ⟨⟨dx2, h02⟩, _, _, h22, h32, _⟩ := id p2
    have ela : (fs ++ [last]).map V.str = fs.map V.str ++ [V.str last] := by rw [List.map_append]; rfl
    have at1 : atI ((fs ++ [last]).map V.str) (-1) = some (.str last) := by rw [ela]; exact at_last
    have lf : ((fs ++ [last]).map V.str).length = fs.length + 1 := by rw [List.length_map, List.length_append]; rfl
    have no : ringGo W a m (fs ++ [last]) last = none → ringOf W W.begun = ringOf W rest := fun e => by
      rw [e1]
      show (match ringGo W a (W.begun.length + 1) [a] a with | some r => r | none => ringOf W rest) = _
      rw [er, e]
    cases ew : W.waits.lookup last with
    | none =>
      have vn : valV (sm W.waits) (.inr last) = none := by rw [sm_get, ew]; rfl
      refine st_ansC (ans_andF (ans_is (by fail "an") (by rw [vn]; rfl))) (ifF rfl ?_)
      have e : ringGo W a m (fs ++ [last]) last = none := by
        cases m with
        | zero => rfl
        | succ m => unfold ringGo; rw [ew]
      exact ⟨⟨_, _, rfl⟩, f2, no e⟩
    | some u =>
      have vn : valV (sm W.waits) (.inr last) = some (.str u) := by rw [sm_get, ew]; rfl
      refine st_ansC (ans_and (a := true) (ans_is (by fail "an") (by rw [vn]; rfl)) fun _ => by fail "an") ?_
      rw [Bool.true_and, lf, List.length_map]
      refine ifD (fun q => ?_) fun q => ?_
      · have q : fs.length + 1 ≤ W.begun.length := by omega
        obtain ⟨m', rfl⟩ : ∃ m', m = m' + 1 := ⟨m - 1, by omega⟩
        refine ⟨_, fun _ _ q => q, ?_⟩
        have eg : ringGo W a (m' + 1) (fs ++ [last]) last = if u = a then some (fs ++ [last] ++ [u]) else ringGo W a m' (fs ++ [last] ++ [u]) u := by
          show (match W.waits.lookup last with
            | some u => if (fs ++ [last]).length ≤ W.begun.length then (if u = a then some (fs ++ [last] ++ [u]) else ringGo W a m' (fs ++ [last] ++ [u]) u) else none
            | none => none) = _
          rw [ew]
          show (if (fs ++ [last]).length ≤ W.begun.length then _ else none) = _
          rw [if_pos (by rw [List.length_append]; exact q)]
        have lz : ((fs ++ [last]).map V.str).length < sizeLine := by rw [lf]; show _ < (16777216 : Nat); omega
        fail "cgo"
        have hd3 : upd H2 d (.lst ((fs ++ [last]).map V.str ++ [.str u])) d = some (.lst ((fs ++ [last] ++ [u]).map V.str)) := by rw [upd_same, List.map_append (l₁ := fs ++ [last])]; rfl
        have f3 : Fr [] H (upd H2 d (.lst ((fs ++ [last]).map V.str ++ [.str u]))) := by fail "frm"
        have at2 : atI ((fs ++ [last] ++ [u]).map V.str) (-1) = some (.str u) := by rw [List.map_append]; exact at_last
        generalize upd H2 d (.lst ((fs ++ [last]).map V.str ++ [.str u])) = H3 at *
        clear f2 hd
        refine st_ifT (by fail "an") (fun z => ?_) fun z => ?_
        · have z := of_decide_eq_true z
          fail "cgo"
          refine k H3 d d00 f3 ?_
          rw [hd3, e1]
          show _ = some (HO.lst ((match ringGo W a (W.begun.length + 1) [a] a with | some r => r | none => ringOf W rest).map V.str))
          rw [er, eg, if_pos z]
        · have z := of_decide_eq_false z
          fail "cgo"
          refine ⟨m', Nat.lt_succ_self _, fs ++ [last], u, rfl, f3, hd3, by rw [List.length_append]; show m' + (fs.length + 1) = _; omega, ?_⟩
          rw [er, eg, if_neg z]
      · have e : ringGo W a m (fs ++ [last]) last = none := by
          cases m with
          | zero => rfl
          | succ m =>
            unfold ringGo
            rw [ew]
            show (if (fs ++ [last]).length ≤ W.begun.length then _ else none) = _
            rw [if_neg (by rw [List.length_append]; show ¬ fs.length + 1 ≤ _; omega)]
        exact ⟨⟨_, _, rfl⟩, f2, no e⟩
  · rintro σ' H1 ⟨⟨x, y, rfl⟩, f1, e1⟩
    fail "cgo"
    rename_i d d0
    exact k _ d (f1.old _ d0) (by fail "frm") (by rw [upd_same, e1]; rfl)
end Law

end
section
set_option maxHeartbeats 4000000
/-! words: fail "le", "hq" (what stands at an address), "ne" (two addresses differ), "fn" (an address is new to an older heap), "al" (places of a frame), "ni", "frm" (a frame) -/
local macro_rules | `(tactic| fail "le") => `(tactic| first
  | (with_reducible exact U.Le.refl _)
  | ((with_reducible refine U.Le.upd ?_); fail "le")
  | ((with_reducible apply U.Le.fr); (rotate_left 1); (focus assumption); (focus fail "le")))
local macro_rules | `(tactic| fail "fn") => `(tactic| first
  | assumption
  | ((with_reducible apply U.none_le); (rotate_left 1); (focus assumption); (focus fail "le")))
local macro_rules | `(tactic| fail "hq") => `(tactic| first
  | (with_reducible assumption)
  | (with_reducible exact L2.upd_same)
  | ((with_reducible apply U.look_upd); (focus fail "hq"); (focus fail "ne"))
  | ((with_reducible apply U.look_fr); (focus assumption); (focus fail "hq"); (focus fail "ni"))
  | ((with_reducible apply U.look_tup); (focus assumption); (focus fail "hq")))
local macro_rules | `(tactic| fail "hx") => `(tactic| first
  | fail "hq"
  | ((with_reducible apply U.hq_to); (focus fail "hq"); (focus rfl)))
local macro_rules | `(tactic| fail "ni") => `(tactic| first
  | (with_reducible exact U.ni_nil)
  | ((with_reducible refine U.ni_cons ?_ ?_); (focus fail "ne"); (focus fail "ni"))
  | assumption)
local macro_rules | `(tactic| fail "ne") => `(tactic| first
  | (with_reducible assumption)
  | ((with_reducible apply Ne.symm); (focus assumption))
  | ((with_reducible apply U.ne_new); (focus with_reducible assumption); (focus fail "hq"))
  | ((with_reducible apply U.ne_new'); (focus with_reducible assumption); (focus fail "hq"))
  | ((with_reducible apply L2.ne_of); (focus with_reducible assumption); (focus fail "hq"); (focus (intro z; cases z))))
local macro_rules | `(tactic| fail "mem") => `(tactic| first
  | (with_reducible exact U.mem_hd)
  | ((with_reducible refine U.mem_tl ?_); fail "mem")
  | assumption)
local macro_rules | `(tactic| fail "in") => `(tactic| first
  | ((with_reducible apply Or.inl); (focus fail "mem"))
  | ((with_reducible apply Or.inr); (focus fail "fn")))
local macro_rules | `(tactic| fail "al") => `(tactic| first
  | (with_reducible exact U.al_nil)
  | ((with_reducible refine U.al_cons ?_ ?_); (focus fail "in"); (focus fail "al"))
  | assumption)
local macro_rules | `(tactic| fail "frm") => `(tactic| first
  | (with_reducible exact U.Fr.refl _)
  | (with_reducible assumption)
  | ((with_reducible apply U.fr_new); (focus assumption); (focus fail "frm"))
  | ((with_reducible apply U.fr_upd); (focus fail "hq"); (focus rfl); (focus fail "in"); (focus fail "frm"))
  | ((with_reducible apply U.fr_call); (focus assumption); (focus fail "frm"); (focus fail "al")))
local macro_rules | `(tactic| fail "sne") => `(tactic| first
  | assumption
  | decide +kernel
  | ((with_reducible apply U.inr_ne); (focus fail "sne"))
  | ((with_reducible apply Ne.symm); (focus assumption)))
local macro_rules | `(tactic| fail "lk") => `(tactic| first
  | (with_reducible exact U.lk_hit)
  | ((with_reducible apply U.lk_miss); (focus fail "sne"); (focus fail "lk"))
  | (with_reducible exact U.lk_nil)
  | assumption)
local macro_rules | `(tactic| fail "pf") => `(tactic| first
  | (with_reducible exact U.pf_hit)
  | ((with_reducible apply U.pf_miss); (focus fail "sne"); (focus fail "pf"))
  | (with_reducible exact U.pf_nil))
local macro_rules | `(tactic| fail "vv") => `(tactic| first
  | (with_reducible assumption)
  | (with_reducible exact U.vv_hit)
  | ((with_reducible apply U.vv_miss); (focus fail "sne"); (focus fail "vv"))
  | (with_reducible exact U.vv_nil))
local macro_rules | `(tactic| fail "nk") => `(tactic| first
  | (with_reducible exact U.nk_nil)
  | ((with_reducible apply U.nk_cons); (focus fail "sne"); (focus fail "nk")))
local macro_rules | `(tactic| fail "pk") => `(tactic| first
  | ((with_reducible apply U.pk_hit); fail "nk")
  | ((with_reducible apply U.pk_miss); (focus fail "sne"); (focus fail "pk"))
  | (with_reducible exact U.pk_nil))
local macro_rules | `(tactic| fail "at") => `(tactic| first
  | (with_reducible assumption)
  | ((with_reducible apply L2.atI_nat); (focus assumption))
  | rfl)
local macro_rules | `(tactic| fail "sz") => `(tactic| first
  | assumption
  | decide
  | (simp only [List.length_cons, List.length_nil]; decide)
  | (show _ < (16777216 : Nat); omega)
  | (show _ ≤ (16777216 : Nat); omega))
local macro_rules | `(tactic| fail "lf") => `(tactic| first
  | (with_reducible exact U.lf_addI)
  | (with_reducible exact U.lf_sub)
  | (with_reducible exact U.lf_eqI)
  | (with_reducible exact U.lf_eqS)
  | (with_reducible exact U.lf_neI)
  | (with_reducible exact U.lf_neS)
  | (with_reducible exact U.lf_lt)
  | (with_reducible exact U.lf_le)
  | (with_reducible exact U.lf_gt)
  | (with_reducible exact U.lf_ge)
  | (with_reducible exact U.lf_isN)
  | (with_reducible exact U.lf_notN)
  | ((with_reducible apply U.lf_ixT); (focus fail "hq"); (focus fail "at"))
  | ((with_reducible apply U.lf_ixL); (focus fail "hq"); (focus fail "at"))
  | ((with_reducible apply U.lf_ixD); (focus fail "hq"); (focus fail "vv"))
  | ((with_reducible apply U.lf_inD); (focus fail "hq"))
  | ((with_reducible apply U.lf_notInD); (focus fail "hq"))
  | ((with_reducible apply U.lf_inL); (focus fail "hq"))
  | ((with_reducible apply U.lf_notInL); (focus fail "hq"))
  | (with_reducible exact U.lf_inS)
  | (with_reducible exact U.lf_notInS)
  | ((with_reducible apply U.lf_mod); (focus first | assumption | decide | omega))
  | (with_reducible assumption))
local macro_rules | `(tactic| fail "lc") => `(tactic| first
  | ((with_reducible apply U.lc_lenUL); (focus fail "hq"))
  | ((with_reducible apply U.lc_lenUT); (focus fail "hq"))
  | ((with_reducible apply U.lc_lenUD); (focus fail "hq"))
  | ((with_reducible apply U.lc_lenUS); (focus fail "sz"))
  | (with_reducible exact U.lc_intB)
  | (with_reducible exact U.lc_max)
  | (with_reducible assumption))
local macro_rules | `(tactic| fail "va") => `(tactic| first
  | (with_reducible exact U.va_nil)
  | ((with_reducible apply U.va_cons); (focus fail "vt"); (focus fail "va")))
local macro_rules | `(tactic| fail "vt") => `(tactic| first
  | (with_reducible assumption)
  | (with_reducible exact U.val_c)
  | exact U.val_var rfl
  | ((with_reducible apply U.val_op); (focus fail "vt"); (focus fail "vt"); (focus fail "lf"))
  | ((with_reducible apply U.val_fld); (focus fail "vt"); (focus fail "hq"); (focus fail "lk"))
  | ((with_reducible apply U.val_cb); (focus fail "va"); (focus fail "lc"))
  | ((with_reducible apply U.val_get1); (focus fail "vt"); (focus fail "vt"); (focus fail "hq"))
  | ((with_reducible apply U.val_notV); (focus fail "vt"))
  | ((with_reducible apply U.val_andV); (focus fail "vt"); (intro _; fail "vt"))
  | ((with_reducible apply U.val_orV); (focus fail "vt"); (intro _; fail "vt")))
local macro_rules | `(tactic| fail "an") => `(tactic| first
  | (with_reducible assumption)
  | ((with_reducible apply U.ans_T); fail "vt")
  | ((with_reducible apply U.ans_B); fail "vt")
  | ((with_reducible apply U.ans_not); fail "an")
  | ((with_reducible apply U.ans_and); (focus fail "an"); (intro _; fail "an"))
  | ((with_reducible apply U.ans_or); (focus fail "an"); (intro _; fail "an")))
local macro_rules | `(tactic| fail "put") => `(tactic| first
  | fail "pk"
  | ((apply Law.im_put); (focus assumption))
  | ((apply Law.sm_put); (focus assumption)))
local macro_rules | `(tactic| fail "st") => `(tactic| first
  | (with_reducible refine U.st_seq ?_)
  | ((with_reducible apply U.st_asg); (focus fail "vt"); (try dsimp only [List.set]))
  | ((with_reducible apply U.st_ret); (focus fail "vt"); (try dsimp only))
  | ((with_reducible apply U.st_fld); (focus fail "vt"); (focus fail "vt"); (focus fail "hq"); (focus fail "sz"); (focus fail "pf"); (try dsimp only))
  | ((with_reducible apply U.st_fld1); (focus fail "vt"); (focus fail "hq"); (focus fail "sz"); (focus fail "pf"); (try dsimp only))
  | ((with_reducible apply U.st_untup); (focus fail "vt"); (focus fail "hq"); (focus rfl))
  | ((with_reducible refine U.st_gcons ?_); (try dsimp only))
  | ((with_reducible refine U.st_gname ?_); (try dsimp only [List.set]))
  | ((with_reducible refine U.st_gnil ?_); (try dsimp only))
  | ((with_reducible apply U.st_gf); (focus fail "vt"); (focus fail "hq"); (focus fail "sz"); (focus fail "pf"); (try dsimp only))
  | ((with_reducible refine U.st_next ?_); (try dsimp only))
  | (with_reducible refine U.st_drop ?_)
  | ((with_reducible apply U.st_append); (focus fail "vt"); (focus fail "hq"); (focus fail "vt"); (focus fail "sz"); (try dsimp only))
  | ((with_reducible apply U.st_setDL); (focus fail "vt"); (focus fail "vt"); (focus fail "vt"); (focus fail "hq"); (focus fail "sz"); (focus fail "put"); (try dsimp only))
  | ((with_reducible apply U.st_set1); (focus fail "vt"); (focus fail "vt"); (focus fail "hq"); (focus fail "sz"); (focus fail "put"); (try dsimp only))
  | ((with_reducible apply U.st_call); (focus fail "va"))
  | ((with_reducible apply U.st_methV); (focus fail "vt"); (focus fail "hq"); (focus fail "lk"); (focus fail "va"))
  | (with_reducible refine U.st_fldE ?_)
  | (with_reducible refine U.st_setE ?_)
  | (with_reducible refine U.st_asgC ?_)
  | (with_reducible refine U.st_retC ?_)
  | ((with_reducible refine U.st_dnew ?_); (intro p hp); (try dsimp only))
  | ((with_reducible apply U.st_tup); (focus fail "va"); (focus fail "sz"); (intro p hp); (try dsimp only))
  | ((with_reducible apply U.st_lst); (focus fail "va"); (focus fail "sz"); (intro p hp); (try dsimp only))
  | ((with_reducible apply U.st_listOf); (focus fail "va"); (focus fail "hq"); (intro p hp); (try dsimp only))
  | ((with_reducible apply U.st_dictOf); (focus fail "va"); (focus fail "hq"); (intro p hp); (try dsimp only))
  | ((with_reducible apply U.st_apE); (focus fail "vt"); (focus fail "hq"))
  | ((with_reducible apply U.st_ap1); (focus fail "hq"); (focus fail "sz"); (try dsimp only)))
local macro_rules | `(tactic| fail "go") => `(tactic| repeat fail "st")

namespace Law
open PySem PySem.Spec PyProof.Rows L2 U
theorem stp_imm : ∀ s : Stp, imm s.t = true
  | .waits _ _ => rfl
  | .known _ _ => rfl
theorem stps_imm : ∀ l : List Stp, immL (l.map Stp.t) = true
  | [] => rfl
  | s :: l => by show (imm s.t && immL (l.map Stp.t)) = true; rw [stp_imm s, stps_imm l]; rfl
theorem st_ifAsg {tc : TT} {te : TE} {i : Nat} {D : Ends} {σ : L2.St} {H : Hp} {b : Bool} {v : V} (h : Ans tc σ H b) (hv : b = true → Val te σ H v) (ho : b = false → σ.set i (some v) = σ) (k : D.nx (σ.set i (some v)) H) : tIfS tc (tAsg te (gName i)) tNext D σ H := h _ (by
  cases b with
  | true => rw [if_pos rfl]; exact hv rfl _ k
  | false => rw [if_neg Bool.false_ne_true, ← ho rfl]; exact k)
theorem step_len (W : Wv) (name : Str) (rc : Rc) : (stepW W name rc).1.begun.length ≤ W.begun.length + 1 ∧ (stepW W name rc).1.worths.length ≤ W.worths.length + 1 ∧ (stepW W name rc).1.waits.length ≤ W.waits.length + 1 := by
  unfold stepW
  split
  · refine ⟨beginW_len, Nat.le_succ _, ?_⟩
    simp
  · refine ⟨Nat.le_succ _, ?_, Nat.le_trans (popW_len _ _) (Nat.le_succ _)⟩
    simp
theorem WvAt.fr2 {A : Ad} {F : List Addr} {H H' : Hp} {w g r ws bs wt : Addr} {G : List (Str × Int)} {R : List (Str × Rc)} {W : Wv} (p : WvAt A H w g r ws bs wt G R W) (f : Fr F H H') (a1 : w ∉ F) (a2 : g ∉ F) (a3 : r ∉ F) (a4 : ws ∉ F) (a5 : bs ∉ F) (a6 : wt ∉ F) : WvAt A H' w g r ws bs wt G R W := by
  obtain ⟨⟨dx, h0⟩, hs, h1, h2, h3, n1, n2, n3, n4, n5⟩ := p
  exact ⟨⟨dx, f.keep _ _ h0 a1⟩, hs.fr f a2 a3, f.keep _ _ h1 a4, f.keep _ _ h2 a5, f.keep _ _ h3 a6, n1, n2, n3, n4, n5⟩
end Law

end
section
set_option maxHeartbeats 4000000
/-! words: fail "le", "hq" (what stands at an address), "ne" (two addresses differ), "fn" (an address is new to an older heap), "al" (places of a frame), "ni", "frm" (a frame) -/
local macro_rules | `(tactic| fail "le") => `(tactic| first
  | (with_reducible exact U.Le.refl _)
  | ((with_reducible refine U.Le.upd ?_); fail "le")
  | ((with_reducible apply U.Le.fr); (rotate_left 1); (focus assumption); (focus fail "le")))
local macro_rules | `(tactic| fail "fn") => `(tactic| first
  | assumption
  | ((with_reducible apply U.none_le); (rotate_left 1); (focus assumption); (focus fail "le")))
local macro_rules | `(tactic| fail "hq") => `(tactic| first
  | (with_reducible assumption)
  | (with_reducible exact L2.upd_same)
  | ((with_reducible apply U.look_upd); (focus fail "hq"); (focus fail "ne"))
  | ((with_reducible apply U.look_fr); (focus assumption); (focus fail "hq"); (focus fail "ni"))
  | ((with_reducible apply U.look_tup); (focus assumption); (focus fail "hq")))
local macro_rules | `(tactic| fail "hx") => `(tactic| first
  | fail "hq"
  | ((with_reducible apply U.hq_to); (focus fail "hq"); (focus rfl)))
local macro_rules | `(tactic| fail "ni") => `(tactic| first
  | (with_reducible exact U.ni_nil)
  | ((with_reducible refine U.ni_cons ?_ ?_); (focus fail "ne"); (focus fail "ni"))
  | assumption)
local macro_rules | `(tactic| fail "ne") => `(tactic| first
  | (with_reducible assumption)
  | ((with_reducible apply Ne.symm); (focus assumption))
  | ((with_reducible apply U.ne_new); (focus with_reducible assumption); (focus fail "hq"))
  | ((with_reducible apply U.ne_new'); (focus with_reducible assumption); (focus fail "hq"))
  | ((with_reducible apply L2.ne_of); (focus with_reducible assumption); (focus fail "hq"); (focus (intro z; cases z))))
local macro_rules | `(tactic| fail "mem") => `(tactic| first
  | (with_reducible exact U.mem_hd)
  | ((with_reducible refine U.mem_tl ?_); fail "mem")
  | assumption)
local macro_rules | `(tactic| fail "in") => `(tactic| first
  | ((with_reducible apply Or.inl); (focus fail "mem"))
  | ((with_reducible apply Or.inr); (focus fail "fn")))
local macro_rules | `(tactic| fail "al") => `(tactic| first
  | (with_reducible exact U.al_nil)
  | ((with_reducible refine U.al_cons ?_ ?_); (focus fail "in"); (focus fail "al"))
  | assumption)
local macro_rules | `(tactic| fail "frm") => `(tactic| first
  | (with_reducible exact U.Fr.refl _)
  | (with_reducible assumption)
  | ((with_reducible apply U.fr_new); (focus assumption); (focus fail "frm"))
  | ((with_reducible apply U.fr_upd); (focus fail "hq"); (focus rfl); (focus fail "in"); (focus fail "frm"))
  | ((with_reducible apply U.fr_call); (focus assumption); (focus fail "frm"); (focus fail "al")))
local macro_rules | `(tactic| fail "sne") => `(tactic| first
  | assumption
  | decide +kernel
  | ((with_reducible apply U.inr_ne); (focus fail "sne"))
  | ((with_reducible apply Ne.symm); (focus assumption)))
local macro_rules | `(tactic| fail "lk") => `(tactic| first
  | (with_reducible exact U.lk_hit)
  | ((with_reducible apply U.lk_miss); (focus fail "sne"); (focus fail "lk"))
  | (with_reducible exact U.lk_nil)
  | assumption)
local macro_rules | `(tactic| fail "pf") => `(tactic| first
  | (with_reducible exact U.pf_hit)
  | ((with_reducible apply U.pf_miss); (focus fail "sne"); (focus fail "pf"))
  | (with_reducible exact U.pf_nil))
local macro_rules | `(tactic| fail "vv") => `(tactic| first
  | (with_reducible assumption)
  | (with_reducible exact U.vv_hit)
  | ((with_reducible apply U.vv_miss); (focus fail "sne"); (focus fail "vv"))
  | (with_reducible exact U.vv_nil))
local macro_rules | `(tactic| fail "nk") => `(tactic| first
  | (with_reducible exact U.nk_nil)
  | ((with_reducible apply U.nk_cons); (focus fail "sne"); (focus fail "nk")))
local macro_rules | `(tactic| fail "pk") => `(tactic| first
  | ((with_reducible apply U.pk_hit); fail "nk")
  | ((with_reducible apply U.pk_miss); (focus fail "sne"); (focus fail "pk"))
  | (with_reducible exact U.pk_nil))
local macro_rules | `(tactic| fail "at") => `(tactic| first
  | (with_reducible assumption)
  | ((with_reducible apply L2.atI_nat); (focus assumption))
  | rfl)
local macro_rules | `(tactic| fail "sz") => `(tactic| first
  | assumption
  | decide
  | (simp only [List.length_cons, List.length_nil]; decide)
  | (show _ < (16777216 : Nat); omega)
  | (show _ ≤ (16777216 : Nat); omega))
local macro_rules | `(tactic| fail "lf") => `(tactic| first
  | (with_reducible exact U.lf_addI)
  | (with_reducible exact U.lf_sub)
  | (with_reducible exact U.lf_eqI)
  | (with_reducible exact U.lf_eqS)
  | (with_reducible exact U.lf_neI)
  | (with_reducible exact U.lf_neS)
  | (with_reducible exact U.lf_lt)
  | (with_reducible exact U.lf_le)
  | (with_reducible exact U.lf_gt)
  | (with_reducible exact U.lf_ge)
  | (with_reducible exact U.lf_isN)
  | (with_reducible exact U.lf_notN)
  | ((with_reducible apply U.lf_ixT); (focus fail "hq"); (focus fail "at"))
  | ((with_reducible apply U.lf_ixL); (focus fail "hq"); (focus fail "at"))
  | ((with_reducible apply U.lf_ixD); (focus fail "hq"); (focus fail "vv"))
  | ((with_reducible apply U.lf_inD); (focus fail "hq"))
  | ((with_reducible apply U.lf_notInD); (focus fail "hq"))
  | ((with_reducible apply U.lf_inL); (focus fail "hq"))
  | ((with_reducible apply U.lf_notInL); (focus fail "hq"))
  | (with_reducible exact U.lf_inS)
  | (with_reducible exact U.lf_notInS)
  | ((with_reducible apply U.lf_mod); (focus first | assumption | decide | omega))
  | ((with_reducible apply U.lf_mul); (focus first | assumption | ((apply U.mul64); (focus decide); (focus decide)) | ((apply U.mul64); (focus omega); (focus omega))))
  | ((with_reducible apply U.lf_div); (focus first | assumption | exact ⟨by decide, by decide +kernel⟩))
  | ((with_reducible apply U.lf_pow); (focus exact ⟨by decide, by decide, by decide⟩))
  | ((with_reducible apply U.lf_addS); (focus first | assumption | (show _ ≤ (16777216 : Nat); omega)))
  | (with_reducible assumption))
local macro_rules | `(tactic| fail "lc") => `(tactic| first
  | ((with_reducible apply U.lc_lenUL); (focus fail "hq"))
  | ((with_reducible apply U.lc_lenUT); (focus fail "hq"))
  | ((with_reducible apply U.lc_lenUD); (focus fail "hq"))
  | ((with_reducible apply U.lc_lenUS); (focus fail "sz"))
  | (with_reducible exact U.lc_intB)
  | (with_reducible exact U.lc_max)
  | (with_reducible exact U.lc_min)
  | ((with_reducible apply U.lc_lenUq); assumption)
  | ((with_reducible apply U.lc_isiL); (focus fail "hq"))
  | ((with_reducible apply U.lc_isiT); (focus fail "hq"))
  | (with_reducible exact U.lc_isiSb)
  | (with_reducible exact U.lc_isiIb)
  | (with_reducible assumption))
local macro_rules | `(tactic| fail "va") => `(tactic| first
  | (with_reducible exact U.va_nil)
  | ((with_reducible apply U.va_cons); (focus fail "vt"); (focus fail "va")))
local macro_rules | `(tactic| fail "vt") => `(tactic| first
  | (with_reducible assumption)
  | (with_reducible exact U.val_c)
  | exact U.val_var rfl
  | ((with_reducible apply U.val_op); (focus fail "vt"); (focus fail "vt"); (focus fail "lf"))
  | ((with_reducible apply U.val_fld); (focus fail "vt"); (focus fail "hq"); (focus fail "lk"))
  | ((with_reducible apply U.val_cb); (focus fail "va"); (focus fail "lc"))
  | ((with_reducible apply U.val_get1); (focus fail "vt"); (focus fail "vt"); (focus fail "hq"))
  | ((with_reducible apply U.val_notV); (focus fail "vt"))
  | ((with_reducible apply U.val_andV); (focus fail "vt"); (intro _; fail "vt"))
  | ((with_reducible apply U.val_orV); (focus fail "vt"); (intro _; fail "vt"))
  | ((with_reducible apply U.val_un); (focus fail "vt"); (focus with_reducible exact U.l1_neg)))
local macro_rules | `(tactic| fail "an") => `(tactic| first
  | (with_reducible assumption)
  | ((with_reducible apply U.ans_T); fail "vt")
  | ((with_reducible apply U.ans_B); fail "vt")
  | ((with_reducible apply U.ans_not); fail "an")
  | ((with_reducible apply U.ans_and); (focus fail "an"); (intro _; fail "an"))
  | ((with_reducible apply U.ans_or); (focus fail "an"); (intro _; fail "an")))
local macro_rules | `(tactic| fail "put") => `(tactic| first
  | fail "pk"
  | ((apply Law.im_put); (focus assumption))
  | ((apply Law.sm_put); (focus assumption)))
local macro_rules | `(tactic| fail "st") => `(tactic| first
  | (with_reducible refine U.st_seq ?_)
  | ((with_reducible apply U.st_asg); (focus fail "vt"); (try dsimp only [List.set]))
  | ((with_reducible apply U.st_ret); (focus fail "vt"); (try dsimp only))
  | ((with_reducible apply U.st_fld); (focus fail "vt"); (focus fail "vt"); (focus fail "hq"); (focus fail "sz"); (focus fail "pf"); (try dsimp only))
  | ((with_reducible apply U.st_fld1); (focus fail "vt"); (focus fail "hq"); (focus fail "sz"); (focus fail "pf"); (try dsimp only))
  | ((with_reducible apply U.st_untup); (focus fail "vt"); (focus fail "hq"); (focus rfl))
  | ((with_reducible refine U.st_gcons ?_); (try dsimp only))
  | ((with_reducible refine U.st_gname ?_); (try dsimp only [List.set]))
  | ((with_reducible refine U.st_gnil ?_); (try dsimp only))
  | ((with_reducible apply U.st_gf); (focus fail "vt"); (focus fail "hq"); (focus fail "sz"); (focus fail "pf"); (try dsimp only))
  | ((with_reducible refine U.st_next ?_); (try dsimp only))
  | (with_reducible refine U.st_drop ?_)
  | ((with_reducible apply U.st_append); (focus fail "vt"); (focus fail "hq"); (focus fail "vt"); (focus fail "sz"); (try dsimp only))
  | ((with_reducible apply U.st_setDL); (focus fail "vt"); (focus fail "vt"); (focus fail "vt"); (focus fail "hq"); (focus fail "sz"); (focus fail "put"); (try dsimp only))
  | ((with_reducible apply U.st_set1); (focus fail "vt"); (focus fail "vt"); (focus fail "hq"); (focus fail "sz"); (focus fail "put"); (try dsimp only))
  | ((with_reducible apply U.st_call); (focus fail "va"))
  | ((with_reducible apply U.st_methV); (focus fail "vt"); (focus fail "hq"); (focus fail "lk"); (focus fail "va"))
  | (with_reducible refine U.st_fldE ?_)
  | (with_reducible refine U.st_setE ?_)
  | (with_reducible refine U.st_asgC ?_)
  | (with_reducible refine U.st_retC ?_)
  | ((with_reducible refine U.st_dnew ?_); (intro p hp); (try dsimp only))
  | ((with_reducible apply U.st_tup); (focus fail "va"); (focus fail "sz"); (intro p hp); (try dsimp only))
  | ((with_reducible apply U.st_lst); (focus fail "va"); (focus fail "sz"); (intro p hp); (try dsimp only))
  | ((with_reducible apply U.st_listOf); (focus fail "va"); (focus fail "hq"); (intro p hp); (try dsimp only))
  | ((with_reducible apply U.st_dictOf); (focus fail "va"); (focus fail "hq"); (intro p hp); (try dsimp only))
  | ((with_reducible apply U.st_apE); (focus fail "vt"); (focus fail "hq"))
  | ((with_reducible apply U.st_ap1); (focus fail "hq"); (focus fail "sz"); (try dsimp only)))
local macro_rules | `(tactic| fail "go") => `(tactic| repeat fail "st")
/-! words: "cp", one step of the general way; "cgo" -/
local macro_rules | `(tactic| fail "cp") => `(tactic| first
  | ((with_reducible apply U.st_val); (focus fail "vt"); (try dsimp only))
  | ((with_reducible apply U.st_vals); (focus fail "va"); (try dsimp only))
  | (with_reducible refine U.st_opC ?_)
  | (with_reducible refine U.st_consC ?_)
  | (with_reducible refine U.st_nilC ?_)
  | ((with_reducible apply U.st_lf); (focus fail "lf"); (try dsimp only))
  | ((with_reducible apply U.st_mkEnd); (focus fail "sz"); (intro p hp); (try dsimp only))
  | ((with_reducible apply U.st_gset); (focus fail "vt"); (focus fail "vt"); (focus fail "hq"); (focus fail "sz"); (focus fail "put"); (try dsimp only))
  | fail "st"
  | ((with_reducible apply U.st_cat); (focus fail "hq"); (focus fail "hq"); (focus fail "sz"); (intro p hp); (try dsimp only))
  | (with_reducible refine U.st_tupC ?_)
  | (with_reducible refine U.st_lstC ?_)
  | (with_reducible refine U.st_callC ?_)
  | (with_reducible refine U.st_cbC ?_))
local macro_rules | `(tactic| fail "cgo") => `(tactic| repeat fail "cp")

namespace Law
open PySem PySem.Spec PyProof.Rows L2 U
structure ErrR (K : PySem.W.Frag) (A : Ad) : Prop where
  c : OexC K A.C_Ring
  n : PySem.W.findIn K (.ref A.C_Ring) "ring" = some none
inductive Out where
  | done (t : List Stp) | name (y : Str) | ring (l : List Str)
inductive WovenE (G : List (Str × Int)) (R : List (Str × Rc)) (wl : List Str) (cs : List Int) : Out → Prop
  | bad {y : Str} (h : badW G R wl = some y) : WovenE G R wl cs (.name y)
  | done {t : List Stp} (h : badW G R wl = none) (r : RunE R cs (W0 G R wl) 0 t .done) (l : t.length ≤ 20000) : WovenE G R wl cs (.done t)
  | name {t : List Stp} {y : Str} (h : badW G R wl = none) (r : RunE R cs (W0 G R wl) 0 t (.name y)) (l : t.length ≤ 20000) : WovenE G R wl cs (.name y)
  | ring {t : List Stp} {z : List Str} (h : badW G R wl = none) (r : RunE R cs (W0 G R wl) 0 t (.ring z)) (l : t.length ≤ 20000) : WovenE G R wl cs (.ring z)
def outOf (t : List Stp) : End → Out
  | .done => .done t
  | .name y => .name y
  | .ring z => .ring z
theorem WovenE.run {G : List (Str × Int)} {R : List (Str × Rc)} {wl : List Str} {cs : List Int} {o : Out} (h : WovenE G R wl cs o) (b : badW G R wl = none) : ∃ t e, RunE R cs (W0 G R wl) 0 t e ∧ t.length ≤ 20000 ∧ o = outOf t e := by
  cases h with
  | bad h => rw [b] at h; cases h
  | done _ r l => exact ⟨_, _, r, l, rfl⟩
  | name _ r l => exact ⟨_, _, r, l, rfl⟩
  | ring _ r l => exact ⟨_, _, r, l, rfl⟩
def sp_wovenX (A : Ad) (n : Nat) : Sp := fun vs H Q E => ∃ (h g r l c : Addr) (G : List (Str × Int)) (R : List (Str × Rc)) (wl : List Str) (cs : List Int) (I : Wv → Prop) (o : Out), vs = [.ref h, .ref l, .ref c] ∧ H h = some (.tup [.ref g, .ref r]) ∧ HsAt H g r G R ∧
  H l = some (.lst (wl.map V.str)) ∧ H c = some (.lst (cs.map V.int)) ∧ GoodB n R I ∧ I (W0 G R wl) ∧ G.length ≤ 1000 ∧ wl.length ≤ 900 ∧ WovenE G R wl cs o ∧
  (∀ t, o = .done t → ∀ H' d, H d = none → Fr [] H H' → Rp H' (.lst (t.map Stp.t)) (.ref d) → Q (.ref d) H') ∧
  (∀ y, o = .name y → ∀ H' d, Fr [] H H' → H d = none → H' d = some (.xd [("name", .str y)]) → E (.ref A.C_NoName) (some d) H') ∧
  (∀ z, o = .ring z → ∀ H' d lr, Fr [] H H' → H d = none → H lr = none → H' d = some (.xd [("ring", .ref lr)]) → H' lr = some (.lst (z.map V.str)) → E (.ref A.C_Ring) (some d) H')
theorem r_woven {K : PySem.W.Frag} {A : Ad} {n : Nat} (vs : List V) (H : Hp) (Q : VK) (E : XK) (en : ErrN K A) (er : ErrR K A) (h : sp_wovenX A n vs H Q E) : t_woven K A (sp_wInitX A) (sp_is_over A) (sp_ready A) (sp_errL K A.C_Ring "ring") (sp_first_ring A) (sp_goOnX A n) E { nx := fun _ H' => Q .non H', rt := Q } (start N_woven vs) H := by
  obtain ⟨h, g, r, l, c, G, R, wl, cs, I, o, rfl, hh, hs, hl, hc, ok, oI, zG, zw, we, kd, kn, kr⟩ := h
  fail "go"
  refine st_makeC (by fail "va") fun w dx nw nd ne nx => ?_
  have fw : Fr [] H (upd (upd H dx (.own w)) w (.ins A.C_Weaving dx [])) := by fail "frm"
  have hw0 : H w = none := nw
  refine ⟨w, dx, h, g, r, l, G, R, wl, rfl, by fail "hq", by fail "hq", hs.fr fw (by simp) (by simp), by fail "hq", zw, fun hbad H1 ws bs wt f1 n1 n2 n3 p1 => ⟨rfl, ?_⟩, fun y hbad H1 d f1 d0 hd => ?_⟩
  rotate_left 1
  · have ho : o = .name y := by
      cases we with
      | bad h => rw [hbad] at h; cases h; rfl
      | done h => rw [hbad] at h; cases h
      | name h => rw [hbad] at h; cases h
      | ring h => rw [hbad] at h; cases h
    exact kn y ho H1 d (by fail "frm") (by fail "fn") hd
  obtain ⟨t, e, hrun, zt, ho⟩ := we.run hbad
  have hin := badW_none hbad
  have b1 : H ws = none := by fail "fn"
  have b2 : H bs = none := by fail "fn"
  have b3 : H wt = none := by fail "fn"
  have f1' : Fr [] H H1 := by fail "frm"
  clear f1 n1 n2 n3 nw nd nx fw
  fail "go"
  rename_i d d0
  have d00 : H d = none := by fail "fn"
  have fd : Fr [] H1 (upd H1 d (.lst [])) := by fail "frm"
  have fd' : Fr [] H (upd H1 d (.lst [])) := by fail "frm"
  have hd0 : (upd H1 d (.lst [])) d = some (.lst []) := upd_same
  dsimp only [L2.start, List.set]
  have nd1 : ws ≠ d := fun z => by rw [← z, p1.hw] at d0; cases d0
  have nd2 : bs ≠ d := fun z => by rw [← z, p1.hb] at d0; cases d0
  have nd3 : wt ≠ d := fun z => by rw [← z, p1.ht] at d0; cases d0
  have nd4 : w ≠ d := fun z => by obtain ⟨dx1, o1⟩ := p1.o; rw [← z, o1] at d0; cases d0
  have nd5 : r ≠ d := fun z => by obtain ⟨kv1, o1, _⟩ := hs.rcs; rw [← z, o1] at d00; cases d00
  have nd6 : g ≠ d := fun z => by rw [← z, hs.g] at d00; cases d00
  clear d0
  refine st_whileN (m := t.length) (fun m σ' H' => ∃ W pre rest rv cv, m = rest.length ∧ σ' = [some (.ref h), some (.ref l), some (.ref c), some (.ref w), some (.ref d), rv, cv] ∧ Fr [] H H' ∧ WvAt A H' w g r ws bs wt G R W ∧ I W ∧ RunE R cs W pre.length rest e ∧ pre ++ rest = t ∧ Rp H' (.lst (pre.map Stp.t)) (.ref d) ∧ W.begun.length ≤ wl.length + pre.length ∧ W.worths.length ≤ G.length + pre.length ∧ W.waits.length ≤ pre.length)
    ⟨W0 G R wl, [], t, none, none, rfl, rfl, fd', p1.fr fd, oI, hrun, rfl, ⟨d, [], rfl, hd0, rfl⟩, by have := beginAll_len R wl []; show (beginAll R wl []).length ≤ _; simpa using this, Nat.le_refl _, Nat.le_refl _⟩ ?_
  rintro m σ' H' ⟨W, pre, rest, rv, cv, rfl, rfl, f, p, wo, ru, et, hd, y1, y2, y3⟩
  have lt : pre.length + rest.length = t.length := by rw [← et, List.length_append]
  obtain ⟨⟨dx', h0⟩, hs1, h1, h2, h3, m1, m2, m3, m4, m5⟩ := id p
  refine st_bC ?_
  fail "go"
  refine ⟨w, g, r, ws, bs, wt, G, R, W, rfl, p, by omega, fun H2 f2 => ⟨_, rfl, ?_⟩⟩
  by_cases hop : W.open = []
  · have e1 : rest = [] ∧ e = .done := by
      cases ru with
      | over _ => exact ⟨rfl, rfl⟩
      | ring h => exact absurd hop h
      | name h => exact absurd hop h
      | step h => exact absurd hop h
    obtain ⟨rfl, rfl⟩ := e1
    refine ifF (by simp [hop]) ?_
    rw [List.append_nil] at et
    subst et
    fail "go"
    obtain ⟨d', xs, e', hd1, hdl⟩ := hd
    cases e'
    exact kd _ ho _ _ d00 (by fail "frm") ⟨d, xs, rfl, by fail "hq", RpL.tups f2.tup _ _ (stps_imm _) hdl⟩
  refine ifT (by simp [hop]) ⟨_, fun _ _ q => q, ?_⟩
  obtain ⟨xs, hx, hR⟩ : ∃ xs, H2 d = some (.lst xs) ∧ RpL H2 (pre.map Stp.t) xs := by
    obtain ⟨d', xs, e', hx, hR⟩ := hd
    cases e'
    exact ⟨xs, f2.keep _ _ hx (by simp), RpL.tups f2.tup _ _ (stps_imm _) hR⟩
  have f' : Fr [] H H2 := f.call f2 (by fail "al")
  have p' := p.fr f2
  have hc2 := f'.keep _ _ hc (by simp)
  clear f2 f p hd h0 hs1 h1 h2 h3
  obtain ⟨⟨dx', h0⟩, hs1, h1, h2, h3, _⟩ := id p'
  fail "go"
  refine ⟨w, g, r, ws, bs, wt, G, R, W, rfl, p', by omega, fun H3 rd rd0 f3 hrd => ?_⟩
  have hrR := f3.keep _ _ hx (by simp)
  have hR3 := RpL.tups f3.tup _ _ (stps_imm _) hR
  have f3' := f'.call f3 (by fail "al")
  have p3 := p'.fr f3
  have hc3 := f3.keep _ _ hc2 (by simp)
  clear f3 f' p' hc2 hx hR h0 hs1 h1 h2 h3 rd0
  fail "go"
  refine st_ifC (st_testC (st_opC (st_val (val_var rfl) ?_)))
  fail "go"
  refine st_lf (lf_strsNil (xs := W.ready) (by fail "hq") (by fail "hq")) ?_
  rename_i e1 e0
  have hrR4 : (upd H3 e1 (.lst [])) d = some (.lst xs) := by fail "hq"
  have hrd4 : (upd H3 e1 (.lst [])) rd = some (.lst (W.ready.map V.str)) := by fail "hq"
  have f4 : Fr [] H3 (upd H3 e1 (.lst [])) := by fail "frm"
  have hc4 := f4.keep _ _ hc3 (by simp)
  have f4' : Fr [] H (upd H3 e1 (.lst [])) := by fail "frm"
  have p4 := p3.fr f4
  have hR4 := RpL.tups f4.tup _ _ (stps_imm _) hR3
  generalize upd H3 e1 (.lst []) = H4 at *
  clear f4 f3' p3 hc3 hrR hrd hR3 e0
  by_cases hr : W.ready = []
  · have e1 : e = .ring (ringOf W W.begun) := by
      cases ru with
      | over h => exact absurd h hop
      | ring h r => rfl
      | name h r => exact absurd hr r
      | step h r => exact absurd hr r
    subst e1
    refine st_bl (ifT (by simp [hr]) ?_)
    obtain ⟨⟨dx', h0⟩, hs1, h1, h2, h3, _⟩ := id p4
    refine st_raiseC ?_
    fail "go"
    refine st_consC ?_
    fail "go"
    refine ⟨w, g, r, ws, bs, wt, G, R, W, rfl, p4, by omega, fun H5 lr lr0 f5 hlr => ?_⟩
    refine st_nilC ?_
    refine errL_end (Q := fun cls d H' => E cls d H') hlr er.c er.n fun d5 l5 H6 d50 l50 f6 hd6 hl6 => ?_
    have f5' := f4'.call f5 (by fail "al")
    exact kr _ ho H6 d5 l5 (f5'.call f6 (by fail "al")) (f5'.old _ d50) (f5'.old _ l50) hd6 hl6
  refine st_bl (ifF (by simp [hr]) ?_)
  obtain ⟨name, hname⟩ : ∃ name, name = pickN W.ready (chAt cs pre.length) := ⟨_, rfl⟩
  have hrdy : name ∈ W.ready := by rw [hname]; exact pick_ready hr
  obtain ⟨rc, hl'⟩ := ok.has _ _ wo hrdy
  obtain ⟨M, gg⟩ := ok.go _ _ _ wo hrdy hl'
  fail "go"
  have lx : xs.length = pre.length := by rw [← hR4.len, List.length_map]
  have ic : (W.ready.length : Int) > 0 := by have := List.length_pos_iff.mpr hr; omega
  refine st_ifAsg (v := .int (chAt cs pre.length)) (by fail "an") (fun q => ?_) (fun q => ?_) ?_
  · have q := of_decide_eq_true q
    rw [lx, List.length_map] at q
    have hat : (cs.map V.int)[xs.length]? = some (.int (chAt cs pre.length)) := by
      rw [List.getElem?_map, lx]
      unfold chAt
      rw [List.getElem?_eq_getElem (by omega)]
      rfl
    fail "vt"
  · have q := of_decide_eq_false q
    rw [lx, List.length_map] at q
    have : chAt cs pre.length = 0 := by
      unfold chAt
      rw [List.getElem?_eq_none_iff.mpr (by omega)]
      rfl
    rw [this]
    rfl
  obtain ⟨⟨dx', h0⟩, hs1, h1, h2, h3, _⟩ := id p4
  fail "go"
  have hi0 : 0 ≤ chAt cs pre.length % (W.ready.length : Int) := Int.emod_nonneg _ (by omega)
  have at1 : atI (W.ready.map V.str) (chAt cs pre.length % ((W.ready.map V.str).length : Int)) = some (.str name) := by
    rw [List.length_map]
    refine at_of (j := (chAt cs pre.length % (W.ready.length : Int)).toNat) (by omega) ?_
    rw [List.getElem?_map, pickN_at (List.length_pos_iff.mpr hr), hname]
    rfl
  have hp0 : 0 < ((W.ready.map V.str).length : Int) := by rw [List.length_map]; exact ic
  refine st_methV (a := w) (vs := [.str name]) (by fail "vt") (by fail "hq") (by fail "lk") (by fail "va") ?_
  refine ⟨w, g, r, ws, bs, wt, G, R, W, name, rc, M, rfl, p4, by omega, by omega, by omega, hl', gg.nw, gg.nt, gg.dp, gg.sm, gg.hM, gg.rn, gg.bd, fun hin H5 v f5 p5 hv => ?_, fun y et1 hn H5 d5 f5 d50 hd5 => ?_⟩
  rotate_left 1
  · cases ru with
    | over h => exact absurd h hop
    | ring h r => exact absurd r hr
    | name _ _ e2 l2 t2 n2 =>
      subst hname; subst e2
      rw [hl'] at l2; cases l2; rw [et1] at t2; cases t2
      exact kn _ ho H5 d5 (f4'.call f5 (by fail "al")) (f4'.old _ d50) hd5
    | step _ _ e2 l2 hin2 k2 =>
      subst hname; subst e2
      rw [hl'] at l2; cases l2
      have q := hin2 _ et1; rw [hn] at q; cases q
  cases ru with
  | over h => exact absurd h hop
  | ring h r => exact absurd r hr
  | name _ _ e2 l2 t2 n2 =>
    subst hname; subst e2
    rw [hl'] at l2; cases l2
    have q := hin _ t2; rw [n2] at q; cases q
  | @step _ _ nm2 rc2 rest _ _ _ e2 l2 hin2 k2 =>
    have e3 : nm2 = name := e2.trans hname.symm
    clear e2
    subst e3
    rw [hl'] at l2; cases l2
    obtain ⟨l1, l2, l3⟩ := step_len W nm2 rc
    have hR5 := RpL.tups f5.tup _ _ (stps_imm _) hR4
    have zx : xs.length < sizeLine := by
      show _ < (16777216 : Nat)
      rw [List.length_cons] at lt
      omega
    have hd5 : H5 d = some (.lst xs) := f5.keep _ _ hrR4 (by fail "ni")
    have f6 : Fr [d] H5 (upd H5 d (.lst (xs ++ [v]))) := by fail "frm"
    have f5' : Fr [] H H5 := f4'.call f5 (by fail "al")
    clear f5
    fail "go"
    refine ⟨rest.length, Nat.lt_succ_self _, (stepW W nm2 rc).1, pre ++ [(stepW W nm2 rc).2], rest, _, _, rfl, rfl, by fail "frm", p5.fr2 f6 (by fail "ni") (by fail "ni") (by fail "ni") (by fail "ni") (by fail "ni") (by fail "ni"), ok.st _ _ _ wo hrdy hl' hin, ?_, ?_, ⟨d, _, rfl, upd_same, ?_⟩, ?_, ?_, ?_⟩
    · rw [List.length_append]; exact k2
    · rw [← et, List.append_assoc]; rfl
    · rw [List.map_append]
      exact rpl_append (rpl_one (Rp.tups f6.tup _ _ (stp_imm _) hv)) (RpL.tups f6.tup _ _ (stps_imm _) hR5)
    · rw [List.length_append]; show _ ≤ wl.length + (pre.length + 1); omega
    · rw [List.length_append]; show _ ≤ G.length + (pre.length + 1); omega
    · rw [List.length_append]; show _ ≤ pre.length + 1; omega
end Law

end
section
set_option maxHeartbeats 4000000
/-! words: fail "le", "hq" (what stands at an address), "ne" (two addresses differ), "fn" (an address is new to an older heap), "al" (places of a frame), "ni", "frm" (a frame) -/
local macro_rules | `(tactic| fail "le") => `(tactic| first
  | (with_reducible exact U.Le.refl _)
  | ((with_reducible refine U.Le.upd ?_); fail "le")
  | ((with_reducible apply U.Le.fr); (rotate_left 1); (focus assumption); (focus fail "le")))
local macro_rules | `(tactic| fail "fn") => `(tactic| first
  | assumption
  | ((with_reducible apply U.none_le); (rotate_left 1); (focus assumption); (focus fail "le")))
local macro_rules | `(tactic| fail "hq") => `(tactic| first
  | (with_reducible assumption)
  | (with_reducible exact L2.upd_same)
  | ((with_reducible apply U.look_upd); (focus fail "hq"); (focus fail "ne"))
  | ((with_reducible apply U.look_fr); (focus assumption); (focus fail "hq"); (focus fail "ni"))
  | ((with_reducible apply U.look_tup); (focus assumption); (focus fail "hq")))
local macro_rules | `(tactic| fail "hx") => `(tactic| first
  | fail "hq"
  | ((with_reducible apply U.hq_to); (focus fail "hq"); (focus rfl)))
local macro_rules | `(tactic| fail "ni") => `(tactic| first
  | (with_reducible exact U.ni_nil)
  | ((with_reducible refine U.ni_cons ?_ ?_); (focus fail "ne"); (focus fail "ni"))
  | assumption)
local macro_rules | `(tactic| fail "ne") => `(tactic| first
  | (with_reducible assumption)
  | ((with_reducible apply Ne.symm); (focus assumption))
  | ((with_reducible apply U.ne_new); (focus with_reducible assumption); (focus fail "hq"))
  | ((with_reducible apply U.ne_new'); (focus with_reducible assumption); (focus fail "hq"))
  | ((with_reducible apply L2.ne_of); (focus with_reducible assumption); (focus fail "hq"); (focus (intro z; cases z))))
local macro_rules | `(tactic| fail "mem") => `(tactic| first
  | (with_reducible exact U.mem_hd)
  | ((with_reducible refine U.mem_tl ?_); fail "mem")
  | assumption)
local macro_rules | `(tactic| fail "in") => `(tactic| first
  | ((with_reducible apply Or.inl); (focus fail "mem"))
  | ((with_reducible apply Or.inr); (focus fail "fn")))
local macro_rules | `(tactic| fail "al") => `(tactic| first
  | (with_reducible exact U.al_nil)
  | ((with_reducible refine U.al_cons ?_ ?_); (focus fail "in"); (focus fail "al"))
  | assumption)
local macro_rules | `(tactic| fail "frm") => `(tactic| first
  | (with_reducible exact U.Fr.refl _)
  | (with_reducible assumption)
  | ((with_reducible apply U.fr_new); (focus assumption); (focus fail "frm"))
  | ((with_reducible apply U.fr_upd); (focus fail "hq"); (focus rfl); (focus fail "in"); (focus fail "frm"))
  | ((with_reducible apply U.fr_call); (focus assumption); (focus fail "frm"); (focus fail "al")))
local macro_rules | `(tactic| fail "sne") => `(tactic| first
  | assumption
  | decide +kernel
  | ((with_reducible apply U.inr_ne); (focus fail "sne"))
  | ((with_reducible apply Ne.symm); (focus assumption)))
local macro_rules | `(tactic| fail "lk") => `(tactic| first
  | (with_reducible exact U.lk_hit)
  | ((with_reducible apply U.lk_miss); (focus fail "sne"); (focus fail "lk"))
  | (with_reducible exact U.lk_nil)
  | assumption)
local macro_rules | `(tactic| fail "pf") => `(tactic| first
  | (with_reducible exact U.pf_hit)
  | ((with_reducible apply U.pf_miss); (focus fail "sne"); (focus fail "pf"))
  | (with_reducible exact U.pf_nil))
local macro_rules | `(tactic| fail "vv") => `(tactic| first
  | (with_reducible assumption)
  | (with_reducible exact U.vv_hit)
  | ((with_reducible apply U.vv_miss); (focus fail "sne"); (focus fail "vv"))
  | (with_reducible exact U.vv_nil))
local macro_rules | `(tactic| fail "nk") => `(tactic| first
  | (with_reducible exact U.nk_nil)
  | ((with_reducible apply U.nk_cons); (focus fail "sne"); (focus fail "nk")))
local macro_rules | `(tactic| fail "pk") => `(tactic| first
  | ((with_reducible apply U.pk_hit); fail "nk")
  | ((with_reducible apply U.pk_miss); (focus fail "sne"); (focus fail "pk"))
  | (with_reducible exact U.pk_nil))
local macro_rules | `(tactic| fail "at") => `(tactic| first
  | (with_reducible assumption)
  | ((with_reducible apply L2.atI_nat); (focus assumption))
  | rfl)
local macro_rules | `(tactic| fail "sz") => `(tactic| first
  | assumption
  | decide
  | (simp only [List.length_cons, List.length_nil]; decide)
  | (show _ < (16777216 : Nat); omega)
  | (show _ ≤ (16777216 : Nat); omega))
local macro_rules | `(tactic| fail "lf") => `(tactic| first
  | (with_reducible exact U.lf_addI)
  | (with_reducible exact U.lf_sub)
  | (with_reducible exact U.lf_eqI)
  | (with_reducible exact U.lf_eqS)
  | (with_reducible exact U.lf_neI)
  | (with_reducible exact U.lf_neS)
  | (with_reducible exact U.lf_lt)
  | (with_reducible exact U.lf_le)
  | (with_reducible exact U.lf_gt)
  | (with_reducible exact U.lf_ge)
  | (with_reducible exact U.lf_isN)
  | (with_reducible exact U.lf_notN)
  | ((with_reducible apply U.lf_ixT); (focus fail "hq"); (focus fail "at"))
  | ((with_reducible apply U.lf_ixL); (focus fail "hq"); (focus fail "at"))
  | ((with_reducible apply U.lf_ixD); (focus fail "hq"); (focus fail "vv"))
  | ((with_reducible apply U.lf_inD); (focus fail "hq"))
  | ((with_reducible apply U.lf_notInD); (focus fail "hq"))
  | ((with_reducible apply U.lf_inL); (focus fail "hq"))
  | ((with_reducible apply U.lf_notInL); (focus fail "hq"))
  | (with_reducible exact U.lf_inS)
  | (with_reducible exact U.lf_notInS)
  | ((with_reducible apply U.lf_mod); (focus first | assumption | decide | omega))
  | ((with_reducible apply U.lf_mul); (focus first | assumption | ((apply U.mul64); (focus decide); (focus decide)) | ((apply U.mul64); (focus omega); (focus omega))))
  | ((with_reducible apply U.lf_div); (focus first | assumption | exact ⟨by decide, by decide +kernel⟩))
  | ((with_reducible apply U.lf_pow); (focus exact ⟨by decide, by decide, by decide⟩))
  | ((with_reducible apply U.lf_addS); (focus first | assumption | (show _ ≤ (16777216 : Nat); omega)))
  | (with_reducible assumption))
local macro_rules | `(tactic| fail "lc") => `(tactic| first
  | ((with_reducible apply U.lc_lenUL); (focus fail "hq"))
  | ((with_reducible apply U.lc_lenUT); (focus fail "hq"))
  | ((with_reducible apply U.lc_lenUD); (focus fail "hq"))
  | ((with_reducible apply U.lc_lenUS); (focus fail "sz"))
  | (with_reducible exact U.lc_intB)
  | (with_reducible exact U.lc_max)
  | (with_reducible exact U.lc_min)
  | ((with_reducible apply U.lc_lenUq); assumption)
  | ((with_reducible apply U.lc_isiL); (focus fail "hq"))
  | ((with_reducible apply U.lc_isiT); (focus fail "hq"))
  | (with_reducible exact U.lc_isiSb)
  | (with_reducible exact U.lc_isiIb)
  | (with_reducible assumption))
local macro_rules | `(tactic| fail "va") => `(tactic| first
  | (with_reducible exact U.va_nil)
  | ((with_reducible apply U.va_cons); (focus fail "vt"); (focus fail "va")))
local macro_rules | `(tactic| fail "vt") => `(tactic| first
  | (with_reducible assumption)
  | (with_reducible exact U.val_c)
  | exact U.val_var rfl
  | ((with_reducible apply U.val_op); (focus fail "vt"); (focus fail "vt"); (focus fail "lf"))
  | ((with_reducible apply U.val_fld); (focus fail "vt"); (focus fail "hq"); (focus fail "lk"))
  | ((with_reducible apply U.val_cb); (focus fail "va"); (focus fail "lc"))
  | ((with_reducible apply U.val_get1); (focus fail "vt"); (focus fail "vt"); (focus fail "hq"))
  | ((with_reducible apply U.val_notV); (focus fail "vt"))
  | ((with_reducible apply U.val_andV); (focus fail "vt"); (intro _; fail "vt"))
  | ((with_reducible apply U.val_orV); (focus fail "vt"); (intro _; fail "vt"))
  | ((with_reducible apply U.val_un); (focus fail "vt"); (focus with_reducible exact U.l1_neg)))
local macro_rules | `(tactic| fail "an") => `(tactic| first
  | (with_reducible assumption)
  | ((with_reducible apply U.ans_T); fail "vt")
  | ((with_reducible apply U.ans_B); fail "vt")
  | ((with_reducible apply U.ans_not); fail "an")
  | ((with_reducible apply U.ans_and); (focus fail "an"); (intro _; fail "an"))
  | ((with_reducible apply U.ans_or); (focus fail "an"); (intro _; fail "an")))
local macro_rules | `(tactic| fail "put") => `(tactic| first
  | fail "pk"
  | ((apply Law.im_put); (focus assumption))
  | ((apply Law.sm_put); (focus assumption)))
local macro_rules | `(tactic| fail "st") => `(tactic| first
  | (with_reducible refine U.st_seq ?_)
  | ((with_reducible apply U.st_asg); (focus fail "vt"); (try dsimp only [List.set]))
  | ((with_reducible apply U.st_ret); (focus fail "vt"); (try dsimp only))
  | ((with_reducible apply U.st_fld); (focus fail "vt"); (focus fail "vt"); (focus fail "hq"); (focus fail "sz"); (focus fail "pf"); (try dsimp only))
  | ((with_reducible apply U.st_fld1); (focus fail "vt"); (focus fail "hq"); (focus fail "sz"); (focus fail "pf"); (try dsimp only))
  | ((with_reducible apply U.st_untup); (focus fail "vt"); (focus fail "hq"); (focus rfl))
  | ((with_reducible refine U.st_gcons ?_); (try dsimp only))
  | ((with_reducible refine U.st_gname ?_); (try dsimp only [List.set]))
  | ((with_reducible refine U.st_gnil ?_); (try dsimp only))
  | ((with_reducible apply U.st_gf); (focus fail "vt"); (focus fail "hq"); (focus fail "sz"); (focus fail "pf"); (try dsimp only))
  | ((with_reducible refine U.st_next ?_); (try dsimp only))
  | (with_reducible refine U.st_drop ?_)
  | ((with_reducible apply U.st_append); (focus fail "vt"); (focus fail "hq"); (focus fail "vt"); (focus fail "sz"); (try dsimp only))
  | ((with_reducible apply U.st_setDL); (focus fail "vt"); (focus fail "vt"); (focus fail "vt"); (focus fail "hq"); (focus fail "sz"); (focus fail "put"); (try dsimp only))
  | ((with_reducible apply U.st_set1); (focus fail "vt"); (focus fail "vt"); (focus fail "hq"); (focus fail "sz"); (focus fail "put"); (try dsimp only))
  | ((with_reducible apply U.st_call); (focus fail "va"))
  | ((with_reducible apply U.st_methV); (focus fail "vt"); (focus fail "hq"); (focus fail "lk"); (focus fail "va"))
  | (with_reducible refine U.st_fldE ?_)
  | (with_reducible refine U.st_setE ?_)
  | (with_reducible refine U.st_asgC ?_)
  | (with_reducible refine U.st_retC ?_)
  | ((with_reducible refine U.st_dnew ?_); (intro p hp); (try dsimp only))
  | ((with_reducible apply U.st_tup); (focus fail "va"); (focus fail "sz"); (intro p hp); (try dsimp only))
  | ((with_reducible apply U.st_lst); (focus fail "va"); (focus fail "sz"); (intro p hp); (try dsimp only))
  | ((with_reducible apply U.st_listOf); (focus fail "va"); (focus fail "hq"); (intro p hp); (try dsimp only))
  | ((with_reducible apply U.st_dictOf); (focus fail "va"); (focus fail "hq"); (intro p hp); (try dsimp only))
  | ((with_reducible apply U.st_apE); (focus fail "vt"); (focus fail "hq"))
  | ((with_reducible apply U.st_ap1); (focus fail "hq"); (focus fail "sz"); (try dsimp only)))
local macro_rules | `(tactic| fail "go") => `(tactic| repeat fail "st")
/-! words: "cp", one step of the general way; "cgo" -/
local macro_rules | `(tactic| fail "cp") => `(tactic| first
  | ((with_reducible apply U.st_val); (focus fail "vt"); (try dsimp only))
  | ((with_reducible apply U.st_vals); (focus fail "va"); (try dsimp only))
  | (with_reducible refine U.st_opC ?_)
  | (with_reducible refine U.st_consC ?_)
  | (with_reducible refine U.st_nilC ?_)
  | ((with_reducible apply U.st_lf); (focus fail "lf"); (try dsimp only))
  | ((with_reducible apply U.st_mkEnd); (focus fail "sz"); (intro p hp); (try dsimp only))
  | ((with_reducible apply U.st_gset); (focus fail "vt"); (focus fail "vt"); (focus fail "hq"); (focus fail "sz"); (focus fail "put"); (try dsimp only))
  | fail "st"
  | ((with_reducible apply U.st_cat); (focus fail "hq"); (focus fail "hq"); (focus fail "sz"); (intro p hp); (try dsimp only))
  | (with_reducible refine U.st_tupC ?_)
  | (with_reducible refine U.st_lstC ?_)
  | (with_reducible refine U.st_callC ?_)
  | (with_reducible refine U.st_cbC ?_))
local macro_rules | `(tactic| fail "cgo") => `(tactic| repeat fail "cp")

namespace Law
open PySem PySem.Spec PyProof.Rows L2 U
/-! ### what is drawn -/
def SAt (H : Hp) (s : Addr) (b : Nat) : Prop := ∃ (r : Int) (dg : Bool) (c : Int), H s = some (.dK [(Sum.inr "rest", .int r), (Sum.inr "digits", .bl dg), (Sum.inr "count", .int c)]) ∧ 0 ≤ c ∧ c + b ≤ 100000
theorem SAt.fr {F : List Addr} {H H' : Hp} {s : Addr} {b : Nat} (h : SAt H s b) (f : Fr F H H') (n : s ∉ F) : SAt H' s b := by
  obtain ⟨r, dg, c, h, h1, h2⟩ := h
  exact ⟨r, dg, c, f.keep _ _ h n, h1, h2⟩
def sp_state (K : PySem.W.Frag) (A : Ad) : Sp := fun vs H Q _ => ∃ (a : Addr) (ns : List Int) (k : Nat), vs = [.ref a, .int k] ∧ SqL K H a (ns.map V.int) ∧ k ≤ 100 ∧ ∀ H' s, H s = none → Fr [] H H' → SAt H' s 90000 → Q (.ref s) H'
theorem r__law_state {K : PySem.W.Frag} {A : Ad} (vs : List V) (H : Hp) (Q : VK) (E : XK) (h : sp_state K A vs H Q E) : t__law_state K A { nx := fun _ H' => Q .non H', rt := Q } (start N__law_state vs) H := by
  obtain ⟨a, ns, k, rfl, ha, hk, kk⟩ := h
  fail "go"
  have e : ∃ r : Int, ∀ q : decide ((k : Int) < ((ns.map V.int).length : Int)) = true, atI (ns.map V.int) (k : Int) = some (.int r) := by
    cases e : ns[k]? with
    | some r => exact ⟨r, fun _ => atI_nat (by rw [List.getElem?_map, e]; rfl)⟩
    | none =>
      refine ⟨0, fun q => ?_⟩
      have q := of_decide_eq_true q
      rw [List.length_map] at q
      rw [List.getElem?_eq_getElem (by omega)] at e
      cases e
  obtain ⟨r, er⟩ := e
  have fin : ∀ r : Int, tRet (tDisp [(tC (.str "rest"), tVar 2), (tC (.str "digits"), tOrV (tOp (rGeI) (tVar 1) (tCB (rLenU K) (tCons (tVar 0) tNil))) (tOp (rGeI) (tVar 2) (tOp (rPowI) (tC (.int 10)) (tC (.int 18))))), (tC (.str "count"), tVar 1)]) { nx := fun _ H' => Q .non H', rt := Q } [some (.ref a), some (.int k), some (.int r)] H := by
    intro r
    refine st_retC (st_disp fun p hp => ?_)
    have ha' : SqL K (upd H p (.dK [])) a (ns.map V.int) := SqL_fr (by fail "frm") ha
    refine st_pair val_c ?_
    refine st_val (val_var rfl) ?_
    refine st_pair val_c ?_
    refine st_val (val_orV (by fail "vt") fun _ => by fail "vt") ?_
    refine st_pair val_c ?_
    refine st_val (val_var rfl) ?_
    refine st_pnil (st_dend [(Sum.inr "rest", .int r), (Sum.inr "digits", .bl _), (Sum.inr "count", .int k)] (by fail "hq") rfl (Nat.le_of_ble_eq_true rfl) ?_)
    exact kk _ p hp (by fail "frm") ⟨r, _, k, upd_same, by omega, by omega⟩
  refine st_ifT (by fail "an") (fun q => ?_) fun q => ?_
  · refine st_asg (v := .int r) (val_op (val_var rfl) (val_var rfl) (lf_ixLq ha (er q))) ?_
    exact fin r
  · exact fin 0
def sp_draw (A : Ad) : Sp := fun vs H Q _ => ∃ (s : Addr) (m : Int) (b : Nat), vs = [.ref s, .int m] ∧ 0 < m ∧ m < 2 ^ 100 ∧ SAt H s (b + 1) ∧ ∀ H' i, 0 ≤ i → i < m → Fr [s] H H' → SAt H' s b → Q (.int i) H'
theorem small_log {m : Int} (h : 0 < m) (h2 : m < 2 ^ 100) : CDivW 0 m := ⟨h, by
  have : m.natAbs.log2 < 100 := (Nat.log2_lt (by omega)).mpr (by omega)
  omega⟩
theorem r__law_draw {K : PySem.W.Frag} {A : Ad} (vs : List V) (H : Hp) (Q : VK) (E : XK) (h : sp_draw A vs H Q E) : t__law_draw K A { nx := fun _ H' => Q .non H', rt := Q } (start N__law_draw vs) H := by
  obtain ⟨s, m, b, rfl, hm, hm2, ⟨r, dg, c, hs, hc, hcb⟩, k⟩ := h
  have dv : CDivW r m := small_log hm hm2
  have i0 : 0 ≤ r % m := Int.emod_nonneg _ (by omega)
  have i1 : r % m < m := Int.emod_lt_of_pos _ hm
  refine st_ifT (by fail "an") (fun q => ?_) fun q => ?_
  · fail "go"
    exact k _ _ i0 i1 (by fail "frm") ⟨_, _, _, upd_same, hc, by omega⟩
  · fail "go"
    exact k _ _ (Int.emod_nonneg _ (by omega)) (Int.emod_lt_of_pos _ hm) (by fail "frm") ⟨r, dg, c + 1, by fail "hx", by omega, by omega⟩
theorem at_mem {xs : List V} {i : Int} (h0 : 0 ≤ i) (h1 : i < xs.length) : ∃ v, v ∈ xs ∧ atI xs i = some v := by
  have l : i.toNat < xs.length := by omega
  exact ⟨xs[i.toNat], List.getElem_mem l, at_of (j := i.toNat) (by omega) (List.getElem?_eq_getElem l)⟩
def sp_number (A : Ad) : Sp := fun vs H Q _ => ∃ (s : Addr) (b : Nat), vs = [.ref s] ∧ SAt H s (b + 4) ∧ ∀ H' i, i.natAbs < 2 ^ 69 → Fr [s] H H' → SAt H' s b → Q (.int i) H'
theorem r__law_number {K : PySem.W.Frag} {A : Ad} (vs : List V) (H : Hp) (Q : VK) (E : XK) (h : sp_number A vs H Q E) : t__law_number K A (sp_draw A) { nx := fun _ H' => Q .non H', rt := Q } (start N__law_number vs) H := by
  obtain ⟨s, b, rfl, hs, k⟩ := h
  fail "cgo"
  refine ⟨s, 7, b + 3, rfl, by decide, by decide, hs, fun H1 i1 a1 b1 f1 s1 => ?_⟩
  fail "cgo"
  refine ⟨s, 2, b + 2, rfl, by decide, by decide, s1, fun H2 i2 a2 b2 f2 s2 => ?_⟩
  have f2' : Fr [s] H H2 := by fail "frm"
  clear f1 f2 s1
  fail "cgo"
  refine ⟨s, _, b + 1, rfl, by decide, by decide, s2, fun H3 i3 a3 b3 f3 s3 => ?_⟩
  have f3' : Fr [s] H H3 := by fail "frm"
  clear f3 f2' s2
  fail "cgo"
  rename_i l l0
  have f4 : Fr [s] H (upd H3 l (.lst [.int (i1 - 3), .int i2, .int (i3 - 5 * 10 ^ Int.toNat 19)])) := by fail "frm"
  have s4 := SAt.fr (F := []) (H' := upd H3 l (.lst [.int (i1 - 3), .int i2, .int (i3 - 5 * 10 ^ Int.toNat 19)])) s3 (by fail "frm") (by fail "ni")
  refine ⟨s, 3, b, rfl, by decide, by decide, s4, fun H4 i4 a4 b4 f5 s5 => ?_⟩
  obtain ⟨v, mv, ev⟩ := at_mem (xs := [.int (i1 - 3), .int i2, .int (i3 - 5 * 10 ^ Int.toNat 19)]) a4 b4
  have f5' : Fr [s] H H4 := f4.call f5 (by fail "al")
  have ls : l ≠ s := by obtain ⟨_, _, _, q, _⟩ := s3; fail "ne"
  have hl : H4 l = some (.lst [.int (i1 - 3), .int i2, .int (i3 - 5 * 10 ^ Int.toNat 19)]) := f5.keep _ _ upd_same (by fail "ni")
  clear f5 f4
  fail "cgo"
  have e19 : (10 : Int) ^ Int.toNat 19 = 10000000000000000000 := by decide
  have e20 : (10 : Int) ^ Int.toNat 20 = 100000000000000000000 := by decide
  rw [e19] at mv
  rw [e20] at b3
  simp only [List.mem_cons, List.not_mem_nil, or_false] at mv
  rcases mv with rfl | rfl | rfl
  · exact k _ _ (by omega) f5' s5
  · exact k _ _ (by omega) f5' s5
  · exact k _ _ (by omega) f5' s5
end Law

end
section
set_option maxHeartbeats 4000000
/-! words: fail "le", "hq" (what stands at an address), "ne" (two addresses differ), "fn" (an address is new to an older heap), "al" (places of a frame), "ni", "frm" (a frame) -/
local macro_rules | `(tactic| fail "le") => `(tactic| first
  | (with_reducible exact U.Le.refl _)
  | ((with_reducible refine U.Le.upd ?_); fail "le")
  | ((with_reducible apply U.Le.fr); (rotate_left 1); (focus assumption); (focus fail "le")))
local macro_rules | `(tactic| fail "fn") => `(tactic| first
  | assumption
  | ((with_reducible apply U.none_le); (rotate_left 1); (focus assumption); (focus fail "le")))
local macro_rules | `(tactic| fail "hq") => `(tactic| first
  | (with_reducible assumption)
  | (with_reducible exact L2.upd_same)
  | ((with_reducible apply U.look_upd); (focus fail "hq"); (focus fail "ne"))
  | ((with_reducible apply U.look_fr); (focus assumption); (focus fail "hq"); (focus fail "ni"))
  | ((with_reducible apply U.look_tup); (focus assumption); (focus fail "hq")))
local macro_rules | `(tactic| fail "hx") => `(tactic| first
  | fail "hq"
  | ((with_reducible apply U.hq_to); (focus fail "hq"); (focus rfl)))
local macro_rules | `(tactic| fail "ni") => `(tactic| first
  | (with_reducible exact U.ni_nil)
  | ((with_reducible refine U.ni_cons ?_ ?_); (focus fail "ne"); (focus fail "ni"))
  | assumption)
local macro_rules | `(tactic| fail "ne") => `(tactic| first
  | (with_reducible assumption)
  | ((with_reducible apply Ne.symm); (focus assumption))
  | ((with_reducible apply U.ne_new); (focus with_reducible assumption); (focus fail "hq"))
  | ((with_reducible apply U.ne_new'); (focus with_reducible assumption); (focus fail "hq"))
  | ((with_reducible apply L2.ne_of); (focus with_reducible assumption); (focus fail "hq"); (focus (intro z; cases z))))
local macro_rules | `(tactic| fail "mem") => `(tactic| first
  | (with_reducible exact U.mem_hd)
  | ((with_reducible refine U.mem_tl ?_); fail "mem")
  | assumption)
local macro_rules | `(tactic| fail "in") => `(tactic| first
  | ((with_reducible apply Or.inl); (focus fail "mem"))
  | ((with_reducible apply Or.inr); (focus fail "fn")))
local macro_rules | `(tactic| fail "al") => `(tactic| first
  | (with_reducible exact U.al_nil)
  | ((with_reducible refine U.al_cons ?_ ?_); (focus fail "in"); (focus fail "al"))
  | assumption)
local macro_rules | `(tactic| fail "frm") => `(tactic| first
  | (with_reducible exact U.Fr.refl _)
  | (with_reducible assumption)
  | ((with_reducible apply U.fr_new); (focus assumption); (focus fail "frm"))
  | ((with_reducible apply U.fr_upd); (focus fail "hq"); (focus rfl); (focus fail "in"); (focus fail "frm"))
  | ((with_reducible apply U.fr_call); (focus assumption); (focus fail "frm"); (focus fail "al")))
local macro_rules | `(tactic| fail "sne") => `(tactic| first
  | assumption
  | decide +kernel
  | ((with_reducible apply U.inr_ne); (focus fail "sne"))
  | ((with_reducible apply Ne.symm); (focus assumption)))
local macro_rules | `(tactic| fail "lk") => `(tactic| first
  | (with_reducible exact U.lk_hit)
  | ((with_reducible apply U.lk_miss); (focus fail "sne"); (focus fail "lk"))
  | (with_reducible exact U.lk_nil)
  | assumption)
local macro_rules | `(tactic| fail "pf") => `(tactic| first
  | (with_reducible exact U.pf_hit)
  | ((with_reducible apply U.pf_miss); (focus fail "sne"); (focus fail "pf"))
  | (with_reducible exact U.pf_nil))
local macro_rules | `(tactic| fail "vv") => `(tactic| first
  | (with_reducible assumption)
  | (with_reducible exact U.vv_hit)
  | ((with_reducible apply U.vv_miss); (focus fail "sne"); (focus fail "vv"))
  | (with_reducible exact U.vv_nil))
local macro_rules | `(tactic| fail "nk") => `(tactic| first
  | (with_reducible exact U.nk_nil)
  | ((with_reducible apply U.nk_cons); (focus fail "sne"); (focus fail "nk")))
local macro_rules | `(tactic| fail "pk") => `(tactic| first
  | ((with_reducible apply U.pk_hit); fail "nk")
  | ((with_reducible apply U.pk_miss); (focus fail "sne"); (focus fail "pk"))
  | (with_reducible exact U.pk_nil))
local macro_rules | `(tactic| fail "at") => `(tactic| first
  | (with_reducible assumption)
  | ((with_reducible apply L2.atI_nat); (focus assumption))
  | rfl)
local macro_rules | `(tactic| fail "sz") => `(tactic| first
  | assumption
  | decide
  | (simp only [List.length_cons, List.length_nil]; decide)
  | (show _ < (16777216 : Nat); omega)
  | (show _ ≤ (16777216 : Nat); omega))
local macro_rules | `(tactic| fail "lf") => `(tactic| first
  | (with_reducible exact U.lf_addI)
  | (with_reducible exact U.lf_sub)
  | (with_reducible exact U.lf_eqI)
  | (with_reducible exact U.lf_eqS)
  | (with_reducible exact U.lf_neI)
  | (with_reducible exact U.lf_neS)
  | (with_reducible exact U.lf_lt)
  | (with_reducible exact U.lf_le)
  | (with_reducible exact U.lf_gt)
  | (with_reducible exact U.lf_ge)
  | (with_reducible exact U.lf_isN)
  | (with_reducible exact U.lf_notN)
  | ((with_reducible apply U.lf_ixT); (focus fail "hq"); (focus fail "at"))
  | ((with_reducible apply U.lf_ixL); (focus fail "hq"); (focus fail "at"))
  | ((with_reducible apply U.lf_ixD); (focus fail "hq"); (focus fail "vv"))
  | ((with_reducible apply U.lf_inD); (focus fail "hq"))
  | ((with_reducible apply U.lf_notInD); (focus fail "hq"))
  | ((with_reducible apply U.lf_inL); (focus fail "hq"))
  | ((with_reducible apply U.lf_notInL); (focus fail "hq"))
  | (with_reducible exact U.lf_inS)
  | (with_reducible exact U.lf_notInS)
  | ((with_reducible apply U.lf_mod); (focus first | assumption | decide | omega))
  | ((with_reducible apply U.lf_mul); (focus first | assumption | ((apply U.mul64); (focus decide); (focus decide)) | ((apply U.mul64); (focus omega); (focus omega))))
  | ((with_reducible apply U.lf_div); (focus first | assumption | exact ⟨by decide, by decide +kernel⟩))
  | ((with_reducible apply U.lf_pow); (focus exact ⟨by decide, by decide, by decide⟩))
  | ((with_reducible apply U.lf_addS); (focus first | assumption | (show _ ≤ (16777216 : Nat); omega)))
  | (with_reducible assumption))
local macro_rules | `(tactic| fail "lc") => `(tactic| first
  | ((with_reducible apply U.lc_lenUL); (focus fail "hq"))
  | ((with_reducible apply U.lc_lenUT); (focus fail "hq"))
  | ((with_reducible apply U.lc_lenUD); (focus fail "hq"))
  | ((with_reducible apply U.lc_lenUS); (focus fail "sz"))
  | (with_reducible exact U.lc_intB)
  | (with_reducible exact U.lc_max)
  | (with_reducible exact U.lc_min)
  | ((with_reducible apply U.lc_lenUq); assumption)
  | ((with_reducible apply U.lc_isiL); (focus fail "hq"))
  | ((with_reducible apply U.lc_isiT); (focus fail "hq"))
  | (with_reducible exact U.lc_isiSb)
  | (with_reducible exact U.lc_isiIb)
  | (with_reducible assumption))
local macro_rules | `(tactic| fail "va") => `(tactic| first
  | (with_reducible exact U.va_nil)
  | ((with_reducible apply U.va_cons); (focus fail "vt"); (focus fail "va")))
local macro_rules | `(tactic| fail "vt") => `(tactic| first
  | (with_reducible assumption)
  | (with_reducible exact U.val_c)
  | exact U.val_var rfl
  | ((with_reducible apply U.val_op); (focus fail "vt"); (focus fail "vt"); (focus fail "lf"))
  | ((with_reducible apply U.val_fld); (focus fail "vt"); (focus fail "hq"); (focus fail "lk"))
  | ((with_reducible apply U.val_cb); (focus fail "va"); (focus fail "lc"))
  | ((with_reducible apply U.val_get1); (focus fail "vt"); (focus fail "vt"); (focus fail "hq"))
  | ((with_reducible apply U.val_notV); (focus fail "vt"))
  | ((with_reducible apply U.val_andV); (focus fail "vt"); (intro _; fail "vt"))
  | ((with_reducible apply U.val_orV); (focus fail "vt"); (intro _; fail "vt"))
  | ((with_reducible apply U.val_un); (focus fail "vt"); (focus with_reducible exact U.l1_neg)))
local macro_rules | `(tactic| fail "an") => `(tactic| first
  | (with_reducible assumption)
  | ((with_reducible apply U.ans_T); fail "vt")
  | ((with_reducible apply U.ans_B); fail "vt")
  | ((with_reducible apply U.ans_not); fail "an")
  | ((with_reducible apply U.ans_and); (focus fail "an"); (intro _; fail "an"))
  | ((with_reducible apply U.ans_or); (focus fail "an"); (intro _; fail "an")))
local macro_rules | `(tactic| fail "put") => `(tactic| first
  | fail "pk"
  | ((apply Law.im_put); (focus assumption))
  | ((apply Law.sm_put); (focus assumption)))
local macro_rules | `(tactic| fail "st") => `(tactic| first
  | (with_reducible refine U.st_seq ?_)
  | ((with_reducible apply U.st_asg); (focus fail "vt"); (try dsimp only [List.set]))
  | ((with_reducible apply U.st_ret); (focus fail "vt"); (try dsimp only))
  | ((with_reducible apply U.st_fld); (focus fail "vt"); (focus fail "vt"); (focus fail "hq"); (focus fail "sz"); (focus fail "pf"); (try dsimp only))
  | ((with_reducible apply U.st_fld1); (focus fail "vt"); (focus fail "hq"); (focus fail "sz"); (focus fail "pf"); (try dsimp only))
  | ((with_reducible apply U.st_untup); (focus fail "vt"); (focus fail "hq"); (focus rfl))
  | ((with_reducible refine U.st_gcons ?_); (try dsimp only))
  | ((with_reducible refine U.st_gname ?_); (try dsimp only [List.set]))
  | ((with_reducible refine U.st_gnil ?_); (try dsimp only))
  | ((with_reducible apply U.st_gf); (focus fail "vt"); (focus fail "hq"); (focus fail "sz"); (focus fail "pf"); (try dsimp only))
  | ((with_reducible refine U.st_next ?_); (try dsimp only))
  | (with_reducible refine U.st_drop ?_)
  | ((with_reducible apply U.st_append); (focus fail "vt"); (focus fail "hq"); (focus fail "vt"); (focus fail "sz"); (try dsimp only))
  | ((with_reducible apply U.st_setDL); (focus fail "vt"); (focus fail "vt"); (focus fail "vt"); (focus fail "hq"); (focus fail "sz"); (focus fail "put"); (try dsimp only))
  | ((with_reducible apply U.st_set1); (focus fail "vt"); (focus fail "vt"); (focus fail "hq"); (focus fail "sz"); (focus fail "put"); (try dsimp only))
  | ((with_reducible apply U.st_call); (focus fail "va"))
  | ((with_reducible apply U.st_methV); (focus fail "vt"); (focus fail "hq"); (focus fail "lk"); (focus fail "va"))
  | (with_reducible refine U.st_fldE ?_)
  | (with_reducible refine U.st_setE ?_)
  | (with_reducible refine U.st_asgC ?_)
  | (with_reducible refine U.st_retC ?_)
  | ((with_reducible refine U.st_dnew ?_); (intro p hp); (try dsimp only))
  | ((with_reducible apply U.st_tup); (focus fail "va"); (focus fail "sz"); (intro p hp); (try dsimp only))
  | ((with_reducible apply U.st_lst); (focus fail "va"); (focus fail "sz"); (intro p hp); (try dsimp only))
  | ((with_reducible apply U.st_listOf); (focus fail "va"); (focus fail "hq"); (intro p hp); (try dsimp only))
  | ((with_reducible apply U.st_dictOf); (focus fail "va"); (focus fail "hq"); (intro p hp); (try dsimp only))
  | ((with_reducible apply U.st_apE); (focus fail "vt"); (focus fail "hq"))
  | ((with_reducible apply U.st_ap1); (focus fail "hq"); (focus fail "sz"); (try dsimp only)))
local macro_rules | `(tactic| fail "go") => `(tactic| repeat fail "st")
/-! words: "cp", one step of the general way; "cgo" -/
local macro_rules | `(tactic| fail "cp") => `(tactic| first
  | ((with_reducible apply U.st_val); (focus fail "vt"); (try dsimp only))
  | ((with_reducible apply U.st_vals); (focus fail "va"); (try dsimp only))
  | (with_reducible refine U.st_opC ?_)
  | (with_reducible refine U.st_consC ?_)
  | (with_reducible refine U.st_nilC ?_)
  | ((with_reducible apply U.st_lf); (focus fail "lf"); (try dsimp only))
  | ((with_reducible apply U.st_mkEnd); (focus fail "sz"); (intro p hp); (try dsimp only))
  | ((with_reducible apply U.st_gset); (focus fail "vt"); (focus fail "vt"); (focus fail "hq"); (focus fail "sz"); (focus fail "put"); (try dsimp only))
  | fail "st"
  | ((with_reducible apply U.st_cat); (focus fail "hq"); (focus fail "hq"); (focus fail "sz"); (intro p hp); (try dsimp only))
  | (with_reducible refine U.st_tupC ?_)
  | (with_reducible refine U.st_lstC ?_)
  | (with_reducible refine U.st_callC ?_)
  | (with_reducible refine U.st_cbC ?_))
local macro_rules | `(tactic| fail "cgo") => `(tactic| repeat fail "cp")

namespace Law
open PySem PySem.Spec PyProof.Rows L2 U
structure RcB (l : List Str) (d w k : Nat) (r : Rc) : Prop where
  dp : r.dp ≤ d
  wb : wb r ≤ w
  rn : rn r ≤ k
  sm : Sm 70 r
  nm : ∀ x ∈ nm r, x ∈ l
def sp_product (A : Ad) : Sp := fun vs H Q _ => ∃ (s : Addr) (b : Nat) (v1 v2 : V) (r1 r2 : Rc) (l : List Str) (d w k : Nat), vs = [.ref s, v1, v2] ∧ SAt H s (b + 4) ∧ Rp H r1.t v1 ∧ Rp H r2.t v2 ∧ RcB l d w k r1 ∧ RcB l d w k r2 ∧
  ∀ H' v r, RcB l (d + 2) (w + 2) (2 * k) r → Rp H' r.t v → Fr [s] H H' → SAt H' s b → Q v H'
theorem SAt.ne_tup {H : Hp} {s p : Addr} {b : Nat} {xs : List V} (h : SAt H s b) (hp : H p = some (.tup xs)) : p ≠ s := by
  obtain ⟨_, _, _, q, _⟩ := h
  intro z
  rw [z, q] at hp
  cases hp
theorem rp_num {H : Hp} {p : Addr} {i : Int} (h : H p = some (.tup [.str "number", .int i])) : Rp H (Rc.num i).t (.ref p) := ⟨_, _, rfl, h, _, _, rfl, rfl, _, _, rfl, rfl, rfl⟩
theorem rp_two {H : Hp} {p : Addr} {k : Tw} {a b : Rc} {x y : V} (h : H p = some (.tup [.str k.str, x, y])) (hx : Rp H a.t x) (hy : Rp H b.t y) : Rp H (Rc.two k a b).t (.ref p) := ⟨_, _, rfl, h, _, _, rfl, rfl, _, _, rfl, hx, _, _, rfl, hy, rfl⟩
theorem rp_pick {H : Hp} {p : Addr} {a b c : Rc} {x y z : V} (h : H p = some (.tup [.str "pick", x, y, z])) (hx : Rp H a.t x) (hy : Rp H b.t y) (hz : Rp H c.t z) : Rp H (Rc.pick a b c).t (.ref p) := ⟨_, _, rfl, h, _, _, rfl, rfl, _, _, rfl, hx, _, _, rfl, hy, _, _, rfl, hz, rfl⟩
theorem r__law_product {K : PySem.W.Frag} {A : Ad} (vs : List V) (H : Hp) (Q : VK) (E : XK) (h : sp_product A vs H Q E) : t__law_product K A (sp_draw A) { nx := fun _ H' => Q .non H', rt := Q } (start N__law_product vs) H := by
  obtain ⟨s, b, v1, v2, r1, r2, l, d, w, k, rfl, hs, h1, h2, g1, g2, kk⟩ := h
  fail "cgo"
  refine ⟨s, 4, b + 3, rfl, by decide, by decide, hs, fun H1 i1 a1 b1 f1 s1 => ?_⟩
  have h1 := rp_fr f1 h1
  have h2 := rp_fr f1 h2
  fail "cgo"
  rename_i p1 q1
  have s1 := s1.fr (F := []) (H' := upd H1 p1 (.tup [.str "number", .int i1])) (by fail "frm") (by fail "ni")
  have n1 : Rp (upd H1 p1 (.tup [.str "number", .int i1])) (Rc.num i1).t (.ref p1) := rp_num upd_same
  refine ⟨s, 7, b + 2, rfl, by decide, by decide, s1, fun H2 i2 a2 b2 f2 s2 => ?_⟩
  have n1 := rp_fr f2 n1
  have h1 := rp_fr (F := [s]) (H' := H2) (by fail "frm") h1
  have h2 := rp_fr (F := [s]) (H' := H2) (by fail "frm") h2
  have f2' : Fr [s] H H2 := by fail "frm"
  clear f1 f2 q1
  fail "cgo"
  rename_i p2 q2 p3 q3
  have f3 : Fr [] H2 (upd (upd H2 p2 (.tup [.str "number", .int (i2 - 3)])) p3 (.tup [.str "pick", v1, .ref p1, .ref p2])) := by fail "frm"
  have n2 : Rp (upd (upd H2 p2 (.tup [.str "number", .int (i2 - 3)])) p3 (.tup [.str "pick", v1, .ref p1, .ref p2])) (Rc.num (i2 - 3)).t (.ref p2) := rp_num (by fail "hq")
  have n3 := rp_pick (H := upd (upd H2 p2 (.tup [.str "number", .int (i2 - 3)])) p3 (.tup [.str "pick", v1, .ref p1, .ref p2])) upd_same (rp_fr f3 h1) (rp_fr f3 n1) n2
  have s3 := s2.fr f3 (by fail "ni")
  have f3' : Fr [s] H (upd (upd H2 p2 (.tup [.str "number", .int (i2 - 3)])) p3 (.tup [.str "pick", v1, .ref p1, .ref p2])) := by fail "frm"
  have h1 := rp_fr f3 h1
  have h2 := rp_fr f3 h2
  clear n1 n2 s2 f2' f3 q2 q3
  refine ⟨s, 7, b + 1, rfl, by decide, by decide, s3, fun H4 i4 a4 b4 f4 s4 => ?_⟩
  have h1 := rp_fr f4 h1
  have h2 := rp_fr f4 h2
  have n3 := rp_fr f4 n3
  have f4' : Fr [s] H H4 := f3'.call f4 (by fail "al")
  clear f4 f3'
  fail "cgo"
  rename_i p4 q4 p5 q5 p6 q6 p7 q7 p8 q8 p9 q9 p10 q10 p11 q11 p12 q12
  refine us_sp (fun H' => Fr [] H4 H' ∧ Rp H' (Rc.two .times r1 (.num (i4 - 3))).t (.ref p5) ∧ Rp H' (Rc.two .times (.num 2) r1).t (.ref p7) ∧ Rp H' (Rc.two .times (.pick r1 (.num i1) (.num (i2 - 3))) r2).t (.ref p9) ∧ Rp H' (Rc.two .times r2 (.pick r1 (.num i1) (.num (i2 - 3)))).t (.ref p10) ∧ H' p12 = some (.lst [.ref p5, .ref p7, .ref p9, .ref p10])) ?_ ?_
  · skip
    refine ⟨by fail "frm", rp_two (by fail "hx") (rp_fr (F := []) (H := H4) (by fail "frm") h1) (rp_num (by fail "hq")), rp_two (by fail "hx") (rp_num (by fail "hq")) (rp_fr (F := []) (H := H4) (by fail "frm") h1), rp_two (by fail "hx") (rp_fr (F := []) (H := H4) (by fail "frm") n3) (rp_fr (F := []) (H := H4) (by fail "frm") h2), rp_two (by fail "hx") (rp_fr (F := []) (H := H4) (by fail "frm") h2) (rp_fr (F := []) (H := H4) (by fail "frm") n3), by fail "hx"⟩
  rintro H5 ⟨f5, t1, t2, t3, t4, hl⟩
  clear q4 q5 q6 q7 q8 q9 q10 q11 q12
  have s5 := s4.fr f5 (by simp)
  have f5' : Fr [s] H H5 := f4'.call f5 (by fail "al")
  clear f5 f4'
  have ls : p12 ≠ s := by obtain ⟨_, _, _, q, _⟩ := s5; fail "ne"
  refine ⟨s, 4, b, rfl, by decide, by decide, s5, fun H6 i6 a6 b6 f6 s6 => ?_⟩
  have hl6 := f6.keep _ _ hl (by fail "ni")
  obtain ⟨v, mv, ev⟩ := at_mem (xs := [.ref p5, .ref p7, .ref p9, .ref p10]) a6 b6
  have f6' : Fr [s] H H6 := f5'.call f6 (by fail "al")
  have z0 : i4 - 3 = i4 - 3 := rfl
  have wn : ∀ r : Rc, max (wb r) 0 = wb r := fun r => Nat.max_zero _
  fail "cgo"
  simp only [List.mem_cons, List.not_mem_nil, or_false] at mv
  have t1 := rp_fr f6 t1
  have t2 := rp_fr f6 t2
  have t3 := rp_fr f6 t3
  have t4 := rp_fr f6 t4
  have c1 : (i4 - 3).natAbs ≤ 3 := by omega
  have c2 : i1.natAbs ≤ 3 := by omega
  have c3 : (i2 - 3).natAbs ≤ 3 := by omega
  have b1 : ∀ i : Int, i.natAbs ≤ 3 → i.natAbs < 2 ^ 70 := fun i h => by omega
  have d1 := g1.dp
  have d2 := g2.dp
  have w1 := g1.wb
  have w2 := g2.wb
  have k1 := g1.rn
  have k2 := g2.rn
  rcases mv with rfl | rfl | rfl | rfl
  · refine kk _ _ (.two .times r1 (.num (i4 - 3))) ⟨?_, ?_, ?_, ⟨fun _ => .inr c1, g1.sm, b1 _ c1⟩, fun x hx => ?_⟩ t1 f6' s6
    · show max r1.dp 0 + 1 ≤ d + 2; omega
    · show max (wb r1) 0 + 2 ≤ w + 2; omega
    · show rn r1 + 0 ≤ 2 * k; omega
    · exact (List.mem_append.mp hx).elim (g1.nm x) fun m => nomatch m
  · refine kk _ _ (.two .times (.num 2) r1) ⟨?_, ?_, ?_, ⟨fun _ => .inl (show (2 : Int).natAbs ≤ 3 by decide), b1 2 (by decide), g1.sm⟩, fun x hx => ?_⟩ t2 f6' s6
    · show max 0 r1.dp + 1 ≤ d + 2; omega
    · show max 0 (wb r1) + 2 ≤ w + 2; omega
    · show 0 + rn r1 ≤ 2 * k; omega
    · exact (List.mem_append.mp hx).elim (fun m => nomatch m) (g1.nm x)
  · refine kk _ _ (.two .times (.pick r1 (.num i1) (.num (i2 - 3))) r2) ⟨?_, ?_, ?_, ⟨fun _ => .inl ⟨c2, c3⟩, ⟨g1.sm, b1 _ c2, b1 _ c3⟩, g2.sm⟩, fun x hx => ?_⟩ t3 f6' s6
    · show max (max r1.dp (max 0 0) + 1) r2.dp + 1 ≤ d + 2; omega
    · show max (max (wb r1) (max 0 0)) (wb r2) + 2 ≤ w + 2; omega
    · show rn r1 + max 0 0 + rn r2 ≤ 2 * k; omega
    · rcases List.mem_append.mp hx with m | m
      · rcases List.mem_append.mp m with m | m
        · rcases List.mem_append.mp m with m | m
          · exact g1.nm x m
          · cases m
        · cases m
      · exact g2.nm x m
  · refine kk _ _ (.two .times r2 (.pick r1 (.num i1) (.num (i2 - 3)))) ⟨?_, ?_, ?_, ⟨fun _ => .inr ⟨c2, c3⟩, g2.sm, ⟨g1.sm, b1 _ c2, b1 _ c3⟩⟩, fun x hx => ?_⟩ t4 f6' s6
    · show max r2.dp (max r1.dp (max 0 0) + 1) + 1 ≤ d + 2; omega
    · show max (wb r2) (max (wb r1) (max 0 0)) + 2 ≤ w + 2; omega
    · show rn r2 + (rn r1 + max 0 0) ≤ 2 * k; omega
    · rcases List.mem_append.mp hx with m | m
      · exact g2.nm x m
      · rcases List.mem_append.mp m with m | m
        · rcases List.mem_append.mp m with m | m
          · exact g1.nm x m
          · cases m
        · cases m
end Law

end
section
set_option maxHeartbeats 4000000
/-! words: fail "le", "hq" (what stands at an address), "ne" (two addresses differ), "fn" (an address is new to an older heap), "al" (places of a frame), "ni", "frm" (a frame) -/
local macro_rules | `(tactic| fail "le") => `(tactic| first
  | (with_reducible exact U.Le.refl _)
  | ((with_reducible refine U.Le.upd ?_); fail "le")
  | ((with_reducible apply U.Le.fr); (rotate_left 1); (focus assumption); (focus fail "le")))
local macro_rules | `(tactic| fail "fn") => `(tactic| first
  | assumption
  | ((with_reducible apply U.none_le); (rotate_left 1); (focus assumption); (focus fail "le")))
local macro_rules | `(tactic| fail "hq") => `(tactic| first
  | (with_reducible assumption)
  | (with_reducible exact L2.upd_same)
  | ((with_reducible apply U.look_upd); (focus fail "hq"); (focus fail "ne"))
  | ((with_reducible apply U.look_fr); (focus assumption); (focus fail "hq"); (focus fail "ni"))
  | ((with_reducible apply U.look_tup); (focus assumption); (focus fail "hq")))
local macro_rules | `(tactic| fail "hx") => `(tactic| first
  | fail "hq"
  | ((with_reducible apply U.hq_to); (focus fail "hq"); (focus rfl)))
local macro_rules | `(tactic| fail "ni") => `(tactic| first
  | (with_reducible exact U.ni_nil)
  | ((with_reducible refine U.ni_cons ?_ ?_); (focus fail "ne"); (focus fail "ni"))
  | assumption)
local macro_rules | `(tactic| fail "ne") => `(tactic| first
  | (with_reducible assumption)
  | ((with_reducible apply Ne.symm); (focus assumption))
  | ((with_reducible apply U.ne_new); (focus with_reducible assumption); (focus fail "hq"))
  | ((with_reducible apply U.ne_new'); (focus with_reducible assumption); (focus fail "hq"))
  | ((with_reducible apply L2.ne_of); (focus with_reducible assumption); (focus fail "hq"); (focus (intro z; cases z))))
local macro_rules | `(tactic| fail "mem") => `(tactic| first
  | (with_reducible exact U.mem_hd)
  | ((with_reducible refine U.mem_tl ?_); fail "mem")
  | assumption)
local macro_rules | `(tactic| fail "in") => `(tactic| first
  | ((with_reducible apply Or.inl); (focus fail "mem"))
  | ((with_reducible apply Or.inr); (focus fail "fn")))
local macro_rules | `(tactic| fail "al") => `(tactic| first
  | (with_reducible exact U.al_nil)
  | ((with_reducible refine U.al_cons ?_ ?_); (focus fail "in"); (focus fail "al"))
  | assumption)
local macro_rules | `(tactic| fail "frm") => `(tactic| first
  | (with_reducible exact U.Fr.refl _)
  | (with_reducible assumption)
  | ((with_reducible apply U.fr_new); (focus assumption); (focus fail "frm"))
  | ((with_reducible apply U.fr_upd); (focus fail "hq"); (focus rfl); (focus fail "in"); (focus fail "frm"))
  | ((with_reducible apply U.fr_call); (focus assumption); (focus fail "frm"); (focus fail "al")))
local macro_rules | `(tactic| fail "sne") => `(tactic| first
  | assumption
  | decide +kernel
  | ((with_reducible apply U.inr_ne); (focus fail "sne"))
  | ((with_reducible apply Ne.symm); (focus assumption)))
local macro_rules | `(tactic| fail "lk") => `(tactic| first
  | (with_reducible exact U.lk_hit)
  | ((with_reducible apply U.lk_miss); (focus fail "sne"); (focus fail "lk"))
  | (with_reducible exact U.lk_nil)
  | assumption)
local macro_rules | `(tactic| fail "pf") => `(tactic| first
  | (with_reducible exact U.pf_hit)
  | ((with_reducible apply U.pf_miss); (focus fail "sne"); (focus fail "pf"))
  | (with_reducible exact U.pf_nil))
local macro_rules | `(tactic| fail "vv") => `(tactic| first
  | (with_reducible assumption)
  | (with_reducible exact U.vv_hit)
  | ((with_reducible apply U.vv_miss); (focus fail "sne"); (focus fail "vv"))
  | (with_reducible exact U.vv_nil))
local macro_rules | `(tactic| fail "nk") => `(tactic| first
  | (with_reducible exact U.nk_nil)
  | ((with_reducible apply U.nk_cons); (focus fail "sne"); (focus fail "nk")))
local macro_rules | `(tactic| fail "pk") => `(tactic| first
  | ((with_reducible apply U.pk_hit); fail "nk")
  | ((with_reducible apply U.pk_miss); (focus fail "sne"); (focus fail "pk"))
  | (with_reducible exact U.pk_nil))
local macro_rules | `(tactic| fail "at") => `(tactic| first
  | (with_reducible assumption)
  | ((with_reducible apply L2.atI_nat); (focus assumption))
  | rfl)
local macro_rules | `(tactic| fail "sz") => `(tactic| first
  | assumption
  | decide
  | (simp only [List.length_cons, List.length_nil]; decide)
  | (show _ < (16777216 : Nat); omega)
  | (show _ ≤ (16777216 : Nat); omega))
local macro_rules | `(tactic| fail "lf") => `(tactic| first
  | (with_reducible exact U.lf_addI)
  | (with_reducible exact U.lf_sub)
  | (with_reducible exact U.lf_eqI)
  | (with_reducible exact U.lf_eqS)
  | (with_reducible exact U.lf_neI)
  | (with_reducible exact U.lf_neS)
  | (with_reducible exact U.lf_lt)
  | (with_reducible exact U.lf_le)
  | (with_reducible exact U.lf_gt)
  | (with_reducible exact U.lf_ge)
  | (with_reducible exact U.lf_isN)
  | (with_reducible exact U.lf_notN)
  | ((with_reducible apply U.lf_ixT); (focus fail "hq"); (focus fail "at"))
  | ((with_reducible apply U.lf_ixL); (focus fail "hq"); (focus fail "at"))
  | ((with_reducible apply U.lf_ixD); (focus fail "hq"); (focus fail "vv"))
  | ((with_reducible apply U.lf_inD); (focus fail "hq"))
  | ((with_reducible apply U.lf_notInD); (focus fail "hq"))
  | ((with_reducible apply U.lf_inL); (focus fail "hq"))
  | ((with_reducible apply U.lf_notInL); (focus fail "hq"))
  | (with_reducible exact U.lf_inS)
  | (with_reducible exact U.lf_notInS)
  | ((with_reducible apply U.lf_mod); (focus first | assumption | decide | omega))
  | ((with_reducible apply U.lf_mul); (focus first | assumption | ((apply U.mul64); (focus decide); (focus decide)) | ((apply U.mul64); (focus omega); (focus omega))))
  | ((with_reducible apply U.lf_div); (focus first | assumption | exact ⟨by decide, by decide +kernel⟩))
  | ((with_reducible apply U.lf_pow); (focus exact ⟨by decide, by decide, by decide⟩))
  | ((with_reducible apply U.lf_addS); (focus first | assumption | (show _ ≤ (16777216 : Nat); omega)))
  | (with_reducible assumption))
local macro_rules | `(tactic| fail "lc") => `(tactic| first
  | ((with_reducible apply U.lc_lenUL); (focus fail "hq"))
  | ((with_reducible apply U.lc_lenUT); (focus fail "hq"))
  | ((with_reducible apply U.lc_lenUD); (focus fail "hq"))
  | ((with_reducible apply U.lc_lenUS); (focus fail "sz"))
  | (with_reducible exact U.lc_intB)
  | (with_reducible exact U.lc_max)
  | (with_reducible exact U.lc_min)
  | ((with_reducible apply U.lc_lenUq); assumption)
  | ((with_reducible apply U.lc_isiL); (focus fail "hq"))
  | ((with_reducible apply U.lc_isiT); (focus fail "hq"))
  | (with_reducible exact U.lc_isiSb)
  | (with_reducible exact U.lc_isiIb)
  | (with_reducible assumption))
local macro_rules | `(tactic| fail "va") => `(tactic| first
  | (with_reducible exact U.va_nil)
  | ((with_reducible apply U.va_cons); (focus fail "vt"); (focus fail "va")))
local macro_rules | `(tactic| fail "vt") => `(tactic| first
  | (with_reducible assumption)
  | (with_reducible exact U.val_c)
  | exact U.val_var rfl
  | ((with_reducible apply U.val_op); (focus fail "vt"); (focus fail "vt"); (focus fail "lf"))
  | ((with_reducible apply U.val_fld); (focus fail "vt"); (focus fail "hq"); (focus fail "lk"))
  | ((with_reducible apply U.val_cb); (focus fail "va"); (focus fail "lc"))
  | ((with_reducible apply U.val_get1); (focus fail "vt"); (focus fail "vt"); (focus fail "hq"))
  | ((with_reducible apply U.val_notV); (focus fail "vt"))
  | ((with_reducible apply U.val_andV); (focus fail "vt"); (intro _; fail "vt"))
  | ((with_reducible apply U.val_orV); (focus fail "vt"); (intro _; fail "vt"))
  | ((with_reducible apply U.val_un); (focus fail "vt"); (focus with_reducible exact U.l1_neg)))
local macro_rules | `(tactic| fail "an") => `(tactic| first
  | (with_reducible assumption)
  | ((with_reducible apply U.ans_T); fail "vt")
  | ((with_reducible apply U.ans_B); fail "vt")
  | ((with_reducible apply U.ans_not); fail "an")
  | ((with_reducible apply U.ans_and); (focus fail "an"); (intro _; fail "an"))
  | ((with_reducible apply U.ans_or); (focus fail "an"); (intro _; fail "an")))
local macro_rules | `(tactic| fail "put") => `(tactic| first
  | fail "pk"
  | ((apply Law.im_put); (focus assumption))
  | ((apply Law.sm_put); (focus assumption)))
local macro_rules | `(tactic| fail "st") => `(tactic| first
  | (with_reducible refine U.st_seq ?_)
  | ((with_reducible apply U.st_asg); (focus fail "vt"); (try dsimp only [List.set]))
  | ((with_reducible apply U.st_ret); (focus fail "vt"); (try dsimp only))
  | ((with_reducible apply U.st_fld); (focus fail "vt"); (focus fail "vt"); (focus fail "hq"); (focus fail "sz"); (focus fail "pf"); (try dsimp only))
  | ((with_reducible apply U.st_fld1); (focus fail "vt"); (focus fail "hq"); (focus fail "sz"); (focus fail "pf"); (try dsimp only))
  | ((with_reducible apply U.st_untup); (focus fail "vt"); (focus fail "hq"); (focus rfl))
  | ((with_reducible refine U.st_gcons ?_); (try dsimp only))
  | ((with_reducible refine U.st_gname ?_); (try dsimp only [List.set]))
  | ((with_reducible refine U.st_gnil ?_); (try dsimp only))
  | ((with_reducible apply U.st_gf); (focus fail "vt"); (focus fail "hq"); (focus fail "sz"); (focus fail "pf"); (try dsimp only))
  | ((with_reducible refine U.st_next ?_); (try dsimp only))
  | (with_reducible refine U.st_drop ?_)
  | ((with_reducible apply U.st_append); (focus fail "vt"); (focus fail "hq"); (focus fail "vt"); (focus fail "sz"); (try dsimp only))
  | ((with_reducible apply U.st_setDL); (focus fail "vt"); (focus fail "vt"); (focus fail "vt"); (focus fail "hq"); (focus fail "sz"); (focus fail "put"); (try dsimp only))
  | ((with_reducible apply U.st_set1); (focus fail "vt"); (focus fail "vt"); (focus fail "hq"); (focus fail "sz"); (focus fail "put"); (try dsimp only))
  | ((with_reducible apply U.st_call); (focus fail "va"))
  | ((with_reducible apply U.st_methV); (focus fail "vt"); (focus fail "hq"); (focus fail "lk"); (focus fail "va"))
  | (with_reducible refine U.st_fldE ?_)
  | (with_reducible refine U.st_setE ?_)
  | (with_reducible refine U.st_asgC ?_)
  | (with_reducible refine U.st_retC ?_)
  | ((with_reducible refine U.st_dnew ?_); (intro p hp); (try dsimp only))
  | ((with_reducible apply U.st_tup); (focus fail "va"); (focus fail "sz"); (intro p hp); (try dsimp only))
  | ((with_reducible apply U.st_lst); (focus fail "va"); (focus fail "sz"); (intro p hp); (try dsimp only))
  | ((with_reducible apply U.st_listOf); (focus fail "va"); (focus fail "hq"); (intro p hp); (try dsimp only))
  | ((with_reducible apply U.st_dictOf); (focus fail "va"); (focus fail "hq"); (intro p hp); (try dsimp only))
  | ((with_reducible apply U.st_apE); (focus fail "vt"); (focus fail "hq"))
  | ((with_reducible apply U.st_ap1); (focus fail "hq"); (focus fail "sz"); (try dsimp only)))
local macro_rules | `(tactic| fail "go") => `(tactic| repeat fail "st")
/-! words: "cp", one step of the general way; "cgo" -/
local macro_rules | `(tactic| fail "cp") => `(tactic| first
  | ((with_reducible apply U.st_val); (focus fail "vt"); (try dsimp only))
  | ((with_reducible apply U.st_vals); (focus fail "va"); (try dsimp only))
  | (with_reducible refine U.st_opC ?_)
  | (with_reducible refine U.st_consC ?_)
  | (with_reducible refine U.st_nilC ?_)
  | ((with_reducible apply U.st_lf); (focus fail "lf"); (try dsimp only))
  | ((with_reducible apply U.st_mkEnd); (focus fail "sz"); (intro p hp); (try dsimp only))
  | ((with_reducible apply U.st_gset); (focus fail "vt"); (focus fail "vt"); (focus fail "hq"); (focus fail "sz"); (focus fail "put"); (try dsimp only))
  | fail "st"
  | ((with_reducible apply U.st_cat); (focus fail "hq"); (focus fail "hq"); (focus fail "sz"); (intro p hp); (try dsimp only))
  | (with_reducible refine U.st_tupC ?_)
  | (with_reducible refine U.st_lstC ?_)
  | (with_reducible refine U.st_callC ?_)
  | (with_reducible refine U.st_cbC ?_))
local macro_rules | `(tactic| fail "cgo") => `(tactic| repeat fail "cp")

namespace Law
open PySem PySem.Spec PyProof.Rows L2 U
theorem st_orC {t u : TT} {σ : L2.St} {H : Hp} {Q : Bool → Hp → Prop} (h : t σ H fun b H1 => if b = true then Q true H1 else u σ H1 Q) : tOr t u σ H Q := h
theorem st_andC {t u : TT} {σ : L2.St} {H : Hp} {Q : Bool → Hp → Prop} (h : t σ H fun b H1 => if b = true then u σ H1 Q else Q false H1) : tAnd t u σ H Q := h
theorem st_tupOfL {K : PySem.W.Frag} {p : Addr} {xs : List V} {H : Hp} {Q : VK} (hp : H p = some (.lst xs)) (k : ∀ l, H l = none → Q (.ref l) (upd H l (.tup xs))) : rTupOf K [.ref p] H Q := ⟨p, xs, rfl, .inl ⟨SqL.of hp, k⟩⟩
def rcost : Nat → Nat
  | 0 => 10
  | d + 1 => 3 * rcost d + 10
theorem rcost_pos (d : Nat) : 10 ≤ rcost d := by
  cases d with
  | zero => exact Nat.le_refl _
  | succ d => show 10 ≤ 3 * rcost d + 10; omega
def sp_recipe (A : Ad) (n : Nat) : Sp := fun vs H Q _ => ∃ (s p : Addr) (d b : Nat) (pool : List Str), vs = [.ref s, .ref p, .int d] ∧ d < n ∧ d ≤ 10 ∧ SAt H s (b + rcost d) ∧ H p = some (.lst (pool.map V.str)) ∧ pool.length ≤ 100 ∧
  ∀ H' v r, RcB pool (2 * d) (2 * d) (2 ^ d) r → Rp H' r.t v → Fr [s] H H' → SAt H' s b → Q v H'
theorem SAt.le {H : Hp} {s : Addr} {b b' : Nat} (h : SAt H s b) (l : b' ≤ b) : SAt H s b' := by
  obtain ⟨r, dg, c, h, h1, h2⟩ := h
  exact ⟨r, dg, c, h, h1, by omega⟩
theorem SAt.ne_lst {H : Hp} {s p : Addr} {b : Nat} {xs : List V} (h : SAt H s b) (hp : H p = some (.lst xs)) : p ≠ s := by
  obtain ⟨_, _, _, q, _⟩ := h
  intro z
  rw [z, q] at hp
  cases hp
theorem at_str {xs : List Str} {i : Int} (h0 : 0 ≤ i) (h1 : i < xs.length) : ∃ x, x ∈ xs ∧ atI (xs.map V.str) i = some (.str x) := by
  have l : i.toNat < xs.length := by omega
  exact ⟨xs[i.toNat], List.getElem_mem l, at_of (j := i.toNat) (by omega) (by rw [List.getElem?_map, List.getElem?_eq_getElem l]; rfl)⟩
theorem rp_rd {H : Hp} {p : Addr} {x : Str} (h : H p = some (.tup [.str "read", .str x])) : Rp H (Rc.rd x).t (.ref p) := ⟨_, _, rfl, h, _, _, rfl, rfl, _, _, rfl, rfl, rfl⟩
theorem rpl_strs {H : Hp} : ∀ xs : List Str, RpL H (xs.map T.str) (xs.map V.str)
  | [] => rfl
  | x :: xs => ⟨_, _, rfl, rfl, rpl_strs xs⟩
theorem rp_choose {H : Hp} {p q : Addr} {a : Rc} {x : V} {xs : List Str} (h : H p = some (.tup [.str "choose", x, .ref q])) (hq : H q = some (.tup (xs.map V.str))) (hx : Rp H a.t x) : Rp H (Rc.choose a xs).t (.ref p) :=
  ⟨_, _, rfl, h, _, _, rfl, rfl, _, _, rfl, hx, _, _, rfl, ⟨_, _, rfl, hq, rpl_strs xs⟩, rfl⟩
theorem r__law_recipe {K : PySem.W.Frag} {A : Ad} {n : Nat} (vs : List V) (H : Hp) (Q : VK) (E : XK) (h : sp_recipe A (n + 1) vs H Q E) : t__law_recipe K A (sp_draw A) (sp_number A) (sp_recipe A n) (sp_product A) { nx := fun _ H' => Q .non H', rt := Q } (start N__law_recipe vs) H := by
  obtain ⟨s, p, d, b, pool, rfl, hd, hd2, hs, hp, hz, kk⟩ := h
  have hc := rcost_pos d
  have nps := hs.ne_lst hp
  fail "cgo"
  refine ⟨s, 9, b + (rcost d - 1), rfl, by decide, by decide, hs.le (by omega), fun H1 i1 a1 b1 f1 s1 => ?_⟩
  have hp1 := f1.keep _ _ hp (by simpa using nps)
  fail "cgo"
  have num : ∀ H2, Fr [s] H H2 → SAt H2 s (b + 9) → ∀ (D : Ends) (i4 i5 : Option V), D.rt = Q → tRet (tTup (tCons (tC (.str "number")) (tCons (tCall (sp_number A) [] E0 (tCons (tVar 0) tNil)) tNil))) D [some (.ref s), some (.ref p), some (.int d), some (.int i1), i4, i5, none] H2 := by
    intro H2 f2 s2 D i4 i5 eD
    fail "cgo"
    refine ⟨s, b + 5, rfl, s2, fun H3 i3 b3 f3 s3 => ?_⟩
    have f3' : Fr [s] H H3 := f2.call f3 (by fail "al")
    clear f3 f2
    fail "cgo"
    rename_i q q0
    rw [eD]
    refine kk _ _ (.num i3) ⟨Nat.zero_le _, Nat.zero_le _, Nat.zero_le _, Nat.lt_trans b3 (by decide), fun _ m => nomatch m⟩ (rp_num upd_same) (by fail "frm") ((s3.fr (F := []) (by fail "frm") (by fail "ni")).le (by omega))
  refine st_ifC (st_orC (st_testC (st_opC (st_val (val_var rfl) ?_))))
  fail "cgo"
  rename_i e e0
  refine us_vk2 (fun H' => Fr [s] H H' ∧ SAt H' s (b + (rcost d - 1)) ∧ H' p = some (.lst (pool.map V.str)) ∧ H' e = some (.lst [])) ⟨by fail "frm", s1.fr (F := []) (by fail "frm") (by fail "ni"), by fail "hq", by fail "hq"⟩ ?_
  rintro H2 ⟨f2, s2, hp2, he2⟩
  clear e0 f1 s1 hp1
  refine st_lf (lf_strsNil hp2 he2) (st_bl ?_)
  refine ifD (fun q => ?_) fun q => ?_
  · refine ifT rfl ?_
    exact num _ f2 (s2.le (by omega)) _ _ _ rfl
  refine st_ansC (by fail "an") ?_
  refine ifD (fun q1 => ?_) fun q1 => ?_
  · exact num _ f2 (s2.le (by omega)) _ _ _ rfl
  clear num
  have lp : 0 < pool.length := List.length_pos_iff.mpr q
  fail "cgo"
  have e0 : decide ((d : Int) = 0) = decide (d = 0) := by simp
  refine st_ifT (by fail "an") (fun q2 => ?_) fun q2 => ?_
  · fail "cgo"
    refine ⟨s, _, b + (rcost d - 2), rfl, by simpa using lp, by rw [List.length_map]; omega, s2.le (by omega), fun H3 i3 a3 b3 f3 s3 => ?_⟩
    rw [List.length_map] at b3
    obtain ⟨x, mx, ex⟩ := at_str a3 b3
    have hp3 := f3.keep _ _ hp2 (by simpa using nps)
    have f3' : Fr [s] H H3 := f2.call f3 (by fail "al")
    clear f3 f2
    fail "cgo"
    rename_i q q0
    refine kk _ _ (.rd x) ⟨Nat.zero_le _, Nat.zero_le _, Nat.one_le_two_pow, trivial, fun y hy => by rw [List.mem_singleton.mp hy]; exact mx⟩ (rp_rd upd_same) (by fail "frm") ((s3.fr (F := []) (by fail "frm") (by fail "ni")).le (by omega))
  · have q3 : ¬ (d : Int) = 0 ∧ ¬ i1 < 3 := by simpa using q2
    obtain ⟨q3, q4⟩ := q3
    obtain ⟨g, rfl⟩ : ∃ g, d = g + 1 := ⟨d - 1, by omega⟩
    have er : rcost (g + 1) = 3 * rcost g + 10 := rfl
    have hg := rcost_pos g
    have eg : (((g + 1 : Nat) : Int) - 1) = (g : Int) := by omega
    have tp : 2 ^ (g + 1) = 2 * 2 ^ g := by rw [Nat.pow_succ, Nat.mul_comm]
    have t1 : 1 ≤ 2 ^ g := Nat.one_le_two_pow
    fail "cgo"
    refine ⟨s, p, g, b + (2 * rcost g + 9), pool, by rw [eg], by omega, by omega, s2.le (by omega), hp2, hz, fun H3 va ra ga ha f3 s3 => ?_⟩
    have hp3 := f3.keep _ _ hp2 (by simpa using nps)
    have f3' : Fr [s] H H3 := f2.call f3 (by fail "al")
    clear f3 f2 s2 hp2 hp he2 q2
    have da := ga.dp
    have wa := ga.wb
    have na := ga.rn
    fail "cgo"
    refine st_ifT (by fail "an") (fun q => ?_) fun q => ?_
    · fail "cgo"
      refine ⟨s, p, g, b + (rcost g + 9), pool, by rw [eg], by omega, by omega, s3.le (by omega), hp3, hz, fun H4 vb rb gb hb f4 s4 => ?_⟩
      fail "cgo"
      refine ⟨s, b, _, _, ra, rb, pool, 2 * g, 2 * g, 2 ^ g, rfl, s4.le (by omega), rp_fr f4 ha, hb, ga, gb, fun H5 v r gr hr f5 s5 => ?_⟩
      rw [← tp] at gr
      exact kk _ _ _ gr hr ((f3'.call f4 (by fail "al")).call f5 (by fail "al")) s5
    fail "cgo"
    refine st_ifT (by fail "an") (fun q => ?_) fun q => ?_
    · fail "cgo"
      refine st_lcRC ?_
      fail "cgo"
      refine ⟨s, 3, b + (rcost g + 9), rfl, by decide, by decide, s3.le (by omega), fun H4 i4 a4 b4 f4 s4 => ?_⟩
      have hp4 := f4.keep _ _ hp3 (by simpa using nps)
      have ha4 := rp_fr f4 ha
      have f4' : Fr [s] H H4 := f3'.call f4 (by fail "al")
      clear f4 f3' s3 hp3 ha
      fail "cgo"
      have im : (1 + i4).toNat = i4.toNat + 1 := by omega
      refine st_lcR (tx := fun _ H Q => Q [.int (1 + i4)] H) (n := 1 + i4) va_ws (by omega) (by omega) (fun c i H' => Fr [s] H4 H' ∧ H4 c = none ∧ ∃ xs : List Str, xs.length = i ∧ (∀ x ∈ xs, x ∈ pool) ∧ H' c = some (.lst (xs.map V.str)) ∧ SAt H' s (b + (rcost g + 9) - i)) ?_ ?_ ?_
      · exact fun c hc => ⟨by fail "frm", hc, [], rfl, fun _ m => (by cases m), upd_same, s4.fr (F := []) (by fail "frm") (by fail "ni")⟩
      · rintro c i H5 hi ⟨f5, hc5, xs, lx, mx, hx, s5⟩
        have hp5 := f5.keep _ _ hp4 (by simpa using nps)
        refine ⟨rfl, tyes (st_bTrue ?_)⟩
        fail "cgo"
        refine ⟨s, _, b + (rcost g + 9) - i - 1, rfl, by rw [List.length_map]; omega, by rw [List.length_map]; omega, s5.le (by omega), fun H6 j ja jb f6 s6 => ?_⟩
        rw [List.length_map] at jb
        obtain ⟨x, mx1, ex⟩ := at_str ja jb
        have hp6 := f6.keep _ _ hp5 (by simpa using nps)
        have ncs : c ≠ s := s5.ne_lst hx
        have hx6 := f6.keep _ _ hx (by simpa using ncs)
        have f6' : Fr [s] H4 H6 := f5.call f6 (by fail "al")
        clear f6 f5 hx s5 hp5
        fail "cgo"
        refine ⟨_, hx6, by rw [List.length_map]; show _ < (16777216 : Nat); omega, by fail "frm", hc5, xs ++ [x], by rw [List.length_append, lx]; rfl, fun y my => ?_, by rw [upd_same, List.map_append]; rfl, (s6.fr (F := [c]) (by fail "frm") (by fail "ni")).le (by omega)⟩
        rcases List.mem_append.mp my with m | m
        · exact mx y m
        · rw [List.mem_singleton.mp m]; exact mx1
      · rintro c H5 ⟨f5, hc5, xs, lx, mx, hx, s5⟩
        fail "cgo"
        refine st_tupOfL hx fun tp tp0 => ?_
        fail "cgo"
        rename_i q0 q1
        have ha5 := rp_fr f5 ha4
        have f5' : Fr [s] H H5 := f4'.call f5 (by fail "al")
        clear f5 f4'
        have fe : Fr [] H5 (upd (upd H5 tp (.tup (xs.map V.str))) q0 (.tup [.str "choose", va, .ref tp])) := by fail "frm"
        refine kk _ _ (.choose ra xs) ⟨?_, ?_, ?_, ⟨ga.sm, by omega⟩, fun y hy => ?_⟩ (rp_choose (by fail "hq") (by fail "hq") (rp_fr fe ha5)) (f5'.call fe (by fail "al")) ((s5.fr fe (by fail "ni")).le (by omega))
        · show ra.dp + 1 ≤ 2 * (g + 1); omega
        · show wb ra ≤ 2 * (g + 1); omega
        · show rn ra + 1 ≤ 2 ^ (g + 1); omega
        · exact (List.mem_append.mp hy).elim (ga.nm y) (mx y)
    fail "cgo"
    refine ⟨s, p, g, b + (rcost g + 9), pool, by rw [eg], by omega, by omega, s3.le (by omega), hp3, hz, fun H4 vb rb gb hb f4 s4 => ?_⟩
    have hp4 := f4.keep _ _ hp3 (by simpa using nps)
    have ha4 := rp_fr f4 ha
    have f4' : Fr [s] H H4 := f3'.call f4 (by fail "al")
    clear f4 f3' s3 hp3 ha
    have db := gb.dp
    have wb' := gb.wb
    have nb := gb.rn
    fail "cgo"
    refine st_ifT (by fail "an") (fun q5 => ?_) fun q5 => ?_
    · fail "cgo"
      refine ⟨s, p, g, b + 9, pool, by rw [eg], by omega, by omega, s4.le (by omega), hp4, hz, fun H5 vc rc gc hc f5 s5 => ?_⟩
      have ha5 := rp_fr f5 ha4
      have hb5 := rp_fr f5 hb
      have f5' : Fr [s] H H5 := f4'.call f5 (by fail "al")
      clear f5 f4'
      have dc := gc.dp
      have wc := gc.wb
      have nc := gc.rn
      fail "cgo"
      rename_i q0 q1
      have fe : Fr [] H5 (upd H5 q0 (.tup [.str "pick", va, vb, vc])) := by fail "frm"
      refine kk _ _ (.pick ra rb rc) ⟨?_, ?_, ?_, ⟨ga.sm, gb.sm, gc.sm⟩, fun y hy => ?_⟩ (rp_pick (by fail "hq") (rp_fr fe ha5) (rp_fr fe hb5) (rp_fr fe hc)) (f5'.call fe (by fail "al")) ((s5.fr fe (by fail "ni")).le (by omega))
      · show max ra.dp (max rb.dp rc.dp) + 1 ≤ 2 * (g + 1); omega
      · show max (wb ra) (max (wb rb) (wb rc)) ≤ 2 * (g + 1); omega
      · show rn ra + max (rn rb) (rn rc) ≤ 2 ^ (g + 1); omega
      · rcases List.mem_append.mp hy with m | m
        · exact (List.mem_append.mp m).elim (ga.nm y) (gb.nm y)
        · exact gc.nm y m
    · have q5 : ¬ i1 = 5 := of_decide_eq_false q5
      have q6 : ¬ i1 = 3 := of_decide_eq_false (by assumption)
      have q7 : ¬ i1 = 4 := of_decide_eq_false q
      fail "cgo"
      rename_i l l0
      have i6 : i1 = 6 ∨ i1 = 7 ∨ i1 = 8 := by omega
      obtain ⟨kd, ek⟩ : ∃ kd : Tw, kd ≠ .times ∧ atI [V.str "plus", V.str "minus", V.str "most"] (i1 - 6) = some (V.str kd.str) := by
        rcases i6 with rfl | rfl | rfl
        · exact ⟨.plus, by decide, rfl⟩
        · exact ⟨.minus, by decide, rfl⟩
        · exact ⟨.most, by decide, rfl⟩
      obtain ⟨ek, at1⟩ := ek
      fail "cgo"
      rename_i q0 q1
      refine us_vk (fun H' => Fr [] H4 H' ∧ Rp H' (Rc.two kd ra rb).t (.ref q0)) ⟨by fail "frm", rp_two (by fail "hq") (rp_fr (F := []) (H := H4) (by fail "frm") ha4) (rp_fr (F := []) (H := H4) (by fail "frm") hb)⟩ ?_
      rintro H5 ⟨fe, hr⟩
      refine kk _ _ (.two kd ra rb) ⟨?_, ?_, ?_, ⟨fun z => absurd z ek, ga.sm, gb.sm⟩, fun y hy => ?_⟩ hr (f4'.call fe (by fail "al")) ((s4.fr fe (by fail "ni")).le (by omega))
      · show max ra.dp rb.dp + 1 ≤ 2 * (g + 1); omega
      · show max (wb ra) (wb rb) + 2 ≤ 2 * (g + 1); omega
      · show rn ra + rn rb ≤ 2 ^ (g + 1); omega
      · exact (List.mem_append.mp hy).elim (ga.nm y) (gb.nm y)
end Law

end
section
set_option maxHeartbeats 4000000
/-! words: fail "le", "hq" (what stands at an address), "ne" (two addresses differ), "fn" (an address is new to an older heap), "al" (places of a frame), "ni", "frm" (a frame) -/
local macro_rules | `(tactic| fail "le") => `(tactic| first
  | (with_reducible exact U.Le.refl _)
  | ((with_reducible refine U.Le.upd ?_); fail "le")
  | ((with_reducible apply U.Le.fr); (rotate_left 1); (focus assumption); (focus fail "le")))
local macro_rules | `(tactic| fail "fn") => `(tactic| first
  | assumption
  | ((with_reducible apply U.none_le); (rotate_left 1); (focus assumption); (focus fail "le")))
local macro_rules | `(tactic| fail "hq") => `(tactic| first
  | (with_reducible assumption)
  | (with_reducible exact L2.upd_same)
  | ((with_reducible apply U.look_upd); (focus fail "hq"); (focus fail "ne"))
  | ((with_reducible apply U.look_fr); (focus assumption); (focus fail "hq"); (focus fail "ni"))
  | ((with_reducible apply U.look_tup); (focus assumption); (focus fail "hq")))
local macro_rules | `(tactic| fail "hx") => `(tactic| first
  | fail "hq"
  | ((with_reducible apply U.hq_to); (focus fail "hq"); (focus rfl)))
local macro_rules | `(tactic| fail "ni") => `(tactic| first
  | (with_reducible exact U.ni_nil)
  | ((with_reducible refine U.ni_cons ?_ ?_); (focus fail "ne"); (focus fail "ni"))
  | assumption)
local macro_rules | `(tactic| fail "ne") => `(tactic| first
  | (with_reducible assumption)
  | ((with_reducible apply Ne.symm); (focus assumption))
  | ((with_reducible apply U.ne_new); (focus with_reducible assumption); (focus fail "hq"))
  | ((with_reducible apply U.ne_new'); (focus with_reducible assumption); (focus fail "hq"))
  | ((with_reducible apply L2.ne_of); (focus with_reducible assumption); (focus fail "hq"); (focus (intro z; cases z))))
local macro_rules | `(tactic| fail "mem") => `(tactic| first
  | (with_reducible exact U.mem_hd)
  | ((with_reducible refine U.mem_tl ?_); fail "mem")
  | assumption)
local macro_rules | `(tactic| fail "in") => `(tactic| first
  | ((with_reducible apply Or.inl); (focus fail "mem"))
  | ((with_reducible apply Or.inr); (focus fail "fn")))
local macro_rules | `(tactic| fail "al") => `(tactic| first
  | (with_reducible exact U.al_nil)
  | ((with_reducible refine U.al_cons ?_ ?_); (focus fail "in"); (focus fail "al"))
  | assumption)
local macro_rules | `(tactic| fail "frm") => `(tactic| first
  | (with_reducible exact U.Fr.refl _)
  | (with_reducible assumption)
  | ((with_reducible apply U.fr_new); (focus assumption); (focus fail "frm"))
  | ((with_reducible apply U.fr_upd); (focus fail "hq"); (focus rfl); (focus fail "in"); (focus fail "frm"))
  | ((with_reducible apply U.fr_call); (focus assumption); (focus fail "frm"); (focus fail "al")))
local macro_rules | `(tactic| fail "sne") => `(tactic| first
  | assumption
  | decide +kernel
  | ((with_reducible apply U.inr_ne); (focus fail "sne"))
  | ((with_reducible apply Ne.symm); (focus assumption)))
local macro_rules | `(tactic| fail "lk") => `(tactic| first
  | (with_reducible exact U.lk_hit)
  | ((with_reducible apply U.lk_miss); (focus fail "sne"); (focus fail "lk"))
  | (with_reducible exact U.lk_nil)
  | assumption)
local macro_rules | `(tactic| fail "pf") => `(tactic| first
  | (with_reducible exact U.pf_hit)
  | ((with_reducible apply U.pf_miss); (focus fail "sne"); (focus fail "pf"))
  | (with_reducible exact U.pf_nil))
local macro_rules | `(tactic| fail "vv") => `(tactic| first
  | (with_reducible assumption)
  | (with_reducible exact U.vv_hit)
  | ((with_reducible apply U.vv_miss); (focus fail "sne"); (focus fail "vv"))
  | (with_reducible exact U.vv_nil))
local macro_rules | `(tactic| fail "nk") => `(tactic| first
  | (with_reducible exact U.nk_nil)
  | ((with_reducible apply U.nk_cons); (focus fail "sne"); (focus fail "nk")))
local macro_rules | `(tactic| fail "pk") => `(tactic| first
  | ((with_reducible apply U.pk_hit); fail "nk")
  | ((with_reducible apply U.pk_miss); (focus fail "sne"); (focus fail "pk"))
  | (with_reducible exact U.pk_nil))
local macro_rules | `(tactic| fail "at") => `(tactic| first
  | (with_reducible assumption)
  | ((with_reducible apply L2.atI_nat); (focus assumption))
  | rfl)
local macro_rules | `(tactic| fail "sz") => `(tactic| first
  | assumption
  | decide
  | (simp only [List.length_cons, List.length_nil]; decide)
  | (show _ < (16777216 : Nat); omega)
  | (show _ ≤ (16777216 : Nat); omega))
local macro_rules | `(tactic| fail "lf") => `(tactic| first
  | (with_reducible exact U.lf_addI)
  | (with_reducible exact U.lf_sub)
  | (with_reducible exact U.lf_eqI)
  | (with_reducible exact U.lf_eqS)
  | (with_reducible exact U.lf_neI)
  | (with_reducible exact U.lf_neS)
  | (with_reducible exact U.lf_lt)
  | (with_reducible exact U.lf_le)
  | (with_reducible exact U.lf_gt)
  | (with_reducible exact U.lf_ge)
  | (with_reducible exact U.lf_isN)
  | (with_reducible exact U.lf_notN)
  | ((with_reducible apply U.lf_ixT); (focus fail "hq"); (focus fail "at"))
  | ((with_reducible apply U.lf_ixL); (focus fail "hq"); (focus fail "at"))
  | ((with_reducible apply U.lf_ixD); (focus fail "hq"); (focus fail "vv"))
  | ((with_reducible apply U.lf_inD); (focus fail "hq"))
  | ((with_reducible apply U.lf_notInD); (focus fail "hq"))
  | ((with_reducible apply U.lf_inL); (focus fail "hq"))
  | ((with_reducible apply U.lf_notInL); (focus fail "hq"))
  | (with_reducible exact U.lf_inS)
  | (with_reducible exact U.lf_notInS)
  | ((with_reducible apply U.lf_mod); (focus first | assumption | decide | omega))
  | ((with_reducible apply U.lf_mul); (focus first | assumption | ((apply U.mul64); (focus decide); (focus decide)) | ((apply U.mul64); (focus omega); (focus omega))))
  | ((with_reducible apply U.lf_div); (focus first | assumption | exact ⟨by decide, by decide +kernel⟩))
  | ((with_reducible apply U.lf_pow); (focus exact ⟨by decide, by decide, by decide⟩))
  | ((with_reducible apply U.lf_addS); (focus first | assumption | (show _ ≤ (16777216 : Nat); omega)))
  | (with_reducible assumption))
local macro_rules | `(tactic| fail "lc") => `(tactic| first
  | ((with_reducible apply U.lc_lenUL); (focus fail "hq"))
  | ((with_reducible apply U.lc_lenUT); (focus fail "hq"))
  | ((with_reducible apply U.lc_lenUD); (focus fail "hq"))
  | ((with_reducible apply U.lc_lenUS); (focus fail "sz"))
  | (with_reducible exact U.lc_intB)
  | (with_reducible exact U.lc_max)
  | (with_reducible exact U.lc_min)
  | ((with_reducible apply U.lc_lenUq); assumption)
  | ((with_reducible apply U.lc_isiL); (focus fail "hq"))
  | ((with_reducible apply U.lc_isiT); (focus fail "hq"))
  | (with_reducible exact U.lc_isiSb)
  | (with_reducible exact U.lc_isiIb)
  | (with_reducible assumption))
local macro_rules | `(tactic| fail "va") => `(tactic| first
  | (with_reducible exact U.va_nil)
  | ((with_reducible apply U.va_cons); (focus fail "vt"); (focus fail "va")))
local macro_rules | `(tactic| fail "vt") => `(tactic| first
  | (with_reducible assumption)
  | (with_reducible exact U.val_c)
  | exact U.val_var rfl
  | ((with_reducible apply U.val_op); (focus fail "vt"); (focus fail "vt"); (focus fail "lf"))
  | ((with_reducible apply U.val_fld); (focus fail "vt"); (focus fail "hq"); (focus fail "lk"))
  | ((with_reducible apply U.val_cb); (focus fail "va"); (focus fail "lc"))
  | ((with_reducible apply U.val_get1); (focus fail "vt"); (focus fail "vt"); (focus fail "hq"))
  | ((with_reducible apply U.val_notV); (focus fail "vt"))
  | ((with_reducible apply U.val_andV); (focus fail "vt"); (intro _; fail "vt"))
  | ((with_reducible apply U.val_orV); (focus fail "vt"); (intro _; fail "vt"))
  | ((with_reducible apply U.val_un); (focus fail "vt"); (focus with_reducible exact U.l1_neg)))
local macro_rules | `(tactic| fail "an") => `(tactic| first
  | (with_reducible assumption)
  | ((with_reducible apply U.ans_T); fail "vt")
  | ((with_reducible apply U.ans_B); fail "vt")
  | ((with_reducible apply U.ans_not); fail "an")
  | ((with_reducible apply U.ans_and); (focus fail "an"); (intro _; fail "an"))
  | ((with_reducible apply U.ans_or); (focus fail "an"); (intro _; fail "an")))
local macro_rules | `(tactic| fail "put") => `(tactic| first
  | fail "pk"
  | ((apply Law.im_put); (focus assumption))
  | ((apply Law.sm_put); (focus assumption)))
local macro_rules | `(tactic| fail "st") => `(tactic| first
  | (with_reducible refine U.st_seq ?_)
  | ((with_reducible apply U.st_asg); (focus fail "vt"); (try dsimp only [List.set]))
  | ((with_reducible apply U.st_ret); (focus fail "vt"); (try dsimp only))
  | ((with_reducible apply U.st_fld); (focus fail "vt"); (focus fail "vt"); (focus fail "hq"); (focus fail "sz"); (focus fail "pf"); (try dsimp only))
  | ((with_reducible apply U.st_fld1); (focus fail "vt"); (focus fail "hq"); (focus fail "sz"); (focus fail "pf"); (try dsimp only))
  | ((with_reducible apply U.st_untup); (focus fail "vt"); (focus fail "hq"); (focus rfl))
  | ((with_reducible refine U.st_gcons ?_); (try dsimp only))
  | ((with_reducible refine U.st_gname ?_); (try dsimp only [List.set]))
  | ((with_reducible refine U.st_gnil ?_); (try dsimp only))
  | ((with_reducible apply U.st_gf); (focus fail "vt"); (focus fail "hq"); (focus fail "sz"); (focus fail "pf"); (try dsimp only))
  | ((with_reducible refine U.st_next ?_); (try dsimp only))
  | (with_reducible refine U.st_drop ?_)
  | ((with_reducible apply U.st_append); (focus fail "vt"); (focus fail "hq"); (focus fail "vt"); (focus fail "sz"); (try dsimp only))
  | ((with_reducible apply U.st_setDL); (focus fail "vt"); (focus fail "vt"); (focus fail "vt"); (focus fail "hq"); (focus fail "sz"); (focus fail "put"); (try dsimp only))
  | ((with_reducible apply U.st_set1); (focus fail "vt"); (focus fail "vt"); (focus fail "hq"); (focus fail "sz"); (focus fail "put"); (try dsimp only))
  | ((with_reducible apply U.st_call); (focus fail "va"))
  | ((with_reducible apply U.st_methV); (focus fail "vt"); (focus fail "hq"); (focus fail "lk"); (focus fail "va"))
  | (with_reducible refine U.st_fldE ?_)
  | (with_reducible refine U.st_setE ?_)
  | (with_reducible refine U.st_asgC ?_)
  | (with_reducible refine U.st_retC ?_)
  | ((with_reducible refine U.st_dnew ?_); (intro p hp); (try dsimp only))
  | ((with_reducible apply U.st_tup); (focus fail "va"); (focus fail "sz"); (intro p hp); (try dsimp only))
  | ((with_reducible apply U.st_lst); (focus fail "va"); (focus fail "sz"); (intro p hp); (try dsimp only))
  | ((with_reducible apply U.st_listOf); (focus fail "va"); (focus fail "hq"); (intro p hp); (try dsimp only))
  | ((with_reducible apply U.st_dictOf); (focus fail "va"); (focus fail "hq"); (intro p hp); (try dsimp only))
  | ((with_reducible apply U.st_apE); (focus fail "vt"); (focus fail "hq"))
  | ((with_reducible apply U.st_ap1); (focus fail "hq"); (focus fail "sz"); (try dsimp only)))
local macro_rules | `(tactic| fail "go") => `(tactic| repeat fail "st")
/-! words: "cp", one step of the general way; "cgo" -/
local macro_rules | `(tactic| fail "cp") => `(tactic| first
  | ((with_reducible apply U.st_val); (focus fail "vt"); (try dsimp only))
  | ((with_reducible apply U.st_vals); (focus fail "va"); (try dsimp only))
  | (with_reducible refine U.st_opC ?_)
  | (with_reducible refine U.st_consC ?_)
  | (with_reducible refine U.st_nilC ?_)
  | ((with_reducible apply U.st_lf); (focus fail "lf"); (try dsimp only))
  | ((with_reducible apply U.st_mkEnd); (focus fail "sz"); (intro p hp); (try dsimp only))
  | ((with_reducible apply U.st_gset); (focus fail "vt"); (focus fail "vt"); (focus fail "hq"); (focus fail "sz"); (focus fail "put"); (try dsimp only))
  | fail "st"
  | ((with_reducible apply U.st_cat); (focus fail "hq"); (focus fail "hq"); (focus fail "sz"); (intro p hp); (try dsimp only))
  | (with_reducible refine U.st_tupC ?_)
  | (with_reducible refine U.st_lstC ?_)
  | (with_reducible refine U.st_callC ?_)
  | (with_reducible refine U.st_cbC ?_))
local macro_rules | `(tactic| fail "cgo") => `(tactic| repeat fail "cp")

namespace Law
open PySem PySem.Spec PyProof.Rows L2 U
theorem st_notC {t : TT} {σ : L2.St} {H : Hp} {Q : Bool → Hp → Prop} (h : t σ H fun b H1 => Q (!b) H1) : tNot t σ H Q := h
/-! traces -/
def sp_begunX (A : Ad) : Sp := fun vs H Q _ => ∃ (h g r l : Addr) (G : List (Str × Int)) (R : List (Str × Rc)) (wl : List Str), vs = [.ref h, .ref l] ∧ H h = some (.tup [.ref g, .ref r]) ∧ HsAt H g r G R ∧
  H l = some (.lst (wl.map V.str)) ∧ wl.length ≤ 900 ∧
  (badW G R wl = none → ∀ H' w ws bs wt, H w = none → H ws = none → H bs = none → H wt = none → Fr [] H H' → WvAt A H' w g r ws bs wt G R (W0 G R wl) → Q (.ref w) H') ∧
  (∀ y, badW G R wl = some y → ∀ H', Fr [] H H' → Q .non H')
theorem r_begun_weaving {K : PySem.W.Frag} {A : Ad} (vs : List V) (H : Hp) (Q : VK) (E : XK) (x1 : PySem.W.exmOne K (.ref A.C_NoName) (.ref A.C_NoName) = some true) (h : sp_begunX A vs H Q E) : t_begun_weaving K A (sp_wInitX A) { nx := fun _ H' => Q .non H', rt := Q } (start N_begun_weaving vs) H := by
  obtain ⟨h, g, r, l, G, R, wl, rfl, hh, hs, hl, zw, k, kb⟩ := h
  fail "go"
  dsimp only [U.tTry]
  refine st_asgC ?_
  refine st_makeC (by fail "va") fun w dx nw nd ne nx => ?_
  have fw : Fr [] H (upd (upd H dx (.own w)) w (.ins A.C_Weaving dx [])) := by fail "frm"
  have hw0 : H w = none := nw
  refine ⟨w, dx, h, g, r, l, G, R, wl, rfl, by fail "hq", by fail "hq", hs.fr fw (by simp) (by simp), by fail "hq", zw, fun hbad H1 ws bs wt f1 n1 n2 n3 p1 => ⟨rfl, ?_⟩, fun y hbad H1 d f1 d0 hd => ?_⟩
  rotate_left 1
  · refine wm_hit x1 fun a a0 => ?_
    fail "go"
    exact kb y hbad H1 (by fail "frm")
  have b1 : H ws = none := by fail "fn"
  have b2 : H bs = none := by fail "fn"
  have b3 : H wt = none := by fail "fn"
  have f1' : Fr [] H H1 := by fail "frm"
  clear f1 n1 n2 n3 nw nd nx fw
  dsimp only [L2.start, List.set]
  fail "go"
  exact k hbad _ _ _ _ _ hw0 b1 b2 b3 f1' p1
def sp_stepX (A : Ad) (n : Nat) : Sp := fun vs H Q _ => ∃ (w g r ws bs wt : Addr) (G : List (Str × Int)) (R : List (Str × Rc)) (W : Wv) (name : Str) (rc : Rc) (M : Nat), vs = [.ref w, .str name] ∧ WvAt A H w g r ws bs wt G R W ∧
  W.begun.length ≤ 50000 ∧ W.worths.length ≤ 100000 ∧ W.waits.length ≤ 100000 ∧ R.lookup name = some rc ∧ GoB n W name rc M ∧
  (In R W rc → ∀ H' v, Fr [ws, bs, wt] H H' → WvAt A H' w g r ws bs wt G R (stepW W name rc).1 → Rp H' (stepW W name rc).2.t v → Q v H') ∧
  (¬ In R W rc → ∀ H', Fr [] H H' → Q .non H')
theorem r_step_done {K : PySem.W.Frag} {A : Ad} {n : Nat} (vs : List V) (H : Hp) (Q : VK) (E : XK) (x1 : PySem.W.exmOne K (.ref A.C_NoName) (.ref A.C_NoName) = some true) (h : sp_stepX A n vs H Q E) : t_step_done K A (sp_goOnX A n) { nx := fun _ H' => Q .non H', rt := Q } (start N_step_done vs) H := by
  obtain ⟨w, g, r, ws, bs, wt, G, R, W, name, rc, M, rfl, p, z1, z2, z3, hl, gg, k, kb⟩ := h
  obtain ⟨⟨dx, h0⟩, hs, h1, h2, h3, n1, n2, n3, n4, n5⟩ := id p
  fail "go"
  dsimp only [U.tTry]
  refine st_asgC ?_
  refine st_methV (a := w) (vs := [.str name]) (by fail "vt") (by fail "hq") (by fail "lk") (by fail "va") ?_
  refine ⟨w, g, r, ws, bs, wt, G, R, W, name, rc, M, rfl, p, z1, z2, z3, hl, gg.nw, gg.nt, gg.dp, gg.sm, gg.hM, gg.rn, gg.bd, fun hin H' v f p' hv => ?_, fun y et hn H' d f d0 hd => ?_⟩
  · dsimp only [L2.start, List.set]
    fail "go"
    exact k hin _ _ f p' hv
  · refine wm_hit x1 fun a a0 => ?_
    fail "go"
    exact kb (fun hin => by have q := hin y et; rw [hn] at q; cases q) H' (by fail "frm")
theorem isStep_len : ∀ {ts : List T}, ts.length ≠ 3 → isStepT (.tup ts) = false
  | [], _ => rfl
  | [a], _ => by cases a <;> rfl
  | [a, b], _ => by cases a <;> rfl
  | [a, b, c], h => absurd rfl h
  | a :: b :: c :: d :: r, _ => by cases a <;> rfl
def sp_isStep : Sp := fun vs H Q _ => ∃ (v : V) (t : T), vs = [v] ∧ Rp H t v ∧ Q (.bl (isStepT t)) H
theorem r_is_step {K : PySem.W.Frag} {A : Ad} (vs : List V) (H : Hp) (Q : VK) (E : XK) (h : sp_isStep vs H Q E) : t_is_step K A { nx := fun _ H' => Q .non H', rt := Q } (start N_is_step vs) H := by
  obtain ⟨v, t, rfl, hv, k⟩ := h
  fail "go"
  have no : ∀ {u : T}, isTup u = false → isStepT u = false := fun {u} z => by cases u <;> first | rfl | cases z
  by_cases ht : isTup t = true
  · cases t with
    | tup ts =>
      obtain ⟨a, xs, rfl, ha, hs⟩ := id hv
      have ln := hs.len
      have a1 : LC (rIsi K) [V.ref a, .ty "tuple"] H (.bl true) := lc_isTup hv
      by_cases l3 : ts.length = 3
      · obtain ⟨t0, t1, t2, rfl⟩ : ∃ t0 t1 t2, ts = [t0, t1, t2] := by
          match ts, l3 with
          | [t0, t1, t2], _ => exact ⟨_, _, _, rfl⟩
        · obtain ⟨x0, r0, rfl, h0, x1, r1, rfl, h1, x2, r2, rfl, h2, rfl⟩ := hs
          have a2 : LC (rIsi K) [x0, .ty "str"] H (.bl (isStr t0)) := lc_isStr h0
          have a3 : LC (rIsi K) [x2, .ty "bool"] H (.bl (isBl t2)) := lc_isBl h2
          refine st_ifT (b := !isStr t0) (ans_is (by fail "an") (by rfl)) (fun z => ?_) (fun z => ?_)
          · fail "go"
            have e : isStepT (.tup [t0, t1, t2]) = false := by cases t0 <;> first | rfl | cases z
            rw [e] at k
            exact k
          · fail "go"
            have e : isStepT (.tup [t0, t1, t2]) = !isBl t2 := by cases t0 <;> first | rfl | cases z
            rw [e] at k
            exact k
      · have lx : ¬ ((xs.length : Int) = 3) := fun z => l3 (by omega)
        refine st_ifT (b := true) (ans_or (a := false) (by refine ans_is (by fail "an") (by rfl)) fun _ => ans_is (ans_or (a := true) (ans_is (by fail "an") (by rw [decide_eq_false lx]; rfl)) (b := true) (fun z => by cases z)) (by rfl)) (fun _ => ?_) (fun z => by cases z)
        fail "go"
        have e : isStepT (.tup ts) = false := isStep_len l3
        rw [e] at k
        exact k
    | _ => cases ht
  · have ht := Bool.not_eq_true _ |>.mp ht
    have a1 : LC (rIsi K) [v, .ty "tuple"] H (.bl false) := by rw [← ht]; exact lc_isTup hv
    refine st_ifT (b := true) (ans_is (ans_or (a := true) (ans_is (by fail "an") (by rfl)) (b := true) (fun z => by cases z)) (by rfl)) (fun _ => ?_) (fun z => by cases z)
    fail "go"
    rw [no ht] at k
    exact k

theorem isStep_of {t : T} (h : isStepT t = true) : ∃ x b c, t = .tup [.str x, b, c] := by
  cases t with
  | tup ts =>
    by_cases l : ts.length = 3
    · match ts, l with
      | [a, b, c], _ =>
        cases a with
        | str x => exact ⟨x, b, c, rfl⟩
        | _ => cases h
    · rw [isStep_len l] at h; cases h
  | _ => cases h
theorem stp_kind (s : Stp) (ts : List T) : sameKind s.t (.tup ts) = true := by cases s <;> rfl
theorem stp_dep1 (s : Stp) : dep s.t = 1 := by cases s <;> rfl
def sp_shows (A : Ad) (n : Nat) : Sp := fun vs H Q _ => ∃ (h g r l c : Addr) (G : List (Str × Int)) (R : List (Str × Rc)) (wl : List Str) (I : Wv → Prop) (ts : List T), vs = [.ref h, .ref l, .ref c] ∧ H h = some (.tup [.ref g, .ref r]) ∧ HsAt H g r G R ∧
  H l = some (.lst (wl.map V.str)) ∧ Rp H (.lst ts) (.ref c) ∧ GoodB n R I ∧ I (W0 G R wl) ∧ G.length ≤ 1000 ∧ wl.length ≤ 900 ∧ ts.length ≤ 40000 ∧
  ∀ H', Fr [] H H' → Q (.bl (decide (badW G R wl = none) && showsE R (W0 G R wl) ts)) H'
theorem r_trace_shows {K : PySem.W.Frag} {A : Ad} {n : Nat} (vs : List V) (H : Hp) (Q : VK) (E : XK) (h : sp_shows A n vs H Q E) : t_trace_shows K A (sp_begunX A) sp_isStep (sp_ready A) (sp_stepX A n) (sp_is_over A) { nx := fun _ H' => Q .non H', rt := Q } (start N_trace_shows vs) H := by
  obtain ⟨h, g, r, l, c, G, R, wl, I, ts, rfl, hh, hs, hl, hc, ok, oI, zG, zw, zt, k⟩ := h
  fail "go"
  refine ⟨h, g, r, l, G, R, wl, rfl, hh, hs, hl, zw, fun hbad H1 w ws bs wt w0 b1 b2 b3 f1 p1 => ?_, fun y hbad H1 f1 => ?_⟩
  rotate_left 1
  · dsimp only [L2.start, List.set]
    fail "go"
    refine st_ifT (b := true) (ans_is (by fail "an") (by rfl)) (fun _ => ?_) (fun z => by cases z)
    fail "go"
    have kk := k H1 f1
    rw [hbad] at kk
    exact kk
  have k : ∀ H', Fr [] H H' → Q (.bl (showsE R (W0 G R wl) ts)) H' := fun H' f => by
    have kk := k H' f
    rw [decide_eq_true hbad, Bool.true_and] at kk
    exact kk
  dsimp only [L2.start, List.set]
  fail "go"
  refine st_ifT (b := false) (ans_is (by fail "an") (by rfl)) (fun z => by cases z) (fun _ => ?_)
  fail "go"
  obtain ⟨_, cs, e, hc1, hcs⟩ := id hc
  cases e
  refine st_seq (st_forL (K := K) (p := c) (emb := fun v : V => v) (xs := cs) (val_var rfl) (SqL.of (by rw [List.map_id']; exact f1.keep _ _ hc1 (by simp))) (fun rest σ' H' => ∃ (W : Wv) (tr : List T) (m : Nat) (z : Option V), σ' = [some (.ref h), some (.ref l), some (.ref c), some (.ref w), z] ∧ Fr [] H H' ∧ WvAt A H' w g r ws bs wt G R W ∧ I W ∧ RpL H tr rest ∧ showsE R (W0 G R wl) ts = showsE R W tr ∧ m + tr.length = ts.length ∧ W.begun.length ≤ wl.length + m ∧ W.worths.length ≤ G.length + m ∧ W.waits.length ≤ m)
    ⟨W0 G R wl, ts, 0, _, rfl, f1, p1, oI, hcs, rfl, by omega, by have := beginAll_len R wl []; show (beginAll R wl []).length ≤ _; simpa using this, Nat.le_refl _, Nat.le_refl _⟩ (fun rest σ' H' ⟨_, _, _, _, e, f, _⟩ => SqL.of (by rw [List.map_id']; exact f.keep _ _ hc1 (by simp))) ?_ ?_)
  · clear p1 f1
    rintro v rest σ' H' ⟨W, tr, m, z, rfl, f, p, iW, hr, es, em, y1, y2, y3⟩
    cases tr with
    | nil => cases hr
    | cons t tr =>
      obtain ⟨_, _, e, hv, hr⟩ := hr
      cases e
      have em : m + (tr.length + 1) = ts.length := em
      dsimp only [List.set]
      fail "go"
      refine st_ifC (st_orC ?_)
      refine st_notC (st_bC ?_)
      fail "go"
      refine ⟨v, t, rfl, Rp.same f.same _ _ hv, st_bl ?_⟩
      by_cases ist : isStepT t = true
      · obtain ⟨x, b, c', rfl⟩ := isStep_of ist
        refine ifF (by rw [ist]; rfl) ?_
        obtain ⟨a, vs', rfl, ha, x0, r0, rfl, h0, xb, r1, rfl, hb, xc, r2, rfl, hcc, rfl⟩ := id hv
        cases (show x0 = .str x from h0)
        have ha' := f.keep _ _ ha (by simp)
        obtain ⟨⟨dx, o1⟩, _⟩ := id p
        refine st_testC (st_opC ?_)
        fail "cgo"
        refine ⟨w, g, r, ws, bs, wt, G, R, W, rfl, p, by omega, fun H2 d d0 f2 hd => ?_⟩
        refine st_lf (lf_notInL hd) (st_bl ?_)
        have p2 := p.fr f2
        have f2' : Fr [] H H2 := f.call f2 (by fail "al")
        have ha2 := f2.keep _ _ ha' (by simp)
        clear f2 f p o1 ha'
        by_cases rx : x ∈ W.ready
        · refine ifF (by simp [rx]) ?_
          obtain ⟨rc, l⟩ := ok.has _ _ iW rx
          obtain ⟨M, gg⟩ := ok.go _ _ _ iW rx l
          refine st_next ?_
          dsimp only
          refine st_ifC (st_testC (st_opC ?_))
          fail "cgo"
          have e1 : showsE R W (.tup [.str x, b, c'] :: tr) = (inB R W rc && (eqv (stepW W x rc).2.t (.tup [.str x, b, c']) && showsE R (stepW W x rc).1 tr)) := by
            show (isStepT _ && (decide (x ∈ W.ready) && match R.lookup x with
              | none => false
              | some rc => inB R W rc && (eqv (stepW W x rc).2.t _ && showsE R (stepW W x rc).1 _))) = _
            rw [ist, decide_eq_true rx, l]
            rfl
          rw [e1] at es
          refine ⟨w, g, r, ws, bs, wt, G, R, W, x, rc, M, rfl, p2, by omega, by omega, by omega, l, gg, fun hin H3 v3 f3 p3 hv3 => ?_, fun hno H3 f3 => ?_⟩
          · refine st_val (val_var rfl) ?_
            have f3' : Fr [] H H3 := f2'.call f3 (by fail "al")
            refine st_lf (lf_neX hv3 (Rp.same f3'.same _ _ hv) (stp_kind _ _) (by rw [stp_dep1]; decide)) (st_bl ?_)
            rw [inB_iff.mpr hin, Bool.true_and] at es
            by_cases q : eqv (stepW W x rc).2.t (.tup [.str x, b, c']) = true
            · refine ifF (by rw [q]; rfl) ?_
              rw [q, Bool.true_and] at es
              obtain ⟨l1, l2, l3⟩ := step_len W x rc
              exact ⟨_, tr, m + 1, _, rfl, f3', p3, ok.st _ _ _ iW rx l hin, hr, es, by omega, by omega, by omega, by omega⟩
            · refine ifT (by simp [q]) ?_
              rw [(Bool.not_eq_true _).mp q, Bool.false_and] at es
              fail "go"
              have kk := k H3 f3'
              rw [es] at kk
              exact kk
          · refine st_val (val_var rfl) ?_
            have f3' : Fr [] H H3 := f2'.call f3 (by fail "al")
            refine st_lf (lf_neX (t := .non) rfl (Rp.same f3'.same _ _ hv) rfl (by decide)) (st_bl ?_)
            refine ifT rfl ?_
            have nb : inB R W rc = false := (Bool.not_eq_true _).mp fun z => hno (inB_iff.mp z)
            rw [nb, Bool.false_and] at es
            fail "go"
            have kk := k H3 f3'
            rw [es] at kk
            exact kk
        · refine ifT (by simp [rx]) ?_
          have e1 : showsE R W (.tup [.str x, b, c'] :: tr) = false := by
            show (isStepT _ && (decide (x ∈ W.ready) && _)) = false
            rw [decide_eq_false rx, Bool.false_and, Bool.and_false]
          rw [e1] at es
          fail "go"
          have kk := k H2 f2'
          rw [es] at kk
          exact kk
      · refine ifT (by simp [ist]) (st_bTrue ?_)
        have e1 : showsE R W (t :: tr) = false := by
          show (isStepT t && _) = false
          rw [(Bool.not_eq_true _).mp ist, Bool.false_and]
        rw [e1] at es
        fail "go"
        have kk := k H' f
        rw [es] at kk
        exact kk
  · clear p1 f1
    rintro σ' H' ⟨W, tr, m, z, rfl, f, p, iW, hr, es, em, y1, y2, y3⟩
    obtain ⟨⟨dx, o1⟩, _⟩ := id p
    cases tr with
    | cons t tr => obtain ⟨_, _, e, _⟩ := hr; cases e
    | nil =>
      dsimp only
      refine st_retC ?_
      fail "cgo"
      refine ⟨w, g, r, ws, bs, wt, G, R, W, rfl, p, by omega, fun H2 f2 => ?_⟩
      have kk := k H2 (f.call f2 (by fail "al"))
      rw [es] at kk
      exact kk
end Law

end
section
set_option maxHeartbeats 4000000
/-! words: fail "le", "hq" (what stands at an address), "ne" (two addresses differ), "fn" (an address is new to an older heap), "al" (places of a frame), "ni", "frm" (a frame) -/
local macro_rules | `(tactic| fail "le") => `(tactic| first
  | (with_reducible exact U.Le.refl _)
  | ((with_reducible refine U.Le.upd ?_); fail "le")
  | ((with_reducible apply U.Le.fr); (rotate_left 1); (focus assumption); (focus fail "le")))
local macro_rules | `(tactic| fail "fn") => `(tactic| first
  | assumption
  | ((with_reducible apply U.none_le); (rotate_left 1); (focus assumption); (focus fail "le")))
local macro_rules | `(tactic| fail "hq") => `(tactic| first
  | (with_reducible assumption)
  | (with_reducible exact L2.upd_same)
  | ((with_reducible apply U.look_upd); (focus fail "hq"); (focus fail "ne"))
  | ((with_reducible apply U.look_fr); (focus assumption); (focus fail "hq"); (focus fail "ni"))
  | ((with_reducible apply U.look_tup); (focus assumption); (focus fail "hq")))
local macro_rules | `(tactic| fail "hx") => `(tactic| first
  | fail "hq"
  | ((with_reducible apply U.hq_to); (focus fail "hq"); (focus rfl)))
local macro_rules | `(tactic| fail "ni") => `(tactic| first
  | (with_reducible exact U.ni_nil)
  | ((with_reducible refine U.ni_cons ?_ ?_); (focus fail "ne"); (focus fail "ni"))
  | assumption)
local macro_rules | `(tactic| fail "ne") => `(tactic| first
  | (with_reducible assumption)
  | ((with_reducible apply Ne.symm); (focus assumption))
  | ((with_reducible apply U.ne_new); (focus with_reducible assumption); (focus fail "hq"))
  | ((with_reducible apply U.ne_new'); (focus with_reducible assumption); (focus fail "hq"))
  | ((with_reducible apply L2.ne_of); (focus with_reducible assumption); (focus fail "hq"); (focus (intro z; cases z))))
local macro_rules | `(tactic| fail "mem") => `(tactic| first
  | (with_reducible exact U.mem_hd)
  | ((with_reducible refine U.mem_tl ?_); fail "mem")
  | assumption)
local macro_rules | `(tactic| fail "in") => `(tactic| first
  | ((with_reducible apply Or.inl); (focus fail "mem"))
  | ((with_reducible apply Or.inr); (focus fail "fn")))
local macro_rules | `(tactic| fail "al") => `(tactic| first
  | (with_reducible exact U.al_nil)
  | ((with_reducible refine U.al_cons ?_ ?_); (focus fail "in"); (focus fail "al"))
  | assumption)
local macro_rules | `(tactic| fail "frm") => `(tactic| first
  | (with_reducible exact U.Fr.refl _)
  | (with_reducible assumption)
  | ((with_reducible apply U.fr_new); (focus assumption); (focus fail "frm"))
  | ((with_reducible apply U.fr_upd); (focus fail "hq"); (focus rfl); (focus fail "in"); (focus fail "frm"))
  | ((with_reducible apply U.fr_call); (focus assumption); (focus fail "frm"); (focus fail "al")))
local macro_rules | `(tactic| fail "sne") => `(tactic| first
  | assumption
  | decide +kernel
  | ((with_reducible apply U.inr_ne); (focus fail "sne"))
  | ((with_reducible apply Ne.symm); (focus assumption)))
local macro_rules | `(tactic| fail "lk") => `(tactic| first
  | (with_reducible exact U.lk_hit)
  | ((with_reducible apply U.lk_miss); (focus fail "sne"); (focus fail "lk"))
  | (with_reducible exact U.lk_nil)
  | assumption)
local macro_rules | `(tactic| fail "pf") => `(tactic| first
  | (with_reducible exact U.pf_hit)
  | ((with_reducible apply U.pf_miss); (focus fail "sne"); (focus fail "pf"))
  | (with_reducible exact U.pf_nil))
local macro_rules | `(tactic| fail "vv") => `(tactic| first
  | (with_reducible assumption)
  | (with_reducible exact U.vv_hit)
  | ((with_reducible apply U.vv_miss); (focus fail "sne"); (focus fail "vv"))
  | (with_reducible exact U.vv_nil))
local macro_rules | `(tactic| fail "nk") => `(tactic| first
  | (with_reducible exact U.nk_nil)
  | ((with_reducible apply U.nk_cons); (focus fail "sne"); (focus fail "nk")))
local macro_rules | `(tactic| fail "pk") => `(tactic| first
  | ((with_reducible apply U.pk_hit); fail "nk")
  | ((with_reducible apply U.pk_miss); (focus fail "sne"); (focus fail "pk"))
  | (with_reducible exact U.pk_nil))
local macro_rules | `(tactic| fail "at") => `(tactic| first
  | (with_reducible assumption)
  | ((with_reducible apply L2.atI_nat); (focus assumption))
  | rfl)
local macro_rules | `(tactic| fail "sz") => `(tactic| first
  | assumption
  | decide
  | (simp only [List.length_cons, List.length_nil]; decide)
  | (show _ < (16777216 : Nat); omega)
  | (show _ ≤ (16777216 : Nat); omega))
local macro_rules | `(tactic| fail "lf") => `(tactic| first
  | (with_reducible exact U.lf_addI)
  | (with_reducible exact U.lf_sub)
  | (with_reducible exact U.lf_eqI)
  | (with_reducible exact U.lf_eqS)
  | (with_reducible exact U.lf_neI)
  | (with_reducible exact U.lf_neS)
  | (with_reducible exact U.lf_lt)
  | (with_reducible exact U.lf_le)
  | (with_reducible exact U.lf_gt)
  | (with_reducible exact U.lf_ge)
  | (with_reducible exact U.lf_isN)
  | (with_reducible exact U.lf_notN)
  | ((with_reducible apply U.lf_ixT); (focus fail "hq"); (focus fail "at"))
  | ((with_reducible apply U.lf_ixL); (focus fail "hq"); (focus fail "at"))
  | ((with_reducible apply U.lf_ixD); (focus fail "hq"); (focus fail "vv"))
  | ((with_reducible apply U.lf_inD); (focus fail "hq"))
  | ((with_reducible apply U.lf_notInD); (focus fail "hq"))
  | ((with_reducible apply U.lf_inL); (focus fail "hq"))
  | ((with_reducible apply U.lf_notInL); (focus fail "hq"))
  | (with_reducible exact U.lf_inS)
  | (with_reducible exact U.lf_notInS)
  | ((with_reducible apply U.lf_mod); (focus first | assumption | decide | omega))
  | ((with_reducible apply U.lf_mul); (focus first | assumption | ((apply U.mul64); (focus decide); (focus decide)) | ((apply U.mul64); (focus omega); (focus omega))))
  | ((with_reducible apply U.lf_div); (focus first | assumption | exact ⟨by decide, by decide +kernel⟩))
  | ((with_reducible apply U.lf_pow); (focus exact ⟨by decide, by decide, by decide⟩))
  | ((with_reducible apply U.lf_addS); (focus first | assumption | (show _ ≤ (16777216 : Nat); omega)))
  | (with_reducible assumption))
local macro_rules | `(tactic| fail "lc") => `(tactic| first
  | ((with_reducible apply U.lc_lenUL); (focus fail "hq"))
  | ((with_reducible apply U.lc_lenUT); (focus fail "hq"))
  | ((with_reducible apply U.lc_lenUD); (focus fail "hq"))
  | ((with_reducible apply U.lc_lenUS); (focus fail "sz"))
  | (with_reducible exact U.lc_intB)
  | (with_reducible exact U.lc_max)
  | (with_reducible exact U.lc_min)
  | ((with_reducible apply U.lc_lenUq); assumption)
  | ((with_reducible apply U.lc_isiL); (focus fail "hq"))
  | ((with_reducible apply U.lc_isiT); (focus fail "hq"))
  | (with_reducible exact U.lc_isiSb)
  | (with_reducible exact U.lc_isiIb)
  | (with_reducible assumption))
local macro_rules | `(tactic| fail "va") => `(tactic| first
  | (with_reducible exact U.va_nil)
  | ((with_reducible apply U.va_cons); (focus fail "vt"); (focus fail "va")))
local macro_rules | `(tactic| fail "vt") => `(tactic| first
  | (with_reducible assumption)
  | (with_reducible exact U.val_c)
  | exact U.val_var rfl
  | ((with_reducible apply U.val_op); (focus fail "vt"); (focus fail "vt"); (focus fail "lf"))
  | ((with_reducible apply U.val_fld); (focus fail "vt"); (focus fail "hq"); (focus fail "lk"))
  | ((with_reducible apply U.val_cb); (focus fail "va"); (focus fail "lc"))
  | ((with_reducible apply U.val_get1); (focus fail "vt"); (focus fail "vt"); (focus fail "hq"))
  | ((with_reducible apply U.val_notV); (focus fail "vt"))
  | ((with_reducible apply U.val_andV); (focus fail "vt"); (intro _; fail "vt"))
  | ((with_reducible apply U.val_orV); (focus fail "vt"); (intro _; fail "vt"))
  | ((with_reducible apply U.val_un); (focus fail "vt"); (focus with_reducible exact U.l1_neg)))
local macro_rules | `(tactic| fail "an") => `(tactic| first
  | (with_reducible assumption)
  | ((with_reducible apply U.ans_T); fail "vt")
  | ((with_reducible apply U.ans_B); fail "vt")
  | ((with_reducible apply U.ans_not); fail "an")
  | ((with_reducible apply U.ans_and); (focus fail "an"); (intro _; fail "an"))
  | ((with_reducible apply U.ans_or); (focus fail "an"); (intro _; fail "an")))
local macro_rules | `(tactic| fail "put") => `(tactic| first
  | fail "pk"
  | ((apply Law.im_put); (focus assumption))
  | ((apply Law.sm_put); (focus assumption)))
local macro_rules | `(tactic| fail "st") => `(tactic| first
  | (with_reducible refine U.st_seq ?_)
  | ((with_reducible apply U.st_asg); (focus fail "vt"); (try dsimp only [List.set]))
  | ((with_reducible apply U.st_ret); (focus fail "vt"); (try dsimp only))
  | ((with_reducible apply U.st_fld); (focus fail "vt"); (focus fail "vt"); (focus fail "hq"); (focus fail "sz"); (focus fail "pf"); (try dsimp only))
  | ((with_reducible apply U.st_fld1); (focus fail "vt"); (focus fail "hq"); (focus fail "sz"); (focus fail "pf"); (try dsimp only))
  | ((with_reducible apply U.st_untup); (focus fail "vt"); (focus fail "hq"); (focus rfl))
  | ((with_reducible refine U.st_gcons ?_); (try dsimp only))
  | ((with_reducible refine U.st_gname ?_); (try dsimp only [List.set]))
  | ((with_reducible refine U.st_gnil ?_); (try dsimp only))
  | ((with_reducible apply U.st_gf); (focus fail "vt"); (focus fail "hq"); (focus fail "sz"); (focus fail "pf"); (try dsimp only))
  | ((with_reducible refine U.st_next ?_); (try dsimp only))
  | (with_reducible refine U.st_drop ?_)
  | ((with_reducible apply U.st_append); (focus fail "vt"); (focus fail "hq"); (focus fail "vt"); (focus fail "sz"); (try dsimp only))
  | ((with_reducible apply U.st_setDL); (focus fail "vt"); (focus fail "vt"); (focus fail "vt"); (focus fail "hq"); (focus fail "sz"); (focus fail "put"); (try dsimp only))
  | ((with_reducible apply U.st_set1); (focus fail "vt"); (focus fail "vt"); (focus fail "hq"); (focus fail "sz"); (focus fail "put"); (try dsimp only))
  | ((with_reducible apply U.st_call); (focus fail "va"))
  | ((with_reducible apply U.st_methV); (focus fail "vt"); (focus fail "hq"); (focus fail "lk"); (focus fail "va"))
  | (with_reducible refine U.st_fldE ?_)
  | (with_reducible refine U.st_setE ?_)
  | (with_reducible refine U.st_asgC ?_)
  | (with_reducible refine U.st_retC ?_)
  | ((with_reducible refine U.st_dnew ?_); (intro p hp); (try dsimp only))
  | ((with_reducible apply U.st_tup); (focus fail "va"); (focus fail "sz"); (intro p hp); (try dsimp only))
  | ((with_reducible apply U.st_lst); (focus fail "va"); (focus fail "sz"); (intro p hp); (try dsimp only))
  | ((with_reducible apply U.st_listOf); (focus fail "va"); (focus fail "hq"); (intro p hp); (try dsimp only))
  | ((with_reducible apply U.st_dictOf); (focus fail "va"); (focus fail "hq"); (intro p hp); (try dsimp only))
  | ((with_reducible apply U.st_apE); (focus fail "vt"); (focus fail "hq"))
  | ((with_reducible apply U.st_ap1); (focus fail "hq"); (focus fail "sz"); (try dsimp only)))
local macro_rules | `(tactic| fail "go") => `(tactic| repeat fail "st")
/-! words: "cp", one step of the general way; "cgo" -/
local macro_rules | `(tactic| fail "cp") => `(tactic| first
  | ((with_reducible apply U.st_val); (focus fail "vt"); (try dsimp only))
  | ((with_reducible apply U.st_vals); (focus fail "va"); (try dsimp only))
  | (with_reducible refine U.st_opC ?_)
  | (with_reducible refine U.st_consC ?_)
  | (with_reducible refine U.st_nilC ?_)
  | ((with_reducible apply U.st_lf); (focus fail "lf"); (try dsimp only))
  | ((with_reducible apply U.st_mkEnd); (focus fail "sz"); (intro p hp); (try dsimp only))
  | ((with_reducible apply U.st_gset); (focus fail "vt"); (focus fail "vt"); (focus fail "hq"); (focus fail "sz"); (focus fail "put"); (try dsimp only))
  | fail "st"
  | ((with_reducible apply U.st_cat); (focus fail "hq"); (focus fail "hq"); (focus fail "sz"); (intro p hp); (try dsimp only))
  | (with_reducible refine U.st_tupC ?_)
  | (with_reducible refine U.st_lstC ?_)
  | (with_reducible refine U.st_callC ?_)
  | (with_reducible refine U.st_cbC ?_))
local macro_rules | `(tactic| fail "cgo") => `(tactic| repeat fail "cp")

namespace Law
open PySem PySem.Spec PyProof.Rows L2 U
/-- fourteen names: by style, first signs, word -/
def ccA (off : Int) (k : Nat) : Nat := 97 + ((off + (k / 8 : Nat)) % 26).toNat
def nmK (style off : Int) (w : Str) (k : Nat) : Str := if style = 0 then ⟨((ccA off k) :: w.cps.toList.take (k % 8)).toArray⟩ else ⟨(w.cps.toList.drop (7 - k % 8) ++ [ccA off k]).toArray⟩
theorem ccA_ne {off : Int} {j k : Nat} (hj : j < 14) (hk : k < 14) (h0 : 0 ≤ off) (h1 : off < 26) (e : ccA off j = ccA off k) : j / 8 = k / 8 := by
  unfold ccA at e
  have a : j / 8 = 0 ∨ j / 8 = 1 := by omega
  have b : k / 8 = 0 ∨ k / 8 = 1 := by omega
  rcases a with a | a <;> rcases b with b | b <;> rw [a, b] at e ⊢ <;> simp at e <;> omega
theorem nmK_inj {style off : Int} {w : Str} {j k : Nat} (hw : w.length = 7) (hj : j < 14) (hk : k < 14) (h0 : 0 ≤ off) (h1 : off < 26) (e : nmK style off w j = nmK style off w k) : j = k := by
  have lw : w.cps.toList.length = 7 := by rw [Array.length_toList]; exact hw
  have m8 : ∀ n : Nat, n % 8 < 8 := fun n => Nat.mod_lt _ (by decide)
  have mj := m8 j
  have mk := m8 k
  have key : ccA off j = ccA off k ∧ j % 8 = k % 8 := by
    unfold nmK at e
    by_cases s : style = 0
    · rw [if_pos s, if_pos s] at e
      have e := congrArg (fun z : Str => z.cps.toList) e
      simp only [] at e
      obtain ⟨e1, e2⟩ := List.cons.inj e
      refine ⟨e1, ?_⟩
      have e3 := congrArg List.length e2
      rw [List.length_take, List.length_take, lw] at e3
      omega
    · rw [if_neg s, if_neg s] at e
      have e := congrArg (fun z : Str => z.cps.toList) e
      simp only [] at e
      obtain ⟨e2, e1⟩ := List.append_inj' e rfl
      refine ⟨(List.cons.inj e1).1, ?_⟩
      have e3 := congrArg List.length e2
      rw [List.length_drop, List.length_drop, lw] at e3
      omega
  have := ccA_ne hj hk h0 h1 key.1
  have := key.2
  omega
theorem nmK_nodup {style off : Int} {w : Str} (hw : w.length = 7) (h0 : 0 ≤ off) (h1 : off < 26) : ((List.range 14).map (nmK style off w)).Nodup := by
  rw [List.nodup_iff_pairwise_ne, List.pairwise_map]
  refine List.Pairwise.imp_of_mem (fun {a b} ha hb h z => h (nmK_inj hw (List.mem_range.mp ha) (List.mem_range.mp hb) h0 h1 z)) (List.nodup_iff_pairwise_ne.mp List.nodup_range)
theorem let_at : ∀ j : Fin 26, atI ("abcdefghijklmnopqrstuvwxyz" : Str).cps.toList ((j.val : Nat) : Int) = some (97 + j.val) := by decide +kernel
theorem let_at' {i : Int} (h0 : 0 ≤ i) (h1 : i < 26) : atI ("abcdefghijklmnopqrstuvwxyz" : Str).cps.toList i = some (97 + i.toNat) := by
  have q := let_at ⟨i.toNat, by omega⟩
  have e : ((i.toNat : Nat) : Int) = i := by omega
  rw [← e]
  exact q
theorem nm_pre {c : Nat} {w : Str} {j : Nat} (hw : w.length = 7) (hj : j ≤ 7) : (⟨#[c]⟩ : Str) ++ cutS w none (some (j : Int)) = ⟨(c :: w.cps.toList.take j).toArray⟩ := by
  show (⟨#[c] ++ (cutS w none (some (j : Int))).cps⟩ : Str) = _
  congr 1
  unfold cutS
  show #[c] ++ (List.take (HT.sIx w.length w.length (some (j : Int)) - 0) (List.drop 0 w.cps.toList)).toArray = _
  rw [HT.sIx_nat, hw, Nat.min_eq_left hj]
  simp
theorem nm_suf {c : Nat} {w : Str} {j : Nat} (hw : w.length = 7) (hj : j ≤ 7) : cutS w (some ((7 : Int) - (j : Int))) none ++ (⟨#[c]⟩ : Str) = ⟨(w.cps.toList.drop (7 - j) ++ [c]).toArray⟩ := by
  show (⟨(cutS w (some ((7 : Int) - (j : Int))) none).cps ++ #[c]⟩ : Str) = _
  congr 1
  unfold cutS
  have e : (7 : Int) - (j : Int) = ((7 - j : Nat) : Int) := by omega
  show (List.take (w.length - HT.sIx w.length 0 (some ((7 : Int) - (j : Int)))) (List.drop (HT.sIx w.length 0 (some ((7 : Int) - (j : Int)))) w.cps.toList)).toArray ++ #[c] = _
  rw [e, HT.sIx_nat, hw, Nat.min_eq_left (Nat.sub_le _ _)]
  have lw : w.cps.toList.length = 7 := by rw [Array.length_toList]; exact hw
  rw [List.take_of_length_le (by rw [List.length_drop, lw]; exact Nat.le_refl _)]
  simp
theorem cutS_len {w : Str} {lo hi : Option Int} : (cutS w lo hi).length ≤ w.length := by
  show (List.take _ (List.drop _ w.cps.toList)).toArray.size ≤ w.cps.size
  rw [List.size_toArray, List.length_take, List.length_drop, Array.length_toList]
  omega
def sp_names (K : PySem.W.Frag) (A : Ad) : Sp := fun vs H Q _ => ∃ (a : Addr) (ns : List Int), vs = [.ref a] ∧ SqL K H a (ns.map V.int) ∧ ∀ (H' : Hp) (p : Addr) (nms : List Str), nms.length = 14 → nms.Nodup → H p = none → Fr [] H H' → H' p = some (.lst (nms.map V.str)) → Q (.ref p) H'
theorem r__law_names {K : PySem.W.Frag} {A : Ad} (vs : List V) (H : Hp) (Q : VK) (E : XK) (h : sp_names K A vs H Q E) : t__law_names K A (sp_state K A) (sp_draw A) { nx := fun _ H' => Q .non H', rt := Q } (start N__law_names vs) H := by
  obtain ⟨a, ns, rfl, ha, kk⟩ := h
  fail "cgo"
  refine ⟨a, ns, 1, rfl, ha, by decide, fun H1 s hs0 f1 s1 => ?_⟩
  fail "cgo"
  refine ⟨s, 2, 89999, rfl, by decide, by decide, s1, fun H2 st st0 st1 f2 s2 => ?_⟩
  have f2' : Fr [] H H2 := f1.call f2 (by fail "al")
  clear f1 f2 s1
  fail "cgo"
  refine ⟨s, 26, 89998, rfl, by decide, by decide, s2, fun H3 off of0 of1 f3 s3 => ?_⟩
  have f3' : Fr [] H H3 := f2'.call f3 (by fail "al")
  clear f2' f3 s2
  fail "cgo"
  refine st_joinE val_c ?_
  refine st_lcR (n := 7) (by fail "va") (by decide) (by decide) (fun c i H' => Fr [] H H' ∧ c ≠ s ∧ ∃ ys : List Str, ys.length = i ∧ (∀ y ∈ ys, y.length = 1) ∧ H' c = some (.lst (ys.map V.str)) ∧ SAt H' s (89998 - i) ∧ H c = none) ?_ ?_ ?_
  · exact fun c hc => ⟨by fail "frm", by obtain ⟨_, _, _, q, _⟩ := s3; fail "ne", [], rfl, fun _ m => (by cases m), upd_same, s3.fr (F := []) (by fail "frm") (by fail "ni"), f3'.old _ hc⟩
  · rintro c i H5 hi ⟨f5, ncs, ys, ly, my, hy, s5, hc0⟩
    refine ⟨rfl, tyes (st_bTrue ?_)⟩
    fail "cgo"
    have hi : i < 7 := hi
    refine ⟨s, 26, 89998 - i - 1, rfl, by decide, by decide, s5.le (by omega), fun H6 j ja jb f6 s6 => ?_⟩
    have hy6 := f6.keep _ _ hy (by simpa using ncs)
    have f6' : Fr [] H H6 := f5.call f6 (by fail "al")
    clear f5 f6 s5 hy
    refine st_lf (lf_ixS (by decide) (let_at' ja jb)) ?_
    refine ⟨_, hy6, by rw [List.length_map]; show _ < (16777216 : Nat); omega, by fail "frm", ncs, ys ++ [⟨#[97 + j.toNat]⟩], by rw [List.length_append, ly]; rfl, fun y m => ?_, by rw [upd_same, List.map_append]; rfl, (s6.fr (F := [c]) (by fail "frm") (by fail "ni")).le (by omega), hc0⟩
    rcases List.mem_append.mp m with m | m
    · exact my y m
    · rw [List.mem_singleton.mp m]; rfl
  · rintro c H5 ⟨f5, ncs, ys, ly, my, hy, s5, hc0⟩
    have ly : ys.length = 7 := ly
    refine st_join hy ?_ ?_
    · have e : (ys.map (·.length)).sum = 7 := by
        match ys, ly, my with
        | [a, b, c, d, e, f, g], _, my => simp [my a (by simp), my b (by simp), my c (by simp), my d (by simp), my e (by simp), my f (by simp), my g (by simp)]
      rw [e, ly]
      decide
    · have hw : (Txt.join ("" : Str) ys).length = 7 := (PySem.W.KT.join_ones ys my).trans ly
      generalize Txt.join ("" : Str) ys = w at hw ⊢
      fail "cgo"
      rename_i p p0
      have hp0 : H p = none := by fail "fn"
      refine st_forR (n := 14) (by fail "va") (by decide) (by decide) (fun i σ' H' => ∃ k f, σ' = [some (.ref a), some (.str "abcdefghijklmnopqrstuvwxyz"), some (.ref s), some (.int st), some (.int off), some (.str w), some (.ref p), k, f] ∧ Fr [] H H' ∧ H' p = some (.lst (((List.range i).map (nmK st off w)).map V.str))) ⟨_, _, rfl, by fail "frm", by fail "hx"⟩ ?_ ?_
      · rintro i σ' H6 hi ⟨k, f, rfl, f6, hp6⟩
        have hi : i < 14 := hi
        have z0 : 0 ≤ (off + (i : Int) / 8) % 26 := Int.emod_nonneg _ (by decide)
        have z1 : (off + (i : Int) / 8) % 26 < 26 := Int.emod_lt_of_pos _ (by decide)
        have ec : 97 + ((off + (i : Int) / 8) % 26).toNat = ccA off i := by
          unfold ccA
          rw [Int.natCast_ediv]
          rfl
        have lx : Lf (rIxU K) (.str "abcdefghijklmnopqrstuvwxyz") (.int ((off + (i : Int) / 8) % 26)) H6 (.str ⟨#[ccA off i]⟩) := by
          rw [← ec]
          exact lf_ixS (by decide) (let_at' z0 z1)
        fail "st"
        fail "st"
        fail "st"
        fail "st"
        fail "st"
        have i8 : i % 8 ≤ 7 := by omega
        have em : ((i : Int) % 8) = ((i % 8 : Nat) : Int) := by omega
        have lw : w.length ≤ sizeLine := by rw [hw]; decide
        have s1 : ∀ c : Nat, ∀ lo hi, (⟨#[c]⟩ : Str).length + (cutS w lo hi).length ≤ sizeLine := fun c lo hi => by
          have := cutS_len (w := w) (lo := lo) (hi := hi)
          show 1 + _ ≤ (16777216 : Nat)
          omega
        have s2 : ∀ c : Nat, ∀ lo hi, (cutS w lo hi).length + (⟨#[c]⟩ : Str).length ≤ sizeLine := fun c lo hi => by rw [Nat.add_comm]; exact s1 c lo hi
        refine st_opC (st_lst (va_cons (val_op (val_var rfl) (val_slS (val_var rfl) lw vo_no (vo_at (by fail "vt"))) (lf_addS (s1 _ _ _))) (va_cons (val_op (val_slS (val_var rfl) lw (vo_at (by fail "vt")) vo_no) (val_var rfl) (lf_addS (s2 _ _ _))) va_nil)) (by fail "sz") fun q q0 => ?_)
        rw [em, nm_pre hw i8, nm_suf hw i8]
        have npq : p ≠ q := by fail "ne"
        have at1 : atI [V.str ⟨((ccA off i) :: w.cps.toList.take (i % 8)).toArray⟩, V.str ⟨(w.cps.toList.drop (7 - i % 8) ++ [ccA off i]).toArray⟩] st = some (.str (nmK st off w i)) := by
          have : st = 0 ∨ st = 1 := by omega
          rcases this with rfl | rfl <;> rfl
        fail "cgo"
        refine st_ap1 (by fail "hq") (by rw [List.length_map, List.length_map, List.length_range]; show _ < (16777216 : Nat); omega) ?_
        refine ⟨_, _, rfl, by fail "frm", ?_⟩
        rw [upd_same, List.range_succ, List.map_append, List.map_append]
        rfl
      · rintro σ' H6 ⟨k, f, rfl, f6, hp6⟩
        fail "cgo"
        refine kk _ _ _ ?_ (nmK_nodup (style := st) hw of0 of1) hp0 f6 hp6
        rw [List.length_map, List.length_range]
end Law

end
section
set_option maxHeartbeats 4000000
/-! words: fail "le", "hq" (what stands at an address), "ne" (two addresses differ), "fn" (an address is new to an older heap), "al" (places of a frame), "ni", "frm" (a frame) -/
local macro_rules | `(tactic| fail "le") => `(tactic| first
  | (with_reducible exact U.Le.refl _)
  | ((with_reducible refine U.Le.upd ?_); fail "le")
  | ((with_reducible apply U.Le.fr); (rotate_left 1); (focus assumption); (focus fail "le")))
local macro_rules | `(tactic| fail "fn") => `(tactic| first
  | assumption
  | ((with_reducible apply U.none_le); (rotate_left 1); (focus assumption); (focus fail "le")))
local macro_rules | `(tactic| fail "hq") => `(tactic| first
  | (with_reducible assumption)
  | (with_reducible exact L2.upd_same)
  | ((with_reducible apply U.look_upd); (focus fail "hq"); (focus fail "ne"))
  | ((with_reducible apply U.look_fr); (focus assumption); (focus fail "hq"); (focus fail "ni"))
  | ((with_reducible apply U.look_tup); (focus assumption); (focus fail "hq")))
local macro_rules | `(tactic| fail "hx") => `(tactic| first
  | fail "hq"
  | ((with_reducible apply U.hq_to); (focus fail "hq"); (focus rfl)))
local macro_rules | `(tactic| fail "ni") => `(tactic| first
  | (with_reducible exact U.ni_nil)
  | ((with_reducible refine U.ni_cons ?_ ?_); (focus fail "ne"); (focus fail "ni"))
  | assumption)
local macro_rules | `(tactic| fail "ne") => `(tactic| first
  | (with_reducible assumption)
  | ((with_reducible apply Ne.symm); (focus assumption))
  | ((with_reducible apply U.ne_new); (focus with_reducible assumption); (focus fail "hq"))
  | ((with_reducible apply U.ne_new'); (focus with_reducible assumption); (focus fail "hq"))
  | ((with_reducible apply L2.ne_of); (focus with_reducible assumption); (focus fail "hq"); (focus (intro z; cases z))))
local macro_rules | `(tactic| fail "mem") => `(tactic| first
  | (with_reducible exact U.mem_hd)
  | ((with_reducible refine U.mem_tl ?_); fail "mem")
  | assumption)
local macro_rules | `(tactic| fail "in") => `(tactic| first
  | ((with_reducible apply Or.inl); (focus fail "mem"))
  | ((with_reducible apply Or.inr); (focus fail "fn")))
local macro_rules | `(tactic| fail "al") => `(tactic| first
  | (with_reducible exact U.al_nil)
  | ((with_reducible refine U.al_cons ?_ ?_); (focus fail "in"); (focus fail "al"))
  | assumption)
local macro_rules | `(tactic| fail "frm") => `(tactic| first
  | (with_reducible exact U.Fr.refl _)
  | (with_reducible assumption)
  | ((with_reducible apply U.fr_new); (focus assumption); (focus fail "frm"))
  | ((with_reducible apply U.fr_upd); (focus fail "hq"); (focus rfl); (focus fail "in"); (focus fail "frm"))
  | ((with_reducible apply U.fr_call); (focus assumption); (focus fail "frm"); (focus fail "al")))
local macro_rules | `(tactic| fail "sne") => `(tactic| first
  | assumption
  | decide +kernel
  | ((with_reducible apply U.inr_ne); (focus fail "sne"))
  | ((with_reducible apply Ne.symm); (focus assumption)))
local macro_rules | `(tactic| fail "lk") => `(tactic| first
  | (with_reducible exact U.lk_hit)
  | ((with_reducible apply U.lk_miss); (focus fail "sne"); (focus fail "lk"))
  | (with_reducible exact U.lk_nil)
  | assumption)
local macro_rules | `(tactic| fail "pf") => `(tactic| first
  | (with_reducible exact U.pf_hit)
  | ((with_reducible apply U.pf_miss); (focus fail "sne"); (focus fail "pf"))
  | (with_reducible exact U.pf_nil))
local macro_rules | `(tactic| fail "vv") => `(tactic| first
  | (with_reducible assumption)
  | (with_reducible exact U.vv_hit)
  | ((with_reducible apply U.vv_miss); (focus fail "sne"); (focus fail "vv"))
  | (with_reducible exact U.vv_nil))
local macro_rules | `(tactic| fail "nk") => `(tactic| first
  | (with_reducible exact U.nk_nil)
  | ((with_reducible apply U.nk_cons); (focus fail "sne"); (focus fail "nk")))
local macro_rules | `(tactic| fail "pk") => `(tactic| first
  | ((with_reducible apply U.pk_hit); fail "nk")
  | ((with_reducible apply U.pk_miss); (focus fail "sne"); (focus fail "pk"))
  | (with_reducible exact U.pk_nil))
local macro_rules | `(tactic| fail "at") => `(tactic| first
  | (with_reducible assumption)
  | ((with_reducible apply L2.atI_nat); (focus assumption))
  | rfl)
local macro_rules | `(tactic| fail "sz") => `(tactic| first
  | assumption
  | decide
  | (simp only [List.length_cons, List.length_nil]; decide)
  | (show _ < (16777216 : Nat); omega)
  | (show _ ≤ (16777216 : Nat); omega))
local macro_rules | `(tactic| fail "lf") => `(tactic| first
  | (with_reducible exact U.lf_addI)
  | (with_reducible exact U.lf_sub)
  | (with_reducible exact U.lf_eqI)
  | (with_reducible exact U.lf_eqS)
  | (with_reducible exact U.lf_neI)
  | (with_reducible exact U.lf_neS)
  | (with_reducible exact U.lf_lt)
  | (with_reducible exact U.lf_le)
  | (with_reducible exact U.lf_gt)
  | (with_reducible exact U.lf_ge)
  | (with_reducible exact U.lf_isN)
  | (with_reducible exact U.lf_notN)
  | ((with_reducible apply U.lf_ixT); (focus fail "hq"); (focus fail "at"))
  | ((with_reducible apply U.lf_ixL); (focus fail "hq"); (focus fail "at"))
  | ((with_reducible apply U.lf_ixD); (focus fail "hq"); (focus fail "vv"))
  | ((with_reducible apply U.lf_inD); (focus fail "hq"))
  | ((with_reducible apply U.lf_notInD); (focus fail "hq"))
  | ((with_reducible apply U.lf_inL); (focus fail "hq"))
  | ((with_reducible apply U.lf_notInL); (focus fail "hq"))
  | (with_reducible exact U.lf_inS)
  | (with_reducible exact U.lf_notInS)
  | ((with_reducible apply U.lf_mod); (focus first | assumption | decide | omega))
  | ((with_reducible apply U.lf_mul); (focus first | assumption | ((apply U.mul64); (focus decide); (focus decide)) | ((apply U.mul64); (focus omega); (focus omega))))
  | ((with_reducible apply U.lf_div); (focus first | assumption | exact ⟨by decide, by decide +kernel⟩))
  | ((with_reducible apply U.lf_pow); (focus exact ⟨by decide, by decide, by decide⟩))
  | ((with_reducible apply U.lf_addS); (focus first | assumption | (show _ ≤ (16777216 : Nat); omega)))
  | (with_reducible assumption))
local macro_rules | `(tactic| fail "lc") => `(tactic| first
  | ((with_reducible apply U.lc_lenUL); (focus fail "hq"))
  | ((with_reducible apply U.lc_lenUT); (focus fail "hq"))
  | ((with_reducible apply U.lc_lenUD); (focus fail "hq"))
  | ((with_reducible apply U.lc_lenUS); (focus fail "sz"))
  | (with_reducible exact U.lc_intB)
  | (with_reducible exact U.lc_max)
  | (with_reducible exact U.lc_min)
  | ((with_reducible apply U.lc_lenUq); assumption)
  | ((with_reducible apply U.lc_isiL); (focus fail "hq"))
  | ((with_reducible apply U.lc_isiT); (focus fail "hq"))
  | (with_reducible exact U.lc_isiSb)
  | (with_reducible exact U.lc_isiIb)
  | (with_reducible assumption))
local macro_rules | `(tactic| fail "va") => `(tactic| first
  | (with_reducible exact U.va_nil)
  | ((with_reducible apply U.va_cons); (focus fail "vt"); (focus fail "va")))
local macro_rules | `(tactic| fail "vt") => `(tactic| first
  | (with_reducible assumption)
  | (with_reducible exact U.val_c)
  | exact U.val_var rfl
  | ((with_reducible apply U.val_op); (focus fail "vt"); (focus fail "vt"); (focus fail "lf"))
  | ((with_reducible apply U.val_fld); (focus fail "vt"); (focus fail "hq"); (focus fail "lk"))
  | ((with_reducible apply U.val_cb); (focus fail "va"); (focus fail "lc"))
  | ((with_reducible apply U.val_get1); (focus fail "vt"); (focus fail "vt"); (focus fail "hq"))
  | ((with_reducible apply U.val_notV); (focus fail "vt"))
  | ((with_reducible apply U.val_andV); (focus fail "vt"); (intro _; fail "vt"))
  | ((with_reducible apply U.val_orV); (focus fail "vt"); (intro _; fail "vt"))
  | ((with_reducible apply U.val_un); (focus fail "vt"); (focus with_reducible exact U.l1_neg)))
local macro_rules | `(tactic| fail "an") => `(tactic| first
  | (with_reducible assumption)
  | ((with_reducible apply U.ans_T); fail "vt")
  | ((with_reducible apply U.ans_B); fail "vt")
  | ((with_reducible apply U.ans_not); fail "an")
  | ((with_reducible apply U.ans_and); (focus fail "an"); (intro _; fail "an"))
  | ((with_reducible apply U.ans_or); (focus fail "an"); (intro _; fail "an")))
local macro_rules | `(tactic| fail "put") => `(tactic| first
  | fail "pk"
  | ((apply Law.im_put); (focus assumption))
  | ((apply Law.sm_put); (focus assumption)))
local macro_rules | `(tactic| fail "st") => `(tactic| first
  | (with_reducible refine U.st_seq ?_)
  | ((with_reducible apply U.st_asg); (focus fail "vt"); (try dsimp only [List.set]))
  | ((with_reducible apply U.st_ret); (focus fail "vt"); (try dsimp only))
  | ((with_reducible apply U.st_fld); (focus fail "vt"); (focus fail "vt"); (focus fail "hq"); (focus fail "sz"); (focus fail "pf"); (try dsimp only))
  | ((with_reducible apply U.st_fld1); (focus fail "vt"); (focus fail "hq"); (focus fail "sz"); (focus fail "pf"); (try dsimp only))
  | ((with_reducible apply U.st_untup); (focus fail "vt"); (focus fail "hq"); (focus rfl))
  | ((with_reducible refine U.st_gcons ?_); (try dsimp only))
  | ((with_reducible refine U.st_gname ?_); (try dsimp only [List.set]))
  | ((with_reducible refine U.st_gnil ?_); (try dsimp only))
  | ((with_reducible apply U.st_gf); (focus fail "vt"); (focus fail "hq"); (focus fail "sz"); (focus fail "pf"); (try dsimp only))
  | ((with_reducible refine U.st_next ?_); (try dsimp only))
  | (with_reducible refine U.st_drop ?_)
  | ((with_reducible apply U.st_append); (focus fail "vt"); (focus fail "hq"); (focus fail "vt"); (focus fail "sz"); (try dsimp only))
  | ((with_reducible apply U.st_setDL); (focus fail "vt"); (focus fail "vt"); (focus fail "vt"); (focus fail "hq"); (focus fail "sz"); (focus fail "put"); (try dsimp only))
  | ((with_reducible apply U.st_set1); (focus fail "vt"); (focus fail "vt"); (focus fail "hq"); (focus fail "sz"); (focus fail "put"); (try dsimp only))
  | ((with_reducible apply U.st_call); (focus fail "va"))
  | ((with_reducible apply U.st_methV); (focus fail "vt"); (focus fail "hq"); (focus fail "lk"); (focus fail "va"))
  | (with_reducible refine U.st_fldE ?_)
  | (with_reducible refine U.st_setE ?_)
  | (with_reducible refine U.st_asgC ?_)
  | (with_reducible refine U.st_retC ?_)
  | ((with_reducible refine U.st_dnew ?_); (intro p hp); (try dsimp only))
  | ((with_reducible apply U.st_tup); (focus fail "va"); (focus fail "sz"); (intro p hp); (try dsimp only))
  | ((with_reducible apply U.st_lst); (focus fail "va"); (focus fail "sz"); (intro p hp); (try dsimp only))
  | ((with_reducible apply U.st_listOf); (focus fail "va"); (focus fail "hq"); (intro p hp); (try dsimp only))
  | ((with_reducible apply U.st_dictOf); (focus fail "va"); (focus fail "hq"); (intro p hp); (try dsimp only))
  | ((with_reducible apply U.st_apE); (focus fail "vt"); (focus fail "hq"))
  | ((with_reducible apply U.st_ap1); (focus fail "hq"); (focus fail "sz"); (try dsimp only)))
local macro_rules | `(tactic| fail "go") => `(tactic| repeat fail "st")
/-! words: "cp", one step of the general way; "cgo" -/
local macro_rules | `(tactic| fail "cp") => `(tactic| first
  | ((with_reducible apply U.st_val); (focus fail "vt"); (try dsimp only))
  | ((with_reducible apply U.st_vals); (focus fail "va"); (try dsimp only))
  | (with_reducible refine U.st_opC ?_)
  | (with_reducible refine U.st_consC ?_)
  | (with_reducible refine U.st_nilC ?_)
  | ((with_reducible apply U.st_lf); (focus fail "lf"); (try dsimp only))
  | ((with_reducible apply U.st_mkEnd); (focus fail "sz"); (intro p hp); (try dsimp only))
  | ((with_reducible apply U.st_gset); (focus fail "vt"); (focus fail "vt"); (focus fail "hq"); (focus fail "sz"); (focus fail "put"); (try dsimp only))
  | fail "st"
  | ((with_reducible apply U.st_cat); (focus fail "hq"); (focus fail "hq"); (focus fail "sz"); (intro p hp); (try dsimp only))
  | (with_reducible refine U.st_tupC ?_)
  | (with_reducible refine U.st_lstC ?_)
  | (with_reducible refine U.st_callC ?_)
  | (with_reducible refine U.st_cbC ?_))
local macro_rules | `(tactic| fail "cgo") => `(tactic| repeat fail "cp")

namespace Law
open PySem PySem.Spec PyProof.Rows L2 U
def sp_wishes (A : Ad) : Sp := fun vs H Q _ => ∃ (s p : Addr) (b : Nat) (nms : List Str), vs = [.ref s, .ref p] ∧ SAt H s (b + 100) ∧ H p = some (.lst (nms.map V.str)) ∧ nms.length = 14 ∧
  ∀ (H' : Hp) (q : Addr) (wl : List Str), wl.length ≤ 12 → (∀ x ∈ wl, x ∈ nms.take 12) → H q = none → Fr [s] H H' → H' q = some (.lst (wl.map V.str)) → SAt H' s b → Q (.ref q) H'
theorem at_take {xs : List Str} {i : Int} {n : Nat} (h0 : 0 ≤ i) (h1 : i < n) (h2 : n ≤ xs.length) : ∃ x, x ∈ xs.take n ∧ atI (xs.map V.str) i = some (.str x) := by
  have l : i.toNat < xs.length := by omega
  refine ⟨xs[i.toNat], ?_, at_of (j := i.toNat) (by omega) (by rw [List.getElem?_map, List.getElem?_eq_getElem l]; rfl)⟩
  exact List.mem_take_iff_getElem.mpr ⟨i.toNat, by omega, rfl⟩
theorem r__law_wishes {K : PySem.W.Frag} {A : Ad} (vs : List V) (H : Hp) (Q : VK) (E : XK) (h : sp_wishes A vs H Q E) : t__law_wishes K A (sp_draw A) { nx := fun _ H' => Q .non H', rt := Q } (start N__law_wishes vs) H := by
  obtain ⟨s, p, b, nms, rfl, hs, hp, ln, kk⟩ := h
  have nps := hs.ne_lst hp
  fail "cgo"
  refine ⟨s, 5, b + 99, rfl, by decide, by decide, hs, fun H1 i1 a1 b1 f1 s1 => ?_⟩
  have hp1 := f1.keep _ _ hp (by simpa using nps)
  fail "cgo"
  refine ⟨s, 13, b + 98, rfl, by decide, by decide, s1, fun H2 i2 a2 b2 f2 s2 => ?_⟩
  have hp2 := f2.keep _ _ hp1 (by simpa using nps)
  have f2' : Fr [s] H H2 := f1.call f2 (by fail "al")
  clear f1 f2 hp1
  fail "cgo"
  rename_i l l0
  have nls : l ≠ s := by obtain ⟨_, _, _, q, _⟩ := s2; fail "ne"
  refine ⟨s, 2, b + 97, rfl, by decide, by decide, s2.fr (F := []) (by fail "frm") (by fail "ni"), fun H3 j ja jb f3 s3 => ?_⟩
  have hl3 : H3 l = some (.lst [.int i1, .int i2]) := f3.keep _ _ upd_same (by simpa using nls)
  have hp3 : H3 p = some (.lst (nms.map V.str)) := f3.keep _ _ (by fail "hq") (by simpa using nps)
  have f3' : Fr [s] H H3 := by fail "frm"
  obtain ⟨m, m0, m1, at1⟩ : ∃ m : Int, 0 ≤ m ∧ m < 13 ∧ atI [V.int i1, V.int i2] j = some (.int m) := by
    have : j = 0 ∨ j = 1 := by omega
    rcases this with rfl | rfl
    · exact ⟨i1, a1, by omega, rfl⟩
    · exact ⟨i2, a2, by omega, rfl⟩
  clear f3 f2' hp2 l0
  fail "cgo"
  refine st_lcR (n := m) (by fail "va") (by omega) (by omega) (fun c i H' => Fr [s] H H' ∧ H c = none ∧ ∃ xs : List Str, xs.length = i ∧ (∀ x ∈ xs, x ∈ nms.take 12) ∧ H' c = some (.lst (xs.map V.str)) ∧ SAt H' s (b + 97 - i)) ?_ ?_ ?_
  · exact fun c hc => ⟨by fail "frm", f3'.old _ hc, [], rfl, fun _ m => (by cases m), upd_same, s3.fr (F := []) (by fail "frm") (by fail "ni")⟩
  · rintro c i H5 hi ⟨f5, hc5, xs, lx, mx, hx, s5⟩
    have hp5 := f5.keep _ _ hp (by simpa using nps)
    refine ⟨rfl, tyes (st_bTrue ?_)⟩
    fail "cgo"
    refine ⟨s, 12, b + 97 - i - 1, rfl, by decide, by decide, s5.le (by omega), fun H6 k ka kb f6 s6 => ?_⟩
    obtain ⟨x, mx1, ex⟩ := at_take (n := 12) ka kb (by omega : 12 ≤ nms.length)
    have hp6 := f6.keep _ _ hp5 (by simpa using nps)
    have ncs : c ≠ s := s5.ne_lst hx
    have hx6 := f6.keep _ _ hx (by simpa using ncs)
    have f6' : Fr [s] H H6 := f5.call f6 (by fail "al")
    clear f6 f5 hx s5 hp5
    fail "cgo"
    refine ⟨_, hx6, by rw [List.length_map]; show _ < (16777216 : Nat); omega, by fail "frm", hc5, xs ++ [x], by rw [List.length_append, lx]; rfl, fun y my => ?_, by rw [upd_same, List.map_append]; rfl, (s6.fr (F := [c]) (by fail "frm") (by fail "ni")).le (by omega)⟩
    rcases List.mem_append.mp my with m | m
    · exact mx y m
    · rw [List.mem_singleton.mp m]; exact mx1
  · rintro c H5 ⟨f5, hc5, xs, lx, mx, hx, s5⟩
    exact kk _ _ xs (by omega) mx hc5 f5 hx (s5.le (by omega))
/-! the chain -/
theorem lookup_memR {β : Type} : ∀ {l : List (Str × β)} {x : Str} {v : β}, l.lookup x = some v → (x, v) ∈ l
  | [], _, _, h => by simp [List.lookup] at h
  | (y, n) :: l, x, v, h => by
    by_cases e : x = y
    · subst e
      have : n = v := by simpa [List.lookup] using h
      rw [this]
      exact List.mem_cons_self
    · have e' : (x == y) = false := by simpa using e
      simp only [List.lookup, e'] at h
      exact List.mem_cons_of_mem _ (lookup_memR h)
theorem lookup_isSome {β : Type} : ∀ {l : List (Str × β)} {x : Str}, x ∈ l.map (·.1) → (l.lookup x).isSome
  | (y, n) :: l, x, h => by
    by_cases e : x = y
    · subst e
      simp [List.lookup]
    · have e' : (x == y) = false := by simpa using e
      simp only [List.lookup, e']
      exact lookup_isSome ((List.mem_cons.mp h).resolve_left e)
end Law

end
section
set_option maxHeartbeats 4000000
/-! words: fail "le", "hq" (what stands at an address), "ne" (two addresses differ), "fn" (an address is new to an older heap), "al" (places of a frame), "ni", "frm" (a frame) -/
local macro_rules | `(tactic| fail "le") => `(tactic| first
  | (with_reducible exact U.Le.refl _)
  | ((with_reducible refine U.Le.upd ?_); fail "le")
  | ((with_reducible apply U.Le.fr); (rotate_left 1); (focus assumption); (focus fail "le")))
local macro_rules | `(tactic| fail "fn") => `(tactic| first
  | assumption
  | ((with_reducible apply U.none_le); (rotate_left 1); (focus assumption); (focus fail "le")))
local macro_rules | `(tactic| fail "hq") => `(tactic| first
  | (with_reducible assumption)
  | (with_reducible exact L2.upd_same)
  | ((with_reducible apply U.look_upd); (focus fail "hq"); (focus fail "ne"))
  | ((with_reducible apply U.look_fr); (focus assumption); (focus fail "hq"); (focus fail "ni"))
  | ((with_reducible apply U.look_tup); (focus assumption); (focus fail "hq")))
local macro_rules | `(tactic| fail "hx") => `(tactic| first
  | fail "hq"
  | ((with_reducible apply U.hq_to); (focus fail "hq"); (focus rfl)))
local macro_rules | `(tactic| fail "ni") => `(tactic| first
  | (with_reducible exact U.ni_nil)
  | ((with_reducible refine U.ni_cons ?_ ?_); (focus fail "ne"); (focus fail "ni"))
  | assumption)
local macro_rules | `(tactic| fail "ne") => `(tactic| first
  | (with_reducible assumption)
  | ((with_reducible apply Ne.symm); (focus assumption))
  | ((with_reducible apply U.ne_new); (focus with_reducible assumption); (focus fail "hq"))
  | ((with_reducible apply U.ne_new'); (focus with_reducible assumption); (focus fail "hq"))
  | ((with_reducible apply L2.ne_of); (focus with_reducible assumption); (focus fail "hq"); (focus (intro z; cases z))))
local macro_rules | `(tactic| fail "mem") => `(tactic| first
  | (with_reducible exact U.mem_hd)
  | ((with_reducible refine U.mem_tl ?_); fail "mem")
  | assumption)
local macro_rules | `(tactic| fail "in") => `(tactic| first
  | ((with_reducible apply Or.inl); (focus fail "mem"))
  | ((with_reducible apply Or.inr); (focus fail "fn")))
local macro_rules | `(tactic| fail "al") => `(tactic| first
  | (with_reducible exact U.al_nil)
  | ((with_reducible refine U.al_cons ?_ ?_); (focus fail "in"); (focus fail "al"))
  | assumption)
local macro_rules | `(tactic| fail "frm") => `(tactic| first
  | (with_reducible exact U.Fr.refl _)
  | (with_reducible assumption)
  | ((with_reducible apply U.fr_new); (focus assumption); (focus fail "frm"))
  | ((with_reducible apply U.fr_upd); (focus fail "hq"); (focus rfl); (focus fail "in"); (focus fail "frm"))
  | ((with_reducible apply U.fr_call); (focus assumption); (focus fail "frm"); (focus fail "al")))
local macro_rules | `(tactic| fail "sne") => `(tactic| first
  | assumption
  | decide +kernel
  | ((with_reducible apply U.inr_ne); (focus fail "sne"))
  | ((with_reducible apply Ne.symm); (focus assumption)))
local macro_rules | `(tactic| fail "lk") => `(tactic| first
  | (with_reducible exact U.lk_hit)
  | ((with_reducible apply U.lk_miss); (focus fail "sne"); (focus fail "lk"))
  | (with_reducible exact U.lk_nil)
  | assumption)
local macro_rules | `(tactic| fail "pf") => `(tactic| first
  | (with_reducible exact U.pf_hit)
  | ((with_reducible apply U.pf_miss); (focus fail "sne"); (focus fail "pf"))
  | (with_reducible exact U.pf_nil))
local macro_rules | `(tactic| fail "vv") => `(tactic| first
  | (with_reducible assumption)
  | (with_reducible exact U.vv_hit)
  | ((with_reducible apply U.vv_miss); (focus fail "sne"); (focus fail "vv"))
  | (with_reducible exact U.vv_nil))
local macro_rules | `(tactic| fail "nk") => `(tactic| first
  | (with_reducible exact U.nk_nil)
  | ((with_reducible apply U.nk_cons); (focus fail "sne"); (focus fail "nk")))
local macro_rules | `(tactic| fail "pk") => `(tactic| first
  | ((with_reducible apply U.pk_hit); fail "nk")
  | ((with_reducible apply U.pk_miss); (focus fail "sne"); (focus fail "pk"))
  | (with_reducible exact U.pk_nil))
local macro_rules | `(tactic| fail "at") => `(tactic| first
  | (with_reducible assumption)
  | ((with_reducible apply L2.atI_nat); (focus assumption))
  | rfl)
local macro_rules | `(tactic| fail "sz") => `(tactic| first
  | assumption
  | decide
  | (simp only [List.length_cons, List.length_nil]; decide)
  | (show _ < (16777216 : Nat); omega)
  | (show _ ≤ (16777216 : Nat); omega))
local macro_rules | `(tactic| fail "lf") => `(tactic| first
  | (with_reducible exact U.lf_addI)
  | (with_reducible exact U.lf_sub)
  | (with_reducible exact U.lf_eqI)
  | (with_reducible exact U.lf_eqS)
  | (with_reducible exact U.lf_neI)
  | (with_reducible exact U.lf_neS)
  | (with_reducible exact U.lf_lt)
  | (with_reducible exact U.lf_le)
  | (with_reducible exact U.lf_gt)
  | (with_reducible exact U.lf_ge)
  | (with_reducible exact U.lf_isN)
  | (with_reducible exact U.lf_notN)
  | ((with_reducible apply U.lf_ixT); (focus fail "hq"); (focus fail "at"))
  | ((with_reducible apply U.lf_ixL); (focus fail "hq"); (focus fail "at"))
  | ((with_reducible apply U.lf_ixD); (focus fail "hq"); (focus fail "vv"))
  | ((with_reducible apply U.lf_inD); (focus fail "hq"))
  | ((with_reducible apply U.lf_notInD); (focus fail "hq"))
  | ((with_reducible apply U.lf_inL); (focus fail "hq"))
  | ((with_reducible apply U.lf_notInL); (focus fail "hq"))
  | (with_reducible exact U.lf_inS)
  | (with_reducible exact U.lf_notInS)
  | ((with_reducible apply U.lf_mod); (focus first | assumption | decide | omega))
  | ((with_reducible apply U.lf_mul); (focus first | assumption | ((apply U.mul64); (focus decide); (focus decide)) | ((apply U.mul64); (focus omega); (focus omega))))
  | ((with_reducible apply U.lf_div); (focus first | assumption | exact ⟨by decide, by decide +kernel⟩))
  | ((with_reducible apply U.lf_pow); (focus exact ⟨by decide, by decide, by decide⟩))
  | ((with_reducible apply U.lf_addS); (focus first | assumption | (show _ ≤ (16777216 : Nat); omega)))
  | (with_reducible assumption))
local macro_rules | `(tactic| fail "lc") => `(tactic| first
  | ((with_reducible apply U.lc_lenUL); (focus fail "hq"))
  | ((with_reducible apply U.lc_lenUT); (focus fail "hq"))
  | ((with_reducible apply U.lc_lenUD); (focus fail "hq"))
  | ((with_reducible apply U.lc_lenUS); (focus fail "sz"))
  | (with_reducible exact U.lc_intB)
  | (with_reducible exact U.lc_max)
  | (with_reducible exact U.lc_min)
  | ((with_reducible apply U.lc_lenUq); assumption)
  | ((with_reducible apply U.lc_isiL); (focus fail "hq"))
  | ((with_reducible apply U.lc_isiT); (focus fail "hq"))
  | (with_reducible exact U.lc_isiSb)
  | (with_reducible exact U.lc_isiIb)
  | (with_reducible assumption))
local macro_rules | `(tactic| fail "va") => `(tactic| first
  | (with_reducible exact U.va_nil)
  | ((with_reducible apply U.va_cons); (focus fail "vt"); (focus fail "va")))
local macro_rules | `(tactic| fail "vt") => `(tactic| first
  | (with_reducible assumption)
  | (with_reducible exact U.val_c)
  | exact U.val_var rfl
  | ((with_reducible apply U.val_op); (focus fail "vt"); (focus fail "vt"); (focus fail "lf"))
  | ((with_reducible apply U.val_fld); (focus fail "vt"); (focus fail "hq"); (focus fail "lk"))
  | ((with_reducible apply U.val_cb); (focus fail "va"); (focus fail "lc"))
  | ((with_reducible apply U.val_get1); (focus fail "vt"); (focus fail "vt"); (focus fail "hq"))
  | ((with_reducible apply U.val_notV); (focus fail "vt"))
  | ((with_reducible apply U.val_andV); (focus fail "vt"); (intro _; fail "vt"))
  | ((with_reducible apply U.val_orV); (focus fail "vt"); (intro _; fail "vt"))
  | ((with_reducible apply U.val_un); (focus fail "vt"); (focus with_reducible exact U.l1_neg)))
local macro_rules | `(tactic| fail "an") => `(tactic| first
  | (with_reducible assumption)
  | ((with_reducible apply U.ans_T); fail "vt")
  | ((with_reducible apply U.ans_B); fail "vt")
  | ((with_reducible apply U.ans_not); fail "an")
  | ((with_reducible apply U.ans_and); (focus fail "an"); (intro _; fail "an"))
  | ((with_reducible apply U.ans_or); (focus fail "an"); (intro _; fail "an")))
local macro_rules | `(tactic| fail "put") => `(tactic| first
  | fail "pk"
  | ((apply Law.im_put); (focus assumption))
  | ((apply Law.sm_put); (focus assumption)))
local macro_rules | `(tactic| fail "st") => `(tactic| first
  | (with_reducible refine U.st_seq ?_)
  | ((with_reducible apply U.st_asg); (focus fail "vt"); (try dsimp only [List.set]))
  | ((with_reducible apply U.st_ret); (focus fail "vt"); (try dsimp only))
  | ((with_reducible apply U.st_fld); (focus fail "vt"); (focus fail "vt"); (focus fail "hq"); (focus fail "sz"); (focus fail "pf"); (try dsimp only))
  | ((with_reducible apply U.st_fld1); (focus fail "vt"); (focus fail "hq"); (focus fail "sz"); (focus fail "pf"); (try dsimp only))
  | ((with_reducible apply U.st_untup); (focus fail "vt"); (focus fail "hq"); (focus rfl))
  | ((with_reducible refine U.st_gcons ?_); (try dsimp only))
  | ((with_reducible refine U.st_gname ?_); (try dsimp only [List.set]))
  | ((with_reducible refine U.st_gnil ?_); (try dsimp only))
  | ((with_reducible apply U.st_gf); (focus fail "vt"); (focus fail "hq"); (focus fail "sz"); (focus fail "pf"); (try dsimp only))
  | ((with_reducible refine U.st_next ?_); (try dsimp only))
  | (with_reducible refine U.st_drop ?_)
  | ((with_reducible apply U.st_append); (focus fail "vt"); (focus fail "hq"); (focus fail "vt"); (focus fail "sz"); (try dsimp only))
  | ((with_reducible apply U.st_setDL); (focus fail "vt"); (focus fail "vt"); (focus fail "vt"); (focus fail "hq"); (focus fail "sz"); (focus fail "put"); (try dsimp only))
  | ((with_reducible apply U.st_set1); (focus fail "vt"); (focus fail "vt"); (focus fail "hq"); (focus fail "sz"); (focus fail "put"); (try dsimp only))
  | ((with_reducible apply U.st_call); (focus fail "va"))
  | ((with_reducible apply U.st_methV); (focus fail "vt"); (focus fail "hq"); (focus fail "lk"); (focus fail "va"))
  | (with_reducible refine U.st_fldE ?_)
  | (with_reducible refine U.st_setE ?_)
  | (with_reducible refine U.st_asgC ?_)
  | (with_reducible refine U.st_retC ?_)
  | ((with_reducible refine U.st_dnew ?_); (intro p hp); (try dsimp only))
  | ((with_reducible apply U.st_tup); (focus fail "va"); (focus fail "sz"); (intro p hp); (try dsimp only))
  | ((with_reducible apply U.st_lst); (focus fail "va"); (focus fail "sz"); (intro p hp); (try dsimp only))
  | ((with_reducible apply U.st_listOf); (focus fail "va"); (focus fail "hq"); (intro p hp); (try dsimp only))
  | ((with_reducible apply U.st_dictOf); (focus fail "va"); (focus fail "hq"); (intro p hp); (try dsimp only))
  | ((with_reducible apply U.st_apE); (focus fail "vt"); (focus fail "hq"))
  | ((with_reducible apply U.st_ap1); (focus fail "hq"); (focus fail "sz"); (try dsimp only)))
local macro_rules | `(tactic| fail "go") => `(tactic| repeat fail "st")
/-! words: "cp", one step of the general way; "cgo" -/
local macro_rules | `(tactic| fail "cp") => `(tactic| first
  | ((with_reducible apply U.st_val); (focus fail "vt"); (try dsimp only))
  | ((with_reducible apply U.st_vals); (focus fail "va"); (try dsimp only))
  | (with_reducible refine U.st_opC ?_)
  | (with_reducible refine U.st_consC ?_)
  | (with_reducible refine U.st_nilC ?_)
  | ((with_reducible apply U.st_lf); (focus fail "lf"); (try dsimp only))
  | ((with_reducible apply U.st_mkEnd); (focus fail "sz"); (intro p hp); (try dsimp only))
  | ((with_reducible apply U.st_gset); (focus fail "vt"); (focus fail "vt"); (focus fail "hq"); (focus fail "sz"); (focus fail "put"); (try dsimp only))
  | fail "st"
  | ((with_reducible apply U.st_cat); (focus fail "hq"); (focus fail "hq"); (focus fail "sz"); (intro p hp); (try dsimp only))
  | (with_reducible refine U.st_tupC ?_)
  | (with_reducible refine U.st_lstC ?_)
  | (with_reducible refine U.st_callC ?_)
  | (with_reducible refine U.st_cbC ?_))
local macro_rules | `(tactic| fail "cgo") => `(tactic| repeat fail "cp")

namespace Law
open PySem PySem.Spec PyProof.Rows L2 U
section
variable {β γ : Type}
def putA (l : List (Str × β)) (x : Str) (v : β) : List (Str × β) := if (l.any fun p => decide (p.1 = x)) = true then l.map (fun p => if p.1 = x then (p.1, v) else p) else l ++ [(x, v)]
def dropA (l : List (Str × β)) (x : Str) : List (Str × β) := l.filter fun p => decide (p.1 ≠ x)
theorem dec_inr {a b : Str} : decide ((Sum.inr a : Key) = Sum.inr b) = decide (a = b) := by
  by_cases h : a = b
  · rw [h]; simp
  · rw [decide_eq_false h, decide_eq_false (fun z => h (Sum.inr.inj z))]
theorem putA_key (g : β → V) (l : List (Str × β)) (x : Str) (v : β) : (putA l x v).map (fun p => ((Sum.inr p.1 : Key), g p.2)) = putK (l.map fun p => ((Sum.inr p.1 : Key), g p.2)) (Sum.inr x) (g v) := by
  unfold putA putK
  rw [List.any_map]
  have e : ((fun kv : Key × V => decide (kv.1 = Sum.inr x)) ∘ fun p : Str × β => ((Sum.inr p.1 : Key), g p.2)) = fun p => decide (p.1 = x) := funext fun p => dec_inr
  rw [e]
  split
  · rw [List.map_map, List.map_map]
    refine List.map_congr_left fun p _ => ?_
    show ((Sum.inr (if p.1 = x then (p.1, v) else p).1 : Key), g (if p.1 = x then (p.1, v) else p).2) = if (Sum.inr p.1 : Key) = Sum.inr x then (Sum.inr p.1, g v) else (Sum.inr p.1, g p.2)
    by_cases h : p.1 = x
    · rw [if_pos h, if_pos (congrArg _ h)]
    · rw [if_neg h, if_neg (fun z => h (Sum.inr.inj z))]
  · rw [List.map_append]; rfl
theorem putA_map (g : β → γ) (l : List (Str × β)) (x : Str) (v : β) : (putA l x v).map (fun p => (p.1, g p.2)) = putA (l.map fun p => (p.1, g p.2)) x (g v) := by
  unfold putA
  rw [List.any_map]
  have e : ((fun p : Str × γ => decide (p.1 = x)) ∘ fun p : Str × β => (p.1, g p.2)) = fun p => decide (p.1 = x) := rfl
  rw [e]
  split
  · rw [List.map_map, List.map_map]
    refine List.map_congr_left fun p _ => ?_
    show ((if p.1 = x then (p.1, v) else p).1, g (if p.1 = x then (p.1, v) else p).2) = if p.1 = x then (p.1, g v) else (p.1, g p.2)
    by_cases h : p.1 = x
    · rw [if_pos h, if_pos h]
    · rw [if_neg h, if_neg h]
  · rw [List.map_append]; rfl
theorem dropA_key (g : β → V) (l : List (Str × β)) (x : Str) : (dropA l x).map (fun p => ((Sum.inr p.1 : Key), g p.2)) = dropK (l.map fun p => ((Sum.inr p.1 : Key), g p.2)) (Sum.inr x) := by
  unfold dropA dropK
  rw [List.filter_map]
  congr 1
  refine List.filter_congr fun p _ => ?_
  show decide (p.1 ≠ x) = decide ((Sum.inr p.1 : Key) ≠ Sum.inr x)
  by_cases h : p.1 = x <;> simp [h]
theorem dropA_map (g : β → γ) (l : List (Str × β)) (x : Str) : (dropA l x).map (fun p => (p.1, g p.2)) = dropA (l.map fun p => (p.1, g p.2)) x := by
  unfold dropA
  rw [List.filter_map]
  rfl
theorem putA_mem {l : List (Str × β)} {x : Str} {v : β} {p : Str × β} (h : p ∈ putA l x v) : p = (x, v) ∨ (p ∈ l ∧ p.1 ≠ x) := by
  unfold putA at h
  split at h
  · obtain ⟨q, hq, e⟩ := List.mem_map.mp h
    by_cases z : q.1 = x
    · rw [if_pos z] at e; left; rw [← e, z]
    · rw [if_neg z] at e; right; rw [← e]; exact ⟨hq, z⟩
  · rename_i n
    rcases List.mem_append.mp h with m | m
    · right
      refine ⟨m, fun z => n ?_⟩
      exact List.any_eq_true.mpr ⟨p, m, by simpa using z⟩
    · left; exact List.mem_singleton.mp m
theorem putA_keys {l : List (Str × β)} {x : Str} {v : β} : (putA l x v).map (·.1) = if x ∈ l.map (·.1) then l.map (·.1) else l.map (·.1) ++ [x] := by
  unfold putA
  by_cases h : x ∈ l.map (·.1)
  · obtain ⟨q, hq, e⟩ := List.mem_map.mp h
    rw [if_pos h, if_pos (List.any_eq_true.mpr ⟨q, hq, by simpa using e⟩), List.map_map]
    refine List.map_congr_left fun p _ => ?_
    show (if p.1 = x then (p.1, v) else p).1 = p.1
    split <;> rfl
  · rw [if_neg h, if_neg, List.map_append]
    · rfl
    · intro z
      obtain ⟨q, hq, e⟩ := List.any_eq_true.mp z
      exact h (List.mem_map.mpr ⟨q, hq, by simpa using e⟩)
theorem putA_nd {l : List (Str × β)} {x : Str} {v : β} (h : (l.map (·.1)).Nodup) : ((putA l x v).map (·.1)).Nodup := by
  rw [putA_keys]
  split
  · exact h
  · rename_i n
    rw [List.nodup_append]
    exact ⟨h, by simp, fun a ha b hb z => n (by rw [List.mem_singleton.mp hb] at z; rw [← z]; exact ha)⟩
theorem dropA_nd {l : List (Str × β)} {x : Str} (h : (l.map (·.1)).Nodup) : ((dropA l x).map (·.1)).Nodup := h.sublist (List.Sublist.map _ List.filter_sublist)
theorem putA_len {l : List (Str × β)} {x : Str} {v : β} : (putA l x v).length ≤ l.length + 1 := by
  unfold putA
  split
  · rw [List.length_map]; exact Nat.le_succ _
  · simp
theorem dropA_len {l : List (Str × β)} {x : Str} : (dropA l x).length ≤ l.length := List.length_filter_le _ _
theorem lookup_of_mem {l : List (Str × β)} {x : Str} {v : β} (h : (l.map (·.1)).Nodup) (m : (x, v) ∈ l) : l.lookup x = some v := by
  induction l with
  | nil => cases m
  | cons p l ih =>
    obtain ⟨y, w⟩ := p
    rw [List.map_cons, List.nodup_cons] at h
    rcases List.mem_cons.mp m with e | m
    · cases e
      simp [List.lookup]
    · have ne : x ≠ y := fun z => h.1 (by rw [← z]; exact List.mem_map.mpr ⟨_, m, rfl⟩)
      have e' : (x == y) = false := by simpa using ne
      simp only [List.lookup, e']
      exact ih h.2 m
theorem putA_has {l : List (Str × β)} {x y : Str} {v : β} : ((putA l x v).lookup y).isSome = true ↔ y = x ∨ (l.lookup y).isSome = true := by
  have key : ∀ {l : List (Str × β)}, (l.lookup y).isSome = true ↔ y ∈ l.map (·.1) := by
    intro l
    refine ⟨fun h => ?_, lookup_isSome⟩
    obtain ⟨v, e⟩ := Option.isSome_iff_exists.mp h
    exact List.mem_map.mpr ⟨_, lookup_memR e, rfl⟩
  rw [key, key, putA_keys]
  split
  · exact ⟨.inr, fun q => q.elim (fun z => z ▸ by assumption) id⟩
  · rw [List.mem_append, List.mem_singleton]
    exact ⟨fun q => q.symm, fun q => q.symm⟩
theorem dropA_has {l : List (Str × β)} {x y : Str} : ((dropA l x).lookup y).isSome = true ↔ y ≠ x ∧ (l.lookup y).isSome = true := by
  have key : ∀ {l : List (Str × β)}, (l.lookup y).isSome = true ↔ y ∈ l.map (·.1) := by
    intro l
    refine ⟨fun h => ?_, lookup_isSome⟩
    obtain ⟨v, e⟩ := Option.isSome_iff_exists.mp h
    exact List.mem_map.mpr ⟨_, lookup_memR e, rfl⟩
  rw [key, key]
  unfold dropA
  constructor
  · intro h
    obtain ⟨q, hq, e⟩ := List.mem_map.mp h
    obtain ⟨h1, h2⟩ := List.mem_filter.mp hq
    subst e
    exact ⟨by simpa using h2, List.mem_map.mpr ⟨q, h1, rfl⟩⟩
  · rintro ⟨h1, h2⟩
    obtain ⟨q, hq, e⟩ := List.mem_map.mp h2
    subst e
    exact List.mem_map.mpr ⟨q, List.mem_filter.mpr ⟨hq, by simpa using h1⟩, rfl⟩
end
/-! a dict of recipes, entry by entry -/
def RdAt (H : Hp) (r : Addr) (R : List (Str × Rc)) : Prop := ∃ L : List (Str × Rc × V), H r = some (.dK (L.map fun p => ((Sum.inr p.1 : Key), p.2.2))) ∧ R = (L.map fun p => (p.1, p.2.1)) ∧ ∀ p ∈ L, Rp H p.2.1.t p.2.2
theorem rdAt_rp {H : Hp} {r : Addr} {R : List (Str × Rc)} (h : RdAt H r R) : Rp H (rcsT R) (.ref r) := by
  obtain ⟨L, h1, rfl, h2⟩ := h
  refine ⟨r, L.map fun p => p.2.2, rfl, ?_, ?_, ?_⟩
  · rw [h1]
    congr 2
    clear h1 h2
    induction L with
    | nil => rfl
    | cons p L ih => exact congrArg (_ :: ·) ih
  · rw [List.length_map, List.length_map, List.length_map]
  · clear h1
    induction L with
    | nil => rfl
    | cons p L ih => exact ⟨_, _, rfl, h2 p List.mem_cons_self, ih fun q m => h2 q (List.mem_cons_of_mem _ m)⟩
theorem rp_rdAt {H : Hp} {r : Addr} {R : List (Str × Rc)} (h : Rp H (rcsT R) (.ref r)) : RdAt H r R := by
  obtain ⟨r', vs, e, h1, h2, h3⟩ := h
  cases e
  have k : ∀ (R : List (Str × Rc)) (vs : List V), RpL H (R.map fun p => p.2.t) vs → ∃ L : List (Str × Rc × V), (R.map fun p => (Sum.inr p.1 : Key)).zip vs = (L.map fun p => ((Sum.inr p.1 : Key), p.2.2)) ∧ R = (L.map fun p => (p.1, p.2.1)) ∧ ∀ p ∈ L, Rp H p.2.1.t p.2.2 := by
    intro R
    induction R with
    | nil => intro vs _; exact ⟨[], by simp, rfl, fun _ m => by cases m⟩
    | cons p R ih =>
      intro vs h
      obtain ⟨x, xs, rfl, hx, hr⟩ := h
      obtain ⟨L, e1, e2, e3⟩ := ih xs hr
      refine ⟨(p.1, p.2, x) :: L, ?_, ?_, fun q m => ?_⟩
      · exact congrArg (((Sum.inr p.1 : Key), x) :: ·) e1
      · rw [List.map_cons, ← e2]
      · rcases List.mem_cons.mp m with rfl | m
        · exact hx
        · exact e3 q m
  obtain ⟨L, e1, e2, e3⟩ := k R vs h3
  exact ⟨L, by rw [h1, e1], e2, e3⟩
theorem RdAt.fr {F : List Addr} {H H' : Hp} {r : Addr} {R : List (Str × Rc)} (f : Fr F H H') (h : RdAt H r R) (n : r ∉ F) : RdAt H' r R := by
  obtain ⟨L, h1, h2, h3⟩ := h
  exact ⟨L, f.keep _ _ h1 n, h2, fun p m => rp_fr f (h3 p m)⟩
/-- a recipe put -/
theorem RdAt.put {H : Hp} {r : Addr} {R : List (Str × Rc)} {x : Str} {rc : Rc} {v : V} (h : RdAt H r R) (hv : Rp H rc.t v) : ∃ kvs, H r = some (.dK kvs) ∧ kvs.length = R.length ∧ RdAt (upd H r (.dK (putK kvs (.inr x) v))) r (putA R x rc) := by
  obtain ⟨L, h1, rfl, h3⟩ := h
  have f : Fr [r] H (upd H r (.dK (putK (L.map fun p => ((Sum.inr p.1 : Key), p.2.2)) (.inr x) v))) := Fr.upd (Fr.refl H) h1 rfl (.inl List.mem_cons_self)
  refine ⟨_, h1, by rw [List.length_map, List.length_map], putA L x (rc, v), ?_, ?_, ?_⟩
  · rw [upd_same, putA_key (fun p : Rc × V => p.2)]
  · rw [putA_map (fun p : Rc × V => p.1)]
  · intro p m
    rcases putA_mem m with rfl | ⟨m, _⟩
    · exact rp_fr f hv
    · exact rp_fr f (h3 p m)
theorem RdAt.drop {H : Hp} {r : Addr} {R : List (Str × Rc)} {x : Str} (h : RdAt H r R) : ∃ kvs, H r = some (.dK kvs) ∧ RdAt (upd H r (.dK (dropK kvs (.inr x)))) r (dropA R x) := by
  obtain ⟨L, h1, rfl, h3⟩ := h
  have f : Fr [r] H (upd H r (.dK (dropK (L.map fun p => ((Sum.inr p.1 : Key), p.2.2)) (.inr x)))) := Fr.upd (Fr.refl H) h1 rfl (.inl List.mem_cons_self)
  refine ⟨_, h1, dropA L x, ?_, ?_, ?_⟩
  · rw [upd_same, dropA_key (fun p : Rc × V => p.2)]
  · rw [dropA_map (fun p : Rc × V => p.1)]
  · intro p m
    exact rp_fr f (h3 p ((List.mem_filter.mp m).1))
theorem im_putA (G : List (Str × Int)) (x : Str) (n : Int) : putK (im G) (.inr x) (.int n) = im (putA G x n) := (putA_key V.int G x n).symm
theorem im_dropA (G : List (Str × Int)) (x : Str) : dropK (im G) (.inr x) = im (dropA G x) := (dropA_key V.int G x).symm
theorem RdAt.nil {H : Hp} {r : Addr} (h : H r = some (.dK [])) : RdAt H r [] := ⟨[], h, rfl, fun _ m => by cases m⟩
theorem putA_new {β : Type} {l : List (Str × β)} {x : Str} {v : β} (h : x ∉ l.map (·.1)) : putA l x v = l ++ [(x, v)] := by
  unfold putA
  rw [if_neg]
  intro z
  obtain ⟨q, hq, e⟩ := List.any_eq_true.mp z
  exact h (List.mem_map.mpr ⟨q, hq, by simpa using e⟩)
end Law

end
section
set_option maxHeartbeats 4000000
/-! words: fail "le", "hq" (what stands at an address), "ne" (two addresses differ), "fn" (an address is new to an older heap), "al" (places of a frame), "ni", "frm" (a frame) -/
local macro_rules | `(tactic| fail "le") => `(tactic| first
  | (with_reducible exact U.Le.refl _)
  | ((with_reducible refine U.Le.upd ?_); fail "le")
  | ((with_reducible apply U.Le.fr); (rotate_left 1); (focus assumption); (focus fail "le")))
local macro_rules | `(tactic| fail "fn") => `(tactic| first
  | assumption
  | ((with_reducible apply U.none_le); (rotate_left 1); (focus assumption); (focus fail "le")))
local macro_rules | `(tactic| fail "hq") => `(tactic| first
  | (with_reducible assumption)
  | (with_reducible exact L2.upd_same)
  | ((with_reducible apply U.look_upd); (focus fail "hq"); (focus fail "ne"))
  | ((with_reducible apply U.look_fr); (focus assumption); (focus fail "hq"); (focus fail "ni"))
  | ((with_reducible apply U.look_tup); (focus assumption); (focus fail "hq")))
local macro_rules | `(tactic| fail "hx") => `(tactic| first
  | fail "hq"
  | ((with_reducible apply U.hq_to); (focus fail "hq"); (focus rfl)))
local macro_rules | `(tactic| fail "ni") => `(tactic| first
  | (with_reducible exact U.ni_nil)
  | ((with_reducible refine U.ni_cons ?_ ?_); (focus fail "ne"); (focus fail "ni"))
  | assumption)
local macro_rules | `(tactic| fail "ne") => `(tactic| first
  | (with_reducible assumption)
  | ((with_reducible apply Ne.symm); (focus assumption))
  | ((with_reducible apply U.ne_new); (focus with_reducible assumption); (focus fail "hq"))
  | ((with_reducible apply U.ne_new'); (focus with_reducible assumption); (focus fail "hq"))
  | ((with_reducible apply L2.ne_of); (focus with_reducible assumption); (focus fail "hq"); (focus (intro z; cases z))))
local macro_rules | `(tactic| fail "mem") => `(tactic| first
  | (with_reducible exact U.mem_hd)
  | ((with_reducible refine U.mem_tl ?_); fail "mem")
  | assumption)
local macro_rules | `(tactic| fail "in") => `(tactic| first
  | ((with_reducible apply Or.inl); (focus fail "mem"))
  | ((with_reducible apply Or.inr); (focus fail "fn")))
local macro_rules | `(tactic| fail "al") => `(tactic| first
  | (with_reducible exact U.al_nil)
  | ((with_reducible refine U.al_cons ?_ ?_); (focus fail "in"); (focus fail "al"))
  | assumption)
local macro_rules | `(tactic| fail "frm") => `(tactic| first
  | (with_reducible exact U.Fr.refl _)
  | (with_reducible assumption)
  | ((with_reducible apply U.fr_new); (focus assumption); (focus fail "frm"))
  | ((with_reducible apply U.fr_upd); (focus fail "hq"); (focus rfl); (focus fail "in"); (focus fail "frm"))
  | ((with_reducible apply U.fr_call); (focus assumption); (focus fail "frm"); (focus fail "al")))
local macro_rules | `(tactic| fail "sne") => `(tactic| first
  | assumption
  | decide +kernel
  | ((with_reducible apply U.inr_ne); (focus fail "sne"))
  | ((with_reducible apply Ne.symm); (focus assumption)))
local macro_rules | `(tactic| fail "lk") => `(tactic| first
  | (with_reducible exact U.lk_hit)
  | ((with_reducible apply U.lk_miss); (focus fail "sne"); (focus fail "lk"))
  | (with_reducible exact U.lk_nil)
  | assumption)
local macro_rules | `(tactic| fail "pf") => `(tactic| first
  | (with_reducible exact U.pf_hit)
  | ((with_reducible apply U.pf_miss); (focus fail "sne"); (focus fail "pf"))
  | (with_reducible exact U.pf_nil))
local macro_rules | `(tactic| fail "vv") => `(tactic| first
  | (with_reducible assumption)
  | (with_reducible exact U.vv_hit)
  | ((with_reducible apply U.vv_miss); (focus fail "sne"); (focus fail "vv"))
  | (with_reducible exact U.vv_nil))
local macro_rules | `(tactic| fail "nk") => `(tactic| first
  | (with_reducible exact U.nk_nil)
  | ((with_reducible apply U.nk_cons); (focus fail "sne"); (focus fail "nk")))
local macro_rules | `(tactic| fail "pk") => `(tactic| first
  | ((with_reducible apply U.pk_hit); fail "nk")
  | ((with_reducible apply U.pk_miss); (focus fail "sne"); (focus fail "pk"))
  | (with_reducible exact U.pk_nil))
local macro_rules | `(tactic| fail "at") => `(tactic| first
  | (with_reducible assumption)
  | ((with_reducible apply L2.atI_nat); (focus assumption))
  | rfl)
local macro_rules | `(tactic| fail "sz") => `(tactic| first
  | assumption
  | decide
  | (simp only [List.length_cons, List.length_nil]; decide)
  | (show _ < (16777216 : Nat); omega)
  | (show _ ≤ (16777216 : Nat); omega))
local macro_rules | `(tactic| fail "lf") => `(tactic| first
  | (with_reducible exact U.lf_addI)
  | (with_reducible exact U.lf_sub)
  | (with_reducible exact U.lf_eqI)
  | (with_reducible exact U.lf_eqS)
  | (with_reducible exact U.lf_neI)
  | (with_reducible exact U.lf_neS)
  | (with_reducible exact U.lf_lt)
  | (with_reducible exact U.lf_le)
  | (with_reducible exact U.lf_gt)
  | (with_reducible exact U.lf_ge)
  | (with_reducible exact U.lf_isN)
  | (with_reducible exact U.lf_notN)
  | ((with_reducible apply U.lf_ixT); (focus fail "hq"); (focus fail "at"))
  | ((with_reducible apply U.lf_ixL); (focus fail "hq"); (focus fail "at"))
  | ((with_reducible apply U.lf_ixD); (focus fail "hq"); (focus fail "vv"))
  | ((with_reducible apply U.lf_inD); (focus fail "hq"))
  | ((with_reducible apply U.lf_notInD); (focus fail "hq"))
  | ((with_reducible apply U.lf_inL); (focus fail "hq"))
  | ((with_reducible apply U.lf_notInL); (focus fail "hq"))
  | (with_reducible exact U.lf_inS)
  | (with_reducible exact U.lf_notInS)
  | ((with_reducible apply U.lf_mod); (focus first | assumption | decide | omega))
  | ((with_reducible apply U.lf_mul); (focus first | assumption | ((apply U.mul64); (focus decide); (focus decide)) | ((apply U.mul64); (focus omega); (focus omega))))
  | ((with_reducible apply U.lf_div); (focus first | assumption | exact ⟨by decide, by decide +kernel⟩))
  | ((with_reducible apply U.lf_pow); (focus exact ⟨by decide, by decide, by decide⟩))
  | ((with_reducible apply U.lf_addS); (focus first | assumption | (show _ ≤ (16777216 : Nat); omega)))
  | (with_reducible assumption))
local macro_rules | `(tactic| fail "lc") => `(tactic| first
  | ((with_reducible apply U.lc_lenUL); (focus fail "hq"))
  | ((with_reducible apply U.lc_lenUT); (focus fail "hq"))
  | ((with_reducible apply U.lc_lenUD); (focus fail "hq"))
  | ((with_reducible apply U.lc_lenUS); (focus fail "sz"))
  | (with_reducible exact U.lc_intB)
  | (with_reducible exact U.lc_max)
  | (with_reducible exact U.lc_min)
  | ((with_reducible apply U.lc_lenUq); assumption)
  | ((with_reducible apply U.lc_isiL); (focus fail "hq"))
  | ((with_reducible apply U.lc_isiT); (focus fail "hq"))
  | (with_reducible exact U.lc_isiSb)
  | (with_reducible exact U.lc_isiIb)
  | (with_reducible assumption))
local macro_rules | `(tactic| fail "va") => `(tactic| first
  | (with_reducible exact U.va_nil)
  | ((with_reducible apply U.va_cons); (focus fail "vt"); (focus fail "va")))
local macro_rules | `(tactic| fail "vt") => `(tactic| first
  | (with_reducible assumption)
  | (with_reducible exact U.val_c)
  | exact U.val_var rfl
  | ((with_reducible apply U.val_op); (focus fail "vt"); (focus fail "vt"); (focus fail "lf"))
  | ((with_reducible apply U.val_fld); (focus fail "vt"); (focus fail "hq"); (focus fail "lk"))
  | ((with_reducible apply U.val_cb); (focus fail "va"); (focus fail "lc"))
  | ((with_reducible apply U.val_get1); (focus fail "vt"); (focus fail "vt"); (focus fail "hq"))
  | ((with_reducible apply U.val_notV); (focus fail "vt"))
  | ((with_reducible apply U.val_andV); (focus fail "vt"); (intro _; fail "vt"))
  | ((with_reducible apply U.val_orV); (focus fail "vt"); (intro _; fail "vt"))
  | ((with_reducible apply U.val_un); (focus fail "vt"); (focus with_reducible exact U.l1_neg)))
local macro_rules | `(tactic| fail "an") => `(tactic| first
  | (with_reducible assumption)
  | ((with_reducible apply U.ans_T); fail "vt")
  | ((with_reducible apply U.ans_B); fail "vt")
  | ((with_reducible apply U.ans_not); fail "an")
  | ((with_reducible apply U.ans_and); (focus fail "an"); (intro _; fail "an"))
  | ((with_reducible apply U.ans_or); (focus fail "an"); (intro _; fail "an")))
local macro_rules | `(tactic| fail "put") => `(tactic| first
  | fail "pk"
  | ((apply Law.im_put); (focus assumption))
  | ((apply Law.sm_put); (focus assumption)))
local macro_rules | `(tactic| fail "st") => `(tactic| first
  | (with_reducible refine U.st_seq ?_)
  | ((with_reducible apply U.st_asg); (focus fail "vt"); (try dsimp only [List.set]))
  | ((with_reducible apply U.st_ret); (focus fail "vt"); (try dsimp only))
  | ((with_reducible apply U.st_fld); (focus fail "vt"); (focus fail "vt"); (focus fail "hq"); (focus fail "sz"); (focus fail "pf"); (try dsimp only))
  | ((with_reducible apply U.st_fld1); (focus fail "vt"); (focus fail "hq"); (focus fail "sz"); (focus fail "pf"); (try dsimp only))
  | ((with_reducible apply U.st_untup); (focus fail "vt"); (focus fail "hq"); (focus rfl))
  | ((with_reducible refine U.st_gcons ?_); (try dsimp only))
  | ((with_reducible refine U.st_gname ?_); (try dsimp only [List.set]))
  | ((with_reducible refine U.st_gnil ?_); (try dsimp only))
  | ((with_reducible apply U.st_gf); (focus fail "vt"); (focus fail "hq"); (focus fail "sz"); (focus fail "pf"); (try dsimp only))
  | ((with_reducible refine U.st_next ?_); (try dsimp only))
  | (with_reducible refine U.st_drop ?_)
  | ((with_reducible apply U.st_append); (focus fail "vt"); (focus fail "hq"); (focus fail "vt"); (focus fail "sz"); (try dsimp only))
  | ((with_reducible apply U.st_setDL); (focus fail "vt"); (focus fail "vt"); (focus fail "vt"); (focus fail "hq"); (focus fail "sz"); (focus fail "put"); (try dsimp only))
  | ((with_reducible apply U.st_set1); (focus fail "vt"); (focus fail "vt"); (focus fail "hq"); (focus fail "sz"); (focus fail "put"); (try dsimp only))
  | ((with_reducible apply U.st_call); (focus fail "va"))
  | ((with_reducible apply U.st_methV); (focus fail "vt"); (focus fail "hq"); (focus fail "lk"); (focus fail "va"))
  | (with_reducible refine U.st_fldE ?_)
  | (with_reducible refine U.st_setE ?_)
  | (with_reducible refine U.st_asgC ?_)
  | (with_reducible refine U.st_retC ?_)
  | ((with_reducible refine U.st_dnew ?_); (intro p hp); (try dsimp only))
  | ((with_reducible apply U.st_tup); (focus fail "va"); (focus fail "sz"); (intro p hp); (try dsimp only))
  | ((with_reducible apply U.st_lst); (focus fail "va"); (focus fail "sz"); (intro p hp); (try dsimp only))
  | ((with_reducible apply U.st_listOf); (focus fail "va"); (focus fail "hq"); (intro p hp); (try dsimp only))
  | ((with_reducible apply U.st_dictOf); (focus fail "va"); (focus fail "hq"); (intro p hp); (try dsimp only))
  | ((with_reducible apply U.st_apE); (focus fail "vt"); (focus fail "hq"))
  | ((with_reducible apply U.st_ap1); (focus fail "hq"); (focus fail "sz"); (try dsimp only)))
local macro_rules | `(tactic| fail "go") => `(tactic| repeat fail "st")
/-! words: "cp", one step of the general way; "cgo" -/
local macro_rules | `(tactic| fail "cp") => `(tactic| first
  | ((with_reducible apply U.st_val); (focus fail "vt"); (try dsimp only))
  | ((with_reducible apply U.st_vals); (focus fail "va"); (try dsimp only))
  | (with_reducible refine U.st_opC ?_)
  | (with_reducible refine U.st_consC ?_)
  | (with_reducible refine U.st_nilC ?_)
  | ((with_reducible apply U.st_lf); (focus fail "lf"); (try dsimp only))
  | ((with_reducible apply U.st_mkEnd); (focus fail "sz"); (intro p hp); (try dsimp only))
  | ((with_reducible apply U.st_gset); (focus fail "vt"); (focus fail "vt"); (focus fail "hq"); (focus fail "sz"); (focus fail "put"); (try dsimp only))
  | fail "st"
  | ((with_reducible apply U.st_cat); (focus fail "hq"); (focus fail "hq"); (focus fail "sz"); (intro p hp); (try dsimp only))
  | (with_reducible refine U.st_tupC ?_)
  | (with_reducible refine U.st_lstC ?_)
  | (with_reducible refine U.st_callC ?_)
  | (with_reducible refine U.st_cbC ?_))
local macro_rules | `(tactic| fail "cgo") => `(tactic| repeat fail "cp")

namespace Law
open PySem PySem.Spec PyProof.Rows L2 U
theorem putA_lk {β : Type} {l : List (Str × β)} {x y : Str} {v w : β} (nd : (l.map (·.1)).Nodup) (h : (putA l x v).lookup y = some w) : (y = x ∧ w = v) ∨ l.lookup y = some w := by
  rcases putA_mem (lookup_memR h) with e | ⟨m, _⟩
  · cases e; exact .inl ⟨rfl, rfl⟩
  · exact .inr (lookup_of_mem nd m)
theorem dropA_lk {β : Type} {l : List (Str × β)} {x y : Str} {w : β} (nd : (l.map (·.1)).Nodup) (h : (dropA l x).lookup y = some w) : l.lookup y = some w := lookup_of_mem nd (List.mem_filter.mp (lookup_memR h)).1
/-- a house of these names, as far as m, after t changes -/
structure HInv (nms : List Str) (t m : Nat) (G : List (Str × Int)) (R : List (Str × Rc)) : Prop where
  gn : (G.map (·.1)).Nodup
  rnd : (R.map (·.1)).Nodup
  gv : ∀ x v, G.lookup x = some v → v.natAbs < 2 ^ 69 + t
  rr : ∀ x rc, R.lookup x = some rc → ∃ k, k < 12 ∧ nms[k]? = some x ∧ RcB nms 6 6 8 rc
  gl : G.length ≤ m + t
  rl : R.length ≤ m + t
  cov : ∀ x ∈ nms.take m, (G.lookup x).isSome = true ∨ (R.lookup x).isSome = true
  dj : ∀ x, (G.lookup x).isSome = true → R.lookup x = none
  gm : ∀ x, (G.lookup x).isSome = true → x ∈ nms.take m
  rm : ∀ x, (R.lookup x).isSome = true → x ∈ nms.take m
  g0 : 0 < m → ∀ x, nms[0]? = some x → (G.lookup x).isSome = true
theorem HInv.nil (nms : List Str) : HInv nms 0 0 [] [] := ⟨List.nodup_nil, List.nodup_nil, fun _ _ h => (by cases h), fun _ _ h => (by cases h), Nat.le_refl _, Nat.le_refl _, fun x h => (by simp at h), fun x h => (by cases h), fun x h => (by cases h), fun x h => (by cases h), fun h => absurd h (Nat.lt_irrefl _)⟩
section
variable {nms : List Str} {t t' m m' : Nat} {G : List (Str × Int)} {R : List (Str × Rc)} {x : Str}
theorem mem_take_le {k m : Nat} (h : k ≤ m) (hx : x ∈ nms.take k) : x ∈ nms.take m := by
  obtain ⟨j, hj, e⟩ := List.mem_take_iff_getElem.mp hx
  exact List.mem_take_iff_getElem.mpr ⟨j, by omega, e⟩
theorem mem_take_at {k m : Nat} (h : k < m) (hx : nms[k]? = some x) : x ∈ nms.take m := by
  obtain ⟨h1, h2⟩ := List.getElem?_eq_some_iff.mp hx
  exact List.mem_take_iff_getElem.mpr ⟨k, by omega, h2⟩
theorem none_of_not {β : Type} {l : List (Str × β)} (h : ¬ (l.lookup x).isSome = true) : l.lookup x = none := by
  cases e : l.lookup x with
  | none => rfl
  | some v => rw [e] at h; exact absurd rfl h
theorem putA_none {β : Type} {l : List (Str × β)} {y : Str} {v : β} (n : y ≠ x) (h : l.lookup y = none) : (putA l x v).lookup y = none :=
  none_of_not fun z => by
    rcases putA_has.mp z with e | e
    · exact n e
    · rw [h] at e; cases e
theorem dropA_none {β : Type} {l : List (Str × β)} {y : Str} (h : l.lookup y = none) : (dropA l x).lookup y = none :=
  none_of_not fun z => by
    have := (dropA_has.mp z).2
    rw [h] at this; cases this
theorem dropA_self {β : Type} {l : List (Str × β)} : (dropA l x).lookup x = none := none_of_not fun z => (dropA_has.mp z).1 rfl
theorem HInv.putG (h : HInv nms t m G R) {v : Int} (hv : v.natAbs < 2 ^ 69 + t') (ht : t ≤ t') (hl : m + t + 1 ≤ m' + t') (hc : ∀ y ∈ nms.take m', y = x ∨ y ∈ nms.take m) (hm : m ≤ m') (hx : x ∈ nms.take m') (hr : R.lookup x = none) (h0 : 0 < m ∨ nms[0]? = some x) : HInv nms t' m' (putA G x v) R := by
  refine ⟨putA_nd h.gn, h.rnd, fun y w e => ?_, h.rr, ?_, Nat.le_trans h.rl (by omega), fun y hy => ?_, fun y hy => ?_, fun y hy => ?_, fun y hy => mem_take_le hm (h.rm y hy), fun _ y hy => ?_⟩
  · rcases putA_lk h.gn e with ⟨_, rfl⟩ | e
    · exact hv
    · exact Nat.lt_of_lt_of_le (h.gv y w e) (by omega)
  · have := putA_len (l := G) (x := x) (v := v)
    have := h.gl
    omega
  · rw [putA_has]
    rcases hc y hy with e | q
    · exact .inl (.inl e)
    · exact (h.cov y q).imp .inr id
  · rcases putA_has.mp hy with e | q
    · rw [e]; exact hr
    · exact h.dj y q
  · rcases putA_has.mp hy with e | q
    · rw [e]; exact hx
    · exact mem_take_le hm (h.gm y q)
  · rw [putA_has]
    rcases h0 with q | q
    · exact .inr (h.g0 q y hy)
    · rw [q] at hy; cases hy; exact .inl rfl
theorem HInv.putR (h : HInv nms t m G R) {rc : Rc} {k : Nat} (hk : k < 12) (hx : nms[k]? = some x) (hr : RcB nms 6 6 8 rc) (ht : t ≤ t') (hl : m + t + 1 ≤ m' + t') (hc : ∀ y ∈ nms.take m', y = x ∨ y ∈ nms.take m) (hm : m ≤ m') (hk' : k < m') (hg : G.lookup x = none) (h0 : 0 < m) : HInv nms t' m' G (putA R x rc) := by
  refine ⟨h.gn, putA_nd h.rnd, fun y w e => Nat.lt_of_lt_of_le (h.gv y w e) (by omega), fun y w e => ?_, Nat.le_trans h.gl (by omega), ?_, fun y hy => ?_, fun y hy => ?_, fun y hy => mem_take_le hm (h.gm y hy), fun y hy => ?_, fun _ y hy => h.g0 h0 y hy⟩
  · rcases putA_lk h.rnd e with ⟨rfl, rfl⟩ | e
    · exact ⟨k, hk, hx, hr⟩
    · exact h.rr y w e
  · have := putA_len (l := R) (x := x) (v := rc)
    have := h.rl
    omega
  · rw [putA_has]
    rcases hc y hy with e | q
    · exact .inr (.inl e)
    · exact (h.cov y q).imp id .inr
  · refine putA_none (fun z => ?_) (h.dj y hy)
    rw [z, hg] at hy; cases hy
  · rcases putA_has.mp hy with e | q
    · rw [e]; exact mem_take_at hk' hx
    · exact mem_take_le hm (h.rm y q)
/-- given, no longer reckoned -/
theorem HInv.moveG (h : HInv nms t m G R) {v : Int} (hv : v.natAbs < 2 ^ 69 + (t + 1)) (hx : x ∈ nms.take m) (h0 : 0 < m) : HInv nms (t + 1) m (putA G x v) (dropA R x) := by
  refine ⟨putA_nd h.gn, dropA_nd h.rnd, fun y w e => ?_, fun y w e => h.rr y w (dropA_lk h.rnd e), ?_, Nat.le_trans dropA_len (Nat.le_trans h.rl (by omega)), fun y hy => ?_, fun y hy => ?_, fun y hy => ?_, fun y hy => h.rm y (dropA_has.mp hy).2, fun _ y hy => ?_⟩
  · rcases putA_lk h.gn e with ⟨_, rfl⟩ | e
    · exact hv
    · exact Nat.lt_of_lt_of_le (h.gv y w e) (by omega)
  · have := putA_len (l := G) (x := x) (v := v)
    have := h.gl
    omega
  · rw [putA_has, dropA_has]
    by_cases e : y = x
    · exact .inl (.inl e)
    · exact (h.cov y hy).imp .inr fun q => ⟨e, q⟩
  · rcases putA_has.mp hy with e | q
    · rw [e]; exact dropA_self
    · exact dropA_none (h.dj y q)
  · rcases putA_has.mp hy with e | q
    · rw [e]; exact hx
    · exact h.gm y q
  · rw [putA_has]; exact .inr (h.g0 h0 y hy)
/-- reckoned, no longer given -/
theorem HInv.moveR (h : HInv nms t m G R) {rc : Rc} {k : Nat} (hk : k < 12) (hx : nms[k]? = some x) (hr : RcB nms 6 6 8 rc) (hk' : k < m) (h1 : nms[0]? ≠ some x) : HInv nms (t + 1) m (dropA G x) (putA R x rc) := by
  refine ⟨dropA_nd h.gn, putA_nd h.rnd, fun y w e => Nat.lt_of_lt_of_le (h.gv y w (dropA_lk h.gn e)) (by omega), fun y w e => ?_, Nat.le_trans dropA_len (Nat.le_trans h.gl (by omega)), ?_, fun y hy => ?_, fun y hy => ?_, fun y hy => h.gm y (dropA_has.mp hy).2, fun y hy => ?_, fun h0 y hy => ?_⟩
  · rcases putA_lk h.rnd e with ⟨rfl, rfl⟩ | e
    · exact ⟨k, hk, hx, hr⟩
    · exact h.rr y w e
  · have := putA_len (l := R) (x := x) (v := rc)
    have := h.rl
    omega
  · rw [putA_has, dropA_has]
    by_cases e : y = x
    · exact .inr (.inl e)
    · exact (h.cov y hy).imp (fun q => ⟨e, q⟩) .inr
  · obtain ⟨e, q⟩ := dropA_has.mp hy
    exact putA_none e (h.dj y q)
  · rcases putA_has.mp hy with e | q
    · rw [e]; exact mem_take_at hk' hx
    · exact h.rm y q
  · rw [dropA_has]
    exact ⟨fun e => h1 (by rw [← e]; exact hy), h.g0 h0 y hy⟩
theorem HInv.le (h : HInv nms t m G R) (ht : t ≤ t') : HInv nms t' m G R := ⟨h.gn, h.rnd, fun y w e => Nat.lt_of_lt_of_le (h.gv y w e) (by omega), h.rr, Nat.le_trans h.gl (by omega), Nat.le_trans h.rl (by omega), h.cov, h.dj, h.gm, h.rm, h.g0⟩
theorem Sm.le {M M' : Nat} (l : M ≤ M') : ∀ {r : Rc}, Sm M r → Sm M' r
  | .num n, h => Nat.lt_of_lt_of_le h (Nat.pow_le_pow_right (by decide) l)
  | .rd _, _ => trivial
  | .two _ _ _, h => ⟨h.1, h.2.1.le l, h.2.2.le l⟩
  | .pick _ _ _, h => ⟨h.1.le l, h.2.1.le l, h.2.2.le l⟩
  | .choose _ _, h => ⟨h.1.le l, h.2⟩
theorem idx_at (nd : nms.Nodup) {k : Nat} (h : nms[k]? = some x) : nms.idxOf x = k := by
  obtain ⟨h1, h2⟩ := List.getElem?_eq_some_iff.mp h
  subst h2
  exact nd.idxOf_getElem k h1
theorem HInv.lok (h : HInv nms t 12 G R) (ht : t ≤ 100) : LOk 7 G R := by
  refine ⟨fun x v e => ?_, fun x rc e => ?_, fun x rc e => ?_, fun x rc e => ?_, fun x rc e => ?_, Nat.le_trans h.rl (by omega)⟩
  · refine Nat.lt_of_lt_of_le (h.gv x v e) ?_
    show 2 ^ 69 + t ≤ 2 ^ 70
    omega
  all_goals obtain ⟨k, hk, hx, g⟩ := h.rr x rc e
  · have := g.dp; omega
  · have := g.rn; omega
  · exact g.sm
  · exact g.wb
theorem RcB.sub {l l' : List Str} {d w k : Nat} {r : Rc} (h : RcB l d w k r) (s : ∀ x ∈ l, x ∈ l') : RcB l' d w k r := ⟨h.dp, h.wb, h.rn, h.sm, fun x m => s x (h.nm x m)⟩
end
theorem cut_take {nms : List Str} {i : Nat} (h : i ≤ nms.length) : cutV (nms.map V.str) none (some (i : Int)) = (nms.take i).map V.str := by
  unfold cutV
  show List.take (HT.sIx (nms.map V.str).length (nms.map V.str).length (some (i : Int)) - 0) (List.drop 0 (nms.map V.str)) = _
  rw [HT.sIx_nat, List.length_map, Nat.min_eq_left h, List.map_take]
  rfl
def sp_house (K : PySem.W.Frag) (A : Ad) : Sp := fun vs H Q _ => ∃ (a p : Addr) (ns : List Int) (nms : List Str), vs = [.ref a, .ref p, .bl true] ∧ SqL K H a (ns.map V.int) ∧ H p = some (.lst (nms.map V.str)) ∧ nms.length = 14 ∧ nms.Nodup ∧
  ∀ (H' : Hp) (top g r : Addr) (G : List (Str × Int)) (R : List (Str × Rc)), HInv nms 0 12 G R → H' top = some (.tup [.ref g, .ref r]) → HsAt H' g r G R → Fr [] H H' → Q (.ref top) H'
theorem r__law_house {K : PySem.W.Frag} {A : Ad} (vs : List V) (H : Hp) (Q : VK) (E : XK) (h : sp_house K A vs H Q E) : t__law_house K A (sp_state K A) (sp_draw A) (sp_number A) (sp_recipe A 4) { nx := fun _ H' => Q .non H', rt := Q } (start N__law_house vs) H := by
  obtain ⟨a, p, ns, nms, rfl, ha, hp, ln, nd, kk⟩ := h
  fail "cgo"
  rename_i g g0 r r0
  have ngr : g ≠ r := by fail "ne"
  have g00 : H g = none := g0
  have r00 : H r = none := by fail "fn"
  refine st_forR (n := 12) (by fail "va") (by decide) (by decide) (fun i σ' H' => ∃ k st pl G R, σ' = [some (.ref a), some (.ref p), some (.bl true), some (.ref g), some (.ref r), k, st, pl] ∧ Fr [] H H' ∧ H' g = some (.dK (im G)) ∧ RdAt H' r R ∧ HInv nms 0 i G R)
    ⟨_, _, _, [], [], rfl, by fail "frm", by fail "hx", RdAt.nil upd_same, HInv.nil nms⟩ ?_ ?_
  · clear g0 r0
    rintro i σ' H1 hi ⟨k, st, pl, G, R, rfl, f1, hg, hr, inv⟩
    have hi : i < 12 := hi
    have hp1 := f1.keep _ _ hp (by simp)
    have npg : p ≠ g := fun z => by rw [z, hg] at hp1; cases hp1
    have at1 : atI (nms.map V.str) ((i : Nat) : Int) = some (.str nms[i]) := atI_nat (by rw [List.getElem?_map, List.getElem?_eq_getElem (by omega)]; rfl)
    have hx : nms[i]? = some nms[i] := List.getElem?_eq_getElem (by omega)
    have htk : ∀ y ∈ nms.take (i + 1), y = nms[i] ∨ y ∈ nms.take i := by
      intro y hy
      rw [List.take_succ, hx] at hy
      exact (List.mem_append.mp hy).elim .inr fun m => .inl (List.mem_singleton.mp m)
    have hnew : nms[i] ∉ nms.take i := fun m => by
      obtain ⟨j, hj, e⟩ := List.mem_take_iff_getElem.mp m
      have e1 := idx_at nd (x := nms[i]) (k := j) (by rw [List.getElem?_eq_getElem (by omega), e])
      have e2 := idx_at nd hx
      omega
    have hnR : R.lookup nms[i] = none := none_of_not fun z => hnew (inv.rm _ z)
    have hnG : G.lookup nms[i] = none := none_of_not fun z => hnew (inv.gm _ z)
    fail "cgo"
    refine ⟨a, ns, 3 + i, by rw [show ((3 + i : Nat) : Int) = 3 + (i : Int) by omega], SqL_fr f1 ha, by omega, fun H2 s hs0 f2 s2 => ?_⟩
    have hs00 : H s = none := f1.old _ hs0
    have ngs : g ≠ s := fun z => by rw [← z, hg] at hs0; cases hs0
    have nrs : r ≠ s := fun z => by obtain ⟨L, q, _⟩ := hr; rw [← z, q] at hs0; cases hs0
    have hg2 := f2.keep _ _ hg (by simp)
    have hp2 := f2.keep _ _ hp1 (by simp)
    have hr2 := hr.fr f2 (by simp)
    have f2' : Fr [] H H2 := f1.call f2 (by fail "al")
    clear f1 f2 hg hr hp1
    have num : ∀ (D : Ends) (H3 : Hp) (b : Nat), (∀ (H' : Hp) (G' : List (Str × Int)), Fr [] H H' → H' g = some (.dK (im G')) → RdAt H' r R → HInv nms 0 (i + 1) G' R → D.nx [some (.ref a), some (.ref p), some (.bl true), some (.ref g), some (.ref r), some (.int i), some (.ref s), pl] H') →
        Fr [] H H3 → H3 g = some (.dK (im G)) → RdAt H3 r R → SAt H3 s (b + 4) →
        tAsg (tCall (sp_number A) [] E0 (tCons (tVar 6) tNil)) (gSub (tVar 3) (tOp (rIxU K) (tVar 1) (tVar 5)) rSetU) D [some (.ref a), some (.ref p), some (.bl true), some (.ref g), some (.ref r), some (.int i), some (.ref s), pl] H3 := by
      intro D H3 b kD f3 hg3 hr3 s3
      fail "cgo"
      refine ⟨s, b, rfl, s3, fun H4 z hz f4 s4 => ?_⟩
      have hg4 := f4.keep _ _ hg3 (by simpa using ngs)
      have hr4 := hr3.fr f4 (by simpa using nrs)
      have f4' : Fr [] H H4 := f3.call f4 (by fail "al")
      have hp4 := f4'.keep _ _ hp (by simp)
      clear f4 f3 hg3 hr3 s3
      refine st_set1 (by fail "vt") (by fail "vt") hg4 (by rw [im_len]; have := inv.gl; show _ < (16777216 : Nat); omega) (im_putA G nms[i] z) ?_
      exact kD _ (putA G nms[i] z) (by fail "frm") upd_same (RdAt.fr (F := [g]) (by fail "frm") hr4 (by simpa using ngr.symm)) (inv.putG (by omega) (Nat.le_refl _) (by omega) htk (Nat.le_succ _) (mem_take_at (Nat.lt_succ_self _) hx) hnR ((Nat.eq_zero_or_pos i).elim (fun e => .inr (by have q := hx; simp only [e] at q ⊢; exact q)) .inl))
    fail "cgo"
    dsimp only [L2.start, List.set]
    refine st_ifC (st_orC (st_ansC (by fail "an") ?_))
    refine ifD (fun q => ?_) fun q => ?_
    · refine ifT rfl ?_
      exact num _ H2 89000 (fun H' G' h1 h2 h3 h4 => ⟨_, _, _, G', R, rfl, h1, h2, h3, h4⟩) f2' hg2 hr2 (s2.le (by omega))
    fail "cgo"
    refine st_testC (st_opC ?_)
    fail "cgo"
    refine ⟨s, 5, 89000, rfl, by decide, by decide, s2.le (by omega), fun H3 z z0 z1 f3 s3 => ?_⟩
    have hg3 := f3.keep _ _ hg2 (by simpa using ngs)
    have hr3 := hr2.fr f3 (by simpa using nrs)
    have f3' : Fr [] H H3 := f2'.call f3 (by fail "al")
    have hp3 := f3'.keep _ _ hp (by simp)
    clear f3 f2' hg2 hr2 s2 hp2
    fail "cgo"
    refine st_bl ?_
    refine ifD (fun q => ?_) fun q => ?_
    · exact num _ H3 88000 (fun H' G' h1 h2 h3 h4 => ⟨_, _, _, G', R, rfl, h1, h2, h3, h4⟩) f3' hg3 hr3 (s3.le (by omega))
    clear num
    fail "cgo"
    refine st_slL (val_var rfl) hp3 vo_no (vo_at (val_var rfl)) fun q1 q10 => ?_
    rw [cut_take (by omega)]
    have hg4 : upd H3 q1 (.lst ((nms.take i).map V.str)) g = some (.dK (im G)) := by fail "hq"
    have hr4 := RdAt.fr (F := []) (H' := upd H3 q1 (.lst ((nms.take i).map V.str))) (by fail "frm") hr3 (by simp)
    have s4 := s3.fr (F := []) (H' := upd H3 q1 (.lst ((nms.take i).map V.str))) (by fail "frm") (by simp)
    have hq4 : upd H3 q1 (.lst ((nms.take i).map V.str)) q1 = some (.lst ((nms.take i).map V.str)) := upd_same
    have f4' : Fr [] H (upd H3 q1 (.lst ((nms.take i).map V.str))) := by fail "frm"
    generalize upd H3 q1 (.lst ((nms.take i).map V.str)) = H4 at *
    clear q10 f3' hg3 hr3 s3 hp3
    fail "cgo"
    dsimp only [List.set]
    have fin : ∀ (D : Ends) (H4 : Hp) (qp : Addr) (pool : List Str), (∀ y ∈ pool, y ∈ nms) → pool.length ≤ 14 → (∀ (H' : Hp) (R' : List (Str × Rc)), Fr [] H H' → H' g = some (.dK (im G)) → RdAt H' r R' → HInv nms 0 (i + 1) G R' → D.nx [some (.ref a), some (.ref p), some (.bl true), some (.ref g), some (.ref r), some (.int i), some (.ref s), some (.ref qp)] H') →
        Fr [] H H4 → H4 g = some (.dK (im G)) → RdAt H4 r R → SAt H4 s 80800 → H4 qp = some (.lst (pool.map V.str)) →
        tAsg (tCall (sp_recipe A 4) [] E0 (tCons (tVar 6) (tCons (tVar 7) (tCons (tC (.int 3)) tNil)))) (gSub (tVar 4) (tOp (rIxU K) (tVar 1) (tVar 5)) rSetU) D [some (.ref a), some (.ref p), some (.bl true), some (.ref g), some (.ref r), some (.int i), some (.ref s), some (.ref qp)] H4 := by
      intro D H4 qp pool hsub hlen kD f4' hg4 hr4 s4 hq4
      fail "cgo"
      refine ⟨s, qp, 3, 80000, pool, rfl, by decide, by decide, s4.le (by decide), hq4, by omega, fun H5 v rc gr hv f5 s5 => ?_⟩
      have hr5 := hr4.fr f5 (by simpa using nrs)
      have hg5 := f5.keep _ _ hg4 (by simpa using ngs)
      have f5' : Fr [] H H5 := f4'.call f5 (by fail "al")
      have hp5 := f5'.keep _ _ hp (by simp)
      clear f5 f4' hr4 hg4 s4 hq4
      obtain ⟨kvs, hk, lk, hr6⟩ := hr5.put (x := nms[i]) hv
      have lr := inv.rl
      refine st_set1 (by fail "vt") (by fail "vt") hk (by show _ < (16777216 : Nat); omega) rfl ?_
      exact kD _ (putA R nms[i] rc) (by fail "frm") (by fail "hq") hr6 (inv.putR hi hx (gr.sub hsub) (Nat.le_refl _) (by omega) htk (Nat.le_succ _) (Nat.lt_succ_self _) hnG (by omega))
    refine st_ifC (st_andC (st_ansC (ans_B (val_var rfl)) (st_bTrue ?_)))
    refine st_testC (st_opC ?_)
    fail "cgo"
    refine ⟨s, 4, 85000, rfl, by decide, by decide, s4.le (by omega), fun H5 z2 z20 z21 f5 s5 => ?_⟩
    have hg5 := f5.keep _ _ hg4 (by simpa using ngs)
    have hr5 := hr4.fr f5 (by simpa using nrs)
    have hq5 : H5 q1 = some (.lst ((nms.take i).map V.str)) := f5.keep _ _ hq4 (by obtain ⟨_, _, _, q, _⟩ := id s4; simp only [List.mem_singleton]; fail "ne")
    have f5' : Fr [] H H5 := f4'.call f5 (by fail "al")
    have hp5 := f5'.keep _ _ hp (by simp)
    clear f5 f4' hg4 hr4 s4 hq4
    fail "cgo"
    refine st_bl ?_
    refine ifD (fun q => ?_) fun q => ?_
    · fail "cgo"
      refine st_slL (val_var rfl) hp5 vo_no (vo_at val_c) fun q2 q20 => ?_
      rw [show ((14 : Int)) = ((14 : Nat) : Int) from rfl, cut_take (by omega)]
      have hg6 : upd H5 q2 (.lst ((nms.take 14).map V.str)) g = some (.dK (im G)) := by fail "hq"
      have hr6 := RdAt.fr (F := []) (H' := upd H5 q2 (.lst ((nms.take 14).map V.str))) (by fail "frm") hr5 (by simp)
      have s6 := s5.fr (F := []) (H' := upd H5 q2 (.lst ((nms.take 14).map V.str))) (by fail "frm") (by simp)
      have f6' : Fr [] H (upd H5 q2 (.lst ((nms.take 14).map V.str))) := by fail "frm"
      dsimp only [List.set]
      refine fin _ _ q2 (nms.take 14) (fun y m => List.mem_of_mem_take m) (by rw [List.length_take]; omega) ?_ f6' hg6 hr6 (s6.le (by omega)) upd_same
      exact fun H' R' h1 h2 h3 h4 => ⟨_, _, _, G, R', rfl, h1, h2, h3, h4⟩
    · refine st_next ?_
      dsimp only
      refine fin _ _ q1 (nms.take i) (fun y m => List.mem_of_mem_take m) (by rw [List.length_take]; omega) ?_ f5' hg5 hr5 (s5.le (by omega)) hq5
      exact fun H' R' h1 h2 h3 h4 => ⟨_, _, _, G, R', rfl, h1, h2, h3, h4⟩
  · clear g0 r0
    rintro σ' H1 ⟨k, st, pl, G, R, rfl, f1, hg, hr, inv⟩
    fail "cgo"
    rename_i top top0
    have nrt : r ≠ top := by obtain ⟨L, q, _⟩ := id hr; fail "ne"
    exact kk _ top g r G R inv (by fail "hq") ⟨by fail "hq", rdAt_rp (RdAt.fr (F := []) (H := H1) (by fail "frm") hr (by simp))⟩ (by fail "frm")
end Law

end
section
set_option maxHeartbeats 4000000
/-! words: fail "le", "hq" (what stands at an address), "ne" (two addresses differ), "fn" (an address is new to an older heap), "al" (places of a frame), "ni", "frm" (a frame) -/
local macro_rules | `(tactic| fail "le") => `(tactic| first
  | (with_reducible exact U.Le.refl _)
  | ((with_reducible refine U.Le.upd ?_); fail "le")
  | ((with_reducible apply U.Le.fr); (rotate_left 1); (focus assumption); (focus fail "le")))
local macro_rules | `(tactic| fail "fn") => `(tactic| first
  | assumption
  | ((with_reducible apply U.none_le); (rotate_left 1); (focus assumption); (focus fail "le")))
local macro_rules | `(tactic| fail "hq") => `(tactic| first
  | (with_reducible assumption)
  | (with_reducible exact L2.upd_same)
  | ((with_reducible apply U.look_upd); (focus fail "hq"); (focus fail "ne"))
  | ((with_reducible apply U.look_fr); (focus assumption); (focus fail "hq"); (focus fail "ni"))
  | ((with_reducible apply U.look_tup); (focus assumption); (focus fail "hq")))
local macro_rules | `(tactic| fail "hx") => `(tactic| first
  | fail "hq"
  | ((with_reducible apply U.hq_to); (focus fail "hq"); (focus rfl)))
local macro_rules | `(tactic| fail "ni") => `(tactic| first
  | (with_reducible exact U.ni_nil)
  | ((with_reducible refine U.ni_cons ?_ ?_); (focus fail "ne"); (focus fail "ni"))
  | assumption)
local macro_rules | `(tactic| fail "ne") => `(tactic| first
  | (with_reducible assumption)
  | ((with_reducible apply Ne.symm); (focus assumption))
  | ((with_reducible apply U.ne_new); (focus with_reducible assumption); (focus fail "hq"))
  | ((with_reducible apply U.ne_new'); (focus with_reducible assumption); (focus fail "hq"))
  | ((with_reducible apply L2.ne_of); (focus with_reducible assumption); (focus fail "hq"); (focus (intro z; cases z))))
local macro_rules | `(tactic| fail "mem") => `(tactic| first
  | (with_reducible exact U.mem_hd)
  | ((with_reducible refine U.mem_tl ?_); fail "mem")
  | assumption)
local macro_rules | `(tactic| fail "in") => `(tactic| first
  | ((with_reducible apply Or.inl); (focus fail "mem"))
  | ((with_reducible apply Or.inr); (focus fail "fn")))
local macro_rules | `(tactic| fail "al") => `(tactic| first
  | (with_reducible exact U.al_nil)
  | ((with_reducible refine U.al_cons ?_ ?_); (focus fail "in"); (focus fail "al"))
  | assumption)
local macro_rules | `(tactic| fail "frm") => `(tactic| first
  | (with_reducible exact U.Fr.refl _)
  | (with_reducible assumption)
  | ((with_reducible apply U.fr_new); (focus assumption); (focus fail "frm"))
  | ((with_reducible apply U.fr_upd); (focus fail "hq"); (focus rfl); (focus fail "in"); (focus fail "frm"))
  | ((with_reducible apply U.fr_call); (focus assumption); (focus fail "frm"); (focus fail "al")))
local macro_rules | `(tactic| fail "sne") => `(tactic| first
  | assumption
  | decide +kernel
  | ((with_reducible apply U.inr_ne); (focus fail "sne"))
  | ((with_reducible apply Ne.symm); (focus assumption)))
local macro_rules | `(tactic| fail "lk") => `(tactic| first
  | (with_reducible exact U.lk_hit)
  | ((with_reducible apply U.lk_miss); (focus fail "sne"); (focus fail "lk"))
  | (with_reducible exact U.lk_nil)
  | assumption)
local macro_rules | `(tactic| fail "pf") => `(tactic| first
  | (with_reducible exact U.pf_hit)
  | ((with_reducible apply U.pf_miss); (focus fail "sne"); (focus fail "pf"))
  | (with_reducible exact U.pf_nil))
local macro_rules | `(tactic| fail "vv") => `(tactic| first
  | (with_reducible assumption)
  | (with_reducible exact U.vv_hit)
  | ((with_reducible apply U.vv_miss); (focus fail "sne"); (focus fail "vv"))
  | (with_reducible exact U.vv_nil))
local macro_rules | `(tactic| fail "nk") => `(tactic| first
  | (with_reducible exact U.nk_nil)
  | ((with_reducible apply U.nk_cons); (focus fail "sne"); (focus fail "nk")))
local macro_rules | `(tactic| fail "pk") => `(tactic| first
  | ((with_reducible apply U.pk_hit); fail "nk")
  | ((with_reducible apply U.pk_miss); (focus fail "sne"); (focus fail "pk"))
  | (with_reducible exact U.pk_nil))
local macro_rules | `(tactic| fail "at") => `(tactic| first
  | (with_reducible assumption)
  | ((with_reducible apply L2.atI_nat); (focus assumption))
  | rfl)
local macro_rules | `(tactic| fail "sz") => `(tactic| first
  | assumption
  | decide
  | (simp only [List.length_cons, List.length_nil]; decide)
  | (show _ < (16777216 : Nat); omega)
  | (show _ ≤ (16777216 : Nat); omega))
local macro_rules | `(tactic| fail "lf") => `(tactic| first
  | (with_reducible exact U.lf_addI)
  | (with_reducible exact U.lf_sub)
  | (with_reducible exact U.lf_eqI)
  | (with_reducible exact U.lf_eqS)
  | (with_reducible exact U.lf_neI)
  | (with_reducible exact U.lf_neS)
  | (with_reducible exact U.lf_lt)
  | (with_reducible exact U.lf_le)
  | (with_reducible exact U.lf_gt)
  | (with_reducible exact U.lf_ge)
  | (with_reducible exact U.lf_isN)
  | (with_reducible exact U.lf_notN)
  | ((with_reducible apply U.lf_ixT); (focus fail "hq"); (focus fail "at"))
  | ((with_reducible apply U.lf_ixL); (focus fail "hq"); (focus fail "at"))
  | ((with_reducible apply U.lf_ixD); (focus fail "hq"); (focus fail "vv"))
  | ((with_reducible apply U.lf_inD); (focus fail "hq"))
  | ((with_reducible apply U.lf_notInD); (focus fail "hq"))
  | ((with_reducible apply U.lf_inL); (focus fail "hq"))
  | ((with_reducible apply U.lf_notInL); (focus fail "hq"))
  | (with_reducible exact U.lf_inS)
  | (with_reducible exact U.lf_notInS)
  | ((with_reducible apply U.lf_mod); (focus first | assumption | decide | omega))
  | ((with_reducible apply U.lf_mul); (focus first | assumption | ((apply U.mul64); (focus decide); (focus decide)) | ((apply U.mul64); (focus omega); (focus omega))))
  | ((with_reducible apply U.lf_div); (focus first | assumption | exact ⟨by decide, by decide +kernel⟩))
  | ((with_reducible apply U.lf_pow); (focus exact ⟨by decide, by decide, by decide⟩))
  | ((with_reducible apply U.lf_addS); (focus first | assumption | (show _ ≤ (16777216 : Nat); omega)))
  | (with_reducible assumption))
local macro_rules | `(tactic| fail "lc") => `(tactic| first
  | ((with_reducible apply U.lc_lenUL); (focus fail "hq"))
  | ((with_reducible apply U.lc_lenUT); (focus fail "hq"))
  | ((with_reducible apply U.lc_lenUD); (focus fail "hq"))
  | ((with_reducible apply U.lc_lenUS); (focus fail "sz"))
  | (with_reducible exact U.lc_intB)
  | (with_reducible exact U.lc_max)
  | (with_reducible exact U.lc_min)
  | ((with_reducible apply U.lc_lenUq); assumption)
  | ((with_reducible apply U.lc_isiL); (focus fail "hq"))
  | ((with_reducible apply U.lc_isiT); (focus fail "hq"))
  | (with_reducible exact U.lc_isiSb)
  | (with_reducible exact U.lc_isiIb)
  | (with_reducible assumption))
local macro_rules | `(tactic| fail "va") => `(tactic| first
  | (with_reducible exact U.va_nil)
  | ((with_reducible apply U.va_cons); (focus fail "vt"); (focus fail "va")))
local macro_rules | `(tactic| fail "vt") => `(tactic| first
  | (with_reducible assumption)
  | (with_reducible exact U.val_c)
  | exact U.val_var rfl
  | ((with_reducible apply U.val_op); (focus fail "vt"); (focus fail "vt"); (focus fail "lf"))
  | ((with_reducible apply U.val_fld); (focus fail "vt"); (focus fail "hq"); (focus fail "lk"))
  | ((with_reducible apply U.val_cb); (focus fail "va"); (focus fail "lc"))
  | ((with_reducible apply U.val_get1); (focus fail "vt"); (focus fail "vt"); (focus fail "hq"))
  | ((with_reducible apply U.val_notV); (focus fail "vt"))
  | ((with_reducible apply U.val_andV); (focus fail "vt"); (intro _; fail "vt"))
  | ((with_reducible apply U.val_orV); (focus fail "vt"); (intro _; fail "vt"))
  | ((with_reducible apply U.val_un); (focus fail "vt"); (focus with_reducible exact U.l1_neg)))
local macro_rules | `(tactic| fail "an") => `(tactic| first
  | (with_reducible assumption)
  | ((with_reducible apply U.ans_T); fail "vt")
  | ((with_reducible apply U.ans_B); fail "vt")
  | ((with_reducible apply U.ans_not); fail "an")
  | ((with_reducible apply U.ans_and); (focus fail "an"); (intro _; fail "an"))
  | ((with_reducible apply U.ans_or); (focus fail "an"); (intro _; fail "an")))
local macro_rules | `(tactic| fail "put") => `(tactic| first
  | fail "pk"
  | ((apply Law.im_put); (focus assumption))
  | ((apply Law.sm_put); (focus assumption)))
local macro_rules | `(tactic| fail "st") => `(tactic| first
  | (with_reducible refine U.st_seq ?_)
  | ((with_reducible apply U.st_asg); (focus fail "vt"); (try dsimp only [List.set]))
  | ((with_reducible apply U.st_ret); (focus fail "vt"); (try dsimp only))
  | ((with_reducible apply U.st_fld); (focus fail "vt"); (focus fail "vt"); (focus fail "hq"); (focus fail "sz"); (focus fail "pf"); (try dsimp only))
  | ((with_reducible apply U.st_fld1); (focus fail "vt"); (focus fail "hq"); (focus fail "sz"); (focus fail "pf"); (try dsimp only))
  | ((with_reducible apply U.st_untup); (focus fail "vt"); (focus fail "hq"); (focus rfl))
  | ((with_reducible refine U.st_gcons ?_); (try dsimp only))
  | ((with_reducible refine U.st_gname ?_); (try dsimp only [List.set]))
  | ((with_reducible refine U.st_gnil ?_); (try dsimp only))
  | ((with_reducible apply U.st_gf); (focus fail "vt"); (focus fail "hq"); (focus fail "sz"); (focus fail "pf"); (try dsimp only))
  | ((with_reducible refine U.st_next ?_); (try dsimp only))
  | (with_reducible refine U.st_drop ?_)
  | ((with_reducible apply U.st_append); (focus fail "vt"); (focus fail "hq"); (focus fail "vt"); (focus fail "sz"); (try dsimp only))
  | ((with_reducible apply U.st_setDL); (focus fail "vt"); (focus fail "vt"); (focus fail "vt"); (focus fail "hq"); (focus fail "sz"); (focus fail "put"); (try dsimp only))
  | ((with_reducible apply U.st_set1); (focus fail "vt"); (focus fail "vt"); (focus fail "hq"); (focus fail "sz"); (focus fail "put"); (try dsimp only))
  | ((with_reducible apply U.st_call); (focus fail "va"))
  | ((with_reducible apply U.st_methV); (focus fail "vt"); (focus fail "hq"); (focus fail "lk"); (focus fail "va"))
  | (with_reducible refine U.st_fldE ?_)
  | (with_reducible refine U.st_setE ?_)
  | (with_reducible refine U.st_asgC ?_)
  | (with_reducible refine U.st_retC ?_)
  | ((with_reducible refine U.st_dnew ?_); (intro p hp); (try dsimp only))
  | ((with_reducible apply U.st_tup); (focus fail "va"); (focus fail "sz"); (intro p hp); (try dsimp only))
  | ((with_reducible apply U.st_lst); (focus fail "va"); (focus fail "sz"); (intro p hp); (try dsimp only))
  | ((with_reducible apply U.st_listOf); (focus fail "va"); (focus fail "hq"); (intro p hp); (try dsimp only))
  | ((with_reducible apply U.st_dictOf); (focus fail "va"); (focus fail "hq"); (intro p hp); (try dsimp only))
  | ((with_reducible apply U.st_apE); (focus fail "vt"); (focus fail "hq"))
  | ((with_reducible apply U.st_ap1); (focus fail "hq"); (focus fail "sz"); (try dsimp only)))
local macro_rules | `(tactic| fail "go") => `(tactic| repeat fail "st")
/-! words: "cp", one step of the general way; "cgo" -/
local macro_rules | `(tactic| fail "cp") => `(tactic| first
  | ((with_reducible apply U.st_val); (focus fail "vt"); (try dsimp only))
  | ((with_reducible apply U.st_vals); (focus fail "va"); (try dsimp only))
  | (with_reducible refine U.st_opC ?_)
  | (with_reducible refine U.st_consC ?_)
  | (with_reducible refine U.st_nilC ?_)
  | ((with_reducible apply U.st_lf); (focus fail "lf"); (try dsimp only))
  | ((with_reducible apply U.st_mkEnd); (focus fail "sz"); (intro p hp); (try dsimp only))
  | ((with_reducible apply U.st_gset); (focus fail "vt"); (focus fail "vt"); (focus fail "hq"); (focus fail "sz"); (focus fail "put"); (try dsimp only))
  | fail "st"
  | ((with_reducible apply U.st_cat); (focus fail "hq"); (focus fail "hq"); (focus fail "sz"); (intro p hp); (try dsimp only))
  | (with_reducible refine U.st_tupC ?_)
  | (with_reducible refine U.st_lstC ?_)
  | (with_reducible refine U.st_callC ?_)
  | (with_reducible refine U.st_cbC ?_))
local macro_rules | `(tactic| fail "cgo") => `(tactic| repeat fail "cp")

namespace Law
open PySem PySem.Spec PyProof.Rows L2 U
theorem RcB.le {l : List Str} {d w k d' w' k' : Nat} {r : Rc} (h : RcB l d w k r) (a : d ≤ d') (b : w ≤ w') (c : k ≤ k') : RcB l d' w' k' r := ⟨Nat.le_trans h.dp a, Nat.le_trans h.wb b, Nat.le_trans h.rn c, h.sm, h.nm⟩
theorem RdAt.copy {H : Hp} {r q : Addr} {R : List (Str × Rc)} {kvs : List (Key × V)} (h : RdAt H r R) (hk : H r = some (.dK kvs)) (hq : H q = none) : RdAt (upd H q (.dK kvs)) q R := by
  obtain ⟨L, h1, h2, h3⟩ := h
  rw [hk] at h1
  cases h1
  have f : Fr [] H (upd H q (.dK (L.map fun p => ((Sum.inr p.1 : Key), p.2.2)))) := Fr.new (Fr.refl H) hq
  exact ⟨L, upd_same, h2, fun p m => rp_fr f (h3 p m)⟩
def sp_changed (A : Ad) : Sp := fun vs H Q _ => ∃ (top p s g r : Addr) (nms : List Str) (G : List (Str × Int)) (R : List (Str × Rc)) (t b : Nat), vs = [.ref top, .ref p, .ref s] ∧ H top = some (.tup [.ref g, .ref r]) ∧ HsAt H g r G R ∧ H p = some (.lst (nms.map V.str)) ∧ nms.length = 14 ∧ nms.Nodup ∧ HInv nms t 12 G R ∧ t ≤ 98 ∧ SAt H s (b + 2000) ∧
  ∀ (H' : Hp) (top g r : Addr) (G : List (Str × Int)) (R : List (Str × Rc)), HInv nms (t + 1) 12 G R → H' top = some (.tup [.ref g, .ref r]) → HsAt H' g r G R → SAt H' s b → Fr [s] H H' → Q (.ref top) H'
theorem r__law_changed {K : PySem.W.Frag} {A : Ad} (vs : List V) (H : Hp) (Q : VK) (E : XK) (h : sp_changed A vs H Q E) : t__law_changed K A (sp_draw A) (sp_number A) (sp_recipe A 4) { nx := fun _ H' => Q .non H', rt := Q } (start N__law_changed vs) H := by
  obtain ⟨top, p, s, g, r, nms, G, R, t, b, rfl, ht, hs, hp, ln, nd, inv, lt, s0, kk⟩ := h
  have nps := s0.ne_lst hp
  have hg := hs.g
  have hr0 := rp_rdAt hs.r
  obtain ⟨kvs, hk, lk, _⟩ := hs.rcs
  fail "cgo"
  rename_i g' g0 r' r0
  have ngs : g' ≠ s := by obtain ⟨_, _, _, q, _⟩ := id s0; fail "ne"
  have nrs : r' ≠ s := by obtain ⟨_, _, _, q, _⟩ := id s0; fail "ne"
  have ngr : g' ≠ r' := by fail "ne"
  have npg : p ≠ g' := by fail "ne"
  have npr : p ≠ r' := by fail "ne"
  have g00 : H g' = none := g0
  have r00 : H r' = none := by fail "fn"
  have hr1 : RdAt (upd (upd H g' (.dK (im G))) r' (.dK kvs)) r' R := RdAt.copy (hr0.fr (F := []) (by fail "frm") (by simp)) (by fail "hq") r0
  have hg1 : upd (upd H g' (.dK (im G))) r' (.dK kvs) g' = some (.dK (im G)) := by fail "hq"
  have s1 := s0.fr (F := []) (H' := upd (upd H g' (.dK (im G))) r' (.dK kvs)) (by fail "frm") (by simp)
  have hp1 : upd (upd H g' (.dK (im G))) r' (.dK kvs) p = some (.lst (nms.map V.str)) := by fail "hq"
  have f1 : Fr [s] H (upd (upd H g' (.dK (im G))) r' (.dK kvs)) := by fail "frm"
  generalize upd (upd H g' (.dK (im G))) r' (.dK kvs) = H1 at *
  clear g0 r0 hr0 hk hg hs ht
  refine ⟨s, 12, b + 1999, rfl, by decide, by decide, s1, fun H2 i i0 i1 f2 s2 => ?_⟩
  have hg2 := f2.keep _ _ hg1 (by simpa using ngs)
  have hr2 := hr1.fr f2 (by simpa using nrs)
  have hp2 := f2.keep _ _ hp1 (by simpa using nps)
  have f2' : Fr [s] H H2 := f1.call f2 (by fail "al")
  clear f2 f1 s1 hg1 hr1 hp1
  obtain ⟨i, rfl⟩ : ∃ j : Nat, i = j := ⟨i.toNat, by omega⟩
  have li : i < 12 := by omega
  have at1 : atI (nms.map V.str) ((i : Nat) : Int) = some (.str nms[i]) := atI_nat (by rw [List.getElem?_map, List.getElem?_eq_getElem (by omega)]; rfl)
  have hx : nms[i]? = some nms[i] := List.getElem?_eq_getElem (by omega)
  fail "cgo"
  refine ⟨s, 5, b + 1998, rfl, by decide, by decide, s2, fun H3 kd k0 k1 f3 s3 => ?_⟩
  have hg3 := f3.keep _ _ hg2 (by simpa using ngs)
  have hr3 := hr2.fr f3 (by simpa using nrs)
  have hp3 := f3.keep _ _ hp2 (by simpa using nps)
  have f3' : Fr [s] H H3 := f2'.call f3 (by fail "al")
  clear f3 f2' s2 hg2 hr2 hp2
  generalize hx' : nms[i] = x at *
  obtain ⟨kvs, hk, hki⟩ := HsAt.has (g := g') (G := G) ⟨hg3, rdAt_rp hr3⟩
  have fin : ∀ (H4 : Hp) (G' : List (Str × Int)) (R' : List (Str × Rc)), HInv nms (t + 1) 12 G' R' → H4 g' = some (.dK (im G')) → RdAt H4 r' R' → SAt H4 s b → Fr [s] H H4 → tRet (tTup (tCons (tVar 3) (tCons (tVar 4) tNil))) { nx := fun _ H' => Q .non H', rt := Q } [some (.ref top), some (.ref p), some (.ref s), some (.ref g'), some (.ref r'), some (.int i), some (.str x), some (.int kd)] H4 := by
    intro H4 G' R' inv' hg4 hr4 s4 f4
    fail "cgo"
    rename_i q q0
    have nrq : r' ≠ q := by obtain ⟨L, q, _⟩ := id hr4; fail "ne"
    exact kk _ q g' r' G' R' inv' (by fail "hq") ⟨by fail "hq", rdAt_rp (RdAt.fr (F := []) (H := H4) (by fail "frm") hr4 (by simp))⟩ (s4.fr (F := []) (by fail "frm") (by simp)) (by fail "frm")
  fail "cgo"
  dsimp only [L2.start, List.set]
  have lG := inv.gl
  have lR := inv.rl
  have zG : (im G).length < sizeLine := by rw [im_len]; show _ < (16777216 : Nat); omega
  refine st_ifT (by fail "an") (fun q => ?_) fun q => ?_
  · rw [im_get] at q
    cases eG : G.lookup x with
    | none => rw [eG] at q; simp at q
    | some v0 =>
      have vv1 : valV (im G) (.inr x) = some (.int v0) := by rw [im_get, eG]; rfl
      fail "cgo"
      refine ⟨s, b + 1990, rfl, s3.le (by omega), fun H4 z hz f4 s4 => ?_⟩
      have hg4 := f4.keep _ _ hg3 (by simpa using ngs)
      have hr4 := hr3.fr f4 (by simpa using nrs)
      have hp4 := f4.keep _ _ hp3 (by simpa using nps)
      have f4' : Fr [s] H H4 := f3'.call f4 (by fail "al")
      clear f4 f3' s3 hg3 hr3 hp3 hk
      fail "cgo"
      rename_i l l0
      have nls : l ≠ s := by obtain ⟨_, _, _, q, _⟩ := id s4; fail "ne"
      have nrl : r' ≠ l := by obtain ⟨L, q, _⟩ := id hr4; fail "ne"
      have hg5 : upd H4 l (.lst [.int (v0 + 1), .int z]) g' = some (.dK (im G)) := by fail "hq"
      have hr5 := RdAt.fr (F := []) (H' := upd H4 l (.lst [.int (v0 + 1), .int z])) (by fail "frm") hr4 (by simp)
      have s5 := s4.fr (F := []) (H' := upd H4 l (.lst [.int (v0 + 1), .int z])) (by fail "frm") (by simp)
      have hl5 : upd H4 l (.lst [.int (v0 + 1), .int z]) l = some (.lst [.int (v0 + 1), .int z]) := upd_same
      have f5' : Fr [s] H (upd H4 l (.lst [.int (v0 + 1), .int z])) := by fail "frm"
      generalize upd H4 l (.lst [.int (v0 + 1), .int z]) = H5 at *
      clear l0 f4' hg4 hr4 s4 hp4
      refine ⟨s, 2, b + 1980, rfl, by decide, by decide, s5.le (by omega), fun H6 j j0 j1 f6 s6 => ?_⟩
      obtain ⟨v, hv, at2⟩ : ∃ v : Int, v.natAbs < 2 ^ 69 + (t + 1) ∧ atI [V.int (v0 + 1), V.int z] j = some (.int v) := by
        have : j = 0 ∨ j = 1 := by omega
        rcases this with rfl | rfl
        · refine ⟨v0 + 1, ?_, rfl⟩
          have := inv.gv x v0 eG
          omega
        · exact ⟨z, by omega, rfl⟩
      have hl6 := f6.keep _ _ hl5 (by simpa using nls)
      have hg6 := f6.keep _ _ hg5 (by simpa using ngs)
      have hr6 := hr5.fr f6 (by simpa using nrs)
      have f6' : Fr [s] H H6 := f5'.call f6 (by fail "al")
      clear f6 f5' hl5 hg5 hr5 s5
      fail "cgo"
      refine st_set1 (by fail "vt") (by fail "vt") hg6 zG (im_putA G x v) ?_
      exact fin _ (putA G x v) R (inv.putG hv (Nat.le_succ t) (by omega) (fun y hy => .inr hy) (Nat.le_refl _) (mem_take_at li hx) (inv.dj x (by rw [eG]; rfl)) (.inl (by decide))) upd_same (RdAt.fr (F := [g']) (by fail "frm") hr6 (by simpa using ngr.symm)) ((s6.fr (F := [g']) (by fail "frm") (by simpa using ngs.symm)).le (by omega)) (by fail "frm")
  have recp : ∀ (d : Nat) (D : Ends), d ≤ 3 → ∀ (H4 : Hp) (G' : List (Str × Int)), Fr [s] H H4 → H4 g' = some (.dK (im G')) → RdAt H4 r' R → SAt H4 s (b + 1990) → (∀ H5 rc, RcB nms 6 6 8 rc → H5 g' = some (.dK (im G')) → RdAt H5 r' (putA R x rc) → SAt H5 s b → Fr [s] H H5 → D.nx [some (.ref top), some (.ref p), some (.ref s), some (.ref g'), some (.ref r'), some (.int i), some (.str x), some (.int kd)] H5) →
      tAsg (tCall (sp_recipe A 4) [] E0 (tCons (tVar 2) (tCons (tSl (rSlU K) (tVar 1) tNoPart (tPart (tVar 5))) (tCons (tC (.int (d : Int))) tNil)))) (gSub (tVar 4) (tVar 6) rSetU) D [some (.ref top), some (.ref p), some (.ref s), some (.ref g'), some (.ref r'), some (.int i), some (.str x), some (.int kd)] H4 := by
    intro d D ld H4 G' f4 hg4 hr4 s4 kD
    have hp4 : H4 p = some (.lst (nms.map V.str)) := f4.keep _ _ hp (by simpa using nps)
    fail "st"
    refine st_callC ?_
    fail "cgo"
    refine st_slL (val_var rfl) hp4 vo_no (vo_at (val_var rfl)) fun q1 q10 => ?_
    rw [cut_take (by omega)]
    have hg5 : upd H4 q1 (.lst ((nms.take i).map V.str)) g' = some (.dK (im G')) := by fail "hq"
    have hr5 := RdAt.fr (F := []) (H' := upd H4 q1 (.lst ((nms.take i).map V.str))) (by fail "frm") hr4 (by simp)
    have s5 := s4.fr (F := []) (H' := upd H4 q1 (.lst ((nms.take i).map V.str))) (by fail "frm") (by simp)
    have hq5 : upd H4 q1 (.lst ((nms.take i).map V.str)) q1 = some (.lst ((nms.take i).map V.str)) := upd_same
    have f5' : Fr [s] H (upd H4 q1 (.lst ((nms.take i).map V.str))) := by fail "frm"
    generalize upd H4 q1 (.lst ((nms.take i).map V.str)) = H5 at *
    clear q10 f4 hg4 hr4 s4 hp4
    fail "cgo"
    have hc : rcost d ≤ 400 := by
      rcases d with _ | _ | _ | _ | d
      · decide
      · decide
      · decide
      · decide
      · omega
    have hw : 2 ^ d ≤ 2 ^ 3 := Nat.pow_le_pow_right (by decide) ld
    refine ⟨s, q1, d, b, nms.take i, rfl, by omega, by omega, s5.le (by omega), hq5, by rw [List.length_take]; omega, fun H6 v rc gr hv f6 s6 => ?_⟩
    have hr6 := hr5.fr f6 (by simpa using nrs)
    have hg6 := f6.keep _ _ hg5 (by simpa using ngs)
    have f6' : Fr [s] H H6 := f5'.call f6 (by fail "al")
    clear f6 f5' hr5 hg5 s5 hq5
    obtain ⟨kv2, hk2, lk2, hr7⟩ := hr6.put (x := x) hv
    refine st_set1 (by fail "vt") (by fail "vt") hk2 (by show _ < (16777216 : Nat); omega) rfl ?_
    exact kD _ rc ((gr.le (by omega) (by omega) hw).sub fun y m => List.mem_of_mem_take m) (by fail "hq") hr7 (s6.fr (F := [r']) (by fail "frm") (by simpa using nrs.symm)) (by fail "frm")
  refine st_ifT (by fail "an") (fun q1 => ?_) fun q1 => ?_
  · refine recp 3 _ (by decide) H3 G f3' hg3 hr3 (s3.le (by omega)) fun H5 rc gr hg5 hr5 s5 f5 => ?_
    have q4 : (R.lookup x).isSome = true := by rw [← hki x]; exact (by simpa using q1 : _ ∧ _).1
    exact fin _ G _ (inv.putR li hx gr (Nat.le_succ t) (by omega) (fun y hy => .inr hy) (Nat.le_refl _) li (none_of_not fun z => by rw [inv.dj x z] at q4; cases q4) (by decide)) hg5 hr5 s5 f5
  refine st_ifT (by fail "an") (fun q2 => ?_) fun q2 => ?_
  · have q4 : (R.lookup x).isSome = true ∧ kd = 2 := by rw [← hki x]; simpa using q2
    fail "cgo"
    refine ⟨s, b + 1990, rfl, s3.le (by omega), fun H4 z hz f4 s4 => ?_⟩
    have hg4 := f4.keep _ _ hg3 (by simpa using ngs)
    have hr4 := hr3.fr f4 (by simpa using nrs)
    have f4' : Fr [s] H H4 := f3'.call f4 (by fail "al")
    clear f4 f3' s3 hg3 hr3 hp3 hk recp
    refine st_set1 (by fail "vt") (by fail "vt") hg4 zG (im_putA G x z) ?_
    have hr5 := RdAt.fr (F := [g']) (H' := upd H4 g' (.dK (im (putA G x z)))) (by fail "frm") hr4 (by simpa using ngr.symm)
    have hg5 : upd H4 g' (.dK (im (putA G x z))) g' = some (.dK (im (putA G x z))) := upd_same
    have s5 := s4.fr (F := [g']) (H' := upd H4 g' (.dK (im (putA G x z)))) (by fail "frm") (by simpa using ngs.symm)
    have f5' : Fr [s] H (upd H4 g' (.dK (im (putA G x z)))) := by fail "frm"
    generalize upd H4 g' (.dK (im (putA G x z))) = H5 at *
    clear f4' hg4 hr4 s4
    obtain ⟨kv2, hk2, hr6⟩ := hr5.drop (x := x)
    obtain ⟨kv3, hk3, hki3⟩ := HsAt.has (g := g') (G := putA G x z) ⟨hg5, rdAt_rp hr5⟩
    rw [hk2] at hk3
    cases hk3
    obtain ⟨v, hv⟩ := Option.isSome_iff_exists.mp ((hki3 x).trans q4.1)
    dsimp only
    refine st_drop ?_
    refine st_pop1 (a := r') (kvs := kv2) (s := x) (v := v) (val_var rfl) (val_var rfl) hk2 hv ?_
    exact fin _ (putA G x z) (dropA R x) (inv.moveG (v := z) (by omega) (mem_take_at li hx) (by decide)) (by fail "hq") hr6 ((s5.fr (F := [r']) (by fail "frm") (by simpa using nrs.symm)).le (by omega)) (by fail "frm")
  refine st_ifT (by fail "an") (fun q3 => ?_) fun q3 => ?_
  · refine st_seq (st_drop (st_pop2 (by fail "vt") (by fail "vt") (by fail "vt") hg3 (fun v _ => ?_) fun e => ?_))
    · rw [im_dropA]
      have hr4 := RdAt.fr (F := [g']) (H' := upd H3 g' (.dK (im (dropA G x)))) (by fail "frm") hr3 (by simpa using ngr.symm)
      have s4 := s3.fr (F := [g']) (H' := upd H3 g' (.dK (im (dropA G x)))) (by fail "frm") (by simpa using ngs.symm)
      refine recp 2 _ (by decide) _ (dropA G x) (by fail "frm") upd_same hr4 (s4.le (by omega)) fun H5 rc gr hg5 hr5 s5 f5 => ?_
      exact fin _ _ _ (inv.moveR li hx gr li fun z => by have := idx_at nd z; have := idx_at nd hx; have := (by simpa using q3 : _ ∧ _).2; omega) hg5 hr5 s5 f5
    · refine recp 2 _ (by decide) H3 G f3' hg3 hr3 (s3.le (by omega)) fun H5 rc gr hg5 hr5 s5 f5 => ?_
      exact fin _ G _ (inv.putR li hx gr (Nat.le_succ t) (by omega) (fun y hy => .inr hy) (Nat.le_refl _) li (by rw [im_get] at e; cases q : G.lookup x with | none => rfl | some v => rw [q] at e; cases e) (by decide)) hg5 hr5 s5 f5
  exact fin _ G R (inv.le (Nat.le_succ t)) hg3 hr3 (s3.le (by omega)) f3'
end Law

end
section
set_option maxHeartbeats 4000000
/-! words: fail "le", "hq" (what stands at an address), "ne" (two addresses differ), "fn" (an address is new to an older heap), "al" (places of a frame), "ni", "frm" (a frame) -/
local macro_rules | `(tactic| fail "le") => `(tactic| first
  | (with_reducible exact U.Le.refl _)
  | ((with_reducible refine U.Le.upd ?_); fail "le")
  | ((with_reducible apply U.Le.fr); (rotate_left 1); (focus assumption); (focus fail "le")))
local macro_rules | `(tactic| fail "fn") => `(tactic| first
  | assumption
  | ((with_reducible apply U.none_le); (rotate_left 1); (focus assumption); (focus fail "le")))
local macro_rules | `(tactic| fail "hq") => `(tactic| first
  | (with_reducible assumption)
  | (with_reducible exact L2.upd_same)
  | ((with_reducible apply U.look_upd); (focus fail "hq"); (focus fail "ne"))
  | ((with_reducible apply U.look_fr); (focus assumption); (focus fail "hq"); (focus fail "ni"))
  | ((with_reducible apply U.look_tup); (focus assumption); (focus fail "hq")))
local macro_rules | `(tactic| fail "hx") => `(tactic| first
  | fail "hq"
  | ((with_reducible apply U.hq_to); (focus fail "hq"); (focus rfl)))
local macro_rules | `(tactic| fail "ni") => `(tactic| first
  | (with_reducible exact U.ni_nil)
  | ((with_reducible refine U.ni_cons ?_ ?_); (focus fail "ne"); (focus fail "ni"))
  | assumption)
local macro_rules | `(tactic| fail "ne") => `(tactic| first
  | (with_reducible assumption)
  | ((with_reducible apply Ne.symm); (focus assumption))
  | ((with_reducible apply U.ne_new); (focus with_reducible assumption); (focus fail "hq"))
  | ((with_reducible apply U.ne_new'); (focus with_reducible assumption); (focus fail "hq"))
  | ((with_reducible apply L2.ne_of); (focus with_reducible assumption); (focus fail "hq"); (focus (intro z; cases z))))
local macro_rules | `(tactic| fail "mem") => `(tactic| first
  | (with_reducible exact U.mem_hd)
  | ((with_reducible refine U.mem_tl ?_); fail "mem")
  | assumption)
local macro_rules | `(tactic| fail "in") => `(tactic| first
  | ((with_reducible apply Or.inl); (focus fail "mem"))
  | ((with_reducible apply Or.inr); (focus fail "fn")))
local macro_rules | `(tactic| fail "al") => `(tactic| first
  | (with_reducible exact U.al_nil)
  | ((with_reducible refine U.al_cons ?_ ?_); (focus fail "in"); (focus fail "al"))
  | assumption)
local macro_rules | `(tactic| fail "frm") => `(tactic| first
  | (with_reducible exact U.Fr.refl _)
  | (with_reducible assumption)
  | ((with_reducible apply U.fr_new); (focus assumption); (focus fail "frm"))
  | ((with_reducible apply U.fr_upd); (focus fail "hq"); (focus rfl); (focus fail "in"); (focus fail "frm"))
  | ((with_reducible apply U.fr_call); (focus assumption); (focus fail "frm"); (focus fail "al")))
local macro_rules | `(tactic| fail "sne") => `(tactic| first
  | assumption
  | decide +kernel
  | ((with_reducible apply U.inr_ne); (focus fail "sne"))
  | ((with_reducible apply Ne.symm); (focus assumption)))
local macro_rules | `(tactic| fail "lk") => `(tactic| first
  | (with_reducible exact U.lk_hit)
  | ((with_reducible apply U.lk_miss); (focus fail "sne"); (focus fail "lk"))
  | (with_reducible exact U.lk_nil)
  | assumption)
local macro_rules | `(tactic| fail "pf") => `(tactic| first
  | (with_reducible exact U.pf_hit)
  | ((with_reducible apply U.pf_miss); (focus fail "sne"); (focus fail "pf"))
  | (with_reducible exact U.pf_nil))
local macro_rules | `(tactic| fail "vv") => `(tactic| first
  | (with_reducible assumption)
  | (with_reducible exact U.vv_hit)
  | ((with_reducible apply U.vv_miss); (focus fail "sne"); (focus fail "vv"))
  | (with_reducible exact U.vv_nil))
local macro_rules | `(tactic| fail "nk") => `(tactic| first
  | (with_reducible exact U.nk_nil)
  | ((with_reducible apply U.nk_cons); (focus fail "sne"); (focus fail "nk")))
local macro_rules | `(tactic| fail "pk") => `(tactic| first
  | ((with_reducible apply U.pk_hit); fail "nk")
  | ((with_reducible apply U.pk_miss); (focus fail "sne"); (focus fail "pk"))
  | (with_reducible exact U.pk_nil))
local macro_rules | `(tactic| fail "at") => `(tactic| first
  | (with_reducible assumption)
  | ((with_reducible apply L2.atI_nat); (focus assumption))
  | rfl)
local macro_rules | `(tactic| fail "sz") => `(tactic| first
  | assumption
  | decide
  | (simp only [List.length_cons, List.length_nil]; decide)
  | (show _ < (16777216 : Nat); omega)
  | (show _ ≤ (16777216 : Nat); omega))
local macro_rules | `(tactic| fail "lf") => `(tactic| first
  | (with_reducible exact U.lf_addI)
  | (with_reducible exact U.lf_sub)
  | (with_reducible exact U.lf_eqI)
  | (with_reducible exact U.lf_eqS)
  | (with_reducible exact U.lf_neI)
  | (with_reducible exact U.lf_neS)
  | (with_reducible exact U.lf_lt)
  | (with_reducible exact U.lf_le)
  | (with_reducible exact U.lf_gt)
  | (with_reducible exact U.lf_ge)
  | (with_reducible exact U.lf_isN)
  | (with_reducible exact U.lf_notN)
  | ((with_reducible apply U.lf_ixT); (focus fail "hq"); (focus fail "at"))
  | ((with_reducible apply U.lf_ixL); (focus fail "hq"); (focus fail "at"))
  | ((with_reducible apply U.lf_ixD); (focus fail "hq"); (focus fail "vv"))
  | ((with_reducible apply U.lf_inD); (focus fail "hq"))
  | ((with_reducible apply U.lf_notInD); (focus fail "hq"))
  | ((with_reducible apply U.lf_inL); (focus fail "hq"))
  | ((with_reducible apply U.lf_notInL); (focus fail "hq"))
  | (with_reducible exact U.lf_inS)
  | (with_reducible exact U.lf_notInS)
  | ((with_reducible apply U.lf_mod); (focus first | assumption | decide | omega))
  | ((with_reducible apply U.lf_mul); (focus first | assumption | ((apply U.mul64); (focus decide); (focus decide)) | ((apply U.mul64); (focus omega); (focus omega))))
  | ((with_reducible apply U.lf_div); (focus first | assumption | exact ⟨by decide, by decide +kernel⟩))
  | ((with_reducible apply U.lf_pow); (focus exact ⟨by decide, by decide, by decide⟩))
  | ((with_reducible apply U.lf_addS); (focus first | assumption | (show _ ≤ (16777216 : Nat); omega)))
  | (with_reducible assumption))
local macro_rules | `(tactic| fail "lc") => `(tactic| first
  | ((with_reducible apply U.lc_lenUL); (focus fail "hq"))
  | ((with_reducible apply U.lc_lenUT); (focus fail "hq"))
  | ((with_reducible apply U.lc_lenUD); (focus fail "hq"))
  | ((with_reducible apply U.lc_lenUS); (focus fail "sz"))
  | (with_reducible exact U.lc_intB)
  | (with_reducible exact U.lc_max)
  | (with_reducible exact U.lc_min)
  | ((with_reducible apply U.lc_lenUq); assumption)
  | ((with_reducible apply U.lc_isiL); (focus fail "hq"))
  | ((with_reducible apply U.lc_isiT); (focus fail "hq"))
  | (with_reducible exact U.lc_isiSb)
  | (with_reducible exact U.lc_isiIb)
  | (with_reducible assumption))
local macro_rules | `(tactic| fail "va") => `(tactic| first
  | (with_reducible exact U.va_nil)
  | ((with_reducible apply U.va_cons); (focus fail "vt"); (focus fail "va")))
local macro_rules | `(tactic| fail "vt") => `(tactic| first
  | (with_reducible assumption)
  | (with_reducible exact U.val_c)
  | exact U.val_var rfl
  | ((with_reducible apply U.val_op); (focus fail "vt"); (focus fail "vt"); (focus fail "lf"))
  | ((with_reducible apply U.val_fld); (focus fail "vt"); (focus fail "hq"); (focus fail "lk"))
  | ((with_reducible apply U.val_cb); (focus fail "va"); (focus fail "lc"))
  | ((with_reducible apply U.val_get1); (focus fail "vt"); (focus fail "vt"); (focus fail "hq"))
  | ((with_reducible apply U.val_notV); (focus fail "vt"))
  | ((with_reducible apply U.val_andV); (focus fail "vt"); (intro _; fail "vt"))
  | ((with_reducible apply U.val_orV); (focus fail "vt"); (intro _; fail "vt"))
  | ((with_reducible apply U.val_un); (focus fail "vt"); (focus with_reducible exact U.l1_neg)))
local macro_rules | `(tactic| fail "an") => `(tactic| first
  | (with_reducible assumption)
  | ((with_reducible apply U.ans_T); fail "vt")
  | ((with_reducible apply U.ans_B); fail "vt")
  | ((with_reducible apply U.ans_not); fail "an")
  | ((with_reducible apply U.ans_and); (focus fail "an"); (intro _; fail "an"))
  | ((with_reducible apply U.ans_or); (focus fail "an"); (intro _; fail "an")))
local macro_rules | `(tactic| fail "put") => `(tactic| first
  | fail "pk"
  | ((apply Law.im_put); (focus assumption))
  | ((apply Law.sm_put); (focus assumption)))
local macro_rules | `(tactic| fail "st") => `(tactic| first
  | (with_reducible refine U.st_seq ?_)
  | ((with_reducible apply U.st_asg); (focus fail "vt"); (try dsimp only [List.set]))
  | ((with_reducible apply U.st_ret); (focus fail "vt"); (try dsimp only))
  | ((with_reducible apply U.st_fld); (focus fail "vt"); (focus fail "vt"); (focus fail "hq"); (focus fail "sz"); (focus fail "pf"); (try dsimp only))
  | ((with_reducible apply U.st_fld1); (focus fail "vt"); (focus fail "hq"); (focus fail "sz"); (focus fail "pf"); (try dsimp only))
  | ((with_reducible apply U.st_untup); (focus fail "vt"); (focus fail "hq"); (focus rfl))
  | ((with_reducible refine U.st_gcons ?_); (try dsimp only))
  | ((with_reducible refine U.st_gname ?_); (try dsimp only [List.set]))
  | ((with_reducible refine U.st_gnil ?_); (try dsimp only))
  | ((with_reducible apply U.st_gf); (focus fail "vt"); (focus fail "hq"); (focus fail "sz"); (focus fail "pf"); (try dsimp only))
  | ((with_reducible refine U.st_next ?_); (try dsimp only))
  | (with_reducible refine U.st_drop ?_)
  | ((with_reducible apply U.st_append); (focus fail "vt"); (focus fail "hq"); (focus fail "vt"); (focus fail "sz"); (try dsimp only))
  | ((with_reducible apply U.st_setDL); (focus fail "vt"); (focus fail "vt"); (focus fail "vt"); (focus fail "hq"); (focus fail "sz"); (focus fail "put"); (try dsimp only))
  | ((with_reducible apply U.st_set1); (focus fail "vt"); (focus fail "vt"); (focus fail "hq"); (focus fail "sz"); (focus fail "put"); (try dsimp only))
  | ((with_reducible apply U.st_call); (focus fail "va"))
  | ((with_reducible apply U.st_methV); (focus fail "vt"); (focus fail "hq"); (focus fail "lk"); (focus fail "va"))
  | (with_reducible refine U.st_fldE ?_)
  | (with_reducible refine U.st_setE ?_)
  | (with_reducible refine U.st_asgC ?_)
  | (with_reducible refine U.st_retC ?_)
  | ((with_reducible refine U.st_dnew ?_); (intro p hp); (try dsimp only))
  | ((with_reducible apply U.st_tup); (focus fail "va"); (focus fail "sz"); (intro p hp); (try dsimp only))
  | ((with_reducible apply U.st_lst); (focus fail "va"); (focus fail "sz"); (intro p hp); (try dsimp only))
  | ((with_reducible apply U.st_listOf); (focus fail "va"); (focus fail "hq"); (intro p hp); (try dsimp only))
  | ((with_reducible apply U.st_dictOf); (focus fail "va"); (focus fail "hq"); (intro p hp); (try dsimp only))
  | ((with_reducible apply U.st_apE); (focus fail "vt"); (focus fail "hq"))
  | ((with_reducible apply U.st_ap1); (focus fail "hq"); (focus fail "sz"); (try dsimp only)))
local macro_rules | `(tactic| fail "go") => `(tactic| repeat fail "st")
/-! words: "cp", one step of the general way; "cgo" -/
local macro_rules | `(tactic| fail "cp") => `(tactic| first
  | ((with_reducible apply U.st_val); (focus fail "vt"); (try dsimp only))
  | ((with_reducible apply U.st_vals); (focus fail "va"); (try dsimp only))
  | (with_reducible refine U.st_opC ?_)
  | (with_reducible refine U.st_consC ?_)
  | (with_reducible refine U.st_nilC ?_)
  | ((with_reducible apply U.st_lf); (focus fail "lf"); (try dsimp only))
  | ((with_reducible apply U.st_mkEnd); (focus fail "sz"); (intro p hp); (try dsimp only))
  | ((with_reducible apply U.st_gset); (focus fail "vt"); (focus fail "vt"); (focus fail "hq"); (focus fail "sz"); (focus fail "put"); (try dsimp only))
  | fail "st"
  | ((with_reducible apply U.st_cat); (focus fail "hq"); (focus fail "hq"); (focus fail "sz"); (intro p hp); (try dsimp only))
  | (with_reducible refine U.st_tupC ?_)
  | (with_reducible refine U.st_lstC ?_)
  | (with_reducible refine U.st_callC ?_)
  | (with_reducible refine U.st_cbC ?_))
local macro_rules | `(tactic| fail "cgo") => `(tactic| repeat fail "cp")

namespace Law
open PySem PySem.Spec PyProof.Rows L2 U
def lkF (f : Str → Option Int) (x : Str) : Told := match f x with
  | some v => .worth v
  | none => .read x
def tld (f : Str → Option Int) : Rc → Told
  | .num n => .worth n
  | .rd x => lkF f x
  | .two k a b => match tld f a with
    | .read x => .read x
    | .worth i => match tld f b with
      | .read x => .read x
      | .worth j => .worth (k.op i j)
  | .pick a b c => match tld f a with
    | .read x => .read x
    | .worth i => if i ≤ 0 then tld f c else tld f b
  | .choose a xs => match tld f a with
    | .read x => .read x
    | .worth i => lkF f (pickN xs i)
theorem lookF_lk {f : Str → Option Int} {x : Str} {acc : List (Str × Int)} : (lookF f x acc).2 = lkF f x := by
  unfold lookF lkF
  cases f x <;> rfl
theorem walk_tld {f : Str → Option Int} : ∀ (r : Rc) (acc : List (Str × Int)), (walk f r acc).2 = tld f r
  | .num n, acc => rfl
  | .rd x, acc => lookF_lk
  | .two k a b, acc => by
    have h1 := walk_tld (f := f) a acc
    unfold walk tld
    rw [← h1]
    rcases walk f a acc with ⟨acc1, x | i⟩
    · rfl
    · have h2 := walk_tld (f := f) b acc1
      simp only []
      rw [← h2]
      rcases walk f b acc1 with ⟨acc2, x | j⟩ <;> rfl
  | .pick a b c, acc => by
    have h1 := walk_tld (f := f) a acc
    unfold walk tld
    rw [← h1]
    rcases walk f a acc with ⟨acc1, x | i⟩
    · rfl
    · simp only []
      split
      · exact walk_tld c acc1
      · exact walk_tld b acc1
  | .choose a xs, acc => by
    have h1 := walk_tld (f := f) a acc
    unfold walk tld
    rw [← h1]
    rcases walk f a acc with ⟨acc1, x | i⟩
    · rfl
    · exact lookF_lk
theorem told_tld {f : Str → Option Int} {r : Rc} : told f r = tld f r := walk_tld r []
theorem tld_worth {f : Str → Option Int} {M : Nat} {r : Rc} {v : Int} (s : Sm M r) (h : ∀ x ∈ nm r, ∀ v, f x = some v → v.natAbs < 2 ^ M) (e : tld f r = .worth v) : v.natAbs < 2 ^ (M + wb r) := walk_worth s h ((walk_tld r []).trans e)
theorem lkF_some {f : Str → Option Int} {x : Str} {v : Int} (e : f x = some v) : lkF f x = .worth v := by unfold lkF; rw [e]
theorem lkF_none {f : Str → Option Int} {x : Str} (e : f x = none) : lkF f x = .read x := by unfold lkF; rw [e]
theorem mulBig {i j : Int} {a b : Nat} (ha : a ≤ 4000) (hb : b ≤ 4000) (hi : i.natAbs < 2 ^ a) (hj : j.natAbs < 2 ^ b) : CMulW i j := by
  have k : ∀ n a : Nat, n < 2 ^ a → n.log2 ≤ a := fun n a h => by
    by_cases z : n = 0
    · rw [z, show Nat.log2 0 = 0 by decide]; exact Nat.zero_le _
    · exact Nat.le_of_lt ((Nat.log2_lt z).mpr h)
  have h1 := k _ _ hi
  have h2 := k _ _ hj
  show i.natAbs.log2 + j.natAbs.log2 < 1000000
  omega
theorem val_get2 {td ty tx : TE} {σ : L2.St} {H : Hp} {a : Addr} {kvs : List (Key × V)} {s : Str} {z : V} (ho : Val td σ H (.ref a)) (hi : Val ty σ H (.str s)) (hx : Val tx σ H z) (ha : H a = some (.dK kvs)) : Val (tDGet2 td ty tx) σ H ((valV kvs (.inr s)).getD z) := fun Q q =>
  ho _ ⟨a, rfl, .inl ⟨_, .inl ha⟩, hi _ (hx _ ⟨_, DGet.k (k := .inr s) ha, q⟩)⟩
theorem Tw.ne1 (k : Tw) : ¬ k.str = "number" := by cases k <;> decide
theorem Tw.ne2 (k : Tw) : ¬ k.str = "read" := by cases k <;> decide
theorem Tw.ne3 (k : Tw) : ¬ k.str = "choose" := by cases k <;> decide
theorem Tw.ne4 (k : Tw) : ¬ k.str = "pick" := by cases k <;> decide
theorem rp_worth {H : Hp} {p : Addr} {i : Int} (h : H p = some (.tup [.str "worth", .int i])) : Rp H (Told.worth i).t (.ref p) := ⟨_, _, rfl, h, _, _, rfl, rfl, _, _, rfl, rfl, rfl⟩
theorem rpl_strs_eq {H : Hp} : ∀ (xs : List Str) (us : List V), RpL H (xs.map T.str) us → us = xs.map V.str
  | [], us, h => h
  | x :: xs, us, h => by
    obtain ⟨y, ys, rfl, hy, hr⟩ := h
    rw [rpl_strs_eq xs ys hr, show y = V.str x from hy]
    rfl
def sp_reckoned (A : Ad) (n : Nat) : Sp := fun vs H Q _ => ∃ (rv : V) (kn : Addr) (r : Rc) (m : List (Str × Int)) (M : Nat), vs = [rv, .ref kn] ∧ Rp H r.t rv ∧ H kn = some (.dK (im m)) ∧ r.dp < n ∧ Sm M r ∧ M + Law.wb r ≤ 4000 ∧ (∀ x ∈ nm r, ∀ v, m.lookup x = some v → v.natAbs < 2 ^ M) ∧
  ∀ H' v, Fr [] H H' → Rp H' (tld (m.lookup ·) r).t v → Q v H'
theorem r__law_reckoned {K : PySem.W.Frag} {A : Ad} {n : Nat} (vs : List V) (H : Hp) (Q : VK) (E : XK) (h : sp_reckoned A (n + 1) vs H Q E) : t__law_reckoned K A (sp_reckoned A n) { nx := fun _ H' => Q .non H', rt := Q } (start N__law_reckoned vs) H := by
  obtain ⟨rv, kn, r, m, M, rfl, hp, hk, hd, hs, hM, hb, kk⟩ := h
  cases r with
  | num i =>
    obtain ⟨q, _, rfl, hq, _, _, rfl, rfl, _, _, rfl, rfl, rfl⟩ := hp
    fail "cgo"
    refine st_ifT (by fail "an") (fun _ => ?_) fun z => absurd z (by decide)
    fail "cgo"
    exact kk _ _ (by fail "frm") (rp_worth upd_same)
  | rd x =>
    have hp0 := hp
    obtain ⟨q, _, rfl, hq, _, _, rfl, rfl, _, _, rfl, rfl, rfl⟩ := hp
    fail "cgo"
    refine st_ifT (by fail "an") (fun z => absurd z (by decide)) fun _ => ?_
    fail "cgo"
    refine st_ifT (by fail "an") (fun _ => ?_) fun z => absurd z (by decide)
    fail "cgo"
    cases e : m.lookup x with
    | some v =>
      have vv1 : valV (im m) (.inr x) = some (.int v) := by rw [im_get, e]; rfl
      refine st_ifT (by fail "an") (fun _ => ?_) fun z => by rw [vv1] at z; cases z
      fail "cgo"
      refine kk _ _ (by fail "frm") ?_
      have : tld (m.lookup ·) (.rd x) = .worth v := lkF_some e
      rw [this]
      exact rp_worth upd_same
    | none =>
      have vv1 : valV (im m) (.inr x) = none := by rw [im_get, e]; rfl
      refine st_ifT (by fail "an") (fun z => by rw [vv1] at z; cases z) fun _ => ?_
      fail "cgo"
      refine kk _ _ (Fr.refl _) ?_
      have : tld (m.lookup ·) (.rd x) = .read x := lkF_none e
      rw [this]
      exact hp0
  | two k a b =>
    obtain ⟨q, _, rfl, hq, _, _, rfl, rfl, va, _, rfl, ha, vb, _, rfl, hb', rfl⟩ := hp
    have e1 := k.ne1
    have e2 := k.ne2
    have e3 := k.ne3
    have e4 := k.ne4
    have hda : max a.dp b.dp + 1 < n + 1 := hd
    have hMM : M + (max (Law.wb a) (Law.wb b) + 2) ≤ 4000 := hM
    fail "cgo"
    refine st_ifT (by fail "an") (fun z => absurd (of_decide_eq_true z) e1) fun _ => ?_
    fail "cgo"
    refine st_ifT (by fail "an") (fun z => absurd (of_decide_eq_true z) e2) fun _ => ?_
    fail "cgo"
    refine ⟨va, kn, a, m, M, rfl, ha, hk, by omega, hs.2.1, by omega, fun x mx => hb x (List.mem_append.mpr (.inl mx)), fun H1 v1 f1 h1 => ?_⟩
    have hk1 := f1.keep _ _ hk (by simp)
    have hq1 := f1.tup _ _ hq
    have hb1 := rp_fr f1 hb'
    have et : tld (m.lookup ·) (.two k a b) = match tld (m.lookup ·) a with
      | .read x => .read x
      | .worth i => match tld (m.lookup ·) b with
        | .read x => .read x
        | .worth j => .worth (k.op i j) := rfl
    fail "cgo"
    cases ea : tld (m.lookup ·) a with
    | read y =>
      rw [ea] at h1 et
      have h10 := h1
      obtain ⟨t1, rfl, ht1⟩ := told_read h1
      refine st_ifT (by fail "an") (fun _ => ?_) fun z => absurd z (by decide)
      fail "cgo"
      exact kk _ _ f1 (by rw [et]; exact h10)
    | worth i =>
      rw [ea] at h1 et
      have bi := (tld_worth hs.2.1 (fun x mx => hb x (List.mem_append.mpr (.inl mx))) ea)
      obtain ⟨t1, rfl, ht1⟩ := told_worth h1
      refine st_ifT (by fail "an") (fun z => absurd z (by decide)) fun _ => ?_
      fail "cgo"
      refine st_ifT (by fail "an") (fun z => absurd (of_decide_eq_true z) e3) fun _ => ?_
      fail "cgo"
      refine st_ifT (by fail "an") (fun z => absurd (of_decide_eq_true z) e4) fun _ => ?_
      fail "cgo"
      refine ⟨vb, kn, b, m, M, rfl, hb1, hk1, by omega, hs.2.2, by omega, fun x mx => hb x (List.mem_append.mpr (.inr mx)), fun H2 v2 f2 h2 => ?_⟩
      have ht2 := f2.tup _ _ ht1
      have f2' : Fr [] H H2 := f1.call f2 (by fail "al")
      clear f1 f2 hk1 hq1 hb1 ht1 h1
      fail "cgo"
      cases eb : tld (m.lookup ·) b with
      | read y =>
        rw [eb] at h2 et
        have h20 := h2
        obtain ⟨t3, rfl, ht3⟩ := told_read h2
        refine st_ifT (by fail "an") (fun _ => ?_) fun z => absurd z (by decide)
        fail "cgo"
        exact kk _ _ f2' (by rw [et]; exact h20)
      | worth j =>
        rw [eb] at h2 et
        have bj := (tld_worth hs.2.2 (fun x mx => hb x (List.mem_append.mpr (.inr mx))) eb)
        obtain ⟨t3, rfl, ht3⟩ := told_worth h2
        have cm : CMulW i j := mulBig (by omega) (by omega) bi bj
        clear bi bj
        refine st_ifT (by fail "an") (fun z => absurd z (by decide)) fun _ => ?_
        fail "cgo"
        refine st_disp fun p p0 => ?_
        refine st_pair val_c ?_
        refine st_val (v := .int (i + j)) (val_op (by fail "vt") (by fail "vt") lf_addI) ?_
        refine st_pair val_c ?_
        refine st_val (v := .int (i - j)) (val_op (by fail "vt") (by fail "vt") lf_sub) ?_
        refine st_pair val_c ?_
        refine st_val (v := .int (i * j)) (val_op (by fail "vt") (by fail "vt") (lf_mul cm)) ?_
        refine st_pnil (st_dend [(Sum.inr "plus", .int (i + j)), (Sum.inr "minus", .int (i - j)), (Sum.inr "times", .int (i * j))] (by fail "hq") rfl (Nat.le_of_ble_eq_true rfl) ?_)
        have em : mergeK [] [((Sum.inr "plus" : Key), V.int (i + j)), (Sum.inr "minus", .int (i - j)), (Sum.inr "times", .int (i * j))] = [((Sum.inr "plus" : Key), V.int (i + j)), (Sum.inr "minus", .int (i - j)), (Sum.inr "times", .int (i * j))] := rfl
        rw [em]
        refine us_ts (fun H' => Fr [] H H' ∧ H' t1 = some (.tup [.str "worth", .int i]) ∧ H' t3 = some (.tup [.str "worth", .int j]) ∧ H' p = some (.dK [((Sum.inr "plus" : Key), V.int (i + j)), (Sum.inr "minus", .int (i - j)), (Sum.inr "times", .int (i * j))])) ⟨by fail "frm", by fail "hq", by fail "hq", upd_same⟩ ?_
        rintro H3 ⟨f3, ht4, ht5, hp3⟩
        have ek : (valV [((Sum.inr "plus" : Key), V.int (i + j)), (Sum.inr "minus", .int (i - j)), (Sum.inr "times", .int (i * j))] (.inr k.str)).getD (.int (if j > i then j else i)) = .int (k.op i j) := by cases k <;> rfl
        refine st_retC (st_tup (va_cons val_c (va_cons (val_is (val_get2 (val_var rfl) (val_var rfl) (val_cb (va_cons (val_op (val_var rfl) val_c (lf_ixT ht4 rfl)) (va_cons (val_op (val_var rfl) val_c (lf_ixT ht5 rfl)) va_nil)) lc_max) hp3) ek) va_nil)) (by fail "sz") fun u u0 => ?_)
        refine kk _ _ (by fail "frm") ?_
        rw [et]
        exact rp_worth upd_same
  | pick a b c =>
    obtain ⟨q, _, rfl, hq, _, _, rfl, rfl, va, _, rfl, ha, vb, _, rfl, hb', vc, _, rfl, hc', rfl⟩ := hp
    have hda : max a.dp (max b.dp c.dp) + 1 < n + 1 := hd
    have hMM : M + max (Law.wb a) (max (Law.wb b) (Law.wb c)) ≤ 4000 := hM
    fail "cgo"
    refine st_ifT (by fail "an") (fun z => absurd z (by decide)) fun _ => ?_
    fail "cgo"
    refine st_ifT (by fail "an") (fun z => absurd z (by decide)) fun _ => ?_
    fail "cgo"
    refine ⟨va, kn, a, m, M, rfl, ha, hk, by omega, hs.1, by omega, fun x mx => hb x (List.mem_append.mpr (.inl (List.mem_append.mpr (.inl mx)))), fun H1 v1 f1 h1 => ?_⟩
    have hk1 := f1.keep _ _ hk (by simp)
    have hq1 := f1.tup _ _ hq
    have hb1 := rp_fr f1 hb'
    have hc1 := rp_fr f1 hc'
    have et : tld (m.lookup ·) (.pick a b c) = match tld (m.lookup ·) a with
      | .read x => .read x
      | .worth i => if i ≤ 0 then tld (m.lookup ·) c else tld (m.lookup ·) b := rfl
    fail "cgo"
    cases ea : tld (m.lookup ·) a with
    | read y =>
      rw [ea] at h1 et
      have h10 := h1
      obtain ⟨t1, rfl, ht1⟩ := told_read h1
      refine st_ifT (by fail "an") (fun _ => ?_) fun z => absurd z (by decide)
      fail "cgo"
      exact kk _ _ f1 (by rw [et]; exact h10)
    | worth i =>
      rw [ea] at h1 et
      obtain ⟨t1, rfl, ht1⟩ := told_worth h1
      refine st_ifT (by fail "an") (fun z => absurd z (by decide)) fun _ => ?_
      fail "cgo"
      refine st_ifT (by fail "an") (fun z => absurd z (by decide)) fun _ => ?_
      fail "cgo"
      refine st_ifT (by fail "an") (fun _ => ?_) fun z => absurd z (by decide)
      by_cases hi : i ≤ 0
      · have at1 : atI [V.str "pick", va, vb, vc] (2 + if decide (i ≤ 0) = true then 1 else 0) = some vc := by rw [decide_eq_true hi]; rfl
        fail "cgo"
        refine ⟨vc, kn, c, m, M, rfl, hc1, hk1, by omega, hs.2.2, by omega, fun x mx => hb x (List.mem_append.mpr (.inr mx)), fun H2 v2 f2 h2 => ?_⟩
        refine kk _ _ (f1.call f2 (by fail "al")) ?_
        rw [et]
        simp only [if_pos hi]
        exact h2
      · have at1 : atI [V.str "pick", va, vb, vc] (2 + if decide (i ≤ 0) = true then 1 else 0) = some vb := by rw [decide_eq_false hi]; rfl
        fail "cgo"
        refine ⟨vb, kn, b, m, M, rfl, hb1, hk1, by omega, hs.2.1, by omega, fun x mx => hb x (List.mem_append.mpr (.inl (List.mem_append.mpr (.inr mx)))), fun H2 v2 f2 h2 => ?_⟩
        refine kk _ _ (f1.call f2 (by fail "al")) ?_
        rw [et]
        simp only [if_neg hi]
        exact h2
  | choose a xs =>
    obtain ⟨q, _, rfl, hq, _, _, rfl, rfl, va, _, rfl, ha, vx, _, rfl, hx, rfl⟩ := hp
    obtain ⟨qx, ys, rfl, hqx, hys⟩ := hx
    have hda : a.dp + 1 < n + 1 := hd
    have hMM : M + Law.wb a ≤ 4000 := hM
    have ey := rpl_strs_eq xs ys hys
    subst ey
    have lx := hs.2
    fail "cgo"
    refine st_ifT (by fail "an") (fun z => absurd z (by decide)) fun _ => ?_
    fail "cgo"
    refine st_ifT (by fail "an") (fun z => absurd z (by decide)) fun _ => ?_
    fail "cgo"
    refine ⟨va, kn, a, m, M, rfl, ha, hk, by omega, hs.1, by omega, fun x mx => hb x (List.mem_append.mpr (.inl mx)), fun H1 v1 f1 h1 => ?_⟩
    have hk1 := f1.keep _ _ hk (by simp)
    have hq1 := f1.tup _ _ hq
    have hx1 := f1.tup _ _ hqx
    have et : tld (m.lookup ·) (.choose a xs) = match tld (m.lookup ·) a with
      | .read x => .read x
      | .worth i => lkF (m.lookup ·) (pickN xs i) := rfl
    fail "cgo"
    cases ea : tld (m.lookup ·) a with
    | read y =>
      rw [ea] at h1 et
      have h10 := h1
      obtain ⟨t1, rfl, ht1⟩ := told_read h1
      refine st_ifT (by fail "an") (fun _ => ?_) fun z => absurd z (by decide)
      fail "cgo"
      exact kk _ _ f1 (by rw [et]; exact h10)
    | worth i =>
      rw [ea] at h1 et
      obtain ⟨t1, rfl, ht1⟩ := told_worth h1
      refine st_ifT (by fail "an") (fun z => absurd z (by decide)) fun _ => ?_
      fail "cgo"
      refine st_ifT (by fail "an") (fun _ => ?_) fun z => absurd z (by decide)
      have hl : (0 : Int) < ((xs.map V.str).length : Int) := by rw [List.length_map]; omega
      have at1 : atI (xs.map V.str) (i % ((xs.map V.str).length : Int)) = some (.str (pickN xs i)) := by
        rw [List.length_map]
        have h0 : 0 ≤ i % (xs.length : Int) := Int.emod_nonneg _ (by omega)
        refine at_of (j := (i % (xs.length : Int)).toNat) (by omega) ?_
        rw [List.getElem?_map, pickN_at lx]
        rfl
      fail "cgo"
      rename_i p p0
      have hk2 : upd H1 p (.tup [.str "read", .str (pickN xs i)]) kn = some (.dK (im m)) := by fail "hq"
      refine ⟨.ref p, kn, .rd (pickN xs i), m, M, rfl, rp_rd upd_same, hk2, by show 0 < n; omega, trivial, by show M + 0 ≤ 4000; omega, fun x mx => hb x (List.mem_append.mpr (.inr (by rw [List.mem_singleton.mp mx]; exact pickN_mem lx i))), fun H2 v2 f2 h2 => ?_⟩
      refine kk _ _ (by fail "frm") ?_
      rw [et]
      exact h2
end Law

end
section
set_option maxHeartbeats 4000000
/-! words: fail "le", "hq" (what stands at an address), "ne" (two addresses differ), "fn" (an address is new to an older heap), "al" (places of a frame), "ni", "frm" (a frame) -/
local macro_rules | `(tactic| fail "le") => `(tactic| first
  | (with_reducible exact U.Le.refl _)
  | ((with_reducible refine U.Le.upd ?_); fail "le")
  | ((with_reducible apply U.Le.fr); (rotate_left 1); (focus assumption); (focus fail "le")))
local macro_rules | `(tactic| fail "fn") => `(tactic| first
  | assumption
  | ((with_reducible apply U.none_le); (rotate_left 1); (focus assumption); (focus fail "le")))
local macro_rules | `(tactic| fail "hq") => `(tactic| first
  | (with_reducible assumption)
  | (with_reducible exact L2.upd_same)
  | ((with_reducible apply U.look_upd); (focus fail "hq"); (focus fail "ne"))
  | ((with_reducible apply U.look_fr); (focus assumption); (focus fail "hq"); (focus fail "ni"))
  | ((with_reducible apply U.look_tup); (focus assumption); (focus fail "hq")))
local macro_rules | `(tactic| fail "hx") => `(tactic| first
  | fail "hq"
  | ((with_reducible apply U.hq_to); (focus fail "hq"); (focus rfl)))
local macro_rules | `(tactic| fail "ni") => `(tactic| first
  | (with_reducible exact U.ni_nil)
  | ((with_reducible refine U.ni_cons ?_ ?_); (focus fail "ne"); (focus fail "ni"))
  | assumption)
local macro_rules | `(tactic| fail "ne") => `(tactic| first
  | (with_reducible assumption)
  | ((with_reducible apply Ne.symm); (focus assumption))
  | ((with_reducible apply U.ne_new); (focus with_reducible assumption); (focus fail "hq"))
  | ((with_reducible apply U.ne_new'); (focus with_reducible assumption); (focus fail "hq"))
  | ((with_reducible apply L2.ne_of); (focus with_reducible assumption); (focus fail "hq"); (focus (intro z; cases z))))
local macro_rules | `(tactic| fail "mem") => `(tactic| first
  | (with_reducible exact U.mem_hd)
  | ((with_reducible refine U.mem_tl ?_); fail "mem")
  | assumption)
local macro_rules | `(tactic| fail "in") => `(tactic| first
  | ((with_reducible apply Or.inl); (focus fail "mem"))
  | ((with_reducible apply Or.inr); (focus fail "fn")))
local macro_rules | `(tactic| fail "al") => `(tactic| first
  | (with_reducible exact U.al_nil)
  | ((with_reducible refine U.al_cons ?_ ?_); (focus fail "in"); (focus fail "al"))
  | assumption)
local macro_rules | `(tactic| fail "frm") => `(tactic| first
  | (with_reducible exact U.Fr.refl _)
  | (with_reducible assumption)
  | ((with_reducible apply U.fr_new); (focus assumption); (focus fail "frm"))
  | ((with_reducible apply U.fr_upd); (focus fail "hq"); (focus rfl); (focus fail "in"); (focus fail "frm"))
  | ((with_reducible apply U.fr_call); (focus assumption); (focus fail "frm"); (focus fail "al")))
local macro_rules | `(tactic| fail "sne") => `(tactic| first
  | assumption
  | decide +kernel
  | ((with_reducible apply U.inr_ne); (focus fail "sne"))
  | ((with_reducible apply Ne.symm); (focus assumption)))
local macro_rules | `(tactic| fail "lk") => `(tactic| first
  | (with_reducible exact U.lk_hit)
  | ((with_reducible apply U.lk_miss); (focus fail "sne"); (focus fail "lk"))
  | (with_reducible exact U.lk_nil)
  | assumption)
local macro_rules | `(tactic| fail "pf") => `(tactic| first
  | (with_reducible exact U.pf_hit)
  | ((with_reducible apply U.pf_miss); (focus fail "sne"); (focus fail "pf"))
  | (with_reducible exact U.pf_nil))
local macro_rules | `(tactic| fail "vv") => `(tactic| first
  | (with_reducible assumption)
  | (with_reducible exact U.vv_hit)
  | ((with_reducible apply U.vv_miss); (focus fail "sne"); (focus fail "vv"))
  | (with_reducible exact U.vv_nil))
local macro_rules | `(tactic| fail "nk") => `(tactic| first
  | (with_reducible exact U.nk_nil)
  | ((with_reducible apply U.nk_cons); (focus fail "sne"); (focus fail "nk")))
local macro_rules | `(tactic| fail "pk") => `(tactic| first
  | ((with_reducible apply U.pk_hit); fail "nk")
  | ((with_reducible apply U.pk_miss); (focus fail "sne"); (focus fail "pk"))
  | (with_reducible exact U.pk_nil))
local macro_rules | `(tactic| fail "at") => `(tactic| first
  | (with_reducible assumption)
  | ((with_reducible apply L2.atI_nat); (focus assumption))
  | rfl)
local macro_rules | `(tactic| fail "sz") => `(tactic| first
  | assumption
  | decide
  | (simp only [List.length_cons, List.length_nil]; decide)
  | (show _ < (16777216 : Nat); omega)
  | (show _ ≤ (16777216 : Nat); omega))
local macro_rules | `(tactic| fail "lf") => `(tactic| first
  | (with_reducible exact U.lf_addI)
  | (with_reducible exact U.lf_sub)
  | (with_reducible exact U.lf_eqI)
  | (with_reducible exact U.lf_eqS)
  | (with_reducible exact U.lf_neI)
  | (with_reducible exact U.lf_neS)
  | (with_reducible exact U.lf_lt)
  | (with_reducible exact U.lf_le)
  | (with_reducible exact U.lf_gt)
  | (with_reducible exact U.lf_ge)
  | (with_reducible exact U.lf_isN)
  | (with_reducible exact U.lf_notN)
  | ((with_reducible apply U.lf_ixT); (focus fail "hq"); (focus fail "at"))
  | ((with_reducible apply U.lf_ixL); (focus fail "hq"); (focus fail "at"))
  | ((with_reducible apply U.lf_ixD); (focus fail "hq"); (focus fail "vv"))
  | ((with_reducible apply U.lf_inD); (focus fail "hq"))
  | ((with_reducible apply U.lf_notInD); (focus fail "hq"))
  | ((with_reducible apply U.lf_inL); (focus fail "hq"))
  | ((with_reducible apply U.lf_notInL); (focus fail "hq"))
  | (with_reducible exact U.lf_inS)
  | (with_reducible exact U.lf_notInS)
  | ((with_reducible apply U.lf_mod); (focus first | assumption | decide | omega))
  | ((with_reducible apply U.lf_mul); (focus first | assumption | ((apply U.mul64); (focus decide); (focus decide)) | ((apply U.mul64); (focus omega); (focus omega))))
  | ((with_reducible apply U.lf_div); (focus first | assumption | exact ⟨by decide, by decide +kernel⟩))
  | ((with_reducible apply U.lf_pow); (focus exact ⟨by decide, by decide, by decide⟩))
  | ((with_reducible apply U.lf_addS); (focus first | assumption | (show _ ≤ (16777216 : Nat); omega)))
  | (with_reducible assumption))
local macro_rules | `(tactic| fail "lc") => `(tactic| first
  | ((with_reducible apply U.lc_lenUL); (focus fail "hq"))
  | ((with_reducible apply U.lc_lenUT); (focus fail "hq"))
  | ((with_reducible apply U.lc_lenUD); (focus fail "hq"))
  | ((with_reducible apply U.lc_lenUS); (focus fail "sz"))
  | (with_reducible exact U.lc_intB)
  | (with_reducible exact U.lc_max)
  | (with_reducible exact U.lc_min)
  | ((with_reducible apply U.lc_lenUq); assumption)
  | ((with_reducible apply U.lc_isiL); (focus fail "hq"))
  | ((with_reducible apply U.lc_isiT); (focus fail "hq"))
  | (with_reducible exact U.lc_isiSb)
  | (with_reducible exact U.lc_isiIb)
  | (with_reducible assumption))
local macro_rules | `(tactic| fail "va") => `(tactic| first
  | (with_reducible exact U.va_nil)
  | ((with_reducible apply U.va_cons); (focus fail "vt"); (focus fail "va")))
local macro_rules | `(tactic| fail "vt") => `(tactic| first
  | (with_reducible assumption)
  | (with_reducible exact U.val_c)
  | exact U.val_var rfl
  | ((with_reducible apply U.val_op); (focus fail "vt"); (focus fail "vt"); (focus fail "lf"))
  | ((with_reducible apply U.val_fld); (focus fail "vt"); (focus fail "hq"); (focus fail "lk"))
  | ((with_reducible apply U.val_cb); (focus fail "va"); (focus fail "lc"))
  | ((with_reducible apply U.val_get1); (focus fail "vt"); (focus fail "vt"); (focus fail "hq"))
  | ((with_reducible apply U.val_notV); (focus fail "vt"))
  | ((with_reducible apply U.val_andV); (focus fail "vt"); (intro _; fail "vt"))
  | ((with_reducible apply U.val_orV); (focus fail "vt"); (intro _; fail "vt"))
  | ((with_reducible apply U.val_un); (focus fail "vt"); (focus with_reducible exact U.l1_neg)))
local macro_rules | `(tactic| fail "an") => `(tactic| first
  | (with_reducible assumption)
  | ((with_reducible apply U.ans_T); fail "vt")
  | ((with_reducible apply U.ans_B); fail "vt")
  | ((with_reducible apply U.ans_not); fail "an")
  | ((with_reducible apply U.ans_and); (focus fail "an"); (intro _; fail "an"))
  | ((with_reducible apply U.ans_or); (focus fail "an"); (intro _; fail "an")))
local macro_rules | `(tactic| fail "put") => `(tactic| first
  | fail "pk"
  | ((apply Law.im_put); (focus assumption))
  | ((apply Law.sm_put); (focus assumption)))
local macro_rules | `(tactic| fail "st") => `(tactic| first
  | (with_reducible refine U.st_seq ?_)
  | ((with_reducible apply U.st_asg); (focus fail "vt"); (try dsimp only [List.set]))
  | ((with_reducible apply U.st_ret); (focus fail "vt"); (try dsimp only))
  | ((with_reducible apply U.st_fld); (focus fail "vt"); (focus fail "vt"); (focus fail "hq"); (focus fail "sz"); (focus fail "pf"); (try dsimp only))
  | ((with_reducible apply U.st_fld1); (focus fail "vt"); (focus fail "hq"); (focus fail "sz"); (focus fail "pf"); (try dsimp only))
  | ((with_reducible apply U.st_untup); (focus fail "vt"); (focus fail "hq"); (focus rfl))
  | ((with_reducible refine U.st_gcons ?_); (try dsimp only))
  | ((with_reducible refine U.st_gname ?_); (try dsimp only [List.set]))
  | ((with_reducible refine U.st_gnil ?_); (try dsimp only))
  | ((with_reducible apply U.st_gf); (focus fail "vt"); (focus fail "hq"); (focus fail "sz"); (focus fail "pf"); (try dsimp only))
  | ((with_reducible refine U.st_next ?_); (try dsimp only))
  | (with_reducible refine U.st_drop ?_)
  | ((with_reducible apply U.st_append); (focus fail "vt"); (focus fail "hq"); (focus fail "vt"); (focus fail "sz"); (try dsimp only))
  | ((with_reducible apply U.st_setDL); (focus fail "vt"); (focus fail "vt"); (focus fail "vt"); (focus fail "hq"); (focus fail "sz"); (focus fail "put"); (try dsimp only))
  | ((with_reducible apply U.st_set1); (focus fail "vt"); (focus fail "vt"); (focus fail "hq"); (focus fail "sz"); (focus fail "put"); (try dsimp only))
  | ((with_reducible apply U.st_call); (focus fail "va"))
  | ((with_reducible apply U.st_methV); (focus fail "vt"); (focus fail "hq"); (focus fail "lk"); (focus fail "va"))
  | (with_reducible refine U.st_fldE ?_)
  | (with_reducible refine U.st_setE ?_)
  | (with_reducible refine U.st_asgC ?_)
  | (with_reducible refine U.st_retC ?_)
  | ((with_reducible refine U.st_dnew ?_); (intro p hp); (try dsimp only))
  | ((with_reducible apply U.st_tup); (focus fail "va"); (focus fail "sz"); (intro p hp); (try dsimp only))
  | ((with_reducible apply U.st_lst); (focus fail "va"); (focus fail "sz"); (intro p hp); (try dsimp only))
  | ((with_reducible apply U.st_listOf); (focus fail "va"); (focus fail "hq"); (intro p hp); (try dsimp only))
  | ((with_reducible apply U.st_dictOf); (focus fail "va"); (focus fail "hq"); (intro p hp); (try dsimp only))
  | ((with_reducible apply U.st_apE); (focus fail "vt"); (focus fail "hq"))
  | ((with_reducible apply U.st_ap1); (focus fail "hq"); (focus fail "sz"); (try dsimp only)))
local macro_rules | `(tactic| fail "go") => `(tactic| repeat fail "st")
/-! words: "cp", one step of the general way; "cgo" -/
local macro_rules | `(tactic| fail "cp") => `(tactic| first
  | ((with_reducible apply U.st_val); (focus fail "vt"); (try dsimp only))
  | ((with_reducible apply U.st_vals); (focus fail "va"); (try dsimp only))
  | (with_reducible refine U.st_opC ?_)
  | (with_reducible refine U.st_consC ?_)
  | (with_reducible refine U.st_nilC ?_)
  | ((with_reducible apply U.st_lf); (focus fail "lf"); (try dsimp only))
  | ((with_reducible apply U.st_mkEnd); (focus fail "sz"); (intro p hp); (try dsimp only))
  | ((with_reducible apply U.st_gset); (focus fail "vt"); (focus fail "vt"); (focus fail "hq"); (focus fail "sz"); (focus fail "put"); (try dsimp only))
  | fail "st"
  | ((with_reducible apply U.st_cat); (focus fail "hq"); (focus fail "hq"); (focus fail "sz"); (intro p hp); (try dsimp only))
  | (with_reducible refine U.st_tupC ?_)
  | (with_reducible refine U.st_lstC ?_)
  | (with_reducible refine U.st_callC ?_)
  | (with_reducible refine U.st_cbC ?_))
local macro_rules | `(tactic| fail "cgo") => `(tactic| repeat fail "cp")

namespace Law
open PySem PySem.Spec PyProof.Rows L2 U
structure SoAt (H : Hp) (so kn bs wt : Addr) (bv : V) (W : Wv) : Prop where
  o : H so = some (.dK [(Sum.inr "known", .ref kn), (Sum.inr "begun", .ref bs), (Sum.inr "waits", .ref wt), (Sum.inr "bad", bv)])
  hk : H kn = some (.dK (im W.worths))
  hb : H bs = some (.lst (W.begun.map V.str))
  ht : H wt = some (.dK (sm W.waits))
  n1 : kn ≠ wt
  n2 : so ≠ kn
  n3 : so ≠ wt
theorem SoAt.fr {F : List Addr} {H H' : Hp} {so kn bs wt : Addr} {bv : V} {W : Wv} (p : SoAt H so kn bs wt bv W) (f : Fr F H H') (a1 : so ∉ F) (a2 : kn ∉ F) (a3 : bs ∉ F) (a4 : wt ∉ F) : SoAt H' so kn bs wt bv W :=
  ⟨f.keep _ _ p.o a1, f.keep _ _ p.hk a2, f.keep _ _ p.hb a3, f.keep _ _ p.ht a4, p.n1, p.n2, p.n3⟩
def sp_lready (A : Ad) : Sp := fun vs H Q _ => ∃ (so kn bs wt : Addr) (bv : V) (W : Wv), vs = [.ref so] ∧ SoAt H so kn bs wt bv W ∧ W.begun.length ≤ 100000 ∧
  ∀ (H' : Hp) (d : Addr), H d = none → Fr [] H H' → H' d = some (.lst (W.ready.map V.str)) → Q (.ref d) H'
theorem r__law_ready {K : PySem.W.Frag} {A : Ad} (vs : List V) (H : Hp) (Q : VK) (E : XK) (h : sp_lready A vs H Q E) : t__law_ready K A { nx := fun _ H' => Q .non H', rt := Q } (start N__law_ready vs) H := by
  obtain ⟨so, kn, bs, wt, bv, W, rfl, p, hz, k⟩ := h
  obtain ⟨h0, h1, h2, h3, n1, n2, n3⟩ := id p
  fail "go"
  refine st_lcP (emb := V.str) (xs := W.begun) (e := V.str) (f := fun x => (!(W.worths.lookup x).isSome && !(W.waits.lookup x).isSome)) (by fail "vt") h2 (by show _ ≤ (16777216 : Nat); omega) (fun a => rfl) (fun a H' _ f => ⟨?_, fun _ => val_var rfl⟩) fun d H' d0 f hd => k _ _ d0 f hd
  have q : Ans (tAnd (tTest (tOp (rNotInU K) (tVar 1) (tOp (rIxU K) (tVar 0) (tC (.str "known"))))) (tTest (tOp (rNotInU K) (tVar 1) (tOp (rIxU K) (tVar 0) (tC (.str "waits")))))) ((wipe (start N__law_ready [.ref so]) [1]).set 1 (some (.str a))) H' (!(valV (im W.worths) (.inr a)).isSome && !(valV (sm W.waits) (.inr a)).isSome) := by fail "an"
  rw [im_get, sm_get] at q
  cases e : W.worths.lookup a <;> cases e2 : W.waits.lookup a <;> rw [e, e2] at q <;> simpa [e, e2] using q
def sp_lover (A : Ad) : Sp := fun vs H Q _ => ∃ (so kn bs wt : Addr) (bv : V) (W : Wv), vs = [.ref so] ∧ SoAt H so kn bs wt bv W ∧ W.begun.length ≤ 100000 ∧
  ∀ (H' : Hp), Fr [] H H' → Q (.bl (decide (W.open = []))) H'
theorem r__law_over {K : PySem.W.Frag} {A : Ad} (vs : List V) (H : Hp) (Q : VK) (E : XK) (h : sp_lover A vs H Q E) : t__law_over K A { nx := fun _ H' => Q .non H', rt := Q } (start N__law_over vs) H := by
  obtain ⟨so, kn, bs, wt, bv, W, rfl, p, hz, k⟩ := h
  obtain ⟨h0, h1, h2, h3, n1, n2, n3⟩ := id p
  fail "go"
  refine st_opC (st_lcP (emb := V.str) (xs := W.begun) (e := V.str) (f := fun x => !(W.worths.lookup x).isSome) (by fail "vt") h2 (by show _ ≤ (16777216 : Nat); omega) (fun a => rfl) (fun a H' _ f => ⟨?_, fun _ => val_var rfl⟩) fun d H' d0 f hd => ?_)
  · have q : Ans (tTest (tOp (rNotInU K) (tVar 1) (tOp (rIxU K) (tVar 0) (tC (.str "known"))))) ((wipe (start N__law_over [.ref so]) [1]).set 1 (some (.str a))) H' (!(valV (im W.worths) (.inr a)).isSome) := by fail "an"
    rw [im_get] at q
    cases e : W.worths.lookup a <;> rw [e] at q <;> simpa [e] using q
  · fail "go"
    rename_i e e0
    refine st_lf (lf_strsNil (xs := W.open) (by fail "hx") (by fail "hx")) ?_
    exact k _ (by fail "frm")
def BadV (bv : V) (o : Option Str) : Prop := (bv = .non ∧ o = none) ∨ (∃ a, bv = .ref a) ∧ o ≠ none
def sp_lbegun (A : Ad) : Sp := fun vs H Q _ => ∃ (h l g r : Addr) (G : List (Str × Int)) (R : List (Str × Rc)) (wl : List Str), vs = [.ref h, .ref l] ∧ H h = some (.tup [.ref g, .ref r]) ∧ HsAt H g r G R ∧ H l = some (.lst (wl.map V.str)) ∧ wl.length ≤ 900 ∧
  ∀ (H' : Hp) (so kn bs wt : Addr) (bv : V), BadV bv (badW G R wl) → H so = none → H kn = none → H bs = none → H wt = none → Fr [] H H' → SoAt H' so kn bs wt bv (W0 G R wl) → Q (.ref so) H'
theorem r__law_begun {K : PySem.W.Frag} {A : Ad} (vs : List V) (H : Hp) (Q : VK) (E : XK) (h : sp_lbegun A vs H Q E) : t__law_begun K A { nx := fun _ H' => Q .non H', rt := Q } (start N__law_begun vs) H := by
  obtain ⟨h, l, g, r, G, R, wl, rfl, hh, hs, hl, hz, k⟩ := h
  have hg := hs.g
  fail "cgo"
  refine st_disp fun so so0 => ?_
  refine st_pair val_c ?_
  fail "cgo"
  rename_i kn kn0
  refine st_pair val_c ?_
  fail "cgo"
  rename_i bs bs0
  refine st_pair val_c ?_
  fail "cgo"
  rename_i wt wt0
  refine st_pair val_c ?_
  refine st_val val_c ?_
  refine st_pnil (st_dend [(Sum.inr "known", .ref kn), (Sum.inr "begun", .ref bs), (Sum.inr "waits", .ref wt), (Sum.inr "bad", .non)] (by fail "hq") rfl (Nat.le_of_ble_eq_true rfl) ?_)
  dsimp only [L2.start, List.set]
  have p0 : Fr [] H (upd (upd (upd (upd (upd H so (.dK [])) kn (.dK (im G))) bs (.lst [])) wt (.dK [])) so (.dK (mergeK [] [((Sum.inr "known" : Key), V.ref kn), (Sum.inr "begun", .ref bs), (Sum.inr "waits", .ref wt), (Sum.inr "bad", .non)]))) ∧ SoAt (upd (upd (upd (upd (upd H so (.dK [])) kn (.dK (im G))) bs (.lst [])) wt (.dK [])) so (.dK (mergeK [] [((Sum.inr "known" : Key), V.ref kn), (Sum.inr "begun", .ref bs), (Sum.inr "waits", .ref wt), (Sum.inr "bad", .non)]))) so kn bs wt .non ⟨G, [], []⟩ :=
    ⟨by fail "frm", ⟨by fail "hx", by fail "hq", by fail "hx", by fail "hx", by fail "ne", by fail "ne", by fail "ne"⟩⟩
  have e1 : H so = none := so0
  have e2 : H kn = none := by fail "fn"
  have e3 : H bs = none := by fail "fn"
  have e4 : H wt = none := by fail "fn"
  clear kn0 bs0 wt0 so0
  refine st_seq (st_forL (K := K) (p := l) (emb := V.str) (xs := wl) (val_var rfl) (SqL.of (p0.1.keep _ _ hl (by simp))) (fun rest σ' H' => ∃ x b bv, σ' = [some (.ref h), some (.ref l), some (.ref so), x] ∧ Fr [] H H' ∧ SoAt H' so kn bs wt bv ⟨G, b, []⟩ ∧ beginAll R rest b = beginAll R wl [] ∧ b.length + rest.length ≤ 900 ∧ ((bv = .non ∧ badW G R rest = badW G R wl) ∨ (∃ a, bv = .ref a) ∧ badW G R wl ≠ none))
    ⟨_, [], _, rfl, p0.1, p0.2, rfl, by simpa using hz, .inl ⟨rfl, rfl⟩⟩ (fun rest σ' H' ⟨_, _, _, _, f, _⟩ => SqL.of (f.keep _ _ hl (by simp))) ?_ ?_)
  · rintro a rest σ' H' ⟨x, b, bv, rfl, f, p, e, z, hi⟩
    have hs1 := hs.fr f (by simp) (by simp)
    obtain ⟨rk1, hr1, hrk1⟩ := hs1.has
    have hg1 := hs1.g
    have hh1 := f.keep _ _ hh (by simp)
    obtain ⟨h0, h1, h2, h3, n1, n2, n3⟩ := id p
    dsimp only at h1 h2 h3
    rw [List.length_cons] at z
    have hz1 : (b.map V.str).length < sizeLine := by rw [List.length_map]; show _ < (16777216 : Nat); omega
    fail "cgo"
    have step2 : ∀ (H1 : Hp) (bv1 : V), Fr [] H H1 → SoAt H1 so kn bs wt bv1 ⟨G, b, []⟩ → ((bv1 = .non ∧ badW G R rest = badW G R wl) ∨ (∃ a, bv1 = .ref a) ∧ badW G R wl ≠ none) → ∀ D : Ends, (∀ H2 b2 bv2, Fr [] H H2 → SoAt H2 so kn bs wt bv2 ⟨G, b2, []⟩ → beginAll R rest b2 = beginAll R wl [] → b2.length + rest.length ≤ 900 → ((bv2 = .non ∧ badW G R rest = badW G R wl) ∨ (∃ a, bv2 = .ref a) ∧ badW G R wl ≠ none) → D.nx [some (.ref h), some (.ref l), some (.ref so), some (.str a)] H2) →
        tIfS (tAnd (tTest (tOp (rInU K) (tVar 3) (tOp (rIxU K) (tVar 0) (tC (.int 1))))) (tTest (tOp (rNotInU K) (tVar 3) (tOp (rIxU K) (tVar 2) (tC (.str "begun")))))) (tDrop (tBM K "list" rAppend (tOp (rIxU K) (tVar 2) (tC (.str "begun"))) (tCons (tVar 3) tNil))) tNext D [some (.ref h), some (.ref l), some (.ref so), some (.str a)] H1 := by
      intro H1 bv1 f p hi D kD
      have hs1 := hs.fr f (by simp) (by simp)
      obtain ⟨rk1, hr1, hrk1⟩ := hs1.has
      have hh1 := f.keep _ _ hh (by simp)
      obtain ⟨h0, h1, h2, h3, n1, n2, n3⟩ := id p
      dsimp only at h1 h2 h3
      have hz1 : (b.map V.str).length < sizeLine := by rw [List.length_map]; show _ < (16777216 : Nat); omega
      refine st_ifT (by fail "an") (fun q => ?_) fun q => ?_
      · have q : (R.lookup a).isSome = true ∧ ¬ a ∈ b := by rw [← hrk1]; simpa using q
        fail "cgo"
        refine kD _ (b ++ [a]) bv1 (by fail "frm") ⟨by fail "hq", by fail "hq", by rw [upd_same, List.map_append]; rfl, by fail "hq", n1, n2, n3⟩ ?_ (by rw [List.length_append]; show b.length + 1 + rest.length ≤ 900; omega) hi
        rw [← e]
        show _ = beginAll R rest (if (R.lookup a).isSome then beginW b a else b)
        rw [if_pos q.1]
        unfold beginW
        rw [if_neg q.2]
      · fail "cgo"
        refine kD _ b bv1 f p ?_ (by omega) hi
        rw [← e]
        show _ = beginAll R rest (if (R.lookup a).isSome then beginW b a else b)
        by_cases h1 : (R.lookup a).isSome = true
        · rw [if_pos h1]
          have : a ∈ b := by rw [hrk1, h1] at q; simpa using q
          unfold beginW
          rw [if_pos this]
        · rw [if_neg h1]
    refine st_ifT (by fail "an") (fun q => ?_) fun q => ?_
    · rw [im_get, hrk1] at q
      have q1 : (G.lookup a).isSome = false ∧ (R.lookup a).isSome = false := by
        cases e : G.lookup a <;> cases e2 : R.lookup a <;> rw [e, e2] at q <;> simp at q ⊢
      have hb : badW G R (a :: rest) = some a := badW_hit q1.1 q1.2
      have hb2 : badW G R wl ≠ none := by
        rcases hi with ⟨_, e⟩ | ⟨_, e⟩
        · rw [← e, hb]; exact fun z => by cases z
        · exact e
      fail "cgo"
      rename_i tb tb0
      refine step2 _ (.ref tb) (by fail "frm") ⟨by fail "hx", by fail "hq", by fail "hq", by fail "hq", n1, n2, n3⟩ (.inr ⟨⟨_, rfl⟩, hb2⟩) _ fun H2 b2 bv2 f2 p2 e2 z2 i2 => ⟨_, b2, bv2, rfl, f2, p2, e2, z2, i2⟩
    · have hi2 : (bv = .non ∧ badW G R rest = badW G R wl) ∨ (∃ a, bv = .ref a) ∧ badW G R wl ≠ none := by
        rcases hi with ⟨eb, e⟩ | hi
        · subst eb
          rw [im_get, hrk1] at q
          have q1 : (G.lookup a).isSome = true ∨ (R.lookup a).isSome = true := by
            cases e : G.lookup a <;> cases e2 : R.lookup a <;> rw [e, e2] at q <;> simp at q ⊢
          exact .inl ⟨rfl, by rw [← e, badW_miss q1]⟩
        · exact .inr hi
      refine st_next ?_
      dsimp only
      exact step2 _ bv f p hi2 _ fun H2 b2 bv2 f2 p2 e2 z2 i2 => ⟨_, b2, bv2, rfl, f2, p2, e2, z2, i2⟩
  · rintro σ' H' ⟨x, b, bv, rfl, f, p, e, z, hi⟩
    fail "cgo"
    have e : b = beginAll R wl [] := e
    subst e
    refine k _ so kn bs wt bv ?_ e1 e2 e3 e4 f p
    rcases hi with ⟨rfl, q⟩ | ⟨q, q2⟩
    · exact .inl ⟨rfl, q.symm⟩
    · exact .inr ⟨q, q2⟩
end Law

end
section
set_option maxHeartbeats 4000000
/-! words: fail "le", "hq" (what stands at an address), "ne" (two addresses differ), "fn" (an address is new to an older heap), "al" (places of a frame), "ni", "frm" (a frame) -/
local macro_rules | `(tactic| fail "le") => `(tactic| first
  | (with_reducible exact U.Le.refl _)
  | ((with_reducible refine U.Le.upd ?_); fail "le")
  | ((with_reducible apply U.Le.fr); (rotate_left 1); (focus assumption); (focus fail "le")))
local macro_rules | `(tactic| fail "fn") => `(tactic| first
  | assumption
  | ((with_reducible apply U.none_le); (rotate_left 1); (focus assumption); (focus fail "le")))
local macro_rules | `(tactic| fail "hq") => `(tactic| first
  | (with_reducible assumption)
  | (with_reducible exact L2.upd_same)
  | ((with_reducible apply U.look_upd); (focus fail "hq"); (focus fail "ne"))
  | ((with_reducible apply U.look_fr); (focus assumption); (focus fail "hq"); (focus fail "ni"))
  | ((with_reducible apply U.look_tup); (focus assumption); (focus fail "hq")))
local macro_rules | `(tactic| fail "hx") => `(tactic| first
  | fail "hq"
  | ((with_reducible apply U.hq_to); (focus fail "hq"); (focus rfl)))
local macro_rules | `(tactic| fail "ni") => `(tactic| first
  | (with_reducible exact U.ni_nil)
  | ((with_reducible refine U.ni_cons ?_ ?_); (focus fail "ne"); (focus fail "ni"))
  | assumption)
local macro_rules | `(tactic| fail "ne") => `(tactic| first
  | (with_reducible assumption)
  | ((with_reducible apply Ne.symm); (focus assumption))
  | ((with_reducible apply U.ne_new); (focus with_reducible assumption); (focus fail "hq"))
  | ((with_reducible apply U.ne_new'); (focus with_reducible assumption); (focus fail "hq"))
  | ((with_reducible apply L2.ne_of); (focus with_reducible assumption); (focus fail "hq"); (focus (intro z; cases z))))
local macro_rules | `(tactic| fail "mem") => `(tactic| first
  | (with_reducible exact U.mem_hd)
  | ((with_reducible refine U.mem_tl ?_); fail "mem")
  | assumption)
local macro_rules | `(tactic| fail "in") => `(tactic| first
  | ((with_reducible apply Or.inl); (focus fail "mem"))
  | ((with_reducible apply Or.inr); (focus fail "fn")))
local macro_rules | `(tactic| fail "al") => `(tactic| first
  | (with_reducible exact U.al_nil)
  | ((with_reducible refine U.al_cons ?_ ?_); (focus fail "in"); (focus fail "al"))
  | assumption)
local macro_rules | `(tactic| fail "frm") => `(tactic| first
  | (with_reducible exact U.Fr.refl _)
  | (with_reducible assumption)
  | ((with_reducible apply U.fr_new); (focus assumption); (focus fail "frm"))
  | ((with_reducible apply U.fr_upd); (focus fail "hq"); (focus rfl); (focus fail "in"); (focus fail "frm"))
  | ((with_reducible apply U.fr_call); (focus assumption); (focus fail "frm"); (focus fail "al")))
local macro_rules | `(tactic| fail "sne") => `(tactic| first
  | assumption
  | decide +kernel
  | ((with_reducible apply U.inr_ne); (focus fail "sne"))
  | ((with_reducible apply Ne.symm); (focus assumption)))
local macro_rules | `(tactic| fail "lk") => `(tactic| first
  | (with_reducible exact U.lk_hit)
  | ((with_reducible apply U.lk_miss); (focus fail "sne"); (focus fail "lk"))
  | (with_reducible exact U.lk_nil)
  | assumption)
local macro_rules | `(tactic| fail "pf") => `(tactic| first
  | (with_reducible exact U.pf_hit)
  | ((with_reducible apply U.pf_miss); (focus fail "sne"); (focus fail "pf"))
  | (with_reducible exact U.pf_nil))
local macro_rules | `(tactic| fail "vv") => `(tactic| first
  | (with_reducible assumption)
  | (with_reducible exact U.vv_hit)
  | ((with_reducible apply U.vv_miss); (focus fail "sne"); (focus fail "vv"))
  | (with_reducible exact U.vv_nil))
local macro_rules | `(tactic| fail "nk") => `(tactic| first
  | (with_reducible exact U.nk_nil)
  | ((with_reducible apply U.nk_cons); (focus fail "sne"); (focus fail "nk")))
local macro_rules | `(tactic| fail "pk") => `(tactic| first
  | ((with_reducible apply U.pk_hit); fail "nk")
  | ((with_reducible apply U.pk_miss); (focus fail "sne"); (focus fail "pk"))
  | (with_reducible exact U.pk_nil))
local macro_rules | `(tactic| fail "at") => `(tactic| first
  | (with_reducible assumption)
  | ((with_reducible apply L2.atI_nat); (focus assumption))
  | rfl)
local macro_rules | `(tactic| fail "sz") => `(tactic| first
  | assumption
  | decide
  | (simp only [List.length_cons, List.length_nil]; decide)
  | (show _ < (16777216 : Nat); omega)
  | (show _ ≤ (16777216 : Nat); omega))
local macro_rules | `(tactic| fail "lf") => `(tactic| first
  | (with_reducible exact U.lf_addI)
  | (with_reducible exact U.lf_sub)
  | (with_reducible exact U.lf_eqI)
  | (with_reducible exact U.lf_eqS)
  | (with_reducible exact U.lf_neI)
  | (with_reducible exact U.lf_neS)
  | (with_reducible exact U.lf_lt)
  | (with_reducible exact U.lf_le)
  | (with_reducible exact U.lf_gt)
  | (with_reducible exact U.lf_ge)
  | (with_reducible exact U.lf_isN)
  | (with_reducible exact U.lf_notN)
  | ((with_reducible apply U.lf_ixT); (focus fail "hq"); (focus fail "at"))
  | ((with_reducible apply U.lf_ixL); (focus fail "hq"); (focus fail "at"))
  | ((with_reducible apply U.lf_ixD); (focus fail "hq"); (focus fail "vv"))
  | ((with_reducible apply U.lf_inD); (focus fail "hq"))
  | ((with_reducible apply U.lf_notInD); (focus fail "hq"))
  | ((with_reducible apply U.lf_inL); (focus fail "hq"))
  | ((with_reducible apply U.lf_notInL); (focus fail "hq"))
  | (with_reducible exact U.lf_inS)
  | (with_reducible exact U.lf_notInS)
  | ((with_reducible apply U.lf_mod); (focus first | assumption | decide | omega))
  | ((with_reducible apply U.lf_mul); (focus first | assumption | ((apply U.mul64); (focus decide); (focus decide)) | ((apply U.mul64); (focus omega); (focus omega))))
  | ((with_reducible apply U.lf_div); (focus first | assumption | exact ⟨by decide, by decide +kernel⟩))
  | ((with_reducible apply U.lf_pow); (focus exact ⟨by decide, by decide, by decide⟩))
  | ((with_reducible apply U.lf_addS); (focus first | assumption | (show _ ≤ (16777216 : Nat); omega)))
  | (with_reducible assumption))
local macro_rules | `(tactic| fail "lc") => `(tactic| first
  | ((with_reducible apply U.lc_lenUL); (focus fail "hq"))
  | ((with_reducible apply U.lc_lenUT); (focus fail "hq"))
  | ((with_reducible apply U.lc_lenUD); (focus fail "hq"))
  | ((with_reducible apply U.lc_lenUS); (focus fail "sz"))
  | (with_reducible exact U.lc_intB)
  | (with_reducible exact U.lc_max)
  | (with_reducible exact U.lc_min)
  | ((with_reducible apply U.lc_lenUq); assumption)
  | ((with_reducible apply U.lc_isiL); (focus fail "hq"))
  | ((with_reducible apply U.lc_isiT); (focus fail "hq"))
  | (with_reducible exact U.lc_isiSb)
  | (with_reducible exact U.lc_isiIb)
  | (with_reducible assumption))
local macro_rules | `(tactic| fail "va") => `(tactic| first
  | (with_reducible exact U.va_nil)
  | ((with_reducible apply U.va_cons); (focus fail "vt"); (focus fail "va")))
local macro_rules | `(tactic| fail "vt") => `(tactic| first
  | (with_reducible assumption)
  | (with_reducible exact U.val_c)
  | exact U.val_var rfl
  | ((with_reducible apply U.val_op); (focus fail "vt"); (focus fail "vt"); (focus fail "lf"))
  | ((with_reducible apply U.val_fld); (focus fail "vt"); (focus fail "hq"); (focus fail "lk"))
  | ((with_reducible apply U.val_cb); (focus fail "va"); (focus fail "lc"))
  | ((with_reducible apply U.val_get1); (focus fail "vt"); (focus fail "vt"); (focus fail "hq"))
  | ((with_reducible apply U.val_notV); (focus fail "vt"))
  | ((with_reducible apply U.val_andV); (focus fail "vt"); (intro _; fail "vt"))
  | ((with_reducible apply U.val_orV); (focus fail "vt"); (intro _; fail "vt"))
  | ((with_reducible apply U.val_un); (focus fail "vt"); (focus with_reducible exact U.l1_neg)))
local macro_rules | `(tactic| fail "an") => `(tactic| first
  | (with_reducible assumption)
  | ((with_reducible apply U.ans_T); fail "vt")
  | ((with_reducible apply U.ans_B); fail "vt")
  | ((with_reducible apply U.ans_not); fail "an")
  | ((with_reducible apply U.ans_and); (focus fail "an"); (intro _; fail "an"))
  | ((with_reducible apply U.ans_or); (focus fail "an"); (intro _; fail "an")))
local macro_rules | `(tactic| fail "put") => `(tactic| first
  | fail "pk"
  | ((apply Law.im_put); (focus assumption))
  | ((apply Law.sm_put); (focus assumption)))
local macro_rules | `(tactic| fail "st") => `(tactic| first
  | (with_reducible refine U.st_seq ?_)
  | ((with_reducible apply U.st_asg); (focus fail "vt"); (try dsimp only [List.set]))
  | ((with_reducible apply U.st_ret); (focus fail "vt"); (try dsimp only))
  | ((with_reducible apply U.st_fld); (focus fail "vt"); (focus fail "vt"); (focus fail "hq"); (focus fail "sz"); (focus fail "pf"); (try dsimp only))
  | ((with_reducible apply U.st_fld1); (focus fail "vt"); (focus fail "hq"); (focus fail "sz"); (focus fail "pf"); (try dsimp only))
  | ((with_reducible apply U.st_untup); (focus fail "vt"); (focus fail "hq"); (focus rfl))
  | ((with_reducible refine U.st_gcons ?_); (try dsimp only))
  | ((with_reducible refine U.st_gname ?_); (try dsimp only [List.set]))
  | ((with_reducible refine U.st_gnil ?_); (try dsimp only))
  | ((with_reducible apply U.st_gf); (focus fail "vt"); (focus fail "hq"); (focus fail "sz"); (focus fail "pf"); (try dsimp only))
  | ((with_reducible refine U.st_next ?_); (try dsimp only))
  | (with_reducible refine U.st_drop ?_)
  | ((with_reducible apply U.st_append); (focus fail "vt"); (focus fail "hq"); (focus fail "vt"); (focus fail "sz"); (try dsimp only))
  | ((with_reducible apply U.st_setDL); (focus fail "vt"); (focus fail "vt"); (focus fail "vt"); (focus fail "hq"); (focus fail "sz"); (focus fail "put"); (try dsimp only))
  | ((with_reducible apply U.st_set1); (focus fail "vt"); (focus fail "vt"); (focus fail "hq"); (focus fail "sz"); (focus fail "put"); (try dsimp only))
  | ((with_reducible apply U.st_call); (focus fail "va"))
  | ((with_reducible apply U.st_methV); (focus fail "vt"); (focus fail "hq"); (focus fail "lk"); (focus fail "va"))
  | (with_reducible refine U.st_fldE ?_)
  | (with_reducible refine U.st_setE ?_)
  | (with_reducible refine U.st_asgC ?_)
  | (with_reducible refine U.st_retC ?_)
  | ((with_reducible refine U.st_dnew ?_); (intro p hp); (try dsimp only))
  | ((with_reducible apply U.st_tup); (focus fail "va"); (focus fail "sz"); (intro p hp); (try dsimp only))
  | ((with_reducible apply U.st_lst); (focus fail "va"); (focus fail "sz"); (intro p hp); (try dsimp only))
  | ((with_reducible apply U.st_listOf); (focus fail "va"); (focus fail "hq"); (intro p hp); (try dsimp only))
  | ((with_reducible apply U.st_dictOf); (focus fail "va"); (focus fail "hq"); (intro p hp); (try dsimp only))
  | ((with_reducible apply U.st_apE); (focus fail "vt"); (focus fail "hq"))
  | ((with_reducible apply U.st_ap1); (focus fail "hq"); (focus fail "sz"); (try dsimp only)))
local macro_rules | `(tactic| fail "go") => `(tactic| repeat fail "st")
/-! words: "cp", one step of the general way; "cgo" -/
local macro_rules | `(tactic| fail "cp") => `(tactic| first
  | ((with_reducible apply U.st_val); (focus fail "vt"); (try dsimp only))
  | ((with_reducible apply U.st_vals); (focus fail "va"); (try dsimp only))
  | (with_reducible refine U.st_opC ?_)
  | (with_reducible refine U.st_consC ?_)
  | (with_reducible refine U.st_nilC ?_)
  | ((with_reducible apply U.st_lf); (focus fail "lf"); (try dsimp only))
  | ((with_reducible apply U.st_mkEnd); (focus fail "sz"); (intro p hp); (try dsimp only))
  | ((with_reducible apply U.st_gset); (focus fail "vt"); (focus fail "vt"); (focus fail "hq"); (focus fail "sz"); (focus fail "put"); (try dsimp only))
  | fail "st"
  | ((with_reducible apply U.st_cat); (focus fail "hq"); (focus fail "hq"); (focus fail "sz"); (intro p hp); (try dsimp only))
  | (with_reducible refine U.st_tupC ?_)
  | (with_reducible refine U.st_lstC ?_)
  | (with_reducible refine U.st_callC ?_)
  | (with_reducible refine U.st_cbC ?_))
local macro_rules | `(tactic| fail "cgo") => `(tactic| repeat fail "cp")

namespace Law
open PySem PySem.Spec PyProof.Rows L2 U
def sp_lstep (A : Ad) (n : Nat) : Sp := fun vs H Q _ => ∃ (h so g r kn bs wt : Addr) (G : List (Str × Int)) (R : List (Str × Rc)) (W : Wv) (name : Str) (rc : Rc) (M : Nat), vs = [.ref h, .ref so, .str name] ∧ H h = some (.tup [.ref g, .ref r]) ∧ HsAt H g r G R ∧ SoAt H so kn bs wt .non W ∧
  W.begun.length ≤ 50000 ∧ W.worths.length ≤ 100000 ∧ W.waits.length ≤ 100000 ∧ R.lookup name = some rc ∧ GoB n W name rc M ∧
  (In R W rc → ∀ (H' : Hp) (p : Addr), Fr [kn, bs, wt] H H' → SoAt H' so kn bs wt .non (stepW W name rc).1 → Rp H' (stepW W name rc).2.t (.ref p) → Q (.ref p) H') ∧
  (∀ y, told (W.worths.lookup ·) rc = .read y → R.lookup y = none → ∀ (H' : Hp) (b : Addr), Fr [so] H H' → SoAt H' so kn bs wt (.ref b) W → Q .non H')
theorem r__law_step {K : PySem.W.Frag} {A : Ad} {n : Nat} (vs : List V) (H : Hp) (Q : VK) (E : XK) (h : sp_lstep A n vs H Q E) : t__law_step K A (sp_reckoned A n) { nx := fun _ H' => Q .non H', rt := Q } (start N__law_step vs) H := by
  obtain ⟨h, so, g, r, kn, bs, wt, G, R, W, name, rc, M, rfl, hh, hs, p, z1, z2, z3, hl, gg, k, kb⟩ := h
  obtain ⟨h0, h1, h2, h3, n1, n2, n3⟩ := id p
  obtain ⟨rk, hr, _, hrn, hrk⟩ := hs.rcs
  obtain ⟨rv, hrv, hrp⟩ := hrk _ _ hl
  have nw := gg.nw
  have nt := gg.nt
  fail "cgo"
  refine ⟨rv, kn, rc, W.worths, M, rfl, hrp, h1, gg.dp, gg.sm, gg.hM, gg.bd, fun H1 tv f1 ht => ?_⟩
  rw [← told_tld] at ht
  have p1 := p.fr f1 (by simp) (by simp) (by simp) (by simp)
  have hs1 := hs.fr f1 (by simp) (by simp)
  have hh1 := f1.keep _ _ hh (by simp)
  clear hr hrv hrp hrn hrk h0 h1 h2 h3 hs hh p
  obtain ⟨h0, h1, h2, h3, _⟩ := id p1
  obtain ⟨rk, hr, _, hrn, hrk⟩ := hs1.rcs
  fail "cgo"
  cases et : told (W.worths.lookup ·) rc with
  | worth v =>
    rw [et] at ht
    obtain ⟨ta, rfl, hta⟩ := told_worth ht
    have hin : In R W rc := fun z hz => (by rw [et] at hz; cases hz)
    refine st_ifT (by fail "an") (fun _ => ?_) fun q => absurd q (by decide)
    have sl : (im W.worths).length < sizeLine := by rw [im_len]; show _ < (16777216 : Nat); omega
    fail "cgo"
    have es : stepW W name rc = (⟨W.worths ++ [(name, v)], W.begun, popW W.begun name W.waits⟩, .known name v) := by unfold stepW; rw [et]
    refine st_forL (K := K) (p := bs) (emb := V.str) (xs := W.begun) ?_ ?_ (fun rest σ' H2 => ∃ o wt', σ' = [some (.ref h), some (.ref so), some (.str name), some (.ref ta), o] ∧ Fr [kn, bs, wt] H H2 ∧ SoAt H2 so kn bs wt .non ⟨W.worths ++ [(name, v)], W.begun, wt'⟩ ∧ popW rest name wt' = popW W.begun name W.waits ∧ H2 ta = some (.tup [.str "worth", .int v])) ?_ ?_ ?_ ?_
    · fail "vt"
    · exact SqL.of (by fail "hq")
    · exact ⟨_, W.waits, rfl, by fail "frm", ⟨by fail "hq", by fail "hq", by fail "hq", by fail "hq", n1, n2, n3⟩, rfl, by fail "hq"⟩
    · exact fun rest σ' H2 ⟨_, _, _, _, q, _⟩ => SqL.of q.hb
    · rintro o rest σ' H2 ⟨o', wt', rfl, f2, p2, ep, hta2⟩
      obtain ⟨h02, h12, h22, h32, _⟩ := id p2
      dsimp only at h12 h22 h32
      fail "cgo"
      cases eo : wt'.lookup o with
      | none =>
        have vn : valV (sm wt') (.inr o) = none := by rw [sm_get, eo]; rfl
        refine st_ifT (b := false) (ans_andF (ans_is (by fail "an") (by rw [vn]; rfl))) (fun q => by cases q) fun _ => ?_
        fail "cgo"
        refine ⟨_, wt', rfl, f2, p2, ?_, hta2⟩
        rw [← ep]
        show _ = popW rest name (if wt'.lookup o = some name then wt'.filter fun p => decide (p.1 ≠ o) else wt')
        rw [eo, if_neg (fun z => by cases z)]
      | some u =>
        have vn : valV (sm wt') (.inr o) = some (.str u) := by rw [sm_get, eo]; rfl
        refine st_ifT (b := decide (u = name)) (ans_is (by fail "an") (by rw [vn]; exact Bool.true_and _)) (fun q => ?_) fun q => ?_
        · have q := of_decide_eq_true q
          subst q
          refine st_drop (st_pop1 (kvs := sm wt') (s := o) (by fail "vt") (by fail "vt") h32 vn ?_)
          rw [sm_drop]
          refine ⟨_, wt'.filter fun p => decide (p.1 ≠ o), rfl, by fail "frm", ⟨by fail "hq", by fail "hq", by fail "hq", by fail "hq", n1, n2, n3⟩, ?_, by fail "hq"⟩
          rw [← ep]
          show _ = popW rest u (if wt'.lookup o = some u then wt'.filter fun p => decide (p.1 ≠ o) else wt')
          rw [eo, if_pos rfl]
        · have q := of_decide_eq_false q
          fail "cgo"
          refine ⟨_, wt', rfl, f2, p2, ?_, hta2⟩
          rw [← ep]
          show _ = popW rest name (if wt'.lookup o = some name then wt'.filter fun p => decide (p.1 ≠ o) else wt')
          rw [eo, if_neg (fun z => q (Option.some.inj z))]
    · rintro σ' H2 ⟨o', wt', rfl, f2, p2, ep, hta2⟩
      fail "cgo"
      rename_i q q0
      have ep : wt' = popW W.begun name W.waits := ep
      refine k hin _ _ (by fail "frm") ?_ ?_
      · rw [es, ← ep]
        exact p2.fr (F := []) (by fail "frm") (by simp) (by simp) (by simp) (by simp)
      · rw [es]
        exact ⟨_, _, rfl, by fail "hq", _, _, rfl, rfl, _, _, rfl, rfl, _, _, rfl, rfl, rfl⟩
  | read y =>
    rw [et] at ht
    obtain ⟨ta, rfl, hta⟩ := told_read ht
    have es : stepW W name rc = (⟨W.worths, beginW W.begun y, W.waits ++ [(name, y)]⟩, .waits name y) := by unfold stepW; rw [et]
    cases ey : R.lookup y with
    | none =>
      refine st_ifT (by fail "an") (fun q => absurd q (by decide)) fun _ => ?_
      fail "cgo"
      refine st_ifT (by fail "an") (fun _ => ?_) fun q => (by rw [hrn _ ey] at q; simp at q)
      fail "cgo"
      rename_i tb tb0
      exact kb y et ey _ tb (by fail "frm") ⟨by fail "hx", by fail "hq", by fail "hq", by fail "hq", n1, n2, n3⟩
    | some rcy =>
    have hin : In R W rc := fun z hz => (by rw [et] at hz; cases hz; rw [ey]; rfl)
    obtain ⟨vy, hvy, _⟩ := hrk _ _ ey
    refine st_ifT (by fail "an") (fun q => absurd q (by decide)) fun _ => ?_
    fail "cgo"
    refine st_ifT (by fail "an") (fun q => by rw [hvy] at q; simp at q) fun _ => ?_
    have zb : (W.begun.map V.str).length < sizeLine := by rw [List.length_map]; show _ < (16777216 : Nat); omega
    have sl : (sm W.waits).length < sizeLine := by rw [sm_len]; show _ < (16777216 : Nat); omega
    fail "cgo"
    refine st_ifT (by fail "an") (fun q => ?_) fun q => ?_
    · have q : ¬ y ∈ W.begun := by simpa using q
      have eb : beginW W.begun y = W.begun ++ [y] := by unfold beginW; rw [if_neg q]
      fail "cgo"
      rename_i u u0
      refine k hin _ _ (by fail "frm") ?_ ?_
      · rw [es, eb]
        exact ⟨by fail "hq", by fail "hq", by rw [List.map_append]; fail "hx", by fail "hq", n1, n2, n3⟩
      · rw [es]
        exact ⟨_, _, rfl, by fail "hq", _, _, rfl, rfl, _, _, rfl, rfl, _, _, rfl, rfl, rfl⟩
    · have q : y ∈ W.begun := by simpa using q
      have eb : beginW W.begun y = W.begun := by unfold beginW; rw [if_pos q]
      fail "cgo"
      rename_i u u0
      refine k hin _ _ (by fail "frm") ?_ ?_
      · rw [es, eb]
        exact ⟨by fail "hq", by fail "hq", by fail "hq", by fail "hq", n1, n2, n3⟩
      · rw [es]
        exact ⟨_, _, rfl, by fail "hq", _, _, rfl, rfl, _, _, rfl, rfl, _, _, rfl, rfl, rfl⟩
end Law

end
section
set_option maxHeartbeats 4000000
/-! words: fail "le", "hq" (what stands at an address), "ne" (two addresses differ), "fn" (an address is new to an older heap), "al" (places of a frame), "ni", "frm" (a frame) -/
local macro_rules | `(tactic| fail "le") => `(tactic| first
  | (with_reducible exact U.Le.refl _)
  | ((with_reducible refine U.Le.upd ?_); fail "le")
  | ((with_reducible apply U.Le.fr); (rotate_left 1); (focus assumption); (focus fail "le")))
local macro_rules | `(tactic| fail "fn") => `(tactic| first
  | assumption
  | ((with_reducible apply U.none_le); (rotate_left 1); (focus assumption); (focus fail "le")))
local macro_rules | `(tactic| fail "hq") => `(tactic| first
  | (with_reducible assumption)
  | (with_reducible exact L2.upd_same)
  | ((with_reducible apply U.look_upd); (focus fail "hq"); (focus fail "ne"))
  | ((with_reducible apply U.look_fr); (focus assumption); (focus fail "hq"); (focus fail "ni"))
  | ((with_reducible apply U.look_tup); (focus assumption); (focus fail "hq")))
local macro_rules | `(tactic| fail "hx") => `(tactic| first
  | fail "hq"
  | ((with_reducible apply U.hq_to); (focus fail "hq"); (focus rfl)))
local macro_rules | `(tactic| fail "ni") => `(tactic| first
  | (with_reducible exact U.ni_nil)
  | ((with_reducible refine U.ni_cons ?_ ?_); (focus fail "ne"); (focus fail "ni"))
  | assumption)
local macro_rules | `(tactic| fail "ne") => `(tactic| first
  | (with_reducible assumption)
  | ((with_reducible apply Ne.symm); (focus assumption))
  | ((with_reducible apply U.ne_new); (focus with_reducible assumption); (focus fail "hq"))
  | ((with_reducible apply U.ne_new'); (focus with_reducible assumption); (focus fail "hq"))
  | ((with_reducible apply L2.ne_of); (focus with_reducible assumption); (focus fail "hq"); (focus (intro z; cases z))))
local macro_rules | `(tactic| fail "mem") => `(tactic| first
  | (with_reducible exact U.mem_hd)
  | ((with_reducible refine U.mem_tl ?_); fail "mem")
  | assumption)
local macro_rules | `(tactic| fail "in") => `(tactic| first
  | ((with_reducible apply Or.inl); (focus fail "mem"))
  | ((with_reducible apply Or.inr); (focus fail "fn")))
local macro_rules | `(tactic| fail "al") => `(tactic| first
  | (with_reducible exact U.al_nil)
  | ((with_reducible refine U.al_cons ?_ ?_); (focus fail "in"); (focus fail "al"))
  | assumption)
local macro_rules | `(tactic| fail "frm") => `(tactic| first
  | (with_reducible exact U.Fr.refl _)
  | (with_reducible assumption)
  | ((with_reducible apply U.fr_new); (focus assumption); (focus fail "frm"))
  | ((with_reducible apply U.fr_upd); (focus fail "hq"); (focus rfl); (focus fail "in"); (focus fail "frm"))
  | ((with_reducible apply U.fr_call); (focus assumption); (focus fail "frm"); (focus fail "al")))
local macro_rules | `(tactic| fail "sne") => `(tactic| first
  | assumption
  | decide +kernel
  | ((with_reducible apply U.inr_ne); (focus fail "sne"))
  | ((with_reducible apply Ne.symm); (focus assumption)))
local macro_rules | `(tactic| fail "lk") => `(tactic| first
  | (with_reducible exact U.lk_hit)
  | ((with_reducible apply U.lk_miss); (focus fail "sne"); (focus fail "lk"))
  | (with_reducible exact U.lk_nil)
  | assumption)
local macro_rules | `(tactic| fail "pf") => `(tactic| first
  | (with_reducible exact U.pf_hit)
  | ((with_reducible apply U.pf_miss); (focus fail "sne"); (focus fail "pf"))
  | (with_reducible exact U.pf_nil))
local macro_rules | `(tactic| fail "vv") => `(tactic| first
  | (with_reducible assumption)
  | (with_reducible exact U.vv_hit)
  | ((with_reducible apply U.vv_miss); (focus fail "sne"); (focus fail "vv"))
  | (with_reducible exact U.vv_nil))
local macro_rules | `(tactic| fail "nk") => `(tactic| first
  | (with_reducible exact U.nk_nil)
  | ((with_reducible apply U.nk_cons); (focus fail "sne"); (focus fail "nk")))
local macro_rules | `(tactic| fail "pk") => `(tactic| first
  | ((with_reducible apply U.pk_hit); fail "nk")
  | ((with_reducible apply U.pk_miss); (focus fail "sne"); (focus fail "pk"))
  | (with_reducible exact U.pk_nil))
local macro_rules | `(tactic| fail "at") => `(tactic| first
  | (with_reducible assumption)
  | ((with_reducible apply L2.atI_nat); (focus assumption))
  | rfl)
local macro_rules | `(tactic| fail "sz") => `(tactic| first
  | assumption
  | decide
  | (simp only [List.length_cons, List.length_nil]; decide)
  | (show _ < (16777216 : Nat); omega)
  | (show _ ≤ (16777216 : Nat); omega))
local macro_rules | `(tactic| fail "lf") => `(tactic| first
  | (with_reducible exact U.lf_addI)
  | (with_reducible exact U.lf_sub)
  | (with_reducible exact U.lf_eqI)
  | (with_reducible exact U.lf_eqS)
  | (with_reducible exact U.lf_neI)
  | (with_reducible exact U.lf_neS)
  | (with_reducible exact U.lf_lt)
  | (with_reducible exact U.lf_le)
  | (with_reducible exact U.lf_gt)
  | (with_reducible exact U.lf_ge)
  | (with_reducible exact U.lf_isN)
  | (with_reducible exact U.lf_notN)
  | ((with_reducible apply U.lf_ixT); (focus fail "hq"); (focus fail "at"))
  | ((with_reducible apply U.lf_ixL); (focus fail "hq"); (focus fail "at"))
  | ((with_reducible apply U.lf_ixD); (focus fail "hq"); (focus fail "vv"))
  | ((with_reducible apply U.lf_inD); (focus fail "hq"))
  | ((with_reducible apply U.lf_notInD); (focus fail "hq"))
  | ((with_reducible apply U.lf_inL); (focus fail "hq"))
  | ((with_reducible apply U.lf_notInL); (focus fail "hq"))
  | (with_reducible exact U.lf_inS)
  | (with_reducible exact U.lf_notInS)
  | ((with_reducible apply U.lf_mod); (focus first | assumption | decide | omega))
  | ((with_reducible apply U.lf_mul); (focus first | assumption | ((apply U.mul64); (focus decide); (focus decide)) | ((apply U.mul64); (focus omega); (focus omega))))
  | ((with_reducible apply U.lf_div); (focus first | assumption | exact ⟨by decide, by decide +kernel⟩))
  | ((with_reducible apply U.lf_pow); (focus exact ⟨by decide, by decide, by decide⟩))
  | ((with_reducible apply U.lf_addS); (focus first | assumption | (show _ ≤ (16777216 : Nat); omega)))
  | (with_reducible assumption))
local macro_rules | `(tactic| fail "lc") => `(tactic| first
  | ((with_reducible apply U.lc_lenUL); (focus fail "hq"))
  | ((with_reducible apply U.lc_lenUT); (focus fail "hq"))
  | ((with_reducible apply U.lc_lenUD); (focus fail "hq"))
  | ((with_reducible apply U.lc_lenUS); (focus fail "sz"))
  | (with_reducible exact U.lc_intB)
  | (with_reducible exact U.lc_max)
  | (with_reducible exact U.lc_min)
  | ((with_reducible apply U.lc_lenUq); assumption)
  | ((with_reducible apply U.lc_isiL); (focus fail "hq"))
  | ((with_reducible apply U.lc_isiT); (focus fail "hq"))
  | (with_reducible exact U.lc_isiSb)
  | (with_reducible exact U.lc_isiIb)
  | (with_reducible assumption))
local macro_rules | `(tactic| fail "va") => `(tactic| first
  | (with_reducible exact U.va_nil)
  | ((with_reducible apply U.va_cons); (focus fail "vt"); (focus fail "va")))
local macro_rules | `(tactic| fail "vt") => `(tactic| first
  | (with_reducible assumption)
  | (with_reducible exact U.val_c)
  | exact U.val_var rfl
  | ((with_reducible apply U.val_op); (focus fail "vt"); (focus fail "vt"); (focus fail "lf"))
  | ((with_reducible apply U.val_fld); (focus fail "vt"); (focus fail "hq"); (focus fail "lk"))
  | ((with_reducible apply U.val_cb); (focus fail "va"); (focus fail "lc"))
  | ((with_reducible apply U.val_get1); (focus fail "vt"); (focus fail "vt"); (focus fail "hq"))
  | ((with_reducible apply U.val_notV); (focus fail "vt"))
  | ((with_reducible apply U.val_andV); (focus fail "vt"); (intro _; fail "vt"))
  | ((with_reducible apply U.val_orV); (focus fail "vt"); (intro _; fail "vt"))
  | ((with_reducible apply U.val_un); (focus fail "vt"); (focus with_reducible exact U.l1_neg)))
local macro_rules | `(tactic| fail "an") => `(tactic| first
  | (with_reducible assumption)
  | ((with_reducible apply U.ans_T); fail "vt")
  | ((with_reducible apply U.ans_B); fail "vt")
  | ((with_reducible apply U.ans_not); fail "an")
  | ((with_reducible apply U.ans_and); (focus fail "an"); (intro _; fail "an"))
  | ((with_reducible apply U.ans_or); (focus fail "an"); (intro _; fail "an")))
local macro_rules | `(tactic| fail "put") => `(tactic| first
  | fail "pk"
  | ((apply Law.im_put); (focus assumption))
  | ((apply Law.sm_put); (focus assumption)))
local macro_rules | `(tactic| fail "st") => `(tactic| first
  | (with_reducible refine U.st_seq ?_)
  | ((with_reducible apply U.st_asg); (focus fail "vt"); (try dsimp only [List.set]))
  | ((with_reducible apply U.st_ret); (focus fail "vt"); (try dsimp only))
  | ((with_reducible apply U.st_fld); (focus fail "vt"); (focus fail "vt"); (focus fail "hq"); (focus fail "sz"); (focus fail "pf"); (try dsimp only))
  | ((with_reducible apply U.st_fld1); (focus fail "vt"); (focus fail "hq"); (focus fail "sz"); (focus fail "pf"); (try dsimp only))
  | ((with_reducible apply U.st_untup); (focus fail "vt"); (focus fail "hq"); (focus rfl))
  | ((with_reducible refine U.st_gcons ?_); (try dsimp only))
  | ((with_reducible refine U.st_gname ?_); (try dsimp only [List.set]))
  | ((with_reducible refine U.st_gnil ?_); (try dsimp only))
  | ((with_reducible apply U.st_gf); (focus fail "vt"); (focus fail "hq"); (focus fail "sz"); (focus fail "pf"); (try dsimp only))
  | ((with_reducible refine U.st_next ?_); (try dsimp only))
  | (with_reducible refine U.st_drop ?_)
  | ((with_reducible apply U.st_append); (focus fail "vt"); (focus fail "hq"); (focus fail "vt"); (focus fail "sz"); (try dsimp only))
  | ((with_reducible apply U.st_setDL); (focus fail "vt"); (focus fail "vt"); (focus fail "vt"); (focus fail "hq"); (focus fail "sz"); (focus fail "put"); (try dsimp only))
  | ((with_reducible apply U.st_set1); (focus fail "vt"); (focus fail "vt"); (focus fail "hq"); (focus fail "sz"); (focus fail "put"); (try dsimp only))
  | ((with_reducible apply U.st_call); (focus fail "va"))
  | ((with_reducible apply U.st_methV); (focus fail "vt"); (focus fail "hq"); (focus fail "lk"); (focus fail "va"))
  | (with_reducible refine U.st_fldE ?_)
  | (with_reducible refine U.st_setE ?_)
  | (with_reducible refine U.st_asgC ?_)
  | (with_reducible refine U.st_retC ?_)
  | ((with_reducible refine U.st_dnew ?_); (intro p hp); (try dsimp only))
  | ((with_reducible apply U.st_tup); (focus fail "va"); (focus fail "sz"); (intro p hp); (try dsimp only))
  | ((with_reducible apply U.st_lst); (focus fail "va"); (focus fail "sz"); (intro p hp); (try dsimp only))
  | ((with_reducible apply U.st_listOf); (focus fail "va"); (focus fail "hq"); (intro p hp); (try dsimp only))
  | ((with_reducible apply U.st_dictOf); (focus fail "va"); (focus fail "hq"); (intro p hp); (try dsimp only))
  | ((with_reducible apply U.st_apE); (focus fail "vt"); (focus fail "hq"))
  | ((with_reducible apply U.st_ap1); (focus fail "hq"); (focus fail "sz"); (try dsimp only)))
local macro_rules | `(tactic| fail "go") => `(tactic| repeat fail "st")
/-! words: "cp", one step of the general way; "cgo" -/
local macro_rules | `(tactic| fail "cp") => `(tactic| first
  | ((with_reducible apply U.st_val); (focus fail "vt"); (try dsimp only))
  | ((with_reducible apply U.st_vals); (focus fail "va"); (try dsimp only))
  | (with_reducible refine U.st_opC ?_)
  | (with_reducible refine U.st_consC ?_)
  | (with_reducible refine U.st_nilC ?_)
  | ((with_reducible apply U.st_lf); (focus fail "lf"); (try dsimp only))
  | ((with_reducible apply U.st_mkEnd); (focus fail "sz"); (intro p hp); (try dsimp only))
  | ((with_reducible apply U.st_gset); (focus fail "vt"); (focus fail "vt"); (focus fail "hq"); (focus fail "sz"); (focus fail "put"); (try dsimp only))
  | fail "st"
  | ((with_reducible apply U.st_cat); (focus fail "hq"); (focus fail "hq"); (focus fail "sz"); (intro p hp); (try dsimp only))
  | (with_reducible refine U.st_tupC ?_)
  | (with_reducible refine U.st_lstC ?_)
  | (with_reducible refine U.st_callC ?_)
  | (with_reducible refine U.st_cbC ?_))
local macro_rules | `(tactic| fail "cgo") => `(tactic| repeat fail "cp")

namespace Law
open PySem PySem.Spec PyProof.Rows L2 U
theorem st_ifP {tc : TT} {t u : TS} {D : Ends} {σ : L2.St} {H : Hp} {b : Bool} (P : L2.St → Hp → Prop) (h : Ans tc σ H b) (k : ∀ σ H, P σ H → D.nx σ H) (h1 : b = true → (∀ σ H, P σ H → D.nx σ H) → t D σ H) (h2 : b = false → (∀ σ H, P σ H → D.nx σ H) → u D σ H) : tIfS tc t u D σ H :=
  st_ifT h (fun e => h1 e k) fun e => h2 e k
theorem st_asgG {te : TE} {g : TG} {D : Ends} {σ : L2.St} {H : Hp} (h : te σ H fun v H1 => g v σ H1 D.nx) : tAsg te g D σ H := h
theorem st_gtup {K : PySem.W.Frag} {p : Addr} {xs : List V} {n : Nat} {g : TGs} {σ : L2.St} {H : Hp} {Q : L2.St → Hp → Prop} (hp : H p = some (.tup xs)) (hn : xs.length = n) (k : g xs σ H Q) : gTup K n g (.ref p) σ H Q := ⟨p, xs, rfl, SqT.of hp, hn, k⟩
theorem st_dict1 {a : Addr} {kvs : List (Key × V)} {H : Hp} {Q : VK} (ha : H a = some (.dK kvs)) (k : ∀ p, H p = none → Q (.ref p) (upd H p (.dK kvs))) : rDictOf [.ref a] H Q := ⟨a, kvs, rfl, .inl ha, k⟩
theorem st_list1 {K : PySem.W.Frag} {a : Addr} {xs : List V} {H : Hp} {Q : VK} (ha : H a = some (.lst xs)) (k : ∀ p, H p = none → Q (.ref p) (upd H p (.lst xs))) : rListOf K [.ref a] H Q := ⟨a, xs, rfl, .inl (SqL.of ha), k⟩
theorem RdAt.at {F : List Addr} {H H' : Hp} {r q : Addr} {R : List (Str × Rc)} {kvs : List (Key × V)} (h : RdAt H r R) (hk : H r = some (.dK kvs)) (f : Fr F H H') (hq : H' q = some (.dK kvs)) : RdAt H' q R := by
  obtain ⟨L, h1, h2, h3⟩ := h
  rw [hk] at h1
  cases h1
  exact ⟨L, hq, h2, fun p m => rp_fr f (h3 p m)⟩
theorem SAt.ne_g {H : Hp} {s g : Addr} {b : Nat} {G : List (Str × Int)} (h : SAt H s b) (hg : H g = some (.dK (im G))) : g ≠ s := by
  obtain ⟨r, dg, c, q, _⟩ := h
  intro z
  rw [z, q] at hg
  have e := congrArg (fun l : List (Key × V) => l[1]?.map (·.2)) (HO.dK.inj (Option.some.inj hg))
  have e : some (V.bl dg) = ((im G)[1]?).map (·.2) := e
  unfold im at e
  rw [List.getElem?_map] at e
  cases h1 : G[1]? <;> rw [h1] at e <;> cases e
theorem SAt.ne_r {H : Hp} {s r : Addr} {b : Nat} {R : List (Str × Rc)} (h : SAt H s b) (hr : RdAt H r R) : r ≠ s := by
  obtain ⟨r0, dg, c, q, _⟩ := h
  obtain ⟨L, h1, _, h3⟩ := hr
  intro z
  rw [z, q] at h1
  have e := HO.dK.inj (Option.some.inj h1)
  cases L with
  | nil => cases e
  | cons p L =>
    have e1 := (List.cons.inj e).1
    have e2 : V.int r0 = p.2.2 := congrArg Prod.snd e1
    have h4 := h3 p List.mem_cons_self
    rw [← e2] at h4
    generalize p.2.1 = rc at h4
    cases rc <;> (obtain ⟨_, _, z, _⟩ := h4; cases z)
theorem st_andVC {σ : L2.St} {H : Hp} {ta tb : TE} {Q : VK} (h : ta σ H fun x H1 => ∃ c, x = .bl c ∧ if c = true then tb σ H1 Q else Q (.bl false) H1) : tAndV ta tb σ H Q := h
theorem Rp_lst_fr {F : List Addr} {H H' : Hp} {ts : List T} {a : Addr} (f : Fr F H H') (h : Rp H (.lst ts) (.ref a)) (im : immL ts = true) (n : a ∉ F) : Rp H' (.lst ts) (.ref a) := by
  obtain ⟨d', xs, e, h1, h2⟩ := h
  cases e
  exact ⟨a, xs, rfl, f.keep _ _ h1 n, RpL.tups f.tup _ _ im h2⟩
theorem tr_fr {F : List Addr} {H H' : Hp} {t : List Stp} {a : Addr} (f : Fr F H H') (h : Rp H (.lst (t.map Stp.t)) (.ref a)) (n : a ∉ F) : Rp H' (.lst (t.map Stp.t)) (.ref a) := Rp_lst_fr f h (stps_imm t) n
end Law

end
section
set_option maxHeartbeats 4000000
/-! words: fail "le", "hq" (what stands at an address), "ne" (two addresses differ), "fn" (an address is new to an older heap), "al" (places of a frame), "ni", "frm" (a frame) -/
local macro_rules | `(tactic| fail "le") => `(tactic| first
  | (with_reducible exact U.Le.refl _)
  | ((with_reducible refine U.Le.upd ?_); fail "le")
  | ((with_reducible apply U.Le.fr); (rotate_left 1); (focus assumption); (focus fail "le")))
local macro_rules | `(tactic| fail "fn") => `(tactic| first
  | assumption
  | ((with_reducible apply U.none_le); (rotate_left 1); (focus assumption); (focus fail "le")))
local macro_rules | `(tactic| fail "hq") => `(tactic| first
  | (with_reducible assumption)
  | (with_reducible exact L2.upd_same)
  | ((with_reducible apply U.look_upd); (focus fail "hq"); (focus fail "ne"))
  | ((with_reducible apply U.look_fr); (focus assumption); (focus fail "hq"); (focus fail "ni"))
  | ((with_reducible apply U.look_tup); (focus assumption); (focus fail "hq")))
local macro_rules | `(tactic| fail "hx") => `(tactic| first
  | fail "hq"
  | ((with_reducible apply U.hq_to); (focus fail "hq"); (focus rfl)))
local macro_rules | `(tactic| fail "ni") => `(tactic| first
  | (with_reducible exact U.ni_nil)
  | ((with_reducible refine U.ni_cons ?_ ?_); (focus fail "ne"); (focus fail "ni"))
  | assumption)
local macro_rules | `(tactic| fail "ne") => `(tactic| first
  | (with_reducible assumption)
  | ((with_reducible apply Ne.symm); (focus assumption))
  | ((with_reducible apply U.ne_new); (focus with_reducible assumption); (focus fail "hq"))
  | ((with_reducible apply U.ne_new'); (focus with_reducible assumption); (focus fail "hq"))
  | ((with_reducible apply L2.ne_of); (focus with_reducible assumption); (focus fail "hq"); (focus (intro z; cases z))))
local macro_rules | `(tactic| fail "mem") => `(tactic| first
  | (with_reducible exact U.mem_hd)
  | ((with_reducible refine U.mem_tl ?_); fail "mem")
  | assumption)
local macro_rules | `(tactic| fail "in") => `(tactic| first
  | ((with_reducible apply Or.inl); (focus fail "mem"))
  | ((with_reducible apply Or.inr); (focus fail "fn")))
local macro_rules | `(tactic| fail "al") => `(tactic| first
  | (with_reducible exact U.al_nil)
  | ((with_reducible refine U.al_cons ?_ ?_); (focus fail "in"); (focus fail "al"))
  | assumption)
local macro_rules | `(tactic| fail "frm") => `(tactic| first
  | (with_reducible exact U.Fr.refl _)
  | (with_reducible assumption)
  | ((with_reducible apply U.fr_new); (focus assumption); (focus fail "frm"))
  | ((with_reducible apply U.fr_upd); (focus fail "hq"); (focus rfl); (focus fail "in"); (focus fail "frm"))
  | ((with_reducible apply U.fr_call); (focus assumption); (focus fail "frm"); (focus fail "al")))
local macro_rules | `(tactic| fail "sne") => `(tactic| first
  | assumption
  | decide +kernel
  | ((with_reducible apply U.inr_ne); (focus fail "sne"))
  | ((with_reducible apply Ne.symm); (focus assumption)))
local macro_rules | `(tactic| fail "lk") => `(tactic| first
  | (with_reducible exact U.lk_hit)
  | ((with_reducible apply U.lk_miss); (focus fail "sne"); (focus fail "lk"))
  | (with_reducible exact U.lk_nil)
  | assumption)
local macro_rules | `(tactic| fail "pf") => `(tactic| first
  | (with_reducible exact U.pf_hit)
  | ((with_reducible apply U.pf_miss); (focus fail "sne"); (focus fail "pf"))
  | (with_reducible exact U.pf_nil))
local macro_rules | `(tactic| fail "vv") => `(tactic| first
  | (with_reducible assumption)
  | (with_reducible exact U.vv_hit)
  | ((with_reducible apply U.vv_miss); (focus fail "sne"); (focus fail "vv"))
  | (with_reducible exact U.vv_nil))
local macro_rules | `(tactic| fail "nk") => `(tactic| first
  | (with_reducible exact U.nk_nil)
  | ((with_reducible apply U.nk_cons); (focus fail "sne"); (focus fail "nk")))
local macro_rules | `(tactic| fail "pk") => `(tactic| first
  | ((with_reducible apply U.pk_hit); fail "nk")
  | ((with_reducible apply U.pk_miss); (focus fail "sne"); (focus fail "pk"))
  | (with_reducible exact U.pk_nil))
local macro_rules | `(tactic| fail "at") => `(tactic| first
  | (with_reducible assumption)
  | ((with_reducible apply L2.atI_nat); (focus assumption))
  | rfl)
local macro_rules | `(tactic| fail "sz") => `(tactic| first
  | assumption
  | decide
  | (simp only [List.length_cons, List.length_nil]; decide)
  | (show _ < (16777216 : Nat); omega)
  | (show _ ≤ (16777216 : Nat); omega))
local macro_rules | `(tactic| fail "lf") => `(tactic| first
  | (with_reducible exact U.lf_addI)
  | (with_reducible exact U.lf_sub)
  | (with_reducible exact U.lf_eqI)
  | (with_reducible exact U.lf_eqS)
  | (with_reducible exact U.lf_neI)
  | (with_reducible exact U.lf_neS)
  | (with_reducible exact U.lf_lt)
  | (with_reducible exact U.lf_le)
  | (with_reducible exact U.lf_gt)
  | (with_reducible exact U.lf_ge)
  | (with_reducible exact U.lf_isN)
  | (with_reducible exact U.lf_notN)
  | ((with_reducible apply U.lf_ixT); (focus fail "hq"); (focus fail "at"))
  | ((with_reducible apply U.lf_ixL); (focus fail "hq"); (focus fail "at"))
  | ((with_reducible apply U.lf_ixD); (focus fail "hq"); (focus fail "vv"))
  | ((with_reducible apply U.lf_inD); (focus fail "hq"))
  | ((with_reducible apply U.lf_notInD); (focus fail "hq"))
  | ((with_reducible apply U.lf_inL); (focus fail "hq"))
  | ((with_reducible apply U.lf_notInL); (focus fail "hq"))
  | (with_reducible exact U.lf_inS)
  | (with_reducible exact U.lf_notInS)
  | ((with_reducible apply U.lf_mod); (focus first | assumption | decide | omega))
  | ((with_reducible apply U.lf_mul); (focus first | assumption | ((apply U.mul64); (focus decide); (focus decide)) | ((apply U.mul64); (focus omega); (focus omega))))
  | ((with_reducible apply U.lf_div); (focus first | assumption | exact ⟨by decide, by decide +kernel⟩))
  | ((with_reducible apply U.lf_pow); (focus exact ⟨by decide, by decide, by decide⟩))
  | ((with_reducible apply U.lf_addS); (focus first | assumption | (show _ ≤ (16777216 : Nat); omega)))
  | (with_reducible assumption))
local macro_rules | `(tactic| fail "lc") => `(tactic| first
  | ((with_reducible apply U.lc_lenUL); (focus fail "hq"))
  | ((with_reducible apply U.lc_lenUT); (focus fail "hq"))
  | ((with_reducible apply U.lc_lenUD); (focus fail "hq"))
  | ((with_reducible apply U.lc_lenUS); (focus fail "sz"))
  | (with_reducible exact U.lc_intB)
  | (with_reducible exact U.lc_max)
  | (with_reducible exact U.lc_min)
  | ((with_reducible apply U.lc_lenUq); assumption)
  | ((with_reducible apply U.lc_isiL); (focus fail "hq"))
  | ((with_reducible apply U.lc_isiT); (focus fail "hq"))
  | (with_reducible exact U.lc_isiSb)
  | (with_reducible exact U.lc_isiIb)
  | (with_reducible assumption))
local macro_rules | `(tactic| fail "va") => `(tactic| first
  | (with_reducible exact U.va_nil)
  | ((with_reducible apply U.va_cons); (focus fail "vt"); (focus fail "va")))
local macro_rules | `(tactic| fail "vt") => `(tactic| first
  | (with_reducible assumption)
  | (with_reducible exact U.val_c)
  | exact U.val_var rfl
  | ((with_reducible apply U.val_op); (focus fail "vt"); (focus fail "vt"); (focus fail "lf"))
  | ((with_reducible apply U.val_fld); (focus fail "vt"); (focus fail "hq"); (focus fail "lk"))
  | ((with_reducible apply U.val_cb); (focus fail "va"); (focus fail "lc"))
  | ((with_reducible apply U.val_get1); (focus fail "vt"); (focus fail "vt"); (focus fail "hq"))
  | ((with_reducible apply U.val_notV); (focus fail "vt"))
  | ((with_reducible apply U.val_andV); (focus fail "vt"); (intro _; fail "vt"))
  | ((with_reducible apply U.val_orV); (focus fail "vt"); (intro _; fail "vt"))
  | ((with_reducible apply U.val_un); (focus fail "vt"); (focus with_reducible exact U.l1_neg)))
local macro_rules | `(tactic| fail "an") => `(tactic| first
  | (with_reducible assumption)
  | ((with_reducible apply U.ans_T); fail "vt")
  | ((with_reducible apply U.ans_B); fail "vt")
  | ((with_reducible apply U.ans_not); fail "an")
  | ((with_reducible apply U.ans_and); (focus fail "an"); (intro _; fail "an"))
  | ((with_reducible apply U.ans_or); (focus fail "an"); (intro _; fail "an")))
local macro_rules | `(tactic| fail "put") => `(tactic| first
  | fail "pk"
  | ((apply Law.im_put); (focus assumption))
  | ((apply Law.sm_put); (focus assumption)))
local macro_rules | `(tactic| fail "st") => `(tactic| first
  | (with_reducible refine U.st_seq ?_)
  | ((with_reducible apply U.st_asg); (focus fail "vt"); (try dsimp only [List.set]))
  | ((with_reducible apply U.st_ret); (focus fail "vt"); (try dsimp only))
  | ((with_reducible apply U.st_fld); (focus fail "vt"); (focus fail "vt"); (focus fail "hq"); (focus fail "sz"); (focus fail "pf"); (try dsimp only))
  | ((with_reducible apply U.st_fld1); (focus fail "vt"); (focus fail "hq"); (focus fail "sz"); (focus fail "pf"); (try dsimp only))
  | ((with_reducible apply U.st_untup); (focus fail "vt"); (focus fail "hq"); (focus rfl))
  | ((with_reducible refine U.st_gcons ?_); (try dsimp only))
  | ((with_reducible refine U.st_gname ?_); (try dsimp only [List.set]))
  | ((with_reducible refine U.st_gnil ?_); (try dsimp only))
  | ((with_reducible apply U.st_gf); (focus fail "vt"); (focus fail "hq"); (focus fail "sz"); (focus fail "pf"); (try dsimp only))
  | ((with_reducible refine U.st_next ?_); (try dsimp only))
  | (with_reducible refine U.st_drop ?_)
  | ((with_reducible apply U.st_append); (focus fail "vt"); (focus fail "hq"); (focus fail "vt"); (focus fail "sz"); (try dsimp only))
  | ((with_reducible apply U.st_setDL); (focus fail "vt"); (focus fail "vt"); (focus fail "vt"); (focus fail "hq"); (focus fail "sz"); (focus fail "put"); (try dsimp only))
  | ((with_reducible apply U.st_set1); (focus fail "vt"); (focus fail "vt"); (focus fail "hq"); (focus fail "sz"); (focus fail "put"); (try dsimp only))
  | ((with_reducible apply U.st_call); (focus fail "va"))
  | ((with_reducible apply U.st_methV); (focus fail "vt"); (focus fail "hq"); (focus fail "lk"); (focus fail "va"))
  | (with_reducible refine U.st_fldE ?_)
  | (with_reducible refine U.st_setE ?_)
  | (with_reducible refine U.st_asgC ?_)
  | (with_reducible refine U.st_retC ?_)
  | ((with_reducible refine U.st_dnew ?_); (intro p hp); (try dsimp only))
  | ((with_reducible apply U.st_tup); (focus fail "va"); (focus fail "sz"); (intro p hp); (try dsimp only))
  | ((with_reducible apply U.st_lst); (focus fail "va"); (focus fail "sz"); (intro p hp); (try dsimp only))
  | ((with_reducible apply U.st_listOf); (focus fail "va"); (focus fail "hq"); (intro p hp); (try dsimp only))
  | ((with_reducible apply U.st_dictOf); (focus fail "va"); (focus fail "hq"); (intro p hp); (try dsimp only))
  | ((with_reducible apply U.st_apE); (focus fail "vt"); (focus fail "hq"))
  | ((with_reducible apply U.st_ap1); (focus fail "hq"); (focus fail "sz"); (try dsimp only)))
local macro_rules | `(tactic| fail "go") => `(tactic| repeat fail "st")
/-! words: "cp", one step of the general way; "cgo" -/
local macro_rules | `(tactic| fail "cp") => `(tactic| first
  | ((with_reducible apply U.st_val); (focus fail "vt"); (try dsimp only))
  | ((with_reducible apply U.st_vals); (focus fail "va"); (try dsimp only))
  | (with_reducible refine U.st_opC ?_)
  | (with_reducible refine U.st_consC ?_)
  | (with_reducible refine U.st_nilC ?_)
  | ((with_reducible apply U.st_lf); (focus fail "lf"); (try dsimp only))
  | ((with_reducible apply U.st_mkEnd); (focus fail "sz"); (intro p hp); (try dsimp only))
  | ((with_reducible apply U.st_gset); (focus fail "vt"); (focus fail "vt"); (focus fail "hq"); (focus fail "sz"); (focus fail "put"); (try dsimp only))
  | fail "st"
  | ((with_reducible apply U.st_cat); (focus fail "hq"); (focus fail "hq"); (focus fail "sz"); (intro p hp); (try dsimp only))
  | (with_reducible refine U.st_tupC ?_)
  | (with_reducible refine U.st_lstC ?_)
  | (with_reducible refine U.st_callC ?_)
  | (with_reducible refine U.st_cbC ?_))
local macro_rules | `(tactic| fail "cgo") => `(tactic| repeat fail "cp")

namespace Law
open PySem PySem.Spec PyProof.Rows L2 U
def isDone : Out → Bool
  | .done _ => true
  | _ => false
inductive Tk (G : List (Str × Int)) (R : List (Str × Rc)) (wl : List Str) : List Stp → List Int → Out → Prop
  | bad {y : Str} (h : badW G R wl = some y) : Tk G R wl [] [] (.name y)
  | run {t : List Stp} {cs : List Int} {V : Wv} {e : End} (h : badW G R wl = none) (p : PreE R cs (W0 G R wl) t V) (r : RunE R cs V t.length [] e) : Tk G R wl t cs (outOf t e)
theorem outOf_done {t : List Stp} {e : End} : isDone (outOf t e) = true ↔ e = .done := by
  cases e <;> simp [outOf, isDone]
theorem Tk.woven {G : List (Str × Int)} {R : List (Str × Rc)} {wl : List Str} {t : List Stp} {cs : List Int} {o : Out} (h : Tk G R wl t cs o) (l : t.length ≤ 20000) : WovenE G R wl cs o := by
  cases h with
  | bad h => exact .bad h
  | @run _ _ V e h p r =>
    have ru := p.run r
    rw [List.append_nil] at ru
    cases e with
    | done => exact .done h ru l
    | name y => exact .name h ru l
    | ring z => exact .ring h ru l
theorem Tk.done {G : List (Str × Int)} {R : List (Str × Rc)} {wl : List Str} {t t' : List Stp} {cs : List Int} {o : Out} (h : Tk G R wl t cs o) (e : o = .done t') : t' = t := by
  cases h with
  | bad h => cases e
  | @run _ _ V e' h p r => cases e' <;> cases e; rfl
theorem Tk.shows {G : List (Str × Int)} {R : List (Str × Rc)} {wl : List Str} {t : List Stp} {cs : List Int} {o : Out} (h : Tk G R wl t cs o) {k : Nat} (hk : k ≤ t.length) : (decide (badW G R wl = none) && showsE R (W0 G R wl) ((t.take k).map Stp.t)) = (decide (k = t.length) && isDone o) := by
  cases h with
  | bad h => rw [h]; simp [isDone]
  | @run _ _ V e h p r =>
    rw [decide_eq_true h, Bool.true_and]
    by_cases q : k = t.length
    · subst q
      rw [List.take_length, decide_eq_true rfl, Bool.true_and]
      have s := p.shows []
      rw [List.append_nil] at s
      rw [s]
      show decide (V.open = []) = _
      cases r with
      | over o => rw [decide_eq_true o]; rfl
      | ring o _ => rw [decide_eq_false o]; rfl
      | name o => rw [decide_eq_false o]; rfl
    · obtain ⟨U, a, b⟩ := p.take (k := k) (by omega)
      have s := a.shows []
      rw [List.append_nil] at s
      rw [s, decide_eq_false q, Bool.false_and]
      exact decide_eq_false b
def sp_taken (A : Ad) (n : Nat) : Sp := fun vs H Q _ => ∃ (h g r l s : Addr) (G : List (Str × Int)) (R : List (Str × Rc)) (wl : List Str) (b : Nat), vs = [.ref h, .ref l, .ref s] ∧ H h = some (.tup [.ref g, .ref r]) ∧ HsAt H g r G R ∧
  H l = some (.lst (wl.map V.str)) ∧ LOk n G R ∧ G.length ≤ 1000 ∧ wl.length ≤ 900 ∧ SAt H s (b + 15000) ∧
  ∀ (H' : Hp) (p tr cl : Addr) (bv : V) (t : List Stp) (cs : List Int) (o : Out), Tk G R wl t cs o → t.length ≤ 20000 → cs.length ≤ t.length + 1 → Fr [s] H H' → H p = none → H' p = some (.tup [.ref tr, .ref cl, bv]) → Rp H' (.lst (t.map Stp.t)) (.ref tr) → H' cl = some (.lst (cs.map V.int)) → SAt H' s b → (bv = .non ∧ isDone o = true ∨ (∃ a, bv = .ref a) ∧ isDone o = false) → Q (.ref p) H'
theorem r__law_taken {K : PySem.W.Frag} {A : Ad} {n : Nat} (vs : List V) (H : Hp) (Q : VK) (E : XK) (h : sp_taken A n vs H Q E) : t__law_taken K A (sp_lbegun A) (sp_lover A) (sp_lready A) (sp_draw A) (sp_lstep A n) { nx := fun _ H' => Q .non H', rt := Q } (start N__law_taken vs) H := by
  obtain ⟨h, g, r, l, s, G, R, wl, b, rfl, hh, hs, hl, lok, zG, zw, s0, k⟩ := h
  have ok := lgood lok
  have oI := lI0 lok wl
  fail "cgo"
  refine ⟨h, l, g, r, G, R, wl, rfl, hh, hs, hl, zw, fun H1 so kn bs wt bv0 hbv e1 e2 e3 e4 f1 p1 => ?_⟩
  have s1 := s0.fr f1 (by simp)
  have nh := s0.ne_tup hh
  have ng := s0.ne_g hs.g
  have nr := s0.ne_r (rp_rdAt hs.r)
  have hne : ∀ q, H q = none → s ≠ q := fun q e z => by obtain ⟨_, _, _, q1, _⟩ := id s0; rw [z, e] at q1; cases q1
  have ns1 := hne _ e1
  have ns2 := hne _ e2
  have ns3 := hne _ e3
  have ns4 := hne _ e4
  fail "cgo"
  rename_i d d0 c c0
  have fd' : Fr [s] H (upd (upd H1 d (.lst [])) c (.lst [])) := by fail "frm"
  have fd0 : Fr [] H1 (upd (upd H1 d (.lst [])) c (.lst [])) := by fail "frm"
  have d00 : H d = none := f1.old _ d0
  have c00 : H c = none := by fail "fn"
  have ndc : d ≠ c := fun z => by rw [← z, upd_same] at c0; cases c0
  have ns5 := hne _ d00
  have ns6 := hne _ c00
  have nd : ∀ q o, H1 q = some o → q ≠ d := fun q o e z => by rw [z, d0] at e; cases e
  have c01 : H1 c = none := by rw [upd_ne ndc.symm] at c0; exact c0
  have nc : ∀ q o, H1 q = some o → q ≠ c := fun q o e z => by rw [z, c01] at e; cases e
  have nd1 := nd _ _ p1.hk
  have nd2 := nd _ _ p1.hb
  have nd3 := nd _ _ p1.ht
  have nd4 := nd _ _ p1.o
  have nc1 := nc _ _ p1.hk
  have nc2 := nc _ _ p1.hb
  have nc3 := nc _ _ p1.ht
  have nc4 := nc _ _ p1.o
  have p2 := p1.fr fd0 (by simp) (by simp) (by simp) (by simp)
  have s2 := s1.fr fd0 (by simp)
  have hd0 : (upd (upd H1 d (.lst [])) c (.lst [])) d = some (.lst []) := by fail "hq"
  have hc0 : (upd (upd H1 d (.lst [])) c (.lst [])) c = some (.lst []) := by fail "hq"
  dsimp only [L2.start, List.set]
  generalize upd (upd H1 d (.lst [])) c (.lst []) = H2 at *
  clear d0 c0 nd nc p1 s1 f1 fd0 c01 hne s0
  have hmu : mu (R.map (·.1)) (W0 G R wl) ≤ 14640 := by
    refine Nat.le_trans mu_le ?_
    rw [List.length_map]
    have := lok.rl
    have : R.length * (R.length + 1) ≤ 120 * 121 := Nat.mul_le_mul this (Nat.succ_le_succ this)
    omega
  have z0 : (W0 G R wl).begun.length ≤ wl.length + 0 := by have := beginAll_len R wl []; show (beginAll R wl []).length ≤ _; simpa using this
  refine st_whileN (m := mu (R.map (·.1)) (W0 G R wl) + 1) (fun m σ' H' => ∃ W t cs bv v6 v7, σ' = [some (.ref h), some (.ref l), some (.ref s), some (.ref so), some (.ref d), some (.ref c), v6, v7] ∧ Fr [s] H H' ∧ SoAt H' so kn bs wt bv W ∧ Rp H' (.lst (t.map Stp.t)) (.ref d) ∧ H' c = some (.lst (cs.map V.int)) ∧ W.begun.length ≤ wl.length + t.length ∧ W.worths.length ≤ G.length + t.length ∧ W.waits.length ≤ t.length ∧ t.length ≤ 20000 ∧ cs.length ≤ t.length + 1 ∧
      ((bv = .non ∧ badW G R wl = none ∧ PreE R cs (W0 G R wl) t W ∧ t.length = cs.length ∧ mu (R.map (·.1)) W + 1 = m ∧ SAt H' s (b + 1 + mu (R.map (·.1)) W)) ∨ (∃ a, bv = .ref a) ∧ SAt H' s b ∧ ∃ o, Tk G R wl t cs o ∧ isDone o = false))
    ⟨W0 G R wl, [], [], bv0, none, none, rfl, fd', p2, ⟨d, [], rfl, hd0, rfl⟩, hc0, z0, Nat.le_refl _, Nat.le_refl _, Nat.zero_le _, Nat.zero_le _, ?_⟩ ?_
  · rcases hbv with ⟨q1, q2⟩ | ⟨q1, q2⟩
    · exact .inl ⟨q1, q2, .nil, rfl, rfl, s2.le (by omega)⟩
    · cases ebw : badW G R wl with
      | none => exact absurd ebw q2
      | some y => exact .inr ⟨q1, s2.le (by omega), _, .bad ebw, rfl⟩
  clear p2 s2 fd' hd0 hc0
  rintro m σ' H1 ⟨W, t, cs, bv, v6, v7, rfl, f, p, hd, hc, y1, y2, y3, y4, y5, ph⟩
  obtain ⟨h0, h1, h2, h3, m1, m2, m3⟩ := id p
  have hRd : ∃ xs, H1 d = some (.lst xs) ∧ RpL H1 (t.map Stp.t) xs := by
    obtain ⟨d', xs, e', hx, hR⟩ := hd
    cases e'
    exact ⟨xs, hx, hR⟩
  have fin : ∀ (H3 : Hp) (o : Out) (bv : V) (v6 v7 : Option V), Tk G R wl t cs o → (bv = .non ∧ isDone o = true ∨ (∃ a, bv = .ref a) ∧ isDone o = false) → Fr [] H1 H3 → SoAt H3 so kn bs wt bv W → SAt H3 s b → tRet (tTup (tCons (tVar 4) (tCons (tVar 5) (tCons (tOp (rIxU K) (tVar 3) (tC (.str "bad"))) tNil)))) { nx := fun _ H' => Q .non H', rt := Q } [some (.ref h), some (.ref l), some (.ref s), some (.ref so), some (.ref d), some (.ref c), v6, v7] H3 := by
    intro H3 o bv v6 v7 tk hb f3 p3 s3
    obtain ⟨h03, _⟩ := id p3
    obtain ⟨xs, hx, hR⟩ := hRd
    have hx3 := f3.keep _ _ hx (by simp)
    have hR3 := RpL.tups f3.tup _ _ (stps_imm _) hR
    have hc3 := f3.keep _ _ hc (by simp)
    have f3' : Fr [s] H H3 := f.call f3 (by fail "al")
    clear f3 f p3 hd hc h0 h1 h2 h3 p hx hR
    fail "cgo"
    rename_i q q0
    have fq : Fr [] H3 (upd H3 q (.tup [.ref d, .ref c, bv])) := by fail "frm"
    exact k _ q d c bv t cs o tk y4 y5 (by fail "frm") (by fail "fn") upd_same ⟨d, xs, rfl, by fail "hq", RpL.tups fq.tup _ _ (stps_imm _) hR3⟩ (by fail "hq") (s3.fr fq (by simp)) hb
  refine st_andC (st_ansC (by fail "an") ?_)
  rcases ph with ⟨rfl, hbad, pre, elen, em, s3⟩ | ⟨⟨a, rfl⟩, s3, o, tk, nd⟩
  rotate_left 1
  · refine ifF (by rfl) ?_
    refine ifF rfl ?_
    exact fin _ o (.ref a) _ _ tk (.inr ⟨⟨a, rfl⟩, nd⟩) (Fr.refl _) p s3
  refine ifT (by rfl) ?_
  refine st_notC (st_bC ?_)
  fail "cgo"
  refine ⟨so, kn, bs, wt, .non, W, rfl, p, by omega, fun H2 f2 => ⟨_, rfl, ?_⟩⟩
  have p' := p.fr f2 (by simp) (by simp) (by simp) (by simp)
  have s4 := s3.fr f2 (by simp)
  by_cases hop : W.open = []
  · refine ifF (by simp [hop]) ?_
    exact fin _ (outOf t .done) .non _ _ (.run hbad pre (.over hop)) (.inl ⟨rfl, rfl⟩) f2 p' (s4.le (by omega))
  clear fin
  refine ifT (by simp [hop]) ⟨_, fun _ _ q => q, ?_⟩
  obtain ⟨xs, hx, hR⟩ := hRd
  have hx2 := f2.keep _ _ hx (by simp)
  have hR2 := RpL.tups f2.tup _ _ (stps_imm _) hR
  have hc2 := f2.keep _ _ hc (by simp)
  have f' : Fr [s] H H2 := f.call f2 (by fail "al")
  clear f2 f p hd h0 h1 h2 h3 hx hR hc s3
  fail "cgo"
  refine ⟨so, kn, bs, wt, .non, W, rfl, p', by omega, fun H3 rd rd0 f3 hrd => ?_⟩
  have hx3 := f3.keep _ _ hx2 (by simp)
  have hR3 := RpL.tups f3.tup _ _ (stps_imm _) hR2
  have hc3 := f3.keep _ _ hc2 (by simp)
  have f3' : Fr [s] H H3 := f'.call f3 (by fail "al")
  have p3 := p'.fr f3 (by simp) (by simp) (by simp) (by simp)
  have s5 := s4.fr f3 (by simp)
  have rd00 : H rd = none := f'.old _ rd0
  have nrd : rd ≠ s := fun z => by obtain ⟨_, _, _, q, _⟩ := id s4; rw [← z, rd0] at q; cases q
  have nrc : rd ≠ c := fun z => by rw [z, hc2] at rd0; cases rd0
  clear f3 f' p' hx2 hR2 rd0 hc2 s4
  fail "cgo"
  refine st_ifC (st_testC (st_opC (st_val (val_var rfl) ?_)))
  fail "cgo"
  refine st_lf (lf_strsNil (xs := W.ready) (by fail "hq") (by fail "hq")) ?_
  rename_i e1 e0
  have hx4 : (upd H3 e1 (.lst [])) d = some (.lst xs) := by fail "hq"
  have hc4 : (upd H3 e1 (.lst [])) c = some (.lst (cs.map V.int)) := by fail "hq"
  have hrd4 : (upd H3 e1 (.lst [])) rd = some (.lst (W.ready.map V.str)) := by fail "hq"
  have f4 : Fr [] H3 (upd H3 e1 (.lst [])) := by fail "frm"
  have f4' : Fr [s] H (upd H3 e1 (.lst [])) := by fail "frm"
  have p4 := p3.fr f4 (by simp) (by simp) (by simp) (by simp)
  have s6 := s5.fr f4 (by simp)
  have hR4 := RpL.tups f4.tup _ _ (stps_imm _) hR3
  generalize upd H3 e1 (.lst []) = H4 at *
  clear f4 f3' p3 hx3 hc3 hrd hR3 e0 s5
  obtain ⟨iW, lmu⟩ := pre.mu_le ok oI
  by_cases hr : W.ready = []
  · refine st_bl (ifT (by simp [hr]) ?_)
    obtain ⟨h0, h1, h2, h3, _⟩ := id p4
    fail "cgo"
    rename_i q1 q10 q2 q20
    refine ⟨0, by omega, W, t, cs, .ref q2, _, _, rfl, by fail "frm", ⟨by fail "hx", by fail "hq", by fail "hq", by fail "hq", m1, m2, m3⟩, ⟨d, xs, rfl, by fail "hq", RpL.tups (Fr.tup (F := [so]) (H := H4) (by fail "frm")) _ _ (stps_imm _) hR4⟩, by fail "hq", y1, y2, y3, y4, y5, .inr ⟨⟨_, rfl⟩, ?_, _, .run hbad pre (.ring hop hr), rfl⟩⟩
    exact (s6.fr (F := [so]) (by fail "frm") (by simpa using ns1)).le (by omega)
  refine st_bl (ifF (by simp [hr]) ?_)
  obtain ⟨h0, h1, h2, h3, _⟩ := id p4
  have lr : W.ready.length ≤ W.begun.length := List.length_filter_le _ _
  have lp := List.length_pos_iff.mpr hr
  have ln : (W.ready.map V.str).length = W.ready.length := List.length_map _
  have hmul : CMulW 2 ((W.ready.map V.str).length : Int) := U.mul64 (by decide) (by omega)
  fail "cgo"
  refine ⟨s, _, b + mu (R.map (·.1)) W, rfl, by omega, by omega, s6.le (by omega), fun H5 z z0 z1 f5 s7 => ?_⟩
  rw [ln] at z1
  have nsd : d ≠ s := ns5.symm
  have hx5 := f5.keep _ _ hx4 (by simpa using nsd)
  have hR5 := RpL.tups f5.tup _ _ (stps_imm _) hR4
  have hc5 := f5.keep _ _ hc4 (by simpa using ns6.symm)
  have hrd5 := f5.keep _ _ hrd4 (by simpa using nrd)
  have p5 := p4.fr f5 (by simpa using ns1.symm) (by simpa using ns2.symm) (by simpa using ns3.symm) (by simpa using ns4.symm)
  have f5' : Fr [s] H H5 := f4'.call f5 (by fail "al")
  clear f5 f4' hx4 hR4 hc4 hrd4 p4 s6 h0 h1 h2 h3
  have zc : (cs.map V.int).length < sizeLine := by rw [List.length_map]; show _ < (16777216 : Nat); omega
  fail "cgo"
  refine us_vk2 (fun H' => Fr [s] H H' ∧ SoAt H' so kn bs wt .non W ∧ H' d = some (.lst xs) ∧ RpL H' (t.map Stp.t) xs ∧ H' rd = some (.lst (W.ready.map V.str)) ∧ SAt H' s (b + mu (R.map (·.1)) W) ∧ H' c = some (.lst (cs.map V.int ++ [.int (z - ↑(List.map V.str W.ready).length)]))) ?_ ?_
  · exact ⟨by fail "frm", SoAt.fr (F := [c]) (H := H5) p5 (by fail "frm") (by simpa using nc4) (by simpa using nc1) (by simpa using nc2) (by simpa using nc3), by fail "hq", RpL.tups (Fr.tup (F := [c]) (H := H5) (by fail "frm")) _ _ (stps_imm _) hR5, by fail "hq", SAt.fr (F := [c]) (H := H5) s7 (by fail "frm") (by simpa using ns6), upd_same⟩
  clear f5' p5 hx5 hR5 hrd5 s7 hc5
  rintro H6 ⟨f6, p6, hx6, hR6, hrd6, s8, hc6⟩
  have at1 : atI (cs.map V.int ++ [V.int (z - ↑(List.map V.str W.ready).length)]) (-1) = some (.int (z - ↑(List.map V.str W.ready).length)) := at_last
  have hp0 : 0 < ((W.ready.map V.str).length : Int) := by omega
  have hi0 : 0 ≤ (z - ↑(List.map V.str W.ready).length) % ((W.ready.map V.str).length : Int) := Int.emod_nonneg _ (by omega)
  obtain ⟨name, hname⟩ : ∃ name, name = pickN W.ready (z - ↑(List.map V.str W.ready).length) := ⟨_, rfl⟩
  have at2 : atI (W.ready.map V.str) ((z - ↑(List.map V.str W.ready).length) % ((W.ready.map V.str).length : Int)) = some (.str name) := by
    have hn2 := hname
    rw [ln] at hi0 hn2
    rw [ln]
    refine at_of (j := ((z - (W.ready.length : Int)) % (W.ready.length : Int)).toNat) (by omega) ?_
    rw [List.getElem?_map, pickN_at lp, hn2]
    rfl
  have hrdy : name ∈ W.ready := by rw [hname]; exact pickN_mem lp _
  obtain ⟨rc, hlk⟩ := ok.has _ _ iW hrdy
  obtain ⟨M, gg⟩ := ok.go _ _ _ iW hrdy hlk
  have pre2 : PreE R (cs ++ [z - ↑(List.map V.str W.ready).length]) (W0 G R wl) t W := pre.more (by omega)
  have ech : name = pickN W.ready (chAt (cs ++ [z - ↑(List.map V.str W.ready).length]) t.length) := by rw [elen, chAt_snoc]; exact hname
  have hms := mu_stepB hrdy hlk
  fail "cgo"
  refine ⟨h, so, g, r, kn, bs, wt, G, R, W, name, rc, M, rfl, f6.keep _ _ hh (by simpa using nh), hs.fr f6 (by simpa using ng) (by simpa using nr), p6, by omega, by omega, by omega, hlk, gg, fun hin H7 v f7 p7 hv => ?_, fun y et hn H7 bb f7 p7 => ?_⟩
  · obtain ⟨l1, l2, l3⟩ := step_len W name rc
    have hR7 := RpL.tups f7.tup _ _ (stps_imm _) hR6
    have zx : xs.length < sizeLine := by
      have := hR6.len
      rw [List.length_map] at this
      show _ < (16777216 : Nat); omega
    have hx7 : H7 d = some (.lst xs) := f7.keep _ _ hx6 (by simp only [List.mem_cons, List.not_mem_nil, or_false, not_or]; exact ⟨nd1.symm, nd2.symm, nd3.symm⟩)
    have hc7 := f7.keep _ _ hc6 (by simp only [List.mem_cons, List.not_mem_nil, or_false, not_or]; exact ⟨nc1.symm, nc2.symm, nc3.symm⟩)
    have s9 := s8.fr f7 (by simp only [List.mem_cons, List.not_mem_nil, or_false, not_or]; exact ⟨ns2, ns3, ns4⟩)
    have f7' : Fr [s] H H7 := f6.call f7 (by fail "al")
    have f8 : Fr [d] H7 (upd H7 d (.lst (xs ++ [.ref v]))) := by fail "frm"
    clear f7 f6
    dsimp only [List.set]
    refine st_ifT (b := true) (ans_is (by fail "an") (by rfl)) (fun _ => ?_) fun z => by cases z
    fail "cgo"
    refine ⟨mu (R.map (·.1)) (stepW W name rc).1 + 1, by omega, (stepW W name rc).1, t ++ [(stepW W name rc).2], cs ++ [z - ↑(List.map V.str W.ready).length], .non, _, _, rfl, by fail "frm", p7.fr f8 (by fail "ni") (by fail "ni") (by fail "ni") (by fail "ni"), ⟨d, _, rfl, upd_same, ?_⟩, by rw [List.map_append]; fail "hx", ?_, ?_, ?_, ?_, ?_, .inl ⟨rfl, hbad, .snoc pre2 hop hr ech hlk hin, ?_, rfl, (s9.fr f8 (by simpa using ns5)).le (by omega)⟩⟩
    · rw [List.map_append]
      exact rpl_append (rpl_one (Rp.tups f8.tup _ _ (stp_imm _) hv)) (RpL.tups f8.tup _ _ (stps_imm _) hR7)
    all_goals simp only [List.length_append, List.length_cons, List.length_nil]
    all_goals omega
  · have f7' : Fr [s] H H7 := f6.call f7 (by fail "al")
    have s9 := s8.fr f7 (by simpa using ns1)
    have hx7 := f7.keep _ _ hx6 (by simpa using nd4.symm)
    have hR7 := RpL.tups f7.tup _ _ (stps_imm _) hR6
    have hc7 := f7.keep _ _ hc6 (by simpa using nc4.symm)
    clear f7 f6
    dsimp only [List.set]
    refine st_ifT (b := false) (ans_is (by fail "an") (by rfl)) (fun z => by cases z) fun _ => ?_
    fail "cgo"
    refine ⟨0, by omega, W, t, cs ++ [z - ↑(List.map V.str W.ready).length], .ref bb, _, _, rfl, f7', p7, ⟨d, xs, rfl, hx7, hR7⟩, by rw [List.map_append]; exact hc7, y1, y2, y3, y4, by rw [List.length_append]; show cs.length + 1 ≤ _; omega, .inr ⟨⟨_, rfl⟩, s9.le (by omega), _, .run hbad pre2 (.name hop hr ech hlk et hn), rfl⟩⟩
end Law

end
section
set_option maxHeartbeats 4000000
/-! words: fail "le", "hq" (what stands at an address), "ne" (two addresses differ), "fn" (an address is new to an older heap), "al" (places of a frame), "ni", "frm" (a frame) -/
local macro_rules | `(tactic| fail "le") => `(tactic| first
  | (with_reducible exact U.Le.refl _)
  | ((with_reducible refine U.Le.upd ?_); fail "le")
  | ((with_reducible apply U.Le.fr); (rotate_left 1); (focus assumption); (focus fail "le")))
local macro_rules | `(tactic| fail "fn") => `(tactic| first
  | assumption
  | ((with_reducible apply U.none_le); (rotate_left 1); (focus assumption); (focus fail "le")))
local macro_rules | `(tactic| fail "hq") => `(tactic| first
  | (with_reducible assumption)
  | (with_reducible exact L2.upd_same)
  | ((with_reducible apply U.look_upd); (focus fail "hq"); (focus fail "ne"))
  | ((with_reducible apply U.look_fr); (focus assumption); (focus fail "hq"); (focus fail "ni"))
  | ((with_reducible apply U.look_tup); (focus assumption); (focus fail "hq")))
local macro_rules | `(tactic| fail "hx") => `(tactic| first
  | fail "hq"
  | ((with_reducible apply U.hq_to); (focus fail "hq"); (focus rfl)))
local macro_rules | `(tactic| fail "ni") => `(tactic| first
  | (with_reducible exact U.ni_nil)
  | ((with_reducible refine U.ni_cons ?_ ?_); (focus fail "ne"); (focus fail "ni"))
  | assumption)
local macro_rules | `(tactic| fail "ne") => `(tactic| first
  | (with_reducible assumption)
  | ((with_reducible apply Ne.symm); (focus assumption))
  | ((with_reducible apply U.ne_new); (focus with_reducible assumption); (focus fail "hq"))
  | ((with_reducible apply U.ne_new'); (focus with_reducible assumption); (focus fail "hq"))
  | ((with_reducible apply L2.ne_of); (focus with_reducible assumption); (focus fail "hq"); (focus (intro z; cases z))))
local macro_rules | `(tactic| fail "mem") => `(tactic| first
  | (with_reducible exact U.mem_hd)
  | ((with_reducible refine U.mem_tl ?_); fail "mem")
  | assumption)
local macro_rules | `(tactic| fail "in") => `(tactic| first
  | ((with_reducible apply Or.inl); (focus fail "mem"))
  | ((with_reducible apply Or.inr); (focus fail "fn")))
local macro_rules | `(tactic| fail "al") => `(tactic| first
  | (with_reducible exact U.al_nil)
  | ((with_reducible refine U.al_cons ?_ ?_); (focus fail "in"); (focus fail "al"))
  | assumption)
local macro_rules | `(tactic| fail "frm") => `(tactic| first
  | (with_reducible exact U.Fr.refl _)
  | (with_reducible assumption)
  | ((with_reducible apply U.fr_new); (focus assumption); (focus fail "frm"))
  | ((with_reducible apply U.fr_upd); (focus fail "hq"); (focus rfl); (focus fail "in"); (focus fail "frm"))
  | ((with_reducible apply U.fr_call); (focus assumption); (focus fail "frm"); (focus fail "al")))
local macro_rules | `(tactic| fail "sne") => `(tactic| first
  | assumption
  | decide +kernel
  | ((with_reducible apply U.inr_ne); (focus fail "sne"))
  | ((with_reducible apply Ne.symm); (focus assumption)))
local macro_rules | `(tactic| fail "lk") => `(tactic| first
  | (with_reducible exact U.lk_hit)
  | ((with_reducible apply U.lk_miss); (focus fail "sne"); (focus fail "lk"))
  | (with_reducible exact U.lk_nil)
  | assumption)
local macro_rules | `(tactic| fail "pf") => `(tactic| first
  | (with_reducible exact U.pf_hit)
  | ((with_reducible apply U.pf_miss); (focus fail "sne"); (focus fail "pf"))
  | (with_reducible exact U.pf_nil))
local macro_rules | `(tactic| fail "vv") => `(tactic| first
  | (with_reducible assumption)
  | (with_reducible exact U.vv_hit)
  | ((with_reducible apply U.vv_miss); (focus fail "sne"); (focus fail "vv"))
  | (with_reducible exact U.vv_nil))
local macro_rules | `(tactic| fail "nk") => `(tactic| first
  | (with_reducible exact U.nk_nil)
  | ((with_reducible apply U.nk_cons); (focus fail "sne"); (focus fail "nk")))
local macro_rules | `(tactic| fail "pk") => `(tactic| first
  | ((with_reducible apply U.pk_hit); fail "nk")
  | ((with_reducible apply U.pk_miss); (focus fail "sne"); (focus fail "pk"))
  | (with_reducible exact U.pk_nil))
local macro_rules | `(tactic| fail "at") => `(tactic| first
  | (with_reducible assumption)
  | ((with_reducible apply L2.atI_nat); (focus assumption))
  | rfl)
local macro_rules | `(tactic| fail "sz") => `(tactic| first
  | assumption
  | decide
  | (simp only [List.length_cons, List.length_nil]; decide)
  | (show _ < (16777216 : Nat); omega)
  | (show _ ≤ (16777216 : Nat); omega))
local macro_rules | `(tactic| fail "lf") => `(tactic| first
  | (with_reducible exact U.lf_addI)
  | (with_reducible exact U.lf_sub)
  | (with_reducible exact U.lf_eqI)
  | (with_reducible exact U.lf_eqS)
  | (with_reducible exact U.lf_neI)
  | (with_reducible exact U.lf_neS)
  | (with_reducible exact U.lf_lt)
  | (with_reducible exact U.lf_le)
  | (with_reducible exact U.lf_gt)
  | (with_reducible exact U.lf_ge)
  | (with_reducible exact U.lf_isN)
  | (with_reducible exact U.lf_notN)
  | ((with_reducible apply U.lf_ixT); (focus fail "hq"); (focus fail "at"))
  | ((with_reducible apply U.lf_ixL); (focus fail "hq"); (focus fail "at"))
  | ((with_reducible apply U.lf_ixD); (focus fail "hq"); (focus fail "vv"))
  | ((with_reducible apply U.lf_inD); (focus fail "hq"))
  | ((with_reducible apply U.lf_notInD); (focus fail "hq"))
  | ((with_reducible apply U.lf_inL); (focus fail "hq"))
  | ((with_reducible apply U.lf_notInL); (focus fail "hq"))
  | (with_reducible exact U.lf_inS)
  | (with_reducible exact U.lf_notInS)
  | ((with_reducible apply U.lf_mod); (focus first | assumption | decide | omega))
  | ((with_reducible apply U.lf_mul); (focus first | assumption | ((apply U.mul64); (focus decide); (focus decide)) | ((apply U.mul64); (focus omega); (focus omega))))
  | ((with_reducible apply U.lf_div); (focus first | assumption | exact ⟨by decide, by decide +kernel⟩))
  | ((with_reducible apply U.lf_pow); (focus exact ⟨by decide, by decide, by decide⟩))
  | ((with_reducible apply U.lf_addS); (focus first | assumption | (show _ ≤ (16777216 : Nat); omega)))
  | (with_reducible assumption))
local macro_rules | `(tactic| fail "lc") => `(tactic| first
  | ((with_reducible apply U.lc_lenUL); (focus fail "hq"))
  | ((with_reducible apply U.lc_lenUT); (focus fail "hq"))
  | ((with_reducible apply U.lc_lenUD); (focus fail "hq"))
  | ((with_reducible apply U.lc_lenUS); (focus fail "sz"))
  | (with_reducible exact U.lc_intB)
  | (with_reducible exact U.lc_max)
  | (with_reducible exact U.lc_min)
  | ((with_reducible apply U.lc_lenUq); assumption)
  | ((with_reducible apply U.lc_isiL); (focus fail "hq"))
  | ((with_reducible apply U.lc_isiT); (focus fail "hq"))
  | (with_reducible exact U.lc_isiSb)
  | (with_reducible exact U.lc_isiIb)
  | (with_reducible assumption))
local macro_rules | `(tactic| fail "va") => `(tactic| first
  | (with_reducible exact U.va_nil)
  | ((with_reducible apply U.va_cons); (focus fail "vt"); (focus fail "va")))
local macro_rules | `(tactic| fail "vt") => `(tactic| first
  | (with_reducible assumption)
  | (with_reducible exact U.val_c)
  | exact U.val_var rfl
  | ((with_reducible apply U.val_op); (focus fail "vt"); (focus fail "vt"); (focus fail "lf"))
  | ((with_reducible apply U.val_fld); (focus fail "vt"); (focus fail "hq"); (focus fail "lk"))
  | ((with_reducible apply U.val_cb); (focus fail "va"); (focus fail "lc"))
  | ((with_reducible apply U.val_get1); (focus fail "vt"); (focus fail "vt"); (focus fail "hq"))
  | ((with_reducible apply U.val_notV); (focus fail "vt"))
  | ((with_reducible apply U.val_andV); (focus fail "vt"); (intro _; fail "vt"))
  | ((with_reducible apply U.val_orV); (focus fail "vt"); (intro _; fail "vt"))
  | ((with_reducible apply U.val_un); (focus fail "vt"); (focus with_reducible exact U.l1_neg)))
local macro_rules | `(tactic| fail "an") => `(tactic| first
  | (with_reducible assumption)
  | ((with_reducible apply U.ans_T); fail "vt")
  | ((with_reducible apply U.ans_B); fail "vt")
  | ((with_reducible apply U.ans_not); fail "an")
  | ((with_reducible apply U.ans_and); (focus fail "an"); (intro _; fail "an"))
  | ((with_reducible apply U.ans_or); (focus fail "an"); (intro _; fail "an")))
local macro_rules | `(tactic| fail "put") => `(tactic| first
  | fail "pk"
  | ((apply Law.im_put); (focus assumption))
  | ((apply Law.sm_put); (focus assumption)))
local macro_rules | `(tactic| fail "st") => `(tactic| first
  | (with_reducible refine U.st_seq ?_)
  | ((with_reducible apply U.st_asg); (focus fail "vt"); (try dsimp only [List.set]))
  | ((with_reducible apply U.st_ret); (focus fail "vt"); (try dsimp only))
  | ((with_reducible apply U.st_fld); (focus fail "vt"); (focus fail "vt"); (focus fail "hq"); (focus fail "sz"); (focus fail "pf"); (try dsimp only))
  | ((with_reducible apply U.st_fld1); (focus fail "vt"); (focus fail "hq"); (focus fail "sz"); (focus fail "pf"); (try dsimp only))
  | ((with_reducible apply U.st_untup); (focus fail "vt"); (focus fail "hq"); (focus rfl))
  | ((with_reducible refine U.st_gcons ?_); (try dsimp only))
  | ((with_reducible refine U.st_gname ?_); (try dsimp only [List.set]))
  | ((with_reducible refine U.st_gnil ?_); (try dsimp only))
  | ((with_reducible apply U.st_gf); (focus fail "vt"); (focus fail "hq"); (focus fail "sz"); (focus fail "pf"); (try dsimp only))
  | ((with_reducible refine U.st_next ?_); (try dsimp only))
  | (with_reducible refine U.st_drop ?_)
  | ((with_reducible apply U.st_append); (focus fail "vt"); (focus fail "hq"); (focus fail "vt"); (focus fail "sz"); (try dsimp only))
  | ((with_reducible apply U.st_setDL); (focus fail "vt"); (focus fail "vt"); (focus fail "vt"); (focus fail "hq"); (focus fail "sz"); (focus fail "put"); (try dsimp only))
  | ((with_reducible apply U.st_set1); (focus fail "vt"); (focus fail "vt"); (focus fail "hq"); (focus fail "sz"); (focus fail "put"); (try dsimp only))
  | ((with_reducible apply U.st_call); (focus fail "va"))
  | ((with_reducible apply U.st_methV); (focus fail "vt"); (focus fail "hq"); (focus fail "lk"); (focus fail "va"))
  | (with_reducible refine U.st_fldE ?_)
  | (with_reducible refine U.st_setE ?_)
  | (with_reducible refine U.st_asgC ?_)
  | (with_reducible refine U.st_retC ?_)
  | ((with_reducible refine U.st_dnew ?_); (intro p hp); (try dsimp only))
  | ((with_reducible apply U.st_tup); (focus fail "va"); (focus fail "sz"); (intro p hp); (try dsimp only))
  | ((with_reducible apply U.st_lst); (focus fail "va"); (focus fail "sz"); (intro p hp); (try dsimp only))
  | ((with_reducible apply U.st_listOf); (focus fail "va"); (focus fail "hq"); (intro p hp); (try dsimp only))
  | ((with_reducible apply U.st_dictOf); (focus fail "va"); (focus fail "hq"); (intro p hp); (try dsimp only))
  | ((with_reducible apply U.st_apE); (focus fail "vt"); (focus fail "hq"))
  | ((with_reducible apply U.st_ap1); (focus fail "hq"); (focus fail "sz"); (try dsimp only)))
local macro_rules | `(tactic| fail "go") => `(tactic| repeat fail "st")
/-! words: "cp", one step of the general way; "cgo" -/
local macro_rules | `(tactic| fail "cp") => `(tactic| first
  | ((with_reducible apply U.st_val); (focus fail "vt"); (try dsimp only))
  | ((with_reducible apply U.st_vals); (focus fail "va"); (try dsimp only))
  | (with_reducible refine U.st_opC ?_)
  | (with_reducible refine U.st_consC ?_)
  | (with_reducible refine U.st_nilC ?_)
  | ((with_reducible apply U.st_lf); (focus fail "lf"); (try dsimp only))
  | ((with_reducible apply U.st_mkEnd); (focus fail "sz"); (intro p hp); (try dsimp only))
  | ((with_reducible apply U.st_gset); (focus fail "vt"); (focus fail "vt"); (focus fail "hq"); (focus fail "sz"); (focus fail "put"); (try dsimp only))
  | fail "st"
  | ((with_reducible apply U.st_cat); (focus fail "hq"); (focus fail "hq"); (focus fail "sz"); (intro p hp); (try dsimp only))
  | (with_reducible refine U.st_tupC ?_)
  | (with_reducible refine U.st_lstC ?_)
  | (with_reducible refine U.st_callC ?_)
  | (with_reducible refine U.st_cbC ?_))
local macro_rules | `(tactic| fail "cgo") => `(tactic| repeat fail "cp")

namespace Law
open PySem PySem.Spec PyProof.Rows L2 U
def sp_told (A : Ad) (n : Nat) : Sp := fun vs H Q _ => ∃ (h g r l c : Addr) (G : List (Str × Int)) (R : List (Str × Rc)) (wl : List Str) (cs : List Int) (I : Wv → Prop) (o : Out), vs = [.ref h, .ref l, .ref c] ∧ H h = some (.tup [.ref g, .ref r]) ∧ HsAt H g r G R ∧
  H l = some (.lst (wl.map V.str)) ∧ H c = some (.lst (cs.map V.int)) ∧ GoodB n R I ∧ I (W0 G R wl) ∧ G.length ≤ 1000 ∧ wl.length ≤ 900 ∧ WovenE G R wl cs o ∧
  (∀ t, o = .done t → ∀ H' d, H d = none → Fr [] H H' → Rp H' (.lst (t.map Stp.t)) (.ref d) → Q (.ref d) H') ∧
  (isDone o = false → ∀ H', Fr [] H H' → Q .non H')
theorem st_callS {sp : Sp} {E : L2.St → XK} {tx : TA} {σ : L2.St} {H : Hp} {Q : VK} {vs : List V} (h : VA tx σ H vs) (k : sp vs H Q (E σ)) : tCallS sp E tx σ H Q := h _ k
structure XM (K : PySem.W.Frag) (A : Ad) : Prop where
  nn : PySem.W.exmOne K (.ref A.C_NoName) (.ref A.C_NoName) = some true
  rn : PySem.W.exmOne K (.ref A.C_Ring) (.ref A.C_NoName) = some false
  rr : PySem.W.exmOne K (.ref A.C_Ring) (.ref A.C_Ring) = some true
theorem r__law_woven_told {K : PySem.W.Frag} {A : Ad} {n : Nat} (vs : List V) (H : Hp) (Q : VK) (E : XK) (xm : XM K A) (h : sp_told A n vs H Q E) : t__law_woven_told K A (sp_wovenX A n) { nx := fun _ H' => Q .non H', rt := Q } (start N__law_woven_told vs) H := by
  obtain ⟨h, g, r, l, c, G, R, wl, cs, I, o, rfl, hh, hs, hl, hc, ok, oI, zG, zw, we, kd, kn⟩ := h
  fail "go"
  dsimp only [U.tTry]
  refine st_asgC ?_
  refine st_callS (vs := [.ref h, .ref l, .ref c]) (by fail "va") ?_
  refine ⟨h, g, r, l, c, G, R, wl, cs, I, o, rfl, hh, hs, hl, hc, ok, oI, zG, zw, we, fun t ho H1 d d0 f1 hd => ?_, fun y ho H1 d f1 d0 hd => ?_, fun z ho H1 d lr f1 d0 l0 hd hlr => ?_⟩
  · dsimp only [L2.start, List.set]
    fail "go"
    exact kd t ho H1 d d0 f1 hd
  · refine wm_hit xm.nn fun a a0 => ?_
    fail "go"
    exact kn (by rw [ho]; rfl) H1 f1
  · refine wm_miss xm.rn (wm_hit xm.rr fun a a0 => ?_)
    fail "go"
    exact kn (by rw [ho]; rfl) H1 f1
end Law

end
section
set_option maxHeartbeats 4000000
/-! words: fail "le", "hq" (what stands at an address), "ne" (two addresses differ), "fn" (an address is new to an older heap), "al" (places of a frame), "ni", "frm" (a frame) -/
local macro_rules | `(tactic| fail "le") => `(tactic| first
  | (with_reducible exact U.Le.refl _)
  | ((with_reducible refine U.Le.upd ?_); fail "le")
  | ((with_reducible apply U.Le.fr); (rotate_left 1); (focus assumption); (focus fail "le")))
local macro_rules | `(tactic| fail "fn") => `(tactic| first
  | assumption
  | ((with_reducible apply U.none_le); (rotate_left 1); (focus assumption); (focus fail "le")))
local macro_rules | `(tactic| fail "hq") => `(tactic| first
  | (with_reducible assumption)
  | (with_reducible exact L2.upd_same)
  | ((with_reducible apply U.look_upd); (focus fail "hq"); (focus fail "ne"))
  | ((with_reducible apply U.look_fr); (focus assumption); (focus fail "hq"); (focus fail "ni"))
  | ((with_reducible apply U.look_tup); (focus assumption); (focus fail "hq")))
local macro_rules | `(tactic| fail "hx") => `(tactic| first
  | fail "hq"
  | ((with_reducible apply U.hq_to); (focus fail "hq"); (focus rfl)))
local macro_rules | `(tactic| fail "ni") => `(tactic| first
  | (with_reducible exact U.ni_nil)
  | ((with_reducible refine U.ni_cons ?_ ?_); (focus fail "ne"); (focus fail "ni"))
  | assumption)
local macro_rules | `(tactic| fail "ne") => `(tactic| first
  | (with_reducible assumption)
  | ((with_reducible apply Ne.symm); (focus assumption))
  | ((with_reducible apply U.ne_new); (focus with_reducible assumption); (focus fail "hq"))
  | ((with_reducible apply U.ne_new'); (focus with_reducible assumption); (focus fail "hq"))
  | ((with_reducible apply L2.ne_of); (focus with_reducible assumption); (focus fail "hq"); (focus (intro z; cases z))))
local macro_rules | `(tactic| fail "mem") => `(tactic| first
  | (with_reducible exact U.mem_hd)
  | ((with_reducible refine U.mem_tl ?_); fail "mem")
  | assumption)
local macro_rules | `(tactic| fail "in") => `(tactic| first
  | ((with_reducible apply Or.inl); (focus fail "mem"))
  | ((with_reducible apply Or.inr); (focus fail "fn")))
local macro_rules | `(tactic| fail "al") => `(tactic| first
  | (with_reducible exact U.al_nil)
  | ((with_reducible refine U.al_cons ?_ ?_); (focus fail "in"); (focus fail "al"))
  | assumption)
local macro_rules | `(tactic| fail "frm") => `(tactic| first
  | (with_reducible exact U.Fr.refl _)
  | (with_reducible assumption)
  | ((with_reducible apply U.fr_new); (focus assumption); (focus fail "frm"))
  | ((with_reducible apply U.fr_upd); (focus fail "hq"); (focus rfl); (focus fail "in"); (focus fail "frm"))
  | ((with_reducible apply U.fr_call); (focus assumption); (focus fail "frm"); (focus fail "al")))
local macro_rules | `(tactic| fail "sne") => `(tactic| first
  | assumption
  | decide +kernel
  | ((with_reducible apply U.inr_ne); (focus fail "sne"))
  | ((with_reducible apply Ne.symm); (focus assumption)))
local macro_rules | `(tactic| fail "lk") => `(tactic| first
  | (with_reducible exact U.lk_hit)
  | ((with_reducible apply U.lk_miss); (focus fail "sne"); (focus fail "lk"))
  | (with_reducible exact U.lk_nil)
  | assumption)
local macro_rules | `(tactic| fail "pf") => `(tactic| first
  | (with_reducible exact U.pf_hit)
  | ((with_reducible apply U.pf_miss); (focus fail "sne"); (focus fail "pf"))
  | (with_reducible exact U.pf_nil))
local macro_rules | `(tactic| fail "vv") => `(tactic| first
  | (with_reducible assumption)
  | (with_reducible exact U.vv_hit)
  | ((with_reducible apply U.vv_miss); (focus fail "sne"); (focus fail "vv"))
  | (with_reducible exact U.vv_nil))
local macro_rules | `(tactic| fail "nk") => `(tactic| first
  | (with_reducible exact U.nk_nil)
  | ((with_reducible apply U.nk_cons); (focus fail "sne"); (focus fail "nk")))
local macro_rules | `(tactic| fail "pk") => `(tactic| first
  | ((with_reducible apply U.pk_hit); fail "nk")
  | ((with_reducible apply U.pk_miss); (focus fail "sne"); (focus fail "pk"))
  | (with_reducible exact U.pk_nil))
local macro_rules | `(tactic| fail "at") => `(tactic| first
  | (with_reducible assumption)
  | ((with_reducible apply L2.atI_nat); (focus assumption))
  | rfl)
local macro_rules | `(tactic| fail "sz") => `(tactic| first
  | assumption
  | decide
  | (simp only [List.length_cons, List.length_nil]; decide)
  | (show _ < (16777216 : Nat); omega)
  | (show _ ≤ (16777216 : Nat); omega))
local macro_rules | `(tactic| fail "lf") => `(tactic| first
  | (with_reducible exact U.lf_addI)
  | (with_reducible exact U.lf_sub)
  | (with_reducible exact U.lf_eqI)
  | (with_reducible exact U.lf_eqS)
  | (with_reducible exact U.lf_neI)
  | (with_reducible exact U.lf_neS)
  | (with_reducible exact U.lf_lt)
  | (with_reducible exact U.lf_le)
  | (with_reducible exact U.lf_gt)
  | (with_reducible exact U.lf_ge)
  | (with_reducible exact U.lf_isN)
  | (with_reducible exact U.lf_notN)
  | ((with_reducible apply U.lf_ixT); (focus fail "hq"); (focus fail "at"))
  | ((with_reducible apply U.lf_ixL); (focus fail "hq"); (focus fail "at"))
  | ((with_reducible apply U.lf_ixD); (focus fail "hq"); (focus fail "vv"))
  | ((with_reducible apply U.lf_inD); (focus fail "hq"))
  | ((with_reducible apply U.lf_notInD); (focus fail "hq"))
  | ((with_reducible apply U.lf_inL); (focus fail "hq"))
  | ((with_reducible apply U.lf_notInL); (focus fail "hq"))
  | (with_reducible exact U.lf_inS)
  | (with_reducible exact U.lf_notInS)
  | ((with_reducible apply U.lf_mod); (focus first | assumption | decide | omega))
  | ((with_reducible apply U.lf_mul); (focus first | assumption | ((apply U.mul64); (focus decide); (focus decide)) | ((apply U.mul64); (focus omega); (focus omega))))
  | ((with_reducible apply U.lf_div); (focus first | assumption | exact ⟨by decide, by decide +kernel⟩))
  | ((with_reducible apply U.lf_pow); (focus exact ⟨by decide, by decide, by decide⟩))
  | ((with_reducible apply U.lf_addS); (focus first | assumption | (show _ ≤ (16777216 : Nat); omega)))
  | (with_reducible assumption))
local macro_rules | `(tactic| fail "lc") => `(tactic| first
  | ((with_reducible apply U.lc_lenUL); (focus fail "hq"))
  | ((with_reducible apply U.lc_lenUT); (focus fail "hq"))
  | ((with_reducible apply U.lc_lenUD); (focus fail "hq"))
  | ((with_reducible apply U.lc_lenUS); (focus fail "sz"))
  | (with_reducible exact U.lc_intB)
  | (with_reducible exact U.lc_max)
  | (with_reducible exact U.lc_min)
  | ((with_reducible apply U.lc_lenUq); assumption)
  | ((with_reducible apply U.lc_isiL); (focus fail "hq"))
  | ((with_reducible apply U.lc_isiT); (focus fail "hq"))
  | (with_reducible exact U.lc_isiSb)
  | (with_reducible exact U.lc_isiIb)
  | (with_reducible assumption))
local macro_rules | `(tactic| fail "va") => `(tactic| first
  | (with_reducible exact U.va_nil)
  | ((with_reducible apply U.va_cons); (focus fail "vt"); (focus fail "va")))
local macro_rules | `(tactic| fail "vt") => `(tactic| first
  | (with_reducible assumption)
  | (with_reducible exact U.val_c)
  | exact U.val_var rfl
  | ((with_reducible apply U.val_op); (focus fail "vt"); (focus fail "vt"); (focus fail "lf"))
  | ((with_reducible apply U.val_fld); (focus fail "vt"); (focus fail "hq"); (focus fail "lk"))
  | ((with_reducible apply U.val_cb); (focus fail "va"); (focus fail "lc"))
  | ((with_reducible apply U.val_get1); (focus fail "vt"); (focus fail "vt"); (focus fail "hq"))
  | ((with_reducible apply U.val_notV); (focus fail "vt"))
  | ((with_reducible apply U.val_andV); (focus fail "vt"); (intro _; fail "vt"))
  | ((with_reducible apply U.val_orV); (focus fail "vt"); (intro _; fail "vt"))
  | ((with_reducible apply U.val_un); (focus fail "vt"); (focus with_reducible exact U.l1_neg)))
local macro_rules | `(tactic| fail "an") => `(tactic| first
  | (with_reducible assumption)
  | ((with_reducible apply U.ans_T); fail "vt")
  | ((with_reducible apply U.ans_B); fail "vt")
  | ((with_reducible apply U.ans_not); fail "an")
  | ((with_reducible apply U.ans_and); (focus fail "an"); (intro _; fail "an"))
  | ((with_reducible apply U.ans_or); (focus fail "an"); (intro _; fail "an")))
local macro_rules | `(tactic| fail "put") => `(tactic| first
  | fail "pk"
  | ((apply Law.im_put); (focus assumption))
  | ((apply Law.sm_put); (focus assumption)))
local macro_rules | `(tactic| fail "st") => `(tactic| first
  | (with_reducible refine U.st_seq ?_)
  | ((with_reducible apply U.st_asg); (focus fail "vt"); (try dsimp only [List.set]))
  | ((with_reducible apply U.st_ret); (focus fail "vt"); (try dsimp only))
  | ((with_reducible apply U.st_fld); (focus fail "vt"); (focus fail "vt"); (focus fail "hq"); (focus fail "sz"); (focus fail "pf"); (try dsimp only))
  | ((with_reducible apply U.st_fld1); (focus fail "vt"); (focus fail "hq"); (focus fail "sz"); (focus fail "pf"); (try dsimp only))
  | ((with_reducible apply U.st_untup); (focus fail "vt"); (focus fail "hq"); (focus rfl))
  | ((with_reducible refine U.st_gcons ?_); (try dsimp only))
  | ((with_reducible refine U.st_gname ?_); (try dsimp only [List.set]))
  | ((with_reducible refine U.st_gnil ?_); (try dsimp only))
  | ((with_reducible apply U.st_gf); (focus fail "vt"); (focus fail "hq"); (focus fail "sz"); (focus fail "pf"); (try dsimp only))
  | ((with_reducible refine U.st_next ?_); (try dsimp only))
  | (with_reducible refine U.st_drop ?_)
  | ((with_reducible apply U.st_append); (focus fail "vt"); (focus fail "hq"); (focus fail "vt"); (focus fail "sz"); (try dsimp only))
  | ((with_reducible apply U.st_setDL); (focus fail "vt"); (focus fail "vt"); (focus fail "vt"); (focus fail "hq"); (focus fail "sz"); (focus fail "put"); (try dsimp only))
  | ((with_reducible apply U.st_set1); (focus fail "vt"); (focus fail "vt"); (focus fail "hq"); (focus fail "sz"); (focus fail "put"); (try dsimp only))
  | ((with_reducible apply U.st_call); (focus fail "va"))
  | ((with_reducible apply U.st_methV); (focus fail "vt"); (focus fail "hq"); (focus fail "lk"); (focus fail "va"))
  | (with_reducible refine U.st_fldE ?_)
  | (with_reducible refine U.st_setE ?_)
  | (with_reducible refine U.st_asgC ?_)
  | (with_reducible refine U.st_retC ?_)
  | ((with_reducible refine U.st_dnew ?_); (intro p hp); (try dsimp only))
  | ((with_reducible apply U.st_tup); (focus fail "va"); (focus fail "sz"); (intro p hp); (try dsimp only))
  | ((with_reducible apply U.st_lst); (focus fail "va"); (focus fail "sz"); (intro p hp); (try dsimp only))
  | ((with_reducible apply U.st_listOf); (focus fail "va"); (focus fail "hq"); (intro p hp); (try dsimp only))
  | ((with_reducible apply U.st_dictOf); (focus fail "va"); (focus fail "hq"); (intro p hp); (try dsimp only))
  | ((with_reducible apply U.st_apE); (focus fail "vt"); (focus fail "hq"))
  | ((with_reducible apply U.st_ap1); (focus fail "hq"); (focus fail "sz"); (try dsimp only)))
local macro_rules | `(tactic| fail "go") => `(tactic| repeat fail "st")
/-! words: "cp", one step of the general way; "cgo" -/
local macro_rules | `(tactic| fail "cp") => `(tactic| first
  | ((with_reducible apply U.st_val); (focus fail "vt"); (try dsimp only))
  | ((with_reducible apply U.st_vals); (focus fail "va"); (try dsimp only))
  | (with_reducible refine U.st_opC ?_)
  | (with_reducible refine U.st_consC ?_)
  | (with_reducible refine U.st_nilC ?_)
  | ((with_reducible apply U.st_lf); (focus fail "lf"); (try dsimp only))
  | ((with_reducible apply U.st_mkEnd); (focus fail "sz"); (intro p hp); (try dsimp only))
  | ((with_reducible apply U.st_gset); (focus fail "vt"); (focus fail "vt"); (focus fail "hq"); (focus fail "sz"); (focus fail "put"); (try dsimp only))
  | fail "st"
  | ((with_reducible apply U.st_cat); (focus fail "hq"); (focus fail "hq"); (focus fail "sz"); (intro p hp); (try dsimp only))
  | (with_reducible refine U.st_tupC ?_)
  | (with_reducible refine U.st_lstC ?_)
  | (with_reducible refine U.st_callC ?_)
  | (with_reducible refine U.st_cbC ?_))
local macro_rules | `(tactic| fail "cgo") => `(tactic| repeat fail "cp")

namespace Law
open PySem PySem.Spec PyProof.Rows L2 U
theorem lf_neB {H : Hp} {a : Bool} : Lf rNeU (.bl a) (.bl a) H (.bl false) := fun Q q => .inl ⟨rfl, by rw [decide_eq_true rfl]; exact q⟩
theorem st_keep {t : TS} {D : Ends} {σ : L2.St} {H : Hp} (P : L2.St → Hp → Prop) (k : ∀ σ H, P σ H → D.nx σ H) (h : (∀ σ H, P σ H → D.nx σ H) → t D σ H) : t D σ H := h k
theorem st_rep1 {l : Addr} {x : V} {z : Bool} {H : Hp} {Q : VK} (hl : H l = some (.lst [x])) (k : ∀ p, H p = none → Q (.ref p) (upd H p (.lst (if z = true then [x] else [])))) : rRep (.ref l) (.int (if z = true then 1 else 0)) H Q := by
  cases z with
  | true => exact ⟨l, 1, [x], rfl, rfl, hl, by decide, by decide, by show 1 * 1 ≤ (16777216 : Nat); omega, k⟩
  | false => exact ⟨l, 0, [x], rfl, rfl, hl, by decide, by decide, by show 1 * 0 ≤ (16777216 : Nat); omega, k⟩
theorem st_bmL {K : PySem.W.Frag} {r : V → List V → Hp → VK → Prop} {to : TE} {t : TA} {σ : L2.St} {H : Hp} {Q : VK} {l : Addr} {xs : List V} (ho : Val to σ H (.ref l)) (hl : H l = some (.lst xs)) (h : t σ H fun ys H2 => r (.ref l) ys H2 Q) : tBM K "list" r to t σ H Q := ho _ ⟨.inl ⟨rfl, _, SqL.of hl⟩, h⟩
def fR (g : TG) (tb : TS) (D : Ends) (σ0 : L2.St) := fun (J : It) (H1 : Hp) => ∃ W : Nat → Nat → L2.St → Hp → Prop, (∃ m, W 0 m σ0 H1) ∧ ∀ i m σ H, W i m σ H →
  (J.stop i H ∧ D.nx σ H) ∨ (J.go i H ∧ ∃ N : L2.St → Hp → Prop, (∀ σ' H', N σ' H' → ∃ m', m' < m ∧ W (i + 1) m' σ' H') ∧ ∀ x H', J.yld i H x H' → g x σ H' fun σ2 H2 => tb { D with nx := N, ct := N, bk := D.nx } σ2 H2)
theorem st_forC {K : PySem.W.Frag} {te : TE} {g : TG} {t : TS} {D : Ends} {σ : L2.St} {H : Hp} (h : te σ H fun v H1 => iList K (fun _ H2 Q => Q v H2) σ H1 (fR g t D σ)) : tFor (iSeq K te) g t D σ H := .inl h
theorem st_forV {K : PySem.W.Frag} {g : TG} {t : TS} {D : Ends} {σ : L2.St} {H : Hp} {α : Type} {p : Addr} {emb : α → V} {xs : List α} (hp : SqL K H p (xs.map emb)) (P : List α → L2.St → Hp → Prop) (h0 : P xs σ H) (hl : ∀ r σ H, P r σ H → SqL K H p (xs.map emb))
    (hs : ∀ a r σ H, P (a :: r) σ H → g (emb a) σ H fun σ2 H2 => t { D with nx := P r, ct := P r, bk := D.nx } σ2 H2) (hd : ∀ σ H, P [] σ H → D.nx σ H) : iList K (fun _ H2 Q => Q (.ref p) H2) σ H (fR g t D σ) := by
  refine ⟨p, rfl, ⟨_, hp⟩, for_list (K := K) (a := p) (xs := xs.map emb) (fun i σ H => P (xs.drop i) σ H) h0 (fun i σ H _ q => hl _ _ _ q) (fun i x σ H hi q => ?_) fun σ H q => ?_⟩
  · obtain ⟨a, ea, rfl⟩ := map_at hi
    rw [drop_at ea] at q
    exact hs a _ σ H q
  · rw [List.length_map, List.drop_length] at q
    exact hd σ H q
structure At71 (H : Hp) (nms : List Str) (G : List (Str × Int)) (R : List (Str × Rc)) (wl : List Str) (t : List Stp) (cs : List Int) (nm top g r wi tr ch : Addr) : Prop where
  nm : H nm = some (.lst (nms.map V.str))
  tp : H top = some (.tup [.ref g, .ref r])
  hs : HsAt H g r G R
  wi : H wi = some (.lst (wl.map V.str))
  tr : Rp H (.lst (t.map Stp.t)) (.ref tr)
  ch : H ch = some (.lst (cs.map V.int))
theorem At71.fr {F : List Addr} {H H' : Hp} {nms : List Str} {G : List (Str × Int)} {R : List (Str × Rc)} {wl : List Str} {t : List Stp} {cs : List Int} {nm top g r wi tr ch : Addr} (h : At71 H nms G R wl t cs nm top g r wi tr ch) (f : Fr F H H') (n : ∀ q ∈ [nm, top, g, r, wi, tr, ch], q ∉ F) : At71 H' nms G R wl t cs nm top g r wi tr ch :=
  ⟨f.keep _ _ h.nm (n _ (by simp)), f.keep _ _ h.tp (n _ (by simp)), h.hs.fr f (n _ (by simp)) (n _ (by simp)), f.keep _ _ h.wi (n _ (by simp)), tr_fr f h.tr (n _ (by simp)), f.keep _ _ h.ch (n _ (by simp))⟩
theorem nd_nil {L : List Addr} : ∀ q ∈ L, q ∉ ([] : List Addr) := fun _ _ m => nomatch m
theorem take_ne {nms : List Str} {x y : Str} {k j : Nat} (nd : nms.Nodup) (hx : x ∈ nms.take k) (hy : nms[j]? = some y) (h : k ≤ j) : x ≠ y := fun e => by
  subst e
  obtain ⟨i, hi, e⟩ := List.mem_take_iff_getElem.mp hx
  have e1 := idx_at nd (x := x) (k := i) (by rw [List.getElem?_eq_getElem (by omega), e])
  have e2 := idx_at nd hy
  omega
theorem badW_mem {G : List (Str × Int)} {R : List (Str × Rc)} {wl : List Str} {x : Str} (m : x ∈ wl) (h1 : G.lookup x = none) (h2 : R.lookup x = none) : badW G R wl ≠ none := fun e => by
  rcases badW_none e x m with q | q
  · rw [h1] at q; cases q
  · rw [h2] at q; cases q
theorem stp_dep : ∀ t : List Stp, depL (t.map Stp.t) ≤ 1
  | [] => Nat.zero_le _
  | s :: t => by
    have h := stp_dep t
    have h1 : dep s.t = 1 := by cases s <;> rfl
    show max (dep s.t) (depL (t.map Stp.t)) ≤ 1
    omega
theorem rpl_take {H : Hp} : ∀ (k : Nat) {ts : List T} {vs : List V}, RpL H ts vs → RpL H (ts.take k) (vs.take k)
  | 0, ts, vs, _ => rfl
  | k + 1, [], vs, h => by cases (show vs = [] from h); rfl
  | k + 1, t :: ts, vs, h => by
    obtain ⟨v, r, rfl, h1, h2⟩ := h
    exact ⟨v, r.take k, rfl, h1, rpl_take k h2⟩
theorem cut_takeV {xs : List V} {i : Nat} (h : i ≤ xs.length) : cutV xs none (some (i : Int)) = xs.take i := by
  unfold cutV
  show List.take (HT.sIx xs.length xs.length (some (i : Int)) - 0) (List.drop 0 xs) = _
  rw [HT.sIx_nat, Nat.min_eq_left h]
  rfl
mutual
theorem nd_imm : ∀ t : T, imm t = true → ndT t
  | .non, _ => trivial
  | .bl _, _ => trivial
  | .int _, _ => trivial
  | .str _, _ => trivial
  | .tup a, h => ndL_imm a h
  | .lst _, h => by cases h
  | .dic _ _, h => by cases h
theorem ndL_imm : ∀ ts : List T, immL ts = true → ndTL ts
  | [], _ => trivial
  | t :: ts, h => by
    have h : (imm t && immL ts) = true := h
    rw [Bool.and_eq_true] at h
    exact ⟨nd_imm t h.1, ndL_imm ts h.2⟩
end
theorem us_il {ti : TI} {σ : L2.St} {H : Hp} {J : It → Hp → Prop} (P : Hp → Prop) (h : P H) (k : ∀ H', P H' → ti σ H' J) : ti σ H J := k H h
theorem st_lrg1 {ta : TE} {σ : L2.St} {H : Hp} {Q : VK} {n : Int} (h : Val ta σ H (.int n)) (ok : RgOk 0 n) (k : ∀ q, H q = none → Q (.ref q) (upd H q (.lst (rgV 0 n)))) : tLstRg (tRg1 ta) σ H Q := h _ ⟨n, rfl, ok, k⟩
def sp_law (K : PySem.W.Frag) : Sp := fun vs H Q _ => ∃ (a : Addr) (ns : List Int), vs = [.ref a] ∧ SqL K H a (ns.map V.int) ∧ ns.length ≤ 63 ∧ ∀ H', Q (.bl true) H'
end Law

end
section
set_option maxHeartbeats 4000000
/-! words: fail "le", "hq" (what stands at an address), "ne" (two addresses differ), "fn" (an address is new to an older heap), "al" (places of a frame), "ni", "frm" (a frame) -/
local macro_rules | `(tactic| fail "le") => `(tactic| first
  | (with_reducible exact U.Le.refl _)
  | ((with_reducible refine U.Le.upd ?_); fail "le")
  | ((with_reducible apply U.Le.fr); (rotate_left 1); (focus assumption); (focus fail "le")))
local macro_rules | `(tactic| fail "fn") => `(tactic| first
  | assumption
  | ((with_reducible apply U.none_le); (rotate_left 1); (focus assumption); (focus fail "le")))
local macro_rules | `(tactic| fail "hq") => `(tactic| first
  | (with_reducible assumption)
  | (with_reducible exact L2.upd_same)
  | ((with_reducible apply U.look_upd); (focus fail "hq"); (focus fail "ne"))
  | ((with_reducible apply U.look_fr); (focus assumption); (focus fail "hq"); (focus fail "ni"))
  | ((with_reducible apply U.look_tup); (focus assumption); (focus fail "hq")))
local macro_rules | `(tactic| fail "hx") => `(tactic| first
  | fail "hq"
  | ((with_reducible apply U.hq_to); (focus fail "hq"); (focus rfl)))
local macro_rules | `(tactic| fail "ni") => `(tactic| first
  | (with_reducible exact U.ni_nil)
  | ((with_reducible refine U.ni_cons ?_ ?_); (focus fail "ne"); (focus fail "ni"))
  | assumption)
local macro_rules | `(tactic| fail "ne") => `(tactic| first
  | (with_reducible assumption)
  | ((with_reducible apply Ne.symm); (focus assumption))
  | ((with_reducible apply U.ne_new); (focus with_reducible assumption); (focus fail "hq"))
  | ((with_reducible apply U.ne_new'); (focus with_reducible assumption); (focus fail "hq"))
  | ((with_reducible apply L2.ne_of); (focus with_reducible assumption); (focus fail "hq"); (focus (intro z; cases z))))
local macro_rules | `(tactic| fail "mem") => `(tactic| first
  | (with_reducible exact U.mem_hd)
  | ((with_reducible refine U.mem_tl ?_); fail "mem")
  | assumption)
local macro_rules | `(tactic| fail "in") => `(tactic| first
  | ((with_reducible apply Or.inl); (focus fail "mem"))
  | ((with_reducible apply Or.inr); (focus fail "fn")))
local macro_rules | `(tactic| fail "al") => `(tactic| first
  | (with_reducible exact U.al_nil)
  | ((with_reducible refine U.al_cons ?_ ?_); (focus fail "in"); (focus fail "al"))
  | assumption)
local macro_rules | `(tactic| fail "frm") => `(tactic| first
  | (with_reducible exact U.Fr.refl _)
  | (with_reducible assumption)
  | ((with_reducible apply U.fr_new); (focus assumption); (focus fail "frm"))
  | ((with_reducible apply U.fr_upd); (focus fail "hq"); (focus rfl); (focus fail "in"); (focus fail "frm"))
  | ((with_reducible apply U.fr_call); (focus assumption); (focus fail "frm"); (focus fail "al")))
local macro_rules | `(tactic| fail "sne") => `(tactic| first
  | assumption
  | decide +kernel
  | ((with_reducible apply U.inr_ne); (focus fail "sne"))
  | ((with_reducible apply Ne.symm); (focus assumption)))
local macro_rules | `(tactic| fail "lk") => `(tactic| first
  | (with_reducible exact U.lk_hit)
  | ((with_reducible apply U.lk_miss); (focus fail "sne"); (focus fail "lk"))
  | (with_reducible exact U.lk_nil)
  | assumption)
local macro_rules | `(tactic| fail "pf") => `(tactic| first
  | (with_reducible exact U.pf_hit)
  | ((with_reducible apply U.pf_miss); (focus fail "sne"); (focus fail "pf"))
  | (with_reducible exact U.pf_nil))
local macro_rules | `(tactic| fail "vv") => `(tactic| first
  | (with_reducible assumption)
  | (with_reducible exact U.vv_hit)
  | ((with_reducible apply U.vv_miss); (focus fail "sne"); (focus fail "vv"))
  | (with_reducible exact U.vv_nil))
local macro_rules | `(tactic| fail "nk") => `(tactic| first
  | (with_reducible exact U.nk_nil)
  | ((with_reducible apply U.nk_cons); (focus fail "sne"); (focus fail "nk")))
local macro_rules | `(tactic| fail "pk") => `(tactic| first
  | ((with_reducible apply U.pk_hit); fail "nk")
  | ((with_reducible apply U.pk_miss); (focus fail "sne"); (focus fail "pk"))
  | (with_reducible exact U.pk_nil))
local macro_rules | `(tactic| fail "at") => `(tactic| first
  | (with_reducible assumption)
  | ((with_reducible apply L2.atI_nat); (focus assumption))
  | rfl)
local macro_rules | `(tactic| fail "sz") => `(tactic| first
  | assumption
  | decide
  | (simp only [List.length_cons, List.length_nil]; decide)
  | (show _ < (16777216 : Nat); omega)
  | (show _ ≤ (16777216 : Nat); omega))
local macro_rules | `(tactic| fail "lf") => `(tactic| first
  | (with_reducible exact U.lf_addI)
  | (with_reducible exact U.lf_sub)
  | (with_reducible exact U.lf_eqI)
  | (with_reducible exact U.lf_eqS)
  | (with_reducible exact U.lf_neI)
  | (with_reducible exact U.lf_neS)
  | (with_reducible exact U.lf_lt)
  | (with_reducible exact U.lf_le)
  | (with_reducible exact U.lf_gt)
  | (with_reducible exact U.lf_ge)
  | (with_reducible exact U.lf_isN)
  | (with_reducible exact U.lf_notN)
  | ((with_reducible apply U.lf_ixT); (focus fail "hq"); (focus fail "at"))
  | ((with_reducible apply U.lf_ixL); (focus fail "hq"); (focus fail "at"))
  | ((with_reducible apply U.lf_ixD); (focus fail "hq"); (focus fail "vv"))
  | ((with_reducible apply U.lf_inD); (focus fail "hq"))
  | ((with_reducible apply U.lf_notInD); (focus fail "hq"))
  | ((with_reducible apply U.lf_inL); (focus fail "hq"))
  | ((with_reducible apply U.lf_notInL); (focus fail "hq"))
  | (with_reducible exact U.lf_inS)
  | (with_reducible exact U.lf_notInS)
  | ((with_reducible apply U.lf_mod); (focus first | assumption | decide | omega))
  | ((with_reducible apply U.lf_mul); (focus first | assumption | ((apply U.mul64); (focus decide); (focus decide)) | ((apply U.mul64); (focus omega); (focus omega))))
  | ((with_reducible apply U.lf_div); (focus first | assumption | exact ⟨by decide, by decide +kernel⟩))
  | ((with_reducible apply U.lf_pow); (focus exact ⟨by decide, by decide, by decide⟩))
  | ((with_reducible apply U.lf_addS); (focus first | assumption | (show _ ≤ (16777216 : Nat); omega)))
  | (with_reducible assumption))
local macro_rules | `(tactic| fail "lc") => `(tactic| first
  | ((with_reducible apply U.lc_lenUL); (focus fail "hq"))
  | ((with_reducible apply U.lc_lenUT); (focus fail "hq"))
  | ((with_reducible apply U.lc_lenUD); (focus fail "hq"))
  | ((with_reducible apply U.lc_lenUS); (focus fail "sz"))
  | (with_reducible exact U.lc_intB)
  | (with_reducible exact U.lc_max)
  | (with_reducible exact U.lc_min)
  | ((with_reducible apply U.lc_lenUq); assumption)
  | ((with_reducible apply U.lc_isiL); (focus fail "hq"))
  | ((with_reducible apply U.lc_isiT); (focus fail "hq"))
  | (with_reducible exact U.lc_isiSb)
  | (with_reducible exact U.lc_isiIb)
  | (with_reducible assumption))
local macro_rules | `(tactic| fail "va") => `(tactic| first
  | (with_reducible exact U.va_nil)
  | ((with_reducible apply U.va_cons); (focus fail "vt"); (focus fail "va")))
local macro_rules | `(tactic| fail "vt") => `(tactic| first
  | (with_reducible assumption)
  | (with_reducible exact U.val_c)
  | exact U.val_var rfl
  | ((with_reducible apply U.val_op); (focus fail "vt"); (focus fail "vt"); (focus fail "lf"))
  | ((with_reducible apply U.val_fld); (focus fail "vt"); (focus fail "hq"); (focus fail "lk"))
  | ((with_reducible apply U.val_cb); (focus fail "va"); (focus fail "lc"))
  | ((with_reducible apply U.val_get1); (focus fail "vt"); (focus fail "vt"); (focus fail "hq"))
  | ((with_reducible apply U.val_notV); (focus fail "vt"))
  | ((with_reducible apply U.val_andV); (focus fail "vt"); (intro _; fail "vt"))
  | ((with_reducible apply U.val_orV); (focus fail "vt"); (intro _; fail "vt"))
  | ((with_reducible apply U.val_un); (focus fail "vt"); (focus with_reducible exact U.l1_neg)))
local macro_rules | `(tactic| fail "an") => `(tactic| first
  | (with_reducible assumption)
  | ((with_reducible apply U.ans_T); fail "vt")
  | ((with_reducible apply U.ans_B); fail "vt")
  | ((with_reducible apply U.ans_not); fail "an")
  | ((with_reducible apply U.ans_and); (focus fail "an"); (intro _; fail "an"))
  | ((with_reducible apply U.ans_or); (focus fail "an"); (intro _; fail "an")))
local macro_rules | `(tactic| fail "put") => `(tactic| first
  | fail "pk"
  | ((apply Law.im_put); (focus assumption))
  | ((apply Law.sm_put); (focus assumption)))
local macro_rules | `(tactic| fail "st") => `(tactic| first
  | (with_reducible refine U.st_seq ?_)
  | ((with_reducible apply U.st_asg); (focus fail "vt"); (try dsimp only [List.set]))
  | ((with_reducible apply U.st_ret); (focus fail "vt"); (try dsimp only))
  | ((with_reducible apply U.st_fld); (focus fail "vt"); (focus fail "vt"); (focus fail "hq"); (focus fail "sz"); (focus fail "pf"); (try dsimp only))
  | ((with_reducible apply U.st_fld1); (focus fail "vt"); (focus fail "hq"); (focus fail "sz"); (focus fail "pf"); (try dsimp only))
  | ((with_reducible apply U.st_untup); (focus fail "vt"); (focus fail "hq"); (focus rfl))
  | ((with_reducible refine U.st_gcons ?_); (try dsimp only))
  | ((with_reducible refine U.st_gname ?_); (try dsimp only [List.set]))
  | ((with_reducible refine U.st_gnil ?_); (try dsimp only))
  | ((with_reducible apply U.st_gf); (focus fail "vt"); (focus fail "hq"); (focus fail "sz"); (focus fail "pf"); (try dsimp only))
  | ((with_reducible refine U.st_next ?_); (try dsimp only))
  | (with_reducible refine U.st_drop ?_)
  | ((with_reducible apply U.st_append); (focus fail "vt"); (focus fail "hq"); (focus fail "vt"); (focus fail "sz"); (try dsimp only))
  | ((with_reducible apply U.st_setDL); (focus fail "vt"); (focus fail "vt"); (focus fail "vt"); (focus fail "hq"); (focus fail "sz"); (focus fail "put"); (try dsimp only))
  | ((with_reducible apply U.st_set1); (focus fail "vt"); (focus fail "vt"); (focus fail "hq"); (focus fail "sz"); (focus fail "put"); (try dsimp only))
  | ((with_reducible apply U.st_call); (focus fail "va"))
  | ((with_reducible apply U.st_methV); (focus fail "vt"); (focus fail "hq"); (focus fail "lk"); (focus fail "va"))
  | (with_reducible refine U.st_fldE ?_)
  | (with_reducible refine U.st_setE ?_)
  | (with_reducible refine U.st_asgC ?_)
  | (with_reducible refine U.st_retC ?_)
  | ((with_reducible refine U.st_dnew ?_); (intro p hp); (try dsimp only))
  | ((with_reducible apply U.st_tup); (focus fail "va"); (focus fail "sz"); (intro p hp); (try dsimp only))
  | ((with_reducible apply U.st_lst); (focus fail "va"); (focus fail "sz"); (intro p hp); (try dsimp only))
  | ((with_reducible apply U.st_listOf); (focus fail "va"); (focus fail "hq"); (intro p hp); (try dsimp only))
  | ((with_reducible apply U.st_dictOf); (focus fail "va"); (focus fail "hq"); (intro p hp); (try dsimp only))
  | ((with_reducible apply U.st_apE); (focus fail "vt"); (focus fail "hq"))
  | ((with_reducible apply U.st_ap1); (focus fail "hq"); (focus fail "sz"); (try dsimp only)))
local macro_rules | `(tactic| fail "go") => `(tactic| repeat fail "st")
/-! words: "cp", one step of the general way; "cgo" -/
local macro_rules | `(tactic| fail "cp") => `(tactic| first
  | ((with_reducible apply U.st_val); (focus fail "vt"); (try dsimp only))
  | ((with_reducible apply U.st_vals); (focus fail "va"); (try dsimp only))
  | (with_reducible refine U.st_opC ?_)
  | (with_reducible refine U.st_consC ?_)
  | (with_reducible refine U.st_nilC ?_)
  | ((with_reducible apply U.st_lf); (focus fail "lf"); (try dsimp only))
  | ((with_reducible apply U.st_mkEnd); (focus fail "sz"); (intro p hp); (try dsimp only))
  | ((with_reducible apply U.st_gset); (focus fail "vt"); (focus fail "vt"); (focus fail "hq"); (focus fail "sz"); (focus fail "put"); (try dsimp only))
  | fail "st"
  | ((with_reducible apply U.st_cat); (focus fail "hq"); (focus fail "hq"); (focus fail "sz"); (intro p hp); (try dsimp only))
  | (with_reducible refine U.st_tupC ?_)
  | (with_reducible refine U.st_lstC ?_)
  | (with_reducible refine U.st_callC ?_)
  | (with_reducible refine U.st_cbC ?_))
local macro_rules | `(tactic| fail "cgo") => `(tactic| repeat fail "cp")

namespace Law
open PySem PySem.Spec PyProof.Rows L2 U
theorem r_law {K : PySem.W.Frag} {A : Ad} (vs : List V) (H : Hp) (Q : VK) (E : XK) (h : sp_law K vs H Q E) : t_law K A (sp_names K A) (sp_house K A) (sp_state K A) (sp_changed A) (sp_wishes A) (sp_draw A) (sp_taken A 7) (sp_shows A 7) (sp_told A 7) { nx := fun _ H' => Q .non H', rt := Q } (start N_law vs) H := by
  obtain ⟨a, ns, rfl, ha, ln, kk⟩ := h
  fail "cgo"
  refine ⟨a, ns, rfl, ha, fun H1 nm nms l14 nd nm0 f1 hnm1 => ?_⟩
  fail "cgo"
  refine ⟨a, nm, ns, nms, rfl, SqL_fr f1 ha, hnm1, l14, nd, fun H2 top g r G R inv ht hs f2 => ?_⟩
  have f2' : Fr [] H H2 := f1.call f2 (by fail "al")
  have hnm2 := f2.keep _ _ hnm1 (by simp)
  have ha2 := SqL_fr f2' ha
  clear f1 f2 hnm1
  fail "cgo"
  obtain ⟨n, hn, n1, n2⟩ : ∃ n : Int, VA (tCons (tC (.int 15)) (tCons (tCB rMax2 (tCons (tC (.int 18)) (tCons (tCB rMin2 (tCons (tC (.int 40)) (tCons (tCB (rLenU K) (tCons (tVar 0) tNil)) tNil))) tNil))) tNil)) [some (.ref a), some (.ref nm), some (.ref top), none, none, none, none, none, none, none, none, none, none] H2 [.int 15, .int n] ∧ 15 ≤ n ∧ n ≤ 45 := by
    refine ⟨_, va_cons val_c (va_cons (val_cb (va_cons val_c (va_cons (val_cb (va_cons val_c (va_cons (val_cb (va_cons (val_var rfl) va_nil) (lc_lenUq ha2)) va_nil)) lc_min) va_nil)) lc_max) va_nil), ?_, ?_⟩ <;> split <;> (try split) <;> omega
  refine st_forR2 hn ⟨by decide, by decide, by omega, by omega⟩ (fun i σ' H' => ∃ top g r G R k st wi tr ch bv mo du pa sh, σ' = [some (.ref a), some (.ref nm), some (.ref top), k, st, wi, tr, ch, bv, mo, du, pa, sh] ∧ Fr [] H H' ∧ H' nm = some (.lst (nms.map V.str)) ∧ H' top = some (.tup [.ref g, .ref r]) ∧ HsAt H' g r G R ∧ HInv nms i 12 G R)
    ⟨top, g, r, G, R, _, _, _, _, _, _, _, _, _, _, rfl, f2', hnm2, ht, hs, inv⟩ ?_ ?_
  rotate_left 1
  · rintro σ' H3 ⟨top, g, r, G, R, k, st, wi, tr, ch, bv, mo, du, pa, sh, rfl, f3, hnm3, ht3, hs3, inv3⟩
    fail "cgo"
    exact kk _
  clear ha2 hnm2 f2' hn ht hs inv
  rintro i σ' H3 hi ⟨top, g, r, G, R, k, st, wi, tr, ch, bv, mo, du, pa, sh, rfl, f3, hnm3, ht3, hs3, inv3⟩
  have hi : i < 30 := by omega
  fail "cgo"
  refine ⟨a, ns, 15 + i, by rw [show ((15 + i : Nat) : Int) = 15 + (i : Int) by omega], SqL_fr f3 ha, by omega, fun H4 s s0 f4 s4 => ?_⟩
  have s00 : H s = none := f3.old _ s0
  have hnm4 := f4.keep _ _ hnm3 (by simp)
  have ht4 := f4.keep _ _ ht3 (by simp)
  have hs4 := hs3.fr f4 (by simp) (by simp)
  have f4' : Fr [] H H4 := f3.call f4 (by fail "al")
  clear f4 f3 hnm3 ht3 hs3 s0
  have ne1 : nm ≠ s := s4.ne_lst hnm4
  dsimp only [List.set]
  refine st_seq (st_keep (fun σ' H5 => ∃ top g r G R, σ' = [some (.ref a), some (.ref nm), some (.ref top), some (.int (15 + (i : Int))), some (.ref s), wi, tr, ch, bv, mo, du, pa, sh] ∧ Fr [] H H5 ∧ H5 nm = some (.lst (nms.map V.str)) ∧ H5 top = some (.tup [.ref g, .ref r]) ∧ HsAt H5 g r G R ∧ HInv nms (i + 1) 12 G R ∧ SAt H5 s 88000) ?_ fun kD => ?_)
  rotate_left 1
  · refine st_ifT (by fail "an") (fun q => ?_) fun q => ?_
    · fail "cgo"
      refine ⟨top, nm, s, g, r, nms, G, R, i, 88000, rfl, ht4, hs4, hnm4, l14, nd, inv3, by omega, s4.le (by decide), fun H5 top g r G R inv5 ht5 hs5 s5 f5 => ?_⟩
      refine kD _ _ ⟨top, g, r, G, R, rfl, by fail "frm", f5.keep _ _ hnm4 (by simpa using ne1), ht5, hs5, inv5, s5⟩
    · refine st_next ?_
      exact kD _ _ ⟨top, g, r, G, R, rfl, f4', hnm4, ht4, hs4, inv3.le (by omega), s4.le (by decide)⟩
  clear f4' hnm4 ht4 hs4 s4 inv3
  rintro σ' H5 ⟨top, g, r, G, R, rfl, f5', hnm5, ht5, hs5, inv5, s5⟩
  have ngs := s5.ne_g hs5.g
  have nrs := s5.ne_r (rp_rdAt hs5.r)
  have nts : top ≠ s := s5.ne_tup ht5
  fail "cgo"
  refine ⟨s, nm, 87000, nms, rfl, s5.le (by decide), hnm5, l14, fun H6 wi0 wl0 lw mw w0 f6 hwi s6 => ?_⟩
  have hnm6 := f6.keep _ _ hnm5 (by simpa using ne1)
  have ht6 := f6.keep _ _ ht5 (by simpa using nts)
  have hs6 := hs5.fr f6 (by simpa using ngs) (by simpa using nrs)
  have nws : wi0 ≠ s := s6.ne_lst hwi
  have f6' : Fr [] H H6 := f5'.call f6 (by fail "al")
  clear f6 f5' hnm5 ht5 hs5 s5 w0
  obtain ⟨x12, hx12⟩ : ∃ x, nms[12]? = some x := ⟨_, List.getElem?_eq_getElem (by omega)⟩
  have at12 : atI (nms.map V.str) 12 = some (.str x12) := atI_nat (j := 12) (by rw [List.getElem?_map, hx12]; rfl)
  fail "cgo"
  rename_i q1 q10
  refine us_sp (fun H' => Fr [] H6 H' ∧ H' q1 = some (.lst [.str x12])) ⟨by fail "frm", upd_same⟩ ?_
  have nqs : q1 ≠ s := fun z => by obtain ⟨_, _, _, q, _⟩ := id s6; rw [← z, q10] at q; cases q
  clear q10
  rintro H7 ⟨f7, hq7⟩
  have s7 := s6.fr f7 (by simp)
  have hnm7 := f7.keep _ _ hnm6 (by simp)
  have ht7 := f7.keep _ _ ht6 (by simp)
  have hs7 := hs6.fr f7 (by simp) (by simp)
  have hwi7 := f7.keep _ _ hwi (by simp)
  have f7' : Fr [] H H7 := f6'.call f7 (by fail "al")
  clear f7 f6' hnm6 ht6 hs6 s6 hwi
  refine ⟨s, 12, 86999, rfl, by decide, by decide, s7, fun H8 z z0 z1 f8 s8 => ?_⟩
  have hnm8 := f8.keep _ _ hnm7 (by simpa using ne1)
  have ht8 := f8.keep _ _ ht7 (by simpa using nts)
  have hs8 := hs7.fr f8 (by simpa using ngs) (by simpa using nrs)
  have hwi8 := f8.keep _ _ hwi7 (by simpa using nws)
  have hq8 := f8.keep _ _ hq7 (by simpa using nqs)
  have f8' : Fr [] H H8 := f7'.call f8 (by fail "al")
  clear f8 f7' hnm7 ht7 hs7 s7 hwi7 hq7
  fail "cgo"
  refine lc_intB _ ?_
  refine st_rep1 hq8 fun q2 q20 => ?_
  obtain ⟨wx, hwx, lwx, mwx⟩ : ∃ wx : List Str, wx.map V.str = (if decide (z = 0) = true then [V.str x12] else []) ∧ wx.length ≤ 1 ∧ ∀ x ∈ wx, x = x12 := by
    by_cases e : z = 0
    · rw [decide_eq_true e]; exact ⟨[x12], rfl, Nat.le_refl _, fun x m => List.mem_singleton.mp m⟩
    · rw [decide_eq_false e]; exact ⟨[], rfl, by decide, fun x m => nomatch m⟩
  rw [← hwx]
  refine st_cat (by fail "hq") upd_same (by rw [List.length_map, List.length_map]; show _ ≤ (16777216 : Nat); omega) fun wi w10 => ?_
  rw [← List.map_append]
  obtain ⟨wl, hwl⟩ : ∃ wl, wl = wl0 ++ wx := ⟨_, rfl⟩
  rw [← hwl]
  have lwl : wl.length ≤ 14 := by rw [hwl, List.length_append]; omega
  dsimp only [List.set]
  refine us_ts (fun H' => Fr [] H8 H' ∧ H' wi = some (.lst (wl.map V.str))) ⟨by fail "frm", upd_same⟩ ?_
  have nws : wi ≠ s := fun z => by
    obtain ⟨_, _, _, q, _⟩ := id s8
    have f9 : Fr [] H8 (upd H8 q2 (.lst (wx.map V.str))) := by fail "frm"
    have q := f9.keep _ _ q (by simp)
    rw [← z, w10] at q; cases q
  clear q20 w10
  rintro H9 ⟨f9, hwi9⟩
  have s9 := s8.fr f9 (by simp)
  have hnm9 := f9.keep _ _ hnm8 (by simp)
  have ht9 := f9.keep _ _ ht8 (by simp)
  have hs9 := hs8.fr f9 (by simp) (by simp)
  have f9' : Fr [] H H9 := f8'.call f9 (by fail "al")
  clear f9 f8' hnm8 ht8 hs8 s8 hwi8 hq8
  have lR := inv5.rl
  have lG := inv5.gl
  have lok := inv5.lok (by omega)
  have ok := lgood lok
  have oI := lI0 lok wl
  refine st_seq (st_asgG ?_)
  fail "cgo"
  refine ⟨top, g, r, wi, s, G, R, wl, 70000, rfl, ht9, hs9, hwi9, lok, by omega, by omega, s9.le (by decide), fun H10 p tr ch bv t cs o tk lt lc f10 p0 hp htr hch s10 hbv => ?_⟩
  have p10 : At71 H10 nms G R wl t cs nm top g r wi tr ch := ⟨f10.keep _ _ hnm9 (by simpa using ne1), f10.keep _ _ ht9 (by simpa using nts), hs9.fr f10 (by simpa using ngs) (by simpa using nrs), f10.keep _ _ hwi9 (by simpa using nws), htr, hch⟩
  have f10' : Fr [] H H10 := f9'.call f10 (by fail "al")
  have ntr : tr ≠ s := by obtain ⟨_, xs, e, q, _⟩ := id htr; cases e; exact s10.ne_lst q
  have nch : ch ≠ s := s10.ne_lst hch
  have nes : ∀ q ∈ [nm, top, g, r, wi, tr, ch], q ∉ [s] := by simpa using ⟨ne1, nts, ngs, nrs, nws, ntr, nch⟩
  clear f10 f9' hnm9 ht9 hs9 s9 hwi9 htr hch p0
  refine st_gtup hp rfl ?_
  clear hp
  fail "cgo"
  refine st_list1 p10.wi fun mo mo0 => ?_
  have nmo : ∀ q o, H10 q = some o → q ≠ mo := fun q o e z => by rw [z, mo0] at e; cases e
  have mo00 : H mo = none := f10'.old _ mo0
  have nms' : s ≠ mo := by obtain ⟨_, _, _, q, _⟩ := id s10; exact nmo _ _ q
  have nnm := nmo _ _ p10.nm
  have nesm : ∀ q ∈ [nm, top, g, r, wi, tr, ch], q ∉ [mo] := by
    obtain ⟨h1, h2, h3, h4, h5, h6⟩ := id p10
    obtain ⟨_, xs, e, q1, _⟩ := h5
    obtain ⟨kvs, hk, _⟩ := h3.rcs
    cases e
    simp only [List.mem_cons, List.not_mem_nil, or_false]
    rintro q (rfl | rfl | rfl | rfl | rfl | rfl | rfl)
    · exact nmo _ _ h1
    · exact nmo _ _ h2
    · exact nmo _ _ h3.g
    · exact nmo _ _ hk
    · exact nmo _ _ h4
    · exact nmo _ _ q1
    · exact nmo _ _ h6
  refine us_ts (fun H' => Fr [] H10 H' ∧ H' mo = some (.lst (wl.map V.str))) ⟨by fail "frm", upd_same⟩ ?_
  clear mo0 nmo
  rintro H11 ⟨f11, hmo11⟩
  have p11 := p10.fr f11 nd_nil
  have s11 := s10.fr f11 (by simp)
  have f11' : Fr [] H H11 := f10'.call f11 (by fail "al")
  clear f11 f10' p10 s10
  obtain ⟨h1, h2, h3, h4, h5, h6⟩ := id p11
  refine st_seq (st_drop ?_)
  refine st_bmL (val_var rfl) hmo11 ?_
  have hzm : ((wl.map V.str).length : Int) = wl.length := by rw [List.length_map]
  fail "cgo"
  refine ⟨s, _, 69999, rfl, by omega, by omega, s11.le (by decide), fun H12 y y0 y1 f12 s12 => ?_⟩
  have p12 := p11.fr f12 nes
  have hmo12 := f12.keep _ _ hmo11 (by simpa using nms'.symm)
  have f12' : Fr [] H H12 := f11'.call f12 (by fail "al")
  clear f12 f11' p11 s11 hmo11 h1 h2 h3 h4 h5 h6
  obtain ⟨h1, h2, h3, h4, h5, h6⟩ := id p12
  fail "cgo"
  refine ⟨s, 2, 69998, rfl, by decide, by decide, s12, fun H13 x x0 x1 f13 s13 => ?_⟩
  have p13 := p12.fr f13 nes
  have hmo13 := f13.keep _ _ hmo12 (by simpa using nms'.symm)
  have f13' : Fr [] H H13 := f12'.call f13 (by fail "al")
  clear f13 f12' p12 s12 hmo12 h1 h2 h3 h4 h5 h6
  obtain ⟨h1, h2, h3, h4, h5, h6⟩ := id p13
  obtain ⟨j, xm, j0, hxm, atx⟩ : ∃ (j : Nat) (xm : Str), 12 ≤ j ∧ nms[j]? = some xm ∧ atI (nms.map V.str) (12 + x) = some (.str xm) := by
    have hj : 12 + x.toNat < nms.length := by omega
    refine ⟨12 + x.toNat, nms[12 + x.toNat], by omega, List.getElem?_eq_getElem hj, ?_⟩
    rw [show (12 + x : Int) = ((12 + x.toNat : Nat) : Int) by omega]
    exact atI_nat (by rw [List.getElem?_map, List.getElem?_eq_getElem hj]; rfl)
  fail "cgo"
  refine ⟨mo, wl.map V.str, y, .str xm, rfl, rfl, hmo13, by rw [List.length_map]; show _ < (16777216 : Nat); omega, y0, by omega, ?_⟩
  obtain ⟨ml, hml⟩ : ∃ ml, ml = wl.take y.toNat ++ [xm] ++ wl.drop y.toNat := ⟨_, rfl⟩
  have eml : (wl.map V.str).take y.toNat ++ [V.str xm] ++ (wl.map V.str).drop y.toNat = ml.map V.str := by
    rw [hml, List.map_append, List.map_append, List.map_take, List.map_drop]; rfl
  rw [eml]
  have lml : ml.length ≤ 15 := by
    rw [hml, List.length_append, List.length_append, List.length_take, List.length_drop, List.length_singleton]; omega
  have bml : badW G R ml ≠ none := badW_mem (x := xm) (by rw [hml]; simp) (none_of_not fun z => take_ne nd (inv5.gm _ z) hxm j0 rfl) (none_of_not fun z => take_ne nd (inv5.rm _ z) hxm j0 rfl)
  refine us_ts (fun H' => Fr [mo] H13 H' ∧ Fr [] H H' ∧ H' mo = some (.lst (ml.map V.str))) ⟨by fail "frm", by fail "frm", upd_same⟩ ?_
  rintro H14 ⟨f14, f14', hmo14⟩
  have p14 := p13.fr f14 nesm
  clear f14 f13' p13 s13 hmo13 h1 h2 h3 h4 h5 h6
  refine st_seq (st_ifC (st_bC ?_))
  fail "cgo"
  refine ⟨top, g, r, mo, tr, G, R, ml, LI R, t.map Stp.t, rfl, p14.tp, p14.hs, hmo14, p14.tr, ok, lI0 lok ml, by omega, by omega, by rw [List.length_map]; omega, fun H15 f15 => st_bl ?_⟩
  rw [decide_eq_false bml, Bool.false_and]
  refine ifF rfl (st_next ?_)
  have p15 := p14.fr f15 nd_nil
  have f15' : Fr [] H H15 := f14'.call f15 (by fail "al")
  clear f15 f14' p14 hmo14
  obtain ⟨dv, hdv⟩ : ∃ dv, dv = (if isDone o = true then V.ref tr else .non) := ⟨_, rfl⟩
  fail "st"
  fail "st"
  refine st_seq (st_ifAsg (v := dv) (b := decide (bv = .non)) (by fail "an") (fun q => ?_) (fun q => ?_) ?_)
  · have q := of_decide_eq_true q
    rcases hbv with ⟨_, e⟩ | ⟨⟨b, e⟩, _⟩
    · rw [hdv, if_pos e]
      exact val_var rfl
    · rw [e] at q; cases q
  · have q := of_decide_eq_false q
    rcases hbv with ⟨e, _⟩ | ⟨_, e⟩
    · exact absurd e q
    · rw [hdv, e]; rfl
  dsimp only [List.set]
  refine st_seq (st_keep (fun σ' H' => σ' = [some (.ref a), some (.ref nm), some (.ref top), some (.int (15 + (i : Int))), some (.ref s), some (.ref wi), some (.ref tr), some (.ref ch), some bv, some (.ref mo), some dv, pa, sh] ∧ Fr [] H15 H') ?_ fun kD => ?_)
  rotate_left 1
  · refine st_ifC (st_testC (st_opC ?_))
    fail "cgo"
    refine ⟨top, g, r, wi, ch, G, R, wl, cs, LI R, o, rfl, p15.tp, p15.hs, p15.wi, p15.ch, ok, oI, by omega, by omega, tk.woven lt, fun t' ho H16 d d0 f16 hd => ?_, fun ho H16 f16 => ?_⟩
    · refine st_val (val_var rfl) ?_
      have e := tk.done ho
      subst e
      have : isDone o = true := by rw [ho]; rfl
      rw [if_pos this] at hdv
      rw [hdv]
      refine st_lf (lf_neX hd (tr_fr f16 p15.tr (by simp)) rfl (by have := stp_dep t'; show depL (t'.map Stp.t) + 1 ≤ 60; omega)) (st_bl ?_)
      rw [eqv_refl (.lst (t'.map Stp.t)) (ndL_imm _ (stps_imm t'))]
      refine ifF rfl (st_next ?_)
      exact kD _ _ ⟨by rw [hdv], f16⟩
    · refine st_val (val_var rfl) ?_
      rw [ho] at hdv
      have hdv : dv = .non := hdv
      rw [hdv]
      refine st_lf (lf_neX (t := .non) (u := .non) rfl rfl rfl (by decide)) (st_bl ?_)
      refine ifF rfl (st_next ?_)
      exact kD _ _ ⟨by rw [hdv], f16⟩
  rintro σ' H16 ⟨rfl, f16⟩
  have p16 := p15.fr f16 nd_nil
  have f16' : Fr [] H H16 := f15'.call f16 (by fail "al")
  clear f16 f15' p15
  obtain ⟨_, xs, e, htr1, htr2⟩ := id p16.tr
  cases e
  have lx : xs.length = t.length := by rw [← htr2.len, List.length_map]
  dsimp only
  refine st_forC ?_
  refine st_opC ?_
  refine st_lrg1 (n := if (xs.length : Int) < 8 then (xs.length : Int) else 8) (by fail "vt") ?_ fun q1 q10 => ?_
  · exact RgOk.of_le (by decide) (by split <;> omega) (by decide) (by split <;> omega)
  fail "cgo"
  obtain ⟨ks, eks, lks⟩ : ∃ ks : List Nat, rgV 0 (if (xs.length : Int) < 8 then (xs.length : Int) else 8) ++ [V.int (if (xs.length : Int) - 1 > 0 then (xs.length : Int) - 1 else 0), V.int (xs.length : Int)] = ks.map (fun k : Nat => V.int (k : Int)) ∧ ∀ k ∈ ks, k ≤ t.length := by
    refine ⟨List.range ((if (xs.length : Int) < 8 then (xs.length : Int) else 8) - 0).toNat ++ [xs.length - 1, xs.length], ?_, fun k m => ?_⟩
    · unfold rgV
      rw [List.map_append]
      congr 1
      · refine List.map_congr_left fun k _ => ?_
        rw [Int.zero_add]
      · have e : (if (xs.length : Int) - 1 > 0 then (xs.length : Int) - 1 else 0) = ((xs.length - 1 : Nat) : Int) := by split <;> omega
        rw [e]; rfl
    · rcases List.mem_append.mp m with m | m
      · have := List.mem_range.mp m
        split at this <;> omega
      · simp only [List.mem_cons, List.not_mem_nil, or_false] at m
        omega
  have lrg : (rgV 0 (if (xs.length : Int) < 8 then (xs.length : Int) else 8)).length ≤ 8 := by
    rw [rgV_length]
    split <;> omega
  generalize rgV 0 (if (xs.length : Int) < 8 then (xs.length : Int) else 8) = rg at *
  refine st_cat (by fail "hq") (by fail "hq") (by show _ + 2 ≤ (16777216 : Nat); omega) fun q3 q30 => ?_
  rw [eks]
  refine us_il (fun H' => Fr [] H16 H' ∧ H' q3 = some (.lst (ks.map fun k : Nat => V.int (k : Int)))) ⟨by fail "frm", upd_same⟩ ?_
  rintro H17 ⟨f17, hq17⟩
  have p17 := p16.fr f17 nd_nil
  have htr17 := f17.keep _ _ htr1 (by simp)
  have htr27 := RpL.tups f17.tup _ _ (stps_imm _) htr2
  have f17' : Fr [] H H17 := f16'.call f17 (by fail "al")
  refine st_forV (p := q3) (emb := fun k : Nat => V.int (k : Int)) (xs := ks) (SqL.of hq17) (fun rest σ' H' => ∃ pa sh, σ' = [some (.ref a), some (.ref nm), some (.ref top), some (.int (15 + (i : Int))), some (.ref s), some (.ref wi), some (.ref tr), some (.ref ch), some bv, some (.ref mo), some dv, pa, sh] ∧ Fr [] H17 H' ∧ ∀ k ∈ rest, k ≤ t.length)
    ⟨pa, sh, rfl, Fr.refl _, lks⟩ (fun rest σ' H' ⟨_, _, _, f, _⟩ => SqL.of (f.keep _ _ hq17 (by simp))) ?_ ?_
  · rintro k rest σ' H18 ⟨pa, sh, rfl, f18, hk⟩
    have lk := hk k List.mem_cons_self
    have p18 := p17.fr f18 nd_nil
    have htr18 := f18.keep _ _ htr17 (by simp)
    have htr28 := RpL.tups f18.tup _ _ (stps_imm _) htr27
    have f18' : Fr [] H H18 := f17'.call f18 (by fail "al")
    dsimp only [List.set]
    fail "cgo"
    refine st_slL (val_var rfl) htr18 vo_no (vo_at (val_var rfl)) fun q4 q40 => ?_
    rw [cut_takeV (by omega)]
    have f19 : Fr [] H18 (upd H18 q4 (.lst (xs.take k))) := by fail "frm"
    have hq19 : upd H18 q4 (.lst (xs.take k)) q4 = some (.lst (xs.take k)) := upd_same
    generalize upd H18 q4 (.lst (xs.take k)) = H19 at *
    have p19 := p18.fr f19 nd_nil
    have r19 : RpL H19 ((t.take k).map Stp.t) (xs.take k) := by
      rw [List.map_take]
      exact rpl_take k (RpL.tups f19.tup _ _ (stps_imm _) htr28)
    fail "cgo"
    refine ⟨top, g, r, wi, q4, G, R, wl, LI R, (t.take k).map Stp.t, rfl, p19.tp, p19.hs, p19.wi, ⟨q4, _, rfl, hq19, r19⟩, ok, oI, by omega, by omega, by rw [List.length_map, List.length_take]; omega, fun H20 f20 => ?_⟩
    rw [tk.shows lk]
    have f20' : Fr [] H17 H20 := (f18.call f19 (by fail "al")).call f20 (by fail "al")
    have htr20 := f20'.keep _ _ htr17 (by simp)
    dsimp only [List.set]
    have nxt : ∀ k' ∈ rest, k' ≤ t.length := fun k' m => hk k' (List.mem_cons_of_mem _ m)
    refine st_ifC (st_testC (st_opC (st_val (val_var rfl) (st_andVC ?_))))
    fail "cgo"
    refine st_bl ?_
    have ek : decide ((k : Int) = (xs.length : Int)) = decide (k = t.length) := by rw [decide_eq_decide]; omega
    rw [ek]
    by_cases q : k = t.length
    · rw [decide_eq_true q, Bool.true_and]
      refine ifT rfl ?_
      have eb : decide (bv = .non) = isDone o := by
        rcases hbv with ⟨e1, e2⟩ | ⟨⟨b, e1⟩, e2⟩
        · rw [e1, e2]; rfl
        · rw [e1, e2]; rfl
      fail "cgo"
      rw [eb]
      refine st_lf lf_neB (st_bl (ifF rfl (st_next ?_)))
      exact ⟨_, _, rfl, f20', nxt⟩
    · rw [decide_eq_false q, Bool.false_and]
      refine ifF rfl ?_
      refine st_lf lf_neB (st_bl (ifF rfl (st_next ?_)))
      exact ⟨_, _, rfl, f20', nxt⟩
  · rintro σ' H18 ⟨pa, sh, rfl, f18, _⟩
    have p18 := p17.fr f18 nd_nil
    exact ⟨top, g, r, G, R, _, _, _, _, _, _, _, _, _, _, rfl, f17'.call f18 (by fail "al"), p18.nm, p18.tp, p18.hs, inv5⟩
end Law

end
section
namespace Law
open PySem PySem.Spec PyProof.Rows L2 U
local macro_rules | `(tactic| fail "len") => `(tactic| (intro vs H Q E h; repeat (first | (exact congrArg List.length h.1) | (obtain ⟨_, h⟩ := h))))
section
variable {P : Program} {w : World} {K : PySem.W.Frag} {mg : Str → Option Value} {base : Heap} {A : Ad}
theorem g_worth (T : Tx K mg A) : ∀ n : Nat, FnOk P w K mg base CX0 (2 * n + 1) A.f_Going_worth A.d_Going_worth P_Going_worth (sp_worth A n)
  | 0 => fn_no fun vs H Q E h => by
    obtain ⟨a, ra, hd, r, rv, g, g', reads, v, M, _, _, _, h, _⟩ := h
    omega
  | n + 1 => fn_Going_worth (k := 2 * n + 2) T (fn_Going_look (k := 0) T (by fail "len") r_Going_look) (by omega) (g_worth T n) (by omega)
    (fn_Going_two (k := 2 * n + 1) T (g_worth T n) (by omega) (by fail "len") r_Going_two) (Nat.le_refl _) (by fail "len") r_Going_worth
theorem g_behind (T : Tx K mg A) (n : Nat) : FnOk P w K mg base CX0 (2 * n + 3) A.f_behind A.d_behind P_behind (sp_behind A n) :=
  fn_behind (k := 2 * n + 2) T (fn_Going_init (k := 0) T (by fail "len") r_Going_init) (by omega) (g_worth T n) (by omega) (by fail "len") r_behind
theorem g_begin (T : Tx K mg A) : FnOk P w K mg base CX0 1 A.f_Weaving_begin A.d_Weaving_begin P_Weaving_begin (sp_begin A) := fn_Weaving_begin (k := 0) T (by fail "len") r_Weaving_begin
theorem g_state (T : Tx K mg A) : FnOk P w K mg base CX0 1 A.f__law_state A.d__law_state P__law_state (sp_state K A) := fn__law_state (k := 0) T (by fail "len") r__law_state
theorem g_draw (T : Tx K mg A) : FnOk P w K mg base CX0 1 A.f__law_draw A.d__law_draw P__law_draw (sp_draw A) := fn__law_draw (k := 0) T (by fail "len") r__law_draw
theorem g_number (T : Tx K mg A) : FnOk P w K mg base CX0 2 A.f__law_number A.d__law_number P__law_number (sp_number A) := fn__law_number (k := 1) T (g_draw T) (by omega) (by fail "len") r__law_number
theorem g_product (T : Tx K mg A) : FnOk P w K mg base CX0 2 A.f__law_product A.d__law_product P__law_product (sp_product A) := fn__law_product (k := 1) T (g_draw T) (by omega) (by fail "len") r__law_product
theorem g_recipe (T : Tx K mg A) : ∀ n : Nat, FnOk P w K mg base CX0 (n + 2) A.f__law_recipe A.d__law_recipe P__law_recipe (sp_recipe A n)
  | 0 => fn_no fun vs H Q E h => by
    obtain ⟨s, p, d, b, pool, _, h, _⟩ := h
    omega
  | n + 1 => fn__law_recipe (k := n + 2) T (g_draw T) (by omega) (g_number T) (by omega) (g_recipe T n) (by omega) (g_product T) (by omega) (by fail "len") r__law_recipe
theorem g_reckoned (T : Tx K mg A) : ∀ n : Nat, FnOk P w K mg base CX0 (n + 1) A.f__law_reckoned A.d__law_reckoned P__law_reckoned (sp_reckoned A n)
  | 0 => fn_no fun vs H Q E h => by
    obtain ⟨rv, kn, r, m, M, _, _, _, h, _⟩ := h
    omega
  | n + 1 => fn__law_reckoned (k := n + 1) T (g_reckoned T n) (by omega) (by fail "len") r__law_reckoned
theorem g_begun (T : Tx K mg A) : FnOk P w K mg base CX0 1 A.f__law_begun A.d__law_begun P__law_begun (sp_lbegun A) := fn__law_begun (k := 0) T (by fail "len") r__law_begun
theorem g_over (T : Tx K mg A) : FnOk P w K mg base CX0 1 A.f__law_over A.d__law_over P__law_over (sp_lover A) := fn__law_over (k := 0) T (by fail "len") r__law_over
theorem g_ready (T : Tx K mg A) : FnOk P w K mg base CX0 1 A.f__law_ready A.d__law_ready P__law_ready (sp_lready A) := fn__law_ready (k := 0) T (by fail "len") r__law_ready
theorem g_lstep (T : Tx K mg A) (n : Nat) : FnOk P w K mg base CX0 (n + 2) A.f__law_step A.d__law_step P__law_step (sp_lstep A n) := fn__law_step (k := n + 1) T (g_reckoned T n) (by omega) (by fail "len") r__law_step
theorem g_names (T : Tx K mg A) : FnOk P w K mg base CX0 2 A.f__law_names A.d__law_names P__law_names (sp_names K A) := fn__law_names (k := 1) T (g_state T) (by omega) (g_draw T) (by omega) (by fail "len") r__law_names
theorem g_house (T : Tx K mg A) : FnOk P w K mg base CX0 7 A.f__law_house A.d__law_house P__law_house (sp_house K A) := fn__law_house (k := 6) T (g_state T) (by omega) (g_draw T) (by omega) (g_number T) (by omega) (g_recipe T 4) (by omega) (by fail "len") r__law_house
theorem g_changed (T : Tx K mg A) : FnOk P w K mg base CX0 7 A.f__law_changed A.d__law_changed P__law_changed (sp_changed A) := fn__law_changed (k := 6) T (g_draw T) (by omega) (g_number T) (by omega) (g_recipe T 4) (by omega) (by fail "len") r__law_changed
theorem g_wishes (T : Tx K mg A) : FnOk P w K mg base CX0 2 A.f__law_wishes A.d__law_wishes P__law_wishes (sp_wishes A) := fn__law_wishes (k := 1) T (g_draw T) (by omega) (by fail "len") r__law_wishes
theorem g_noname (T : Tx K mg A) : FnOk P w K mg base CX0 1 A.f_NoName_init A.d_NoName_init P_NoName_init (sp_err1 K A.C_NoName "name") := fn_NoName_init (k := 0) T (by fail "len") fun vs H Q E h => r_err1 rfl h
theorem g_ringE (T : Tx K mg A) : FnOk P w K mg base CX0 1 A.f_Ring_init A.d_Ring_init P_Ring_init (sp_errL K A.C_Ring "ring") := fn_Ring_init (k := 0) T (by fail "len") fun vs H Q E h => r_errL rfl h
theorem g_en (T : Tx K mg A) : ErrN K A := ⟨T.e_NoName.c, T.e_NoName.na _ List.mem_cons_self⟩
theorem g_er (T : Tx K mg A) : ErrR K A := ⟨T.e_Ring.c, T.e_Ring.na _ List.mem_cons_self⟩
theorem g_winit (T : Tx K mg A) : FnOk P w K mg base (L2.CX P w) 3 A.f_Weaving_init A.d_Weaving_init P_Weaving_init (sp_wInitX A) := fn_Weaving_init (k := 2) T (g_noname T) (by omega) (g_begin T) (by omega) (by fail "len") fun vs H Q E => r_Weaving_init vs H Q E (g_en T)
theorem g_goOn (T : Tx K mg A) (n : Nat) : FnOk P w K mg base (L2.CX P w) (2 * n + 4) A.f_Weaving_go_on A.d_Weaving_go_on P_Weaving_go_on (sp_goOnX A n) := fn_Weaving_go_on (k := 2 * n + 3) T (g_behind T n) (by omega) (g_noname T) (by omega) (g_begin T) (by omega) (by fail "len") fun vs H Q E => r_Weaving_go_on vs H Q E (g_en T)
theorem g_woven (T : Tx K mg A) (n : Nat) : FnOk P w K mg base (L2.CX P w) (2 * n + 5) A.f_woven A.d_woven P_woven (sp_wovenX A n) := fn_woven (k := 2 * n + 4) T (g_winit T) (by omega) (fn_Weaving_is_over (k := 0) T (by fail "len") r_Weaving_is_over) (by omega) (fn_Weaving_ready (k := 0) T (by fail "len") r_Weaving_ready) (by omega) (g_ringE T) (by omega) (fn_Weaving_first_ring (k := 0) T (by fail "len") r_Weaving_first_ring) (by omega) (g_goOn T n) (by omega) (by fail "len") fun vs H Q E => r_woven vs H Q E (g_en T) (g_er T)
theorem g_shows (T : Tx K mg A) (n : Nat) : FnOk P w K mg base CX0 (2 * n + 6) A.f_trace_shows A.d_trace_shows P_trace_shows (sp_shows A n) :=
  fn_trace_shows (k := 2 * n + 5) T (fn_begun_weaving (k := 4) T (g_winit T) (by omega) (by fail "len") fun vs H Q E => r_begun_weaving vs H Q E T.x_NoName_NoName) (by omega)
    (fn_is_step (k := 0) T (by fail "len") r_is_step) (by omega) (fn_Weaving_ready (k := 0) T (by fail "len") r_Weaving_ready) (by omega)
    (fn_step_done (k := 2 * n + 4) T (g_goOn T n) (by omega) (by fail "len") fun vs H Q E => r_step_done vs H Q E T.x_NoName_NoName) (by omega) (fn_Weaving_is_over (k := 0) T (by fail "len") r_Weaving_is_over) (by omega) (by fail "len") r_trace_shows
theorem law_fn (T : Tx K mg A) : FnOk P w K mg base CX0 22 A.f_law A.d_law P_law (sp_law K) :=
  fn_law (k := 21) T (g_names T) (by omega) (g_house T) (by omega) (g_state T) (by omega) (g_changed T) (by omega) (g_wishes T) (by omega) (g_draw T) (by omega)
    (fn__law_taken (k := 9) T (g_begun T) (by omega) (g_over T) (by omega) (g_ready T) (by omega) (g_draw T) (by omega) (g_lstep T 7) (by omega) (by fail "len") r__law_taken) (by omega)
    (g_shows T 7) (by omega)
    (fn__law_woven_told (k := 19) T (g_woven T 7) (by omega) (by fail "len") fun vs H Q E => r__law_woven_told vs H Q E ⟨T.x_NoName_NoName, T.x_Ring_NoName, T.x_Ring_Ring⟩) (by omega)
    (by fail "len") r_law
end
end Law

end
namespace Law
open PySem PySem.Spec PyProof.Rows L2 U
theorem bd_Going_init : BindsAll "__init__" "Going.__init__" s_Going_init P_Going_init := fun _ _ _ _ _ _ us hl => match us, hl with | [_, _], _ => rfl
theorem bd_Going_look : BindsAll "look" "Going.look" s_Going_look P_Going_look := fun _ _ _ _ _ _ us hl => match us, hl with | [_, _], _ => rfl
theorem bd_Going_two : BindsAll "two" "Going.two" s_Going_two P_Going_two := fun _ _ _ _ _ _ us hl => match us, hl with | [_, _, _, _], _ => rfl
theorem bd_Going_worth : BindsAll "worth" "Going.worth" s_Going_worth P_Going_worth := fun _ _ _ _ _ _ us hl => match us, hl with | [_, _], _ => rfl
theorem bd_behind : BindsAll "behind" "behind" s_behind P_behind := fun _ _ _ _ _ _ us hl => match us, hl with | [_, _], _ => rfl
theorem bd_NoName_init : BindsAll "__init__" "NoName.__init__" s_NoName_init P_NoName_init := fun _ _ _ _ _ _ us hl => match us, hl with | [_, _], _ => rfl
theorem bd_Ring_init : BindsAll "__init__" "Ring.__init__" s_Ring_init P_Ring_init := fun _ _ _ _ _ _ us hl => match us, hl with | [_, _], _ => rfl
theorem bd_Weaving_init : BindsAll "__init__" "Weaving.__init__" s_Weaving_init P_Weaving_init := fun _ _ _ _ _ _ us hl => match us, hl with | [_, _, _], _ => rfl
theorem bd_Weaving_begin : BindsAll "begin" "Weaving.begin" s_Weaving_begin P_Weaving_begin := fun _ _ _ _ _ _ us hl => match us, hl with | [_, _], _ => rfl
theorem bd_Weaving_is_over : BindsAll "is_over" "Weaving.is_over" s_Weaving_is_over P_Weaving_is_over := fun _ _ _ _ _ _ us hl => match us, hl with | [_], _ => rfl
theorem bd_Weaving_ready : BindsAll "ready" "Weaving.ready" s_Weaving_ready P_Weaving_ready := fun _ _ _ _ _ _ us hl => match us, hl with | [_], _ => rfl
theorem bd_Weaving_go_on : BindsAll "go_on" "Weaving.go_on" s_Weaving_go_on P_Weaving_go_on := fun _ _ _ _ _ _ us hl => match us, hl with | [_, _], _ => rfl
theorem bd_Weaving_first_ring : BindsAll "first_ring" "Weaving.first_ring" s_Weaving_first_ring P_Weaving_first_ring := fun _ _ _ _ _ _ us hl => match us, hl with | [_], _ => rfl
theorem bd_woven : BindsAll "woven" "woven" s_woven P_woven := fun _ _ _ _ _ _ us hl => match us, hl with | [_, _, _], _ => rfl
theorem bd__law_state : BindsAll "_law_state" "_law_state" s__law_state P__law_state := fun _ _ _ _ _ _ us hl => match us, hl with | [_, _], _ => rfl
theorem bd__law_draw : BindsAll "_law_draw" "_law_draw" s__law_draw P__law_draw := fun _ _ _ _ _ _ us hl => match us, hl with | [_, _], _ => rfl
theorem bd__law_names : BindsAll "_law_names" "_law_names" s__law_names P__law_names := fun _ _ _ _ _ _ us hl => match us, hl with | [_], _ => rfl
theorem bd__law_number : BindsAll "_law_number" "_law_number" s__law_number P__law_number := fun _ _ _ _ _ _ us hl => match us, hl with | [_], _ => rfl
theorem bd__law_product : BindsAll "_law_product" "_law_product" s__law_product P__law_product := fun _ _ _ _ _ _ us hl => match us, hl with | [_, _, _], _ => rfl
theorem bd__law_recipe : BindsAll "_law_recipe" "_law_recipe" s__law_recipe P__law_recipe := fun _ _ _ _ _ _ us hl => match us, hl with | [_, _, _], _ => rfl
theorem bd__law_house : BindsAll "_law_house" "_law_house" s__law_house P__law_house := fun _ _ _ _ _ _ us hl => match us, hl with | [_, _, _], _ => rfl
theorem bd__law_changed : BindsAll "_law_changed" "_law_changed" s__law_changed P__law_changed := fun _ _ _ _ _ _ us hl => match us, hl with | [_, _, _], _ => rfl
theorem bd__law_wishes : BindsAll "_law_wishes" "_law_wishes" s__law_wishes P__law_wishes := fun _ _ _ _ _ _ us hl => match us, hl with | [_, _], _ => rfl
theorem bd__law_reckoned : BindsAll "_law_reckoned" "_law_reckoned" s__law_reckoned P__law_reckoned := fun _ _ _ _ _ _ us hl => match us, hl with | [_, _], _ => rfl
theorem bd__law_begun : BindsAll "_law_begun" "_law_begun" s__law_begun P__law_begun := fun _ _ _ _ _ _ us hl => match us, hl with | [_, _], _ => rfl
theorem bd__law_ready : BindsAll "_law_ready" "_law_ready" s__law_ready P__law_ready := fun _ _ _ _ _ _ us hl => match us, hl with | [_], _ => rfl
theorem bd__law_step : BindsAll "_law_step" "_law_step" s__law_step P__law_step := fun _ _ _ _ _ _ us hl => match us, hl with | [_, _, _], _ => rfl
theorem bd__law_over : BindsAll "_law_over" "_law_over" s__law_over P__law_over := fun _ _ _ _ _ _ us hl => match us, hl with | [_], _ => rfl
theorem bd_begun_weaving : BindsAll "begun_weaving" "begun_weaving" s_begun_weaving P_begun_weaving := fun _ _ _ _ _ _ us hl => match us, hl with | [_, _], _ => rfl
theorem bd_step_done : BindsAll "step_done" "step_done" s_step_done P_step_done := fun _ _ _ _ _ _ us hl => match us, hl with | [_, _], _ => rfl
theorem bd_is_step : BindsAll "is_step" "is_step" s_is_step P_is_step := fun _ _ _ _ _ _ us hl => match us, hl with | [_], _ => rfl
theorem bd_trace_shows : BindsAll "trace_shows" "trace_shows" s_trace_shows P_trace_shows := fun _ _ _ _ _ _ us hl => match us, hl with | [_, _, _], _ => rfl
theorem bd__law_taken : BindsAll "_law_taken" "_law_taken" s__law_taken P__law_taken := fun _ _ _ _ _ _ us hl => match us, hl with | [_, _, _], _ => rfl
theorem bd__law_woven_told : BindsAll "_law_woven_told" "_law_woven_told" s__law_woven_told P__law_woven_told := fun _ _ _ _ _ _ us hl => match us, hl with | [_, _, _], _ => rfl
theorem bd_law : BindsAll "law" "law" s_law P_law := fun _ _ _ _ _ _ us hl => match us, hl with | [_], _ => rfl
theorem all_mk {l : PySem.W.OpenLaw} {w : World} {K : PySem.W.Frag} {h : Heap} {mg : Str → Option Value} {fa : Addr} (X : K.In h) (G : h.Ns mainGlobals mg) (hfa : mg "law" = some (.ref fa))
    {C_Going : Addr}
    {C_Weaving : Addr}
    {C_MadeError : Addr}
    {C_NoName : Addr}
    {C_Ring : Addr}
    {nm_NoName q_NoName : Str} {N_NoName : Addr} {bs_NoName : List Value} {sn_NoName : List Str} {sub_NoName : List Value} {ab_NoName : Bool} {col_NoName : Option Bool} {dd_NoName : Option Addr} {k0_NoName k1_NoName k2_NoName k3_NoName k5_NoName : Option Value}
    {nm_Ring q_Ring : Str} {N_Ring : Addr} {bs_Ring : List Value} {sn_Ring : List Str} {sub_Ring : List Value} {ab_Ring : Bool} {col_Ring : Option Bool} {dd_Ring : Option Addr} {k0_Ring k1_Ring k2_Ring k3_Ring k5_Ring : Option Value}
    {f_Going_init : Addr} {oc_Going_init kV_Going_init dc_Going_init pm_Going_init cd_Going_init ct_Going_init : Value} {od_Going_init an_Going_init : Option Addr} {sl_Going_init : Array (Option Value)}
    {f_Going_look : Addr} {oc_Going_look kV_Going_look dc_Going_look pm_Going_look cd_Going_look ct_Going_look : Value} {od_Going_look an_Going_look : Option Addr} {sl_Going_look : Array (Option Value)}
    {f_Going_two : Addr} {oc_Going_two kV_Going_two dc_Going_two pm_Going_two cd_Going_two ct_Going_two : Value} {od_Going_two an_Going_two : Option Addr} {sl_Going_two : Array (Option Value)}
    {f_Going_worth : Addr} {oc_Going_worth kV_Going_worth dc_Going_worth pm_Going_worth cd_Going_worth ct_Going_worth : Value} {od_Going_worth an_Going_worth : Option Addr} {sl_Going_worth : Array (Option Value)}
    {f_behind : Addr} {oc_behind kV_behind dc_behind pm_behind cd_behind ct_behind : Value} {od_behind an_behind : Option Addr} {sl_behind : Array (Option Value)}
    {f_NoName_init : Addr} {oc_NoName_init kV_NoName_init dc_NoName_init pm_NoName_init cd_NoName_init ct_NoName_init : Value} {od_NoName_init an_NoName_init : Option Addr} {sl_NoName_init : Array (Option Value)}
    {f_Ring_init : Addr} {oc_Ring_init kV_Ring_init dc_Ring_init pm_Ring_init cd_Ring_init ct_Ring_init : Value} {od_Ring_init an_Ring_init : Option Addr} {sl_Ring_init : Array (Option Value)}
    {f_Weaving_init : Addr} {oc_Weaving_init kV_Weaving_init dc_Weaving_init pm_Weaving_init cd_Weaving_init ct_Weaving_init : Value} {od_Weaving_init an_Weaving_init : Option Addr} {sl_Weaving_init : Array (Option Value)}
    {f_Weaving_begin : Addr} {oc_Weaving_begin kV_Weaving_begin dc_Weaving_begin pm_Weaving_begin cd_Weaving_begin ct_Weaving_begin : Value} {od_Weaving_begin an_Weaving_begin : Option Addr} {sl_Weaving_begin : Array (Option Value)}
    {f_Weaving_is_over : Addr} {oc_Weaving_is_over kV_Weaving_is_over dc_Weaving_is_over pm_Weaving_is_over cd_Weaving_is_over ct_Weaving_is_over : Value} {od_Weaving_is_over an_Weaving_is_over : Option Addr} {sl_Weaving_is_over : Array (Option Value)}
    {f_Weaving_ready : Addr} {oc_Weaving_ready kV_Weaving_ready dc_Weaving_ready pm_Weaving_ready cd_Weaving_ready ct_Weaving_ready : Value} {od_Weaving_ready an_Weaving_ready : Option Addr} {sl_Weaving_ready : Array (Option Value)}
    {f_Weaving_go_on : Addr} {oc_Weaving_go_on kV_Weaving_go_on dc_Weaving_go_on pm_Weaving_go_on cd_Weaving_go_on ct_Weaving_go_on : Value} {od_Weaving_go_on an_Weaving_go_on : Option Addr} {sl_Weaving_go_on : Array (Option Value)}
    {f_Weaving_first_ring : Addr} {oc_Weaving_first_ring kV_Weaving_first_ring dc_Weaving_first_ring pm_Weaving_first_ring cd_Weaving_first_ring ct_Weaving_first_ring : Value} {od_Weaving_first_ring an_Weaving_first_ring : Option Addr} {sl_Weaving_first_ring : Array (Option Value)}
    {f_woven : Addr} {oc_woven kV_woven dc_woven pm_woven cd_woven ct_woven : Value} {od_woven an_woven : Option Addr} {sl_woven : Array (Option Value)}
    {f__law_state : Addr} {oc__law_state kV__law_state dc__law_state pm__law_state cd__law_state ct__law_state : Value} {od__law_state an__law_state : Option Addr} {sl__law_state : Array (Option Value)}
    {f__law_draw : Addr} {oc__law_draw kV__law_draw dc__law_draw pm__law_draw cd__law_draw ct__law_draw : Value} {od__law_draw an__law_draw : Option Addr} {sl__law_draw : Array (Option Value)}
    {f__law_names : Addr} {oc__law_names kV__law_names dc__law_names pm__law_names cd__law_names ct__law_names : Value} {od__law_names an__law_names : Option Addr} {sl__law_names : Array (Option Value)}
    {f__law_number : Addr} {oc__law_number kV__law_number dc__law_number pm__law_number cd__law_number ct__law_number : Value} {od__law_number an__law_number : Option Addr} {sl__law_number : Array (Option Value)}
    {f__law_product : Addr} {oc__law_product kV__law_product dc__law_product pm__law_product cd__law_product ct__law_product : Value} {od__law_product an__law_product : Option Addr} {sl__law_product : Array (Option Value)}
    {f__law_recipe : Addr} {oc__law_recipe kV__law_recipe dc__law_recipe pm__law_recipe cd__law_recipe ct__law_recipe : Value} {od__law_recipe an__law_recipe : Option Addr} {sl__law_recipe : Array (Option Value)}
    {f__law_house : Addr} {oc__law_house kV__law_house dc__law_house pm__law_house cd__law_house ct__law_house : Value} {od__law_house an__law_house : Option Addr} {sl__law_house : Array (Option Value)}
    {f__law_changed : Addr} {oc__law_changed kV__law_changed dc__law_changed pm__law_changed cd__law_changed ct__law_changed : Value} {od__law_changed an__law_changed : Option Addr} {sl__law_changed : Array (Option Value)}
    {f__law_wishes : Addr} {oc__law_wishes kV__law_wishes dc__law_wishes pm__law_wishes cd__law_wishes ct__law_wishes : Value} {od__law_wishes an__law_wishes : Option Addr} {sl__law_wishes : Array (Option Value)}
    {f__law_reckoned : Addr} {oc__law_reckoned kV__law_reckoned dc__law_reckoned pm__law_reckoned cd__law_reckoned ct__law_reckoned : Value} {od__law_reckoned an__law_reckoned : Option Addr} {sl__law_reckoned : Array (Option Value)}
    {f__law_begun : Addr} {oc__law_begun kV__law_begun dc__law_begun pm__law_begun cd__law_begun ct__law_begun : Value} {od__law_begun an__law_begun : Option Addr} {sl__law_begun : Array (Option Value)}
    {f__law_ready : Addr} {oc__law_ready kV__law_ready dc__law_ready pm__law_ready cd__law_ready ct__law_ready : Value} {od__law_ready an__law_ready : Option Addr} {sl__law_ready : Array (Option Value)}
    {f__law_step : Addr} {oc__law_step kV__law_step dc__law_step pm__law_step cd__law_step ct__law_step : Value} {od__law_step an__law_step : Option Addr} {sl__law_step : Array (Option Value)}
    {f__law_over : Addr} {oc__law_over kV__law_over dc__law_over pm__law_over cd__law_over ct__law_over : Value} {od__law_over an__law_over : Option Addr} {sl__law_over : Array (Option Value)}
    {f_begun_weaving : Addr} {oc_begun_weaving kV_begun_weaving dc_begun_weaving pm_begun_weaving cd_begun_weaving ct_begun_weaving : Value} {od_begun_weaving an_begun_weaving : Option Addr} {sl_begun_weaving : Array (Option Value)}
    {f_step_done : Addr} {oc_step_done kV_step_done dc_step_done pm_step_done cd_step_done ct_step_done : Value} {od_step_done an_step_done : Option Addr} {sl_step_done : Array (Option Value)}
    {f_is_step : Addr} {oc_is_step kV_is_step dc_is_step pm_is_step cd_is_step ct_is_step : Value} {od_is_step an_is_step : Option Addr} {sl_is_step : Array (Option Value)}
    {f_trace_shows : Addr} {oc_trace_shows kV_trace_shows dc_trace_shows pm_trace_shows cd_trace_shows ct_trace_shows : Value} {od_trace_shows an_trace_shows : Option Addr} {sl_trace_shows : Array (Option Value)}
    {f__law_taken : Addr} {oc__law_taken kV__law_taken dc__law_taken pm__law_taken cd__law_taken ct__law_taken : Value} {od__law_taken an__law_taken : Option Addr} {sl__law_taken : Array (Option Value)}
    {f__law_woven_told : Addr} {oc__law_woven_told kV__law_woven_told dc__law_woven_told pm__law_woven_told cd__law_woven_told ct__law_woven_told : Value} {od__law_woven_told an__law_woven_told : Option Addr} {sl__law_woven_told : Array (Option Value)}
    {f_law : Addr} {oc_law kV_law dc_law pm_law cd_law ct_law : Value} {od_law an_law : Option Addr} {sl_law : Array (Option Value)}
    {t_KNOWN : _}
    {t_WAITS : _}
    (aC_Going : PySem.W.nsIn K mainGlobals "Going" = some (some (.ref C_Going)))
    (aC_Weaving : PySem.W.nsIn K mainGlobals "Weaving" = some (some (.ref C_Weaving)))
    (aC_NoName : PySem.W.nsIn K mainGlobals "NoName" = some (some (.ref C_NoName)))
    (xL_NoName : K.lookup C_NoName = some (excClassObj nm_NoName q_NoName C_NoName N_NoName bs_NoName [.ref C_MadeError, .type "ValueError", .type "Exception", .type "BaseException", .type "object"] true sn_NoName sub_NoName ab_NoName col_NoName dd_NoName k0_NoName k1_NoName k2_NoName k3_NoName k5_NoName "ValueError.__new__"))
    (sa_NoName : PySem.W.findIn K (.ref C_NoName) "__setattr__" = some (some (.builtin "object.__setattr__")))
    (ex_NoName : PySem.W.subIn K (.ref C_NoName) (.type "BaseException") = some true)
    (ty_NoName : PySem.W.typeIn K (.ref C_NoName) = some (.type "type"))
    (kC_NoName : PySem.W.keepIn K (.ref C_NoName) = true)
    (n_NoName_name : PySem.W.findIn K (.ref C_NoName) "name" = some none)
    (aC_Ring : PySem.W.nsIn K mainGlobals "Ring" = some (some (.ref C_Ring)))
    (xL_Ring : K.lookup C_Ring = some (excClassObj nm_Ring q_Ring C_Ring N_Ring bs_Ring [.ref C_MadeError, .type "ValueError", .type "Exception", .type "BaseException", .type "object"] true sn_Ring sub_Ring ab_Ring col_Ring dd_Ring k0_Ring k1_Ring k2_Ring k3_Ring k5_Ring "ValueError.__new__"))
    (sa_Ring : PySem.W.findIn K (.ref C_Ring) "__setattr__" = some (some (.builtin "object.__setattr__")))
    (ex_Ring : PySem.W.subIn K (.ref C_Ring) (.type "BaseException") = some true)
    (ty_Ring : PySem.W.typeIn K (.ref C_Ring) = some (.type "type"))
    (kC_Ring : PySem.W.keepIn K (.ref C_Ring) = true)
    (n_Ring_ring : PySem.W.findIn K (.ref C_Ring) "ring" = some none)
    (hd_NoName : PySem.W.hasDictIn K C_NoName = true)
    (x_NoName_NoName : PySem.W.subIn K (.ref C_NoName) (.ref C_NoName) = some true)
    (x_Ring_NoName : PySem.W.subIn K (.ref C_Ring) (.ref C_NoName) = some false)
    (hd_Ring : PySem.W.hasDictIn K C_Ring = true)
    (x_NoName_Ring : PySem.W.subIn K (.ref C_NoName) (.ref C_Ring) = some false)
    (x_Ring_Ring : PySem.W.subIn K (.ref C_Ring) (.ref C_Ring) = some true)
    (a_Going_init : PySem.W.findIn K (.ref C_Going) "__init__" = some (some (.ref f_Going_init)))
    (i_Going_init : PySem.W.isFn K (.ref f_Going_init) = true)
    (l_Going_init : K.lookup f_Going_init = some ⟨oc_Going_init, od_Going_init, .func (PySem.W.fnOf "__init__" "Going.__init__" (defArgs s_Going_init) (defBody s_Going_init) (defScope s_Going_init) .none kV_Going_init dc_Going_init pm_Going_init an_Going_init cd_Going_init ct_Going_init), sl_Going_init⟩)
    (c_Going_init : PySem.W.codeIn K cd_Going_init "Going.__init__" = true)
    (k_Going_init : PySem.W.keepIn K (.ref f_Going_init) = true)
    (a_Going_look : PySem.W.findIn K (.ref C_Going) "look" = some (some (.ref f_Going_look)))
    (i_Going_look : PySem.W.isFn K (.ref f_Going_look) = true)
    (l_Going_look : K.lookup f_Going_look = some ⟨oc_Going_look, od_Going_look, .func (PySem.W.fnOf "look" "Going.look" (defArgs s_Going_look) (defBody s_Going_look) (defScope s_Going_look) .none kV_Going_look dc_Going_look pm_Going_look an_Going_look cd_Going_look ct_Going_look), sl_Going_look⟩)
    (c_Going_look : PySem.W.codeIn K cd_Going_look "Going.look" = true)
    (k_Going_look : PySem.W.keepIn K (.ref f_Going_look) = true)
    (a_Going_two : PySem.W.findIn K (.ref C_Going) "two" = some (some (.ref f_Going_two)))
    (i_Going_two : PySem.W.isFn K (.ref f_Going_two) = true)
    (l_Going_two : K.lookup f_Going_two = some ⟨oc_Going_two, od_Going_two, .func (PySem.W.fnOf "two" "Going.two" (defArgs s_Going_two) (defBody s_Going_two) (defScope s_Going_two) .none kV_Going_two dc_Going_two pm_Going_two an_Going_two cd_Going_two ct_Going_two), sl_Going_two⟩)
    (c_Going_two : PySem.W.codeIn K cd_Going_two "Going.two" = true)
    (k_Going_two : PySem.W.keepIn K (.ref f_Going_two) = true)
    (a_Going_worth : PySem.W.findIn K (.ref C_Going) "worth" = some (some (.ref f_Going_worth)))
    (i_Going_worth : PySem.W.isFn K (.ref f_Going_worth) = true)
    (l_Going_worth : K.lookup f_Going_worth = some ⟨oc_Going_worth, od_Going_worth, .func (PySem.W.fnOf "worth" "Going.worth" (defArgs s_Going_worth) (defBody s_Going_worth) (defScope s_Going_worth) .none kV_Going_worth dc_Going_worth pm_Going_worth an_Going_worth cd_Going_worth ct_Going_worth), sl_Going_worth⟩)
    (c_Going_worth : PySem.W.codeIn K cd_Going_worth "Going.worth" = true)
    (k_Going_worth : PySem.W.keepIn K (.ref f_Going_worth) = true)
    (a_behind : PySem.W.nsIn K mainGlobals "behind" = some (some (.ref f_behind)))
    (l_behind : K.lookup f_behind = some ⟨oc_behind, od_behind, .func (PySem.W.fnOf "behind" "behind" (defArgs s_behind) (defBody s_behind) (defScope s_behind) .none kV_behind dc_behind pm_behind an_behind cd_behind ct_behind), sl_behind⟩)
    (c_behind : PySem.W.codeIn K cd_behind "behind" = true)
    (k_behind : PySem.W.keepIn K (.ref f_behind) = true)
    (a_NoName_init : PySem.W.findIn K (.ref C_NoName) "__init__" = some (some (.ref f_NoName_init)))
    (i_NoName_init : PySem.W.isFn K (.ref f_NoName_init) = true)
    (l_NoName_init : K.lookup f_NoName_init = some ⟨oc_NoName_init, od_NoName_init, .func (PySem.W.fnOf "__init__" "NoName.__init__" (defArgs s_NoName_init) (defBody s_NoName_init) (defScope s_NoName_init) .none kV_NoName_init dc_NoName_init pm_NoName_init an_NoName_init cd_NoName_init ct_NoName_init), sl_NoName_init⟩)
    (c_NoName_init : PySem.W.codeIn K cd_NoName_init "NoName.__init__" = true)
    (k_NoName_init : PySem.W.keepIn K (.ref f_NoName_init) = true)
    (a_Ring_init : PySem.W.findIn K (.ref C_Ring) "__init__" = some (some (.ref f_Ring_init)))
    (i_Ring_init : PySem.W.isFn K (.ref f_Ring_init) = true)
    (l_Ring_init : K.lookup f_Ring_init = some ⟨oc_Ring_init, od_Ring_init, .func (PySem.W.fnOf "__init__" "Ring.__init__" (defArgs s_Ring_init) (defBody s_Ring_init) (defScope s_Ring_init) .none kV_Ring_init dc_Ring_init pm_Ring_init an_Ring_init cd_Ring_init ct_Ring_init), sl_Ring_init⟩)
    (c_Ring_init : PySem.W.codeIn K cd_Ring_init "Ring.__init__" = true)
    (k_Ring_init : PySem.W.keepIn K (.ref f_Ring_init) = true)
    (a_Weaving_init : PySem.W.findIn K (.ref C_Weaving) "__init__" = some (some (.ref f_Weaving_init)))
    (i_Weaving_init : PySem.W.isFn K (.ref f_Weaving_init) = true)
    (l_Weaving_init : K.lookup f_Weaving_init = some ⟨oc_Weaving_init, od_Weaving_init, .func (PySem.W.fnOf "__init__" "Weaving.__init__" (defArgs s_Weaving_init) (defBody s_Weaving_init) (defScope s_Weaving_init) .none kV_Weaving_init dc_Weaving_init pm_Weaving_init an_Weaving_init cd_Weaving_init ct_Weaving_init), sl_Weaving_init⟩)
    (c_Weaving_init : PySem.W.codeIn K cd_Weaving_init "Weaving.__init__" = true)
    (k_Weaving_init : PySem.W.keepIn K (.ref f_Weaving_init) = true)
    (a_Weaving_begin : PySem.W.findIn K (.ref C_Weaving) "begin" = some (some (.ref f_Weaving_begin)))
    (i_Weaving_begin : PySem.W.isFn K (.ref f_Weaving_begin) = true)
    (l_Weaving_begin : K.lookup f_Weaving_begin = some ⟨oc_Weaving_begin, od_Weaving_begin, .func (PySem.W.fnOf "begin" "Weaving.begin" (defArgs s_Weaving_begin) (defBody s_Weaving_begin) (defScope s_Weaving_begin) .none kV_Weaving_begin dc_Weaving_begin pm_Weaving_begin an_Weaving_begin cd_Weaving_begin ct_Weaving_begin), sl_Weaving_begin⟩)
    (c_Weaving_begin : PySem.W.codeIn K cd_Weaving_begin "Weaving.begin" = true)
    (k_Weaving_begin : PySem.W.keepIn K (.ref f_Weaving_begin) = true)
    (a_Weaving_is_over : PySem.W.findIn K (.ref C_Weaving) "is_over" = some (some (.ref f_Weaving_is_over)))
    (i_Weaving_is_over : PySem.W.isFn K (.ref f_Weaving_is_over) = true)
    (l_Weaving_is_over : K.lookup f_Weaving_is_over = some ⟨oc_Weaving_is_over, od_Weaving_is_over, .func (PySem.W.fnOf "is_over" "Weaving.is_over" (defArgs s_Weaving_is_over) (defBody s_Weaving_is_over) (defScope s_Weaving_is_over) .none kV_Weaving_is_over dc_Weaving_is_over pm_Weaving_is_over an_Weaving_is_over cd_Weaving_is_over ct_Weaving_is_over), sl_Weaving_is_over⟩)
    (c_Weaving_is_over : PySem.W.codeIn K cd_Weaving_is_over "Weaving.is_over" = true)
    (k_Weaving_is_over : PySem.W.keepIn K (.ref f_Weaving_is_over) = true)
    (a_Weaving_ready : PySem.W.findIn K (.ref C_Weaving) "ready" = some (some (.ref f_Weaving_ready)))
    (i_Weaving_ready : PySem.W.isFn K (.ref f_Weaving_ready) = true)
    (l_Weaving_ready : K.lookup f_Weaving_ready = some ⟨oc_Weaving_ready, od_Weaving_ready, .func (PySem.W.fnOf "ready" "Weaving.ready" (defArgs s_Weaving_ready) (defBody s_Weaving_ready) (defScope s_Weaving_ready) .none kV_Weaving_ready dc_Weaving_ready pm_Weaving_ready an_Weaving_ready cd_Weaving_ready ct_Weaving_ready), sl_Weaving_ready⟩)
    (c_Weaving_ready : PySem.W.codeIn K cd_Weaving_ready "Weaving.ready" = true)
    (k_Weaving_ready : PySem.W.keepIn K (.ref f_Weaving_ready) = true)
    (a_Weaving_go_on : PySem.W.findIn K (.ref C_Weaving) "go_on" = some (some (.ref f_Weaving_go_on)))
    (i_Weaving_go_on : PySem.W.isFn K (.ref f_Weaving_go_on) = true)
    (l_Weaving_go_on : K.lookup f_Weaving_go_on = some ⟨oc_Weaving_go_on, od_Weaving_go_on, .func (PySem.W.fnOf "go_on" "Weaving.go_on" (defArgs s_Weaving_go_on) (defBody s_Weaving_go_on) (defScope s_Weaving_go_on) .none kV_Weaving_go_on dc_Weaving_go_on pm_Weaving_go_on an_Weaving_go_on cd_Weaving_go_on ct_Weaving_go_on), sl_Weaving_go_on⟩)
    (c_Weaving_go_on : PySem.W.codeIn K cd_Weaving_go_on "Weaving.go_on" = true)
    (k_Weaving_go_on : PySem.W.keepIn K (.ref f_Weaving_go_on) = true)
    (a_Weaving_first_ring : PySem.W.findIn K (.ref C_Weaving) "first_ring" = some (some (.ref f_Weaving_first_ring)))
    (i_Weaving_first_ring : PySem.W.isFn K (.ref f_Weaving_first_ring) = true)
    (l_Weaving_first_ring : K.lookup f_Weaving_first_ring = some ⟨oc_Weaving_first_ring, od_Weaving_first_ring, .func (PySem.W.fnOf "first_ring" "Weaving.first_ring" (defArgs s_Weaving_first_ring) (defBody s_Weaving_first_ring) (defScope s_Weaving_first_ring) .none kV_Weaving_first_ring dc_Weaving_first_ring pm_Weaving_first_ring an_Weaving_first_ring cd_Weaving_first_ring ct_Weaving_first_ring), sl_Weaving_first_ring⟩)
    (c_Weaving_first_ring : PySem.W.codeIn K cd_Weaving_first_ring "Weaving.first_ring" = true)
    (k_Weaving_first_ring : PySem.W.keepIn K (.ref f_Weaving_first_ring) = true)
    (a_woven : PySem.W.nsIn K mainGlobals "woven" = some (some (.ref f_woven)))
    (l_woven : K.lookup f_woven = some ⟨oc_woven, od_woven, .func (PySem.W.fnOf "woven" "woven" (defArgs s_woven) (defBody s_woven) (defScope s_woven) .none kV_woven dc_woven pm_woven an_woven cd_woven ct_woven), sl_woven⟩)
    (c_woven : PySem.W.codeIn K cd_woven "woven" = true)
    (k_woven : PySem.W.keepIn K (.ref f_woven) = true)
    (a__law_state : PySem.W.nsIn K mainGlobals "_law_state" = some (some (.ref f__law_state)))
    (l__law_state : K.lookup f__law_state = some ⟨oc__law_state, od__law_state, .func (PySem.W.fnOf "_law_state" "_law_state" (defArgs s__law_state) (defBody s__law_state) (defScope s__law_state) .none kV__law_state dc__law_state pm__law_state an__law_state cd__law_state ct__law_state), sl__law_state⟩)
    (c__law_state : PySem.W.codeIn K cd__law_state "_law_state" = true)
    (k__law_state : PySem.W.keepIn K (.ref f__law_state) = true)
    (a__law_draw : PySem.W.nsIn K mainGlobals "_law_draw" = some (some (.ref f__law_draw)))
    (l__law_draw : K.lookup f__law_draw = some ⟨oc__law_draw, od__law_draw, .func (PySem.W.fnOf "_law_draw" "_law_draw" (defArgs s__law_draw) (defBody s__law_draw) (defScope s__law_draw) .none kV__law_draw dc__law_draw pm__law_draw an__law_draw cd__law_draw ct__law_draw), sl__law_draw⟩)
    (c__law_draw : PySem.W.codeIn K cd__law_draw "_law_draw" = true)
    (k__law_draw : PySem.W.keepIn K (.ref f__law_draw) = true)
    (a__law_names : PySem.W.nsIn K mainGlobals "_law_names" = some (some (.ref f__law_names)))
    (l__law_names : K.lookup f__law_names = some ⟨oc__law_names, od__law_names, .func (PySem.W.fnOf "_law_names" "_law_names" (defArgs s__law_names) (defBody s__law_names) (defScope s__law_names) .none kV__law_names dc__law_names pm__law_names an__law_names cd__law_names ct__law_names), sl__law_names⟩)
    (c__law_names : PySem.W.codeIn K cd__law_names "_law_names" = true)
    (k__law_names : PySem.W.keepIn K (.ref f__law_names) = true)
    (a__law_number : PySem.W.nsIn K mainGlobals "_law_number" = some (some (.ref f__law_number)))
    (l__law_number : K.lookup f__law_number = some ⟨oc__law_number, od__law_number, .func (PySem.W.fnOf "_law_number" "_law_number" (defArgs s__law_number) (defBody s__law_number) (defScope s__law_number) .none kV__law_number dc__law_number pm__law_number an__law_number cd__law_number ct__law_number), sl__law_number⟩)
    (c__law_number : PySem.W.codeIn K cd__law_number "_law_number" = true)
    (k__law_number : PySem.W.keepIn K (.ref f__law_number) = true)
    (a__law_product : PySem.W.nsIn K mainGlobals "_law_product" = some (some (.ref f__law_product)))
    (l__law_product : K.lookup f__law_product = some ⟨oc__law_product, od__law_product, .func (PySem.W.fnOf "_law_product" "_law_product" (defArgs s__law_product) (defBody s__law_product) (defScope s__law_product) .none kV__law_product dc__law_product pm__law_product an__law_product cd__law_product ct__law_product), sl__law_product⟩)
    (c__law_product : PySem.W.codeIn K cd__law_product "_law_product" = true)
    (k__law_product : PySem.W.keepIn K (.ref f__law_product) = true)
    (a__law_recipe : PySem.W.nsIn K mainGlobals "_law_recipe" = some (some (.ref f__law_recipe)))
    (l__law_recipe : K.lookup f__law_recipe = some ⟨oc__law_recipe, od__law_recipe, .func (PySem.W.fnOf "_law_recipe" "_law_recipe" (defArgs s__law_recipe) (defBody s__law_recipe) (defScope s__law_recipe) .none kV__law_recipe dc__law_recipe pm__law_recipe an__law_recipe cd__law_recipe ct__law_recipe), sl__law_recipe⟩)
    (c__law_recipe : PySem.W.codeIn K cd__law_recipe "_law_recipe" = true)
    (k__law_recipe : PySem.W.keepIn K (.ref f__law_recipe) = true)
    (a__law_house : PySem.W.nsIn K mainGlobals "_law_house" = some (some (.ref f__law_house)))
    (l__law_house : K.lookup f__law_house = some ⟨oc__law_house, od__law_house, .func (PySem.W.fnOf "_law_house" "_law_house" (defArgs s__law_house) (defBody s__law_house) (defScope s__law_house) .none kV__law_house dc__law_house pm__law_house an__law_house cd__law_house ct__law_house), sl__law_house⟩)
    (c__law_house : PySem.W.codeIn K cd__law_house "_law_house" = true)
    (k__law_house : PySem.W.keepIn K (.ref f__law_house) = true)
    (a__law_changed : PySem.W.nsIn K mainGlobals "_law_changed" = some (some (.ref f__law_changed)))
    (l__law_changed : K.lookup f__law_changed = some ⟨oc__law_changed, od__law_changed, .func (PySem.W.fnOf "_law_changed" "_law_changed" (defArgs s__law_changed) (defBody s__law_changed) (defScope s__law_changed) .none kV__law_changed dc__law_changed pm__law_changed an__law_changed cd__law_changed ct__law_changed), sl__law_changed⟩)
    (c__law_changed : PySem.W.codeIn K cd__law_changed "_law_changed" = true)
    (k__law_changed : PySem.W.keepIn K (.ref f__law_changed) = true)
    (a__law_wishes : PySem.W.nsIn K mainGlobals "_law_wishes" = some (some (.ref f__law_wishes)))
    (l__law_wishes : K.lookup f__law_wishes = some ⟨oc__law_wishes, od__law_wishes, .func (PySem.W.fnOf "_law_wishes" "_law_wishes" (defArgs s__law_wishes) (defBody s__law_wishes) (defScope s__law_wishes) .none kV__law_wishes dc__law_wishes pm__law_wishes an__law_wishes cd__law_wishes ct__law_wishes), sl__law_wishes⟩)
    (c__law_wishes : PySem.W.codeIn K cd__law_wishes "_law_wishes" = true)
    (k__law_wishes : PySem.W.keepIn K (.ref f__law_wishes) = true)
    (a__law_reckoned : PySem.W.nsIn K mainGlobals "_law_reckoned" = some (some (.ref f__law_reckoned)))
    (l__law_reckoned : K.lookup f__law_reckoned = some ⟨oc__law_reckoned, od__law_reckoned, .func (PySem.W.fnOf "_law_reckoned" "_law_reckoned" (defArgs s__law_reckoned) (defBody s__law_reckoned) (defScope s__law_reckoned) .none kV__law_reckoned dc__law_reckoned pm__law_reckoned an__law_reckoned cd__law_reckoned ct__law_reckoned), sl__law_reckoned⟩)
    (c__law_reckoned : PySem.W.codeIn K cd__law_reckoned "_law_reckoned" = true)
    (k__law_reckoned : PySem.W.keepIn K (.ref f__law_reckoned) = true)
    (a__law_begun : PySem.W.nsIn K mainGlobals "_law_begun" = some (some (.ref f__law_begun)))
    (l__law_begun : K.lookup f__law_begun = some ⟨oc__law_begun, od__law_begun, .func (PySem.W.fnOf "_law_begun" "_law_begun" (defArgs s__law_begun) (defBody s__law_begun) (defScope s__law_begun) .none kV__law_begun dc__law_begun pm__law_begun an__law_begun cd__law_begun ct__law_begun), sl__law_begun⟩)
    (c__law_begun : PySem.W.codeIn K cd__law_begun "_law_begun" = true)
    (k__law_begun : PySem.W.keepIn K (.ref f__law_begun) = true)
    (a__law_ready : PySem.W.nsIn K mainGlobals "_law_ready" = some (some (.ref f__law_ready)))
    (l__law_ready : K.lookup f__law_ready = some ⟨oc__law_ready, od__law_ready, .func (PySem.W.fnOf "_law_ready" "_law_ready" (defArgs s__law_ready) (defBody s__law_ready) (defScope s__law_ready) .none kV__law_ready dc__law_ready pm__law_ready an__law_ready cd__law_ready ct__law_ready), sl__law_ready⟩)
    (c__law_ready : PySem.W.codeIn K cd__law_ready "_law_ready" = true)
    (k__law_ready : PySem.W.keepIn K (.ref f__law_ready) = true)
    (a__law_step : PySem.W.nsIn K mainGlobals "_law_step" = some (some (.ref f__law_step)))
    (l__law_step : K.lookup f__law_step = some ⟨oc__law_step, od__law_step, .func (PySem.W.fnOf "_law_step" "_law_step" (defArgs s__law_step) (defBody s__law_step) (defScope s__law_step) .none kV__law_step dc__law_step pm__law_step an__law_step cd__law_step ct__law_step), sl__law_step⟩)
    (c__law_step : PySem.W.codeIn K cd__law_step "_law_step" = true)
    (k__law_step : PySem.W.keepIn K (.ref f__law_step) = true)
    (a__law_over : PySem.W.nsIn K mainGlobals "_law_over" = some (some (.ref f__law_over)))
    (l__law_over : K.lookup f__law_over = some ⟨oc__law_over, od__law_over, .func (PySem.W.fnOf "_law_over" "_law_over" (defArgs s__law_over) (defBody s__law_over) (defScope s__law_over) .none kV__law_over dc__law_over pm__law_over an__law_over cd__law_over ct__law_over), sl__law_over⟩)
    (c__law_over : PySem.W.codeIn K cd__law_over "_law_over" = true)
    (k__law_over : PySem.W.keepIn K (.ref f__law_over) = true)
    (a_begun_weaving : PySem.W.nsIn K mainGlobals "begun_weaving" = some (some (.ref f_begun_weaving)))
    (l_begun_weaving : K.lookup f_begun_weaving = some ⟨oc_begun_weaving, od_begun_weaving, .func (PySem.W.fnOf "begun_weaving" "begun_weaving" (defArgs s_begun_weaving) (defBody s_begun_weaving) (defScope s_begun_weaving) .none kV_begun_weaving dc_begun_weaving pm_begun_weaving an_begun_weaving cd_begun_weaving ct_begun_weaving), sl_begun_weaving⟩)
    (c_begun_weaving : PySem.W.codeIn K cd_begun_weaving "begun_weaving" = true)
    (k_begun_weaving : PySem.W.keepIn K (.ref f_begun_weaving) = true)
    (a_step_done : PySem.W.nsIn K mainGlobals "step_done" = some (some (.ref f_step_done)))
    (l_step_done : K.lookup f_step_done = some ⟨oc_step_done, od_step_done, .func (PySem.W.fnOf "step_done" "step_done" (defArgs s_step_done) (defBody s_step_done) (defScope s_step_done) .none kV_step_done dc_step_done pm_step_done an_step_done cd_step_done ct_step_done), sl_step_done⟩)
    (c_step_done : PySem.W.codeIn K cd_step_done "step_done" = true)
    (k_step_done : PySem.W.keepIn K (.ref f_step_done) = true)
    (a_is_step : PySem.W.nsIn K mainGlobals "is_step" = some (some (.ref f_is_step)))
    (l_is_step : K.lookup f_is_step = some ⟨oc_is_step, od_is_step, .func (PySem.W.fnOf "is_step" "is_step" (defArgs s_is_step) (defBody s_is_step) (defScope s_is_step) .none kV_is_step dc_is_step pm_is_step an_is_step cd_is_step ct_is_step), sl_is_step⟩)
    (c_is_step : PySem.W.codeIn K cd_is_step "is_step" = true)
    (k_is_step : PySem.W.keepIn K (.ref f_is_step) = true)
    (a_trace_shows : PySem.W.nsIn K mainGlobals "trace_shows" = some (some (.ref f_trace_shows)))
    (l_trace_shows : K.lookup f_trace_shows = some ⟨oc_trace_shows, od_trace_shows, .func (PySem.W.fnOf "trace_shows" "trace_shows" (defArgs s_trace_shows) (defBody s_trace_shows) (defScope s_trace_shows) .none kV_trace_shows dc_trace_shows pm_trace_shows an_trace_shows cd_trace_shows ct_trace_shows), sl_trace_shows⟩)
    (c_trace_shows : PySem.W.codeIn K cd_trace_shows "trace_shows" = true)
    (k_trace_shows : PySem.W.keepIn K (.ref f_trace_shows) = true)
    (a__law_taken : PySem.W.nsIn K mainGlobals "_law_taken" = some (some (.ref f__law_taken)))
    (l__law_taken : K.lookup f__law_taken = some ⟨oc__law_taken, od__law_taken, .func (PySem.W.fnOf "_law_taken" "_law_taken" (defArgs s__law_taken) (defBody s__law_taken) (defScope s__law_taken) .none kV__law_taken dc__law_taken pm__law_taken an__law_taken cd__law_taken ct__law_taken), sl__law_taken⟩)
    (c__law_taken : PySem.W.codeIn K cd__law_taken "_law_taken" = true)
    (k__law_taken : PySem.W.keepIn K (.ref f__law_taken) = true)
    (a__law_woven_told : PySem.W.nsIn K mainGlobals "_law_woven_told" = some (some (.ref f__law_woven_told)))
    (l__law_woven_told : K.lookup f__law_woven_told = some ⟨oc__law_woven_told, od__law_woven_told, .func (PySem.W.fnOf "_law_woven_told" "_law_woven_told" (defArgs s__law_woven_told) (defBody s__law_woven_told) (defScope s__law_woven_told) .none kV__law_woven_told dc__law_woven_told pm__law_woven_told an__law_woven_told cd__law_woven_told ct__law_woven_told), sl__law_woven_told⟩)
    (c__law_woven_told : PySem.W.codeIn K cd__law_woven_told "_law_woven_told" = true)
    (k__law_woven_told : PySem.W.keepIn K (.ref f__law_woven_told) = true)
    (a_law : PySem.W.nsIn K mainGlobals "law" = some (some (.ref f_law)))
    (l_law : K.lookup f_law = some ⟨oc_law, od_law, .func (PySem.W.fnOf "law" "law" (defArgs s_law) (defBody s_law) (defScope s_law) .none kV_law dc_law pm_law an_law cd_law ct_law), sl_law⟩)
    (c_law : PySem.W.codeIn K cd_law "law" = true)
    (k_law : PySem.W.keepIn K (.ref f_law) = true)
    (tI_NoName : PySem.W.typeIn K (.ref f_NoName_init) = some (.type "function"))
    (tI_Ring : PySem.W.typeIn K (.ref f_Ring_init) = some (.type "function"))
    (pg_Going : PySem.W.plainGet K C_Going Str.empty = true)
    (hd_Going : PySem.W.hasDictIn K C_Going = true)
    (po_Going : PySem.W.plainOver K C_Going = true)
    (sa_Going : PySem.W.findIn K (.ref C_Going) "__setattr__" = some (some (.builtin "object.__setattr__")))
    (mk_Going : PySem.W.makesIn K C_Going = true)
    (kc_Going : PySem.W.keepIn K (.ref C_Going) = true)
    (n_Going_had : PySem.W.findIn K (.ref C_Going) "had" = some none)
    (n_Going_lacking : PySem.W.findIn K (.ref C_Going) "lacking" = some none)
    (n_Going_reads : PySem.W.findIn K (.ref C_Going) "reads" = some none)
    (pg_Weaving : PySem.W.plainGet K C_Weaving Str.empty = true)
    (hd_Weaving : PySem.W.hasDictIn K C_Weaving = true)
    (po_Weaving : PySem.W.plainOver K C_Weaving = true)
    (sa_Weaving : PySem.W.findIn K (.ref C_Weaving) "__setattr__" = some (some (.builtin "object.__setattr__")))
    (mk_Weaving : PySem.W.makesIn K C_Weaving = true)
    (kc_Weaving : PySem.W.keepIn K (.ref C_Weaving) = true)
    (n_Weaving_begun : PySem.W.findIn K (.ref C_Weaving) "begun" = some none)
    (n_Weaving_given : PySem.W.findIn K (.ref C_Weaving) "given" = some none)
    (n_Weaving_recipes : PySem.W.findIn K (.ref C_Weaving) "recipes" = some none)
    (n_Weaving_waits : PySem.W.findIn K (.ref C_Weaving) "waits" = some none)
    (n_Weaving_worths : PySem.W.findIn K (.ref C_Weaving) "worths" = some none)
    (z_bool : PySem.W.nsIn K mainGlobals "bool" = some none)
    (z_dict : PySem.W.nsIn K mainGlobals "dict" = some none)
    (z_int : PySem.W.nsIn K mainGlobals "int" = some none)
    (z_isinstance : PySem.W.nsIn K mainGlobals "isinstance" = some none)
    (z_len : PySem.W.nsIn K mainGlobals "len" = some none)
    (z_list : PySem.W.nsIn K mainGlobals "list" = some none)
    (z_max : PySem.W.nsIn K mainGlobals "max" = some none)
    (z_min : PySem.W.nsIn K mainGlobals "min" = some none)
    (z_range : PySem.W.nsIn K mainGlobals "range" = some none)
    (z_str : PySem.W.nsIn K mainGlobals "str" = some none)
    (z_tuple : PySem.W.nsIn K mainGlobals "tuple" = some none)
    (g_KNOWN : PySem.W.nsIn K mainGlobals "KNOWN" = some (some (.str "known" t_KNOWN)))
    (g_WAITS : PySem.W.nsIn K mainGlobals "WAITS" = some (some (.str "waits" t_WAITS)))
    : ∃ fd : FuncData, (∀ (s : Shared) (v : Value), BindsTo s fd ⟨[v], []⟩ [("script", v)]) ∧ ∀ base : Heap, K.In base → base.Ns mainGlobals mg → FnOk l.prog w K mg base CX0 22 fa fd ["script"] (sp_law K) := by
  have e := hfa.symm.trans (PySem.W.mg_of X G a_law)
  have ef : f_law = fa := by cases e; rfl
  subst ef
  have T : Tx K mg ⟨f_Going_init,
    (PySem.W.fnOf "__init__" "Going.__init__" (defArgs s_Going_init) (defBody s_Going_init) (defScope s_Going_init) .none kV_Going_init dc_Going_init pm_Going_init an_Going_init cd_Going_init ct_Going_init),
    f_Going_look,
    (PySem.W.fnOf "look" "Going.look" (defArgs s_Going_look) (defBody s_Going_look) (defScope s_Going_look) .none kV_Going_look dc_Going_look pm_Going_look an_Going_look cd_Going_look ct_Going_look),
    f_Going_two,
    (PySem.W.fnOf "two" "Going.two" (defArgs s_Going_two) (defBody s_Going_two) (defScope s_Going_two) .none kV_Going_two dc_Going_two pm_Going_two an_Going_two cd_Going_two ct_Going_two),
    f_Going_worth,
    (PySem.W.fnOf "worth" "Going.worth" (defArgs s_Going_worth) (defBody s_Going_worth) (defScope s_Going_worth) .none kV_Going_worth dc_Going_worth pm_Going_worth an_Going_worth cd_Going_worth ct_Going_worth),
    f_behind,
    (PySem.W.fnOf "behind" "behind" (defArgs s_behind) (defBody s_behind) (defScope s_behind) .none kV_behind dc_behind pm_behind an_behind cd_behind ct_behind),
    f_NoName_init,
    (PySem.W.fnOf "__init__" "NoName.__init__" (defArgs s_NoName_init) (defBody s_NoName_init) (defScope s_NoName_init) .none kV_NoName_init dc_NoName_init pm_NoName_init an_NoName_init cd_NoName_init ct_NoName_init),
    f_Ring_init,
    (PySem.W.fnOf "__init__" "Ring.__init__" (defArgs s_Ring_init) (defBody s_Ring_init) (defScope s_Ring_init) .none kV_Ring_init dc_Ring_init pm_Ring_init an_Ring_init cd_Ring_init ct_Ring_init),
    f_Weaving_init,
    (PySem.W.fnOf "__init__" "Weaving.__init__" (defArgs s_Weaving_init) (defBody s_Weaving_init) (defScope s_Weaving_init) .none kV_Weaving_init dc_Weaving_init pm_Weaving_init an_Weaving_init cd_Weaving_init ct_Weaving_init),
    f_Weaving_begin,
    (PySem.W.fnOf "begin" "Weaving.begin" (defArgs s_Weaving_begin) (defBody s_Weaving_begin) (defScope s_Weaving_begin) .none kV_Weaving_begin dc_Weaving_begin pm_Weaving_begin an_Weaving_begin cd_Weaving_begin ct_Weaving_begin),
    f_Weaving_is_over,
    (PySem.W.fnOf "is_over" "Weaving.is_over" (defArgs s_Weaving_is_over) (defBody s_Weaving_is_over) (defScope s_Weaving_is_over) .none kV_Weaving_is_over dc_Weaving_is_over pm_Weaving_is_over an_Weaving_is_over cd_Weaving_is_over ct_Weaving_is_over),
    f_Weaving_ready,
    (PySem.W.fnOf "ready" "Weaving.ready" (defArgs s_Weaving_ready) (defBody s_Weaving_ready) (defScope s_Weaving_ready) .none kV_Weaving_ready dc_Weaving_ready pm_Weaving_ready an_Weaving_ready cd_Weaving_ready ct_Weaving_ready),
    f_Weaving_go_on,
    (PySem.W.fnOf "go_on" "Weaving.go_on" (defArgs s_Weaving_go_on) (defBody s_Weaving_go_on) (defScope s_Weaving_go_on) .none kV_Weaving_go_on dc_Weaving_go_on pm_Weaving_go_on an_Weaving_go_on cd_Weaving_go_on ct_Weaving_go_on),
    f_Weaving_first_ring,
    (PySem.W.fnOf "first_ring" "Weaving.first_ring" (defArgs s_Weaving_first_ring) (defBody s_Weaving_first_ring) (defScope s_Weaving_first_ring) .none kV_Weaving_first_ring dc_Weaving_first_ring pm_Weaving_first_ring an_Weaving_first_ring cd_Weaving_first_ring ct_Weaving_first_ring),
    f_woven,
    (PySem.W.fnOf "woven" "woven" (defArgs s_woven) (defBody s_woven) (defScope s_woven) .none kV_woven dc_woven pm_woven an_woven cd_woven ct_woven),
    f__law_state,
    (PySem.W.fnOf "_law_state" "_law_state" (defArgs s__law_state) (defBody s__law_state) (defScope s__law_state) .none kV__law_state dc__law_state pm__law_state an__law_state cd__law_state ct__law_state),
    f__law_draw,
    (PySem.W.fnOf "_law_draw" "_law_draw" (defArgs s__law_draw) (defBody s__law_draw) (defScope s__law_draw) .none kV__law_draw dc__law_draw pm__law_draw an__law_draw cd__law_draw ct__law_draw),
    f__law_names,
    (PySem.W.fnOf "_law_names" "_law_names" (defArgs s__law_names) (defBody s__law_names) (defScope s__law_names) .none kV__law_names dc__law_names pm__law_names an__law_names cd__law_names ct__law_names),
    f__law_number,
    (PySem.W.fnOf "_law_number" "_law_number" (defArgs s__law_number) (defBody s__law_number) (defScope s__law_number) .none kV__law_number dc__law_number pm__law_number an__law_number cd__law_number ct__law_number),
    f__law_product,
    (PySem.W.fnOf "_law_product" "_law_product" (defArgs s__law_product) (defBody s__law_product) (defScope s__law_product) .none kV__law_product dc__law_product pm__law_product an__law_product cd__law_product ct__law_product),
    f__law_recipe,
    (PySem.W.fnOf "_law_recipe" "_law_recipe" (defArgs s__law_recipe) (defBody s__law_recipe) (defScope s__law_recipe) .none kV__law_recipe dc__law_recipe pm__law_recipe an__law_recipe cd__law_recipe ct__law_recipe),
    f__law_house,
    (PySem.W.fnOf "_law_house" "_law_house" (defArgs s__law_house) (defBody s__law_house) (defScope s__law_house) .none kV__law_house dc__law_house pm__law_house an__law_house cd__law_house ct__law_house),
    f__law_changed,
    (PySem.W.fnOf "_law_changed" "_law_changed" (defArgs s__law_changed) (defBody s__law_changed) (defScope s__law_changed) .none kV__law_changed dc__law_changed pm__law_changed an__law_changed cd__law_changed ct__law_changed),
    f__law_wishes,
    (PySem.W.fnOf "_law_wishes" "_law_wishes" (defArgs s__law_wishes) (defBody s__law_wishes) (defScope s__law_wishes) .none kV__law_wishes dc__law_wishes pm__law_wishes an__law_wishes cd__law_wishes ct__law_wishes),
    f__law_reckoned,
    (PySem.W.fnOf "_law_reckoned" "_law_reckoned" (defArgs s__law_reckoned) (defBody s__law_reckoned) (defScope s__law_reckoned) .none kV__law_reckoned dc__law_reckoned pm__law_reckoned an__law_reckoned cd__law_reckoned ct__law_reckoned),
    f__law_begun,
    (PySem.W.fnOf "_law_begun" "_law_begun" (defArgs s__law_begun) (defBody s__law_begun) (defScope s__law_begun) .none kV__law_begun dc__law_begun pm__law_begun an__law_begun cd__law_begun ct__law_begun),
    f__law_ready,
    (PySem.W.fnOf "_law_ready" "_law_ready" (defArgs s__law_ready) (defBody s__law_ready) (defScope s__law_ready) .none kV__law_ready dc__law_ready pm__law_ready an__law_ready cd__law_ready ct__law_ready),
    f__law_step,
    (PySem.W.fnOf "_law_step" "_law_step" (defArgs s__law_step) (defBody s__law_step) (defScope s__law_step) .none kV__law_step dc__law_step pm__law_step an__law_step cd__law_step ct__law_step),
    f__law_over,
    (PySem.W.fnOf "_law_over" "_law_over" (defArgs s__law_over) (defBody s__law_over) (defScope s__law_over) .none kV__law_over dc__law_over pm__law_over an__law_over cd__law_over ct__law_over),
    f_begun_weaving,
    (PySem.W.fnOf "begun_weaving" "begun_weaving" (defArgs s_begun_weaving) (defBody s_begun_weaving) (defScope s_begun_weaving) .none kV_begun_weaving dc_begun_weaving pm_begun_weaving an_begun_weaving cd_begun_weaving ct_begun_weaving),
    f_step_done,
    (PySem.W.fnOf "step_done" "step_done" (defArgs s_step_done) (defBody s_step_done) (defScope s_step_done) .none kV_step_done dc_step_done pm_step_done an_step_done cd_step_done ct_step_done),
    f_is_step,
    (PySem.W.fnOf "is_step" "is_step" (defArgs s_is_step) (defBody s_is_step) (defScope s_is_step) .none kV_is_step dc_is_step pm_is_step an_is_step cd_is_step ct_is_step),
    f_trace_shows,
    (PySem.W.fnOf "trace_shows" "trace_shows" (defArgs s_trace_shows) (defBody s_trace_shows) (defScope s_trace_shows) .none kV_trace_shows dc_trace_shows pm_trace_shows an_trace_shows cd_trace_shows ct_trace_shows),
    f__law_taken,
    (PySem.W.fnOf "_law_taken" "_law_taken" (defArgs s__law_taken) (defBody s__law_taken) (defScope s__law_taken) .none kV__law_taken dc__law_taken pm__law_taken an__law_taken cd__law_taken ct__law_taken),
    f__law_woven_told,
    (PySem.W.fnOf "_law_woven_told" "_law_woven_told" (defArgs s__law_woven_told) (defBody s__law_woven_told) (defScope s__law_woven_told) .none kV__law_woven_told dc__law_woven_told pm__law_woven_told an__law_woven_told cd__law_woven_told ct__law_woven_told),
    f_law,
    (PySem.W.fnOf "law" "law" (defArgs s_law) (defBody s_law) (defScope s_law) .none kV_law dc_law pm_law an_law cd_law ct_law),
    C_Going,
    C_Weaving,
    C_NoName,
    C_Ring⟩ := ⟨ini_mk bd_Going_init mk_Going kc_Going a_Going_init i_Going_init l_Going_init c_Going_init k_Going_init,
    met_mk bd_Going_look a_Going_look i_Going_look l_Going_look c_Going_look k_Going_look,
    met_mk bd_Going_two a_Going_two i_Going_two l_Going_two c_Going_two k_Going_two,
    met_mk bd_Going_worth a_Going_worth i_Going_worth l_Going_worth c_Going_worth k_Going_worth,
    def_mk bd_behind X G a_behind l_behind c_behind k_behind,
    ⟨⟨⟨_, _, _, _, _, _, _, _, _, _, _, _, _, _, _, xL_NoName, rfl⟩, sa_NoName, ex_NoName, ty_NoName, kC_NoName⟩, PySem.W.mg_of X G aC_NoName, fun_mk l_NoName_init c_NoName_init k_NoName_init, (fun_mk l_NoName_init c_NoName_init k_NoName_init).binds bd_NoName_init, a_NoName_init, tI_NoName, (na_cons n_NoName_name na_nil)⟩,
    ⟨⟨⟨_, _, _, _, _, _, _, _, _, _, _, _, _, _, _, xL_Ring, rfl⟩, sa_Ring, ex_Ring, ty_Ring, kC_Ring⟩, PySem.W.mg_of X G aC_Ring, fun_mk l_Ring_init c_Ring_init k_Ring_init, (fun_mk l_Ring_init c_Ring_init k_Ring_init).binds bd_Ring_init, a_Ring_init, tI_Ring, (na_cons n_Ring_ring na_nil)⟩,
    ini_mk bd_Weaving_init mk_Weaving kc_Weaving a_Weaving_init i_Weaving_init l_Weaving_init c_Weaving_init k_Weaving_init,
    met_mk bd_Weaving_begin a_Weaving_begin i_Weaving_begin l_Weaving_begin c_Weaving_begin k_Weaving_begin,
    met_mk bd_Weaving_is_over a_Weaving_is_over i_Weaving_is_over l_Weaving_is_over c_Weaving_is_over k_Weaving_is_over,
    met_mk bd_Weaving_ready a_Weaving_ready i_Weaving_ready l_Weaving_ready c_Weaving_ready k_Weaving_ready,
    met_mk bd_Weaving_go_on a_Weaving_go_on i_Weaving_go_on l_Weaving_go_on c_Weaving_go_on k_Weaving_go_on,
    met_mk bd_Weaving_first_ring a_Weaving_first_ring i_Weaving_first_ring l_Weaving_first_ring c_Weaving_first_ring k_Weaving_first_ring,
    def_mk bd_woven X G a_woven l_woven c_woven k_woven,
    def_mk bd__law_state X G a__law_state l__law_state c__law_state k__law_state,
    def_mk bd__law_draw X G a__law_draw l__law_draw c__law_draw k__law_draw,
    def_mk bd__law_names X G a__law_names l__law_names c__law_names k__law_names,
    def_mk bd__law_number X G a__law_number l__law_number c__law_number k__law_number,
    def_mk bd__law_product X G a__law_product l__law_product c__law_product k__law_product,
    def_mk bd__law_recipe X G a__law_recipe l__law_recipe c__law_recipe k__law_recipe,
    def_mk bd__law_house X G a__law_house l__law_house c__law_house k__law_house,
    def_mk bd__law_changed X G a__law_changed l__law_changed c__law_changed k__law_changed,
    def_mk bd__law_wishes X G a__law_wishes l__law_wishes c__law_wishes k__law_wishes,
    def_mk bd__law_reckoned X G a__law_reckoned l__law_reckoned c__law_reckoned k__law_reckoned,
    def_mk bd__law_begun X G a__law_begun l__law_begun c__law_begun k__law_begun,
    def_mk bd__law_ready X G a__law_ready l__law_ready c__law_ready k__law_ready,
    def_mk bd__law_step X G a__law_step l__law_step c__law_step k__law_step,
    def_mk bd__law_over X G a__law_over l__law_over c__law_over k__law_over,
    def_mk bd_begun_weaving X G a_begun_weaving l_begun_weaving c_begun_weaving k_begun_weaving,
    def_mk bd_step_done X G a_step_done l_step_done c_step_done k_step_done,
    def_mk bd_is_step X G a_is_step l_is_step c_is_step k_is_step,
    def_mk bd_trace_shows X G a_trace_shows l_trace_shows c_trace_shows k_trace_shows,
    def_mk bd__law_taken X G a__law_taken l__law_taken c__law_taken k__law_taken,
    def_mk bd__law_woven_told X G a__law_woven_told l__law_woven_told c__law_woven_told k__law_woven_told,
    def_mk bd_law X G a_law l_law c_law k_law,
    cls_mk X G aC_Going pg_Going hd_Going po_Going sa_Going (na_cons n_Going_had (na_cons n_Going_lacking (na_cons n_Going_reads na_nil))),
    cls_mk X G aC_Weaving pg_Weaving hd_Weaving po_Weaving sa_Weaving (na_cons n_Weaving_begun (na_cons n_Weaving_given (na_cons n_Weaving_recipes (na_cons n_Weaving_waits (na_cons n_Weaving_worths na_nil))))),
    PySem.W.exm_ref ex_NoName hd_NoName ty_NoName x_NoName_NoName,
    PySem.W.exm_ref ex_Ring hd_Ring ty_Ring x_NoName_Ring,
    PySem.W.exm_ref ex_NoName hd_NoName ty_NoName x_Ring_NoName,
    PySem.W.exm_ref ex_Ring hd_Ring ty_Ring x_Ring_Ring,
    PySem.W.mg_none_of X G z_bool,
    PySem.W.mg_none_of X G z_dict,
    PySem.W.mg_none_of X G z_int,
    PySem.W.mg_none_of X G z_isinstance,
    PySem.W.mg_none_of X G z_len,
    PySem.W.mg_none_of X G z_list,
    PySem.W.mg_none_of X G z_max,
    PySem.W.mg_none_of X G z_min,
    PySem.W.mg_none_of X G z_range,
    PySem.W.mg_none_of X G z_str,
    PySem.W.mg_none_of X G z_tuple,
    ⟨_, PySem.W.mg_of X G g_KNOWN⟩,
    ⟨_, PySem.W.mg_of X G g_WAITS⟩⟩
  exact ⟨_, fun s v => .of_eq rfl, fun base _ _ => law_fn T⟩
theorem law_walk {l : PySem.W.OpenLaw} {q : Program} {loose : List Str} {XP : (Str → Option Value) → Heap → Prop} {YP : World → Heap → Prop} {d : DefRec} {K : Params → PySem.W.Frag} (hn : l.most = some 63) (hdf : d.params.defaults = [])
    (hY : ∀ (w : World) (h : Heap), YP w h → (K w.params).In h)
    (F : ∀ (w : World) (mg : Str → Option Value) (fa : Addr) (h : Heap), (K w.params).In h → h.Ns mainGlobals mg → mg d.name = some (.ref fa) →
      ∃ fd : FuncData, (∀ (s : Shared) (u : Value), BindsTo s fd ⟨[u], []⟩ [("script", u)]) ∧ ∀ base : Heap, (K w.params).In base → base.Ns mainGlobals mg → FnOk l.prog w (K w.params) mg base CX0 22 fa fd ["script"] (sp_law (K w.params))) :
    PySem.W.WalkO q loose XP YP l.row.toRowW d [] (fun f vs => PySem.call f vs) :=
  L2.walk_of (n := 63) (k := 22) (x := "script") (CX := fun _ => CX0) (sp := fun w => sp_law (K w.params)) hn (by decide) hdf ⟨rfl, by decide, by decide⟩ hY F (fun _ _ a ns hl _ hS => ⟨a, ns, rfl, hS, hl, fun _ => rfl⟩) fun _ _ _ _ _ z => z
end Law
open PySem PySem.W PyProof.Rows in
set_option maxRecDepth 100000 in
set_option maxHeartbeats 0 in
theorem PySem.Challenge.cw_madeagain_k71_whole_each_step_may_be_tak_holds : PySem.Challenge.rw_madeagain_k71_whole_each_step_may_be_tak.Holds := by
  w_on; o_law; k_head; (case hw => w_witness2)
  k_fill
  refine Law.law_walk (l := PySem.Challenge.rw_madeagain_k71_whole_each_step_may_be_tak) rfl rfl (fun w h Y => PySem.W.kIn_of Y) ?F
  case F =>
    intro w mg fa h KX G hmg
    refine' Law.all_mk KX G hmg ?aC_Going ?aC_Weaving ?aC_NoName ?xL_NoName ?sa_NoName ?ex_NoName ?ty_NoName ?kC_NoName ?n_NoName_name ?aC_Ring ?xL_Ring ?sa_Ring ?ex_Ring ?ty_Ring ?kC_Ring ?n_Ring_ring ?hd_NoName ?x_NoName_NoName ?x_Ring_NoName ?hd_Ring ?x_NoName_Ring ?x_Ring_Ring ?a_Going_init ?i_Going_init ?l_Going_init ?c_Going_init ?k_Going_init ?a_Going_look ?i_Going_look ?l_Going_look ?c_Going_look ?k_Going_look ?a_Going_two ?i_Going_two ?l_Going_two ?c_Going_two ?k_Going_two ?a_Going_worth ?i_Going_worth ?l_Going_worth ?c_Going_worth ?k_Going_worth ?a_behind ?l_behind ?c_behind ?k_behind ?a_NoName_init ?i_NoName_init ?l_NoName_init ?c_NoName_init ?k_NoName_init ?a_Ring_init ?i_Ring_init ?l_Ring_init ?c_Ring_init ?k_Ring_init ?a_Weaving_init ?i_Weaving_init ?l_Weaving_init ?c_Weaving_init ?k_Weaving_init ?a_Weaving_begin ?i_Weaving_begin ?l_Weaving_begin ?c_Weaving_begin ?k_Weaving_begin ?a_Weaving_is_over ?i_Weaving_is_over ?l_Weaving_is_over ?c_Weaving_is_over ?k_Weaving_is_over ?a_Weaving_ready ?i_Weaving_ready ?l_Weaving_ready ?c_Weaving_ready ?k_Weaving_ready ?a_Weaving_go_on ?i_Weaving_go_on ?l_Weaving_go_on ?c_Weaving_go_on ?k_Weaving_go_on ?a_Weaving_first_ring ?i_Weaving_first_ring ?l_Weaving_first_ring ?c_Weaving_first_ring ?k_Weaving_first_ring ?a_woven ?l_woven ?c_woven ?k_woven ?a__law_state ?l__law_state ?c__law_state ?k__law_state ?a__law_draw ?l__law_draw ?c__law_draw ?k__law_draw ?a__law_names ?l__law_names ?c__law_names ?k__law_names ?a__law_number ?l__law_number ?c__law_number ?k__law_number ?a__law_product ?l__law_product ?c__law_product ?k__law_product ?a__law_recipe ?l__law_recipe ?c__law_recipe ?k__law_recipe ?a__law_house ?l__law_house ?c__law_house ?k__law_house ?a__law_changed ?l__law_changed ?c__law_changed ?k__law_changed ?a__law_wishes ?l__law_wishes ?c__law_wishes ?k__law_wishes ?a__law_reckoned ?l__law_reckoned ?c__law_reckoned ?k__law_reckoned ?a__law_begun ?l__law_begun ?c__law_begun ?k__law_begun ?a__law_ready ?l__law_ready ?c__law_ready ?k__law_ready ?a__law_step ?l__law_step ?c__law_step ?k__law_step ?a__law_over ?l__law_over ?c__law_over ?k__law_over ?a_begun_weaving ?l_begun_weaving ?c_begun_weaving ?k_begun_weaving ?a_step_done ?l_step_done ?c_step_done ?k_step_done ?a_is_step ?l_is_step ?c_is_step ?k_is_step ?a_trace_shows ?l_trace_shows ?c_trace_shows ?k_trace_shows ?a__law_taken ?l__law_taken ?c__law_taken ?k__law_taken ?a__law_woven_told ?l__law_woven_told ?c__law_woven_told ?k__law_woven_told ?a_law ?l_law ?c_law ?k_law ?tI_NoName ?tI_Ring ?pg_Going ?hd_Going ?po_Going ?sa_Going ?mk_Going ?kc_Going ?n_Going_had ?n_Going_lacking ?n_Going_reads ?pg_Weaving ?hd_Weaving ?po_Weaving ?sa_Weaving ?mk_Weaving ?kc_Weaving ?n_Weaving_begun ?n_Weaving_given ?n_Weaving_recipes ?n_Weaving_waits ?n_Weaving_worths ?z_bool ?z_dict ?z_int ?z_isinstance ?z_len ?z_list ?z_max ?z_min ?z_range ?z_str ?z_tuple ?g_KNOWN ?g_WAITS
    (case aC_Going => k_is)
    (case aC_Weaving => k_is)
    (case aC_NoName => k_is)
    (case xL_NoName => k_is)
    (case sa_NoName => k_is)
    (case ex_NoName => k_is)
    (case ty_NoName => k_is)
    (case kC_NoName => k_is)
    (case n_NoName_name => k_is)
    (case aC_Ring => k_is)
    (case xL_Ring => k_is)
    (case sa_Ring => k_is)
    (case ex_Ring => k_is)
    (case ty_Ring => k_is)
    (case kC_Ring => k_is)
    (case n_Ring_ring => k_is)
    (case hd_NoName => k_is)
    (case x_NoName_NoName => first | rfl | k_is)
    (case x_Ring_NoName => first | rfl | k_is)
    (case hd_Ring => k_is)
    (case x_NoName_Ring => first | rfl | k_is)
    (case x_Ring_Ring => first | rfl | k_is)
    (case a_Going_init => k_is)
    (case i_Going_init => k_is)
    (case l_Going_init => k_is)
    (case c_Going_init => k_is)
    (case k_Going_init => k_is)
    (case a_Going_look => k_is)
    (case i_Going_look => k_is)
    (case l_Going_look => k_is)
    (case c_Going_look => k_is)
    (case k_Going_look => k_is)
    (case a_Going_two => k_is)
    (case i_Going_two => k_is)
    (case l_Going_two => k_is)
    (case c_Going_two => k_is)
    (case k_Going_two => k_is)
    (case a_Going_worth => k_is)
    (case i_Going_worth => k_is)
    (case l_Going_worth => k_is)
    (case c_Going_worth => k_is)
    (case k_Going_worth => k_is)
    (case a_behind => k_is)
    (case l_behind => k_is)
    (case c_behind => k_is)
    (case k_behind => k_is)
    (case a_NoName_init => k_is)
    (case i_NoName_init => k_is)
    (case l_NoName_init => k_is)
    (case c_NoName_init => k_is)
    (case k_NoName_init => k_is)
    (case a_Ring_init => k_is)
    (case i_Ring_init => k_is)
    (case l_Ring_init => k_is)
    (case c_Ring_init => k_is)
    (case k_Ring_init => k_is)
    (case a_Weaving_init => k_is)
    (case i_Weaving_init => k_is)
    (case l_Weaving_init => k_is)
    (case c_Weaving_init => k_is)
    (case k_Weaving_init => k_is)
    (case a_Weaving_begin => k_is)
    (case i_Weaving_begin => k_is)
    (case l_Weaving_begin => k_is)
    (case c_Weaving_begin => k_is)
    (case k_Weaving_begin => k_is)
    (case a_Weaving_is_over => k_is)
    (case i_Weaving_is_over => k_is)
    (case l_Weaving_is_over => k_is)
    (case c_Weaving_is_over => k_is)
    (case k_Weaving_is_over => k_is)
    (case a_Weaving_ready => k_is)
    (case i_Weaving_ready => k_is)
    (case l_Weaving_ready => k_is)
    (case c_Weaving_ready => k_is)
    (case k_Weaving_ready => k_is)
    (case a_Weaving_go_on => k_is)
    (case i_Weaving_go_on => k_is)
    (case l_Weaving_go_on => k_is)
    (case c_Weaving_go_on => k_is)
    (case k_Weaving_go_on => k_is)
    (case a_Weaving_first_ring => k_is)
    (case i_Weaving_first_ring => k_is)
    (case l_Weaving_first_ring => k_is)
    (case c_Weaving_first_ring => k_is)
    (case k_Weaving_first_ring => k_is)
    (case a_woven => k_is)
    (case l_woven => k_is)
    (case c_woven => k_is)
    (case k_woven => k_is)
    (case a__law_state => k_is)
    (case l__law_state => k_is)
    (case c__law_state => k_is)
    (case k__law_state => k_is)
    (case a__law_draw => k_is)
    (case l__law_draw => k_is)
    (case c__law_draw => k_is)
    (case k__law_draw => k_is)
    (case a__law_names => k_is)
    (case l__law_names => k_is)
    (case c__law_names => k_is)
    (case k__law_names => k_is)
    (case a__law_number => k_is)
    (case l__law_number => k_is)
    (case c__law_number => k_is)
    (case k__law_number => k_is)
    (case a__law_product => k_is)
    (case l__law_product => k_is)
    (case c__law_product => k_is)
    (case k__law_product => k_is)
    (case a__law_recipe => k_is)
    (case l__law_recipe => k_is)
    (case c__law_recipe => k_is)
    (case k__law_recipe => k_is)
    (case a__law_house => k_is)
    (case l__law_house => k_is)
    (case c__law_house => k_is)
    (case k__law_house => k_is)
    (case a__law_changed => k_is)
    (case l__law_changed => k_is)
    (case c__law_changed => k_is)
    (case k__law_changed => k_is)
    (case a__law_wishes => k_is)
    (case l__law_wishes => k_is)
    (case c__law_wishes => k_is)
    (case k__law_wishes => k_is)
    (case a__law_reckoned => k_is)
    (case l__law_reckoned => k_is)
    (case c__law_reckoned => k_is)
    (case k__law_reckoned => k_is)
    (case a__law_begun => k_is)
    (case l__law_begun => k_is)
    (case c__law_begun => k_is)
    (case k__law_begun => k_is)
    (case a__law_ready => k_is)
    (case l__law_ready => k_is)
    (case c__law_ready => k_is)
    (case k__law_ready => k_is)
    (case a__law_step => k_is)
    (case l__law_step => k_is)
    (case c__law_step => k_is)
    (case k__law_step => k_is)
    (case a__law_over => k_is)
    (case l__law_over => k_is)
    (case c__law_over => k_is)
    (case k__law_over => k_is)
    (case a_begun_weaving => k_is)
    (case l_begun_weaving => k_is)
    (case c_begun_weaving => k_is)
    (case k_begun_weaving => k_is)
    (case a_step_done => k_is)
    (case l_step_done => k_is)
    (case c_step_done => k_is)
    (case k_step_done => k_is)
    (case a_is_step => k_is)
    (case l_is_step => k_is)
    (case c_is_step => k_is)
    (case k_is_step => k_is)
    (case a_trace_shows => k_is)
    (case l_trace_shows => k_is)
    (case c_trace_shows => k_is)
    (case k_trace_shows => k_is)
    (case a__law_taken => k_is)
    (case l__law_taken => k_is)
    (case c__law_taken => k_is)
    (case k__law_taken => k_is)
    (case a__law_woven_told => k_is)
    (case l__law_woven_told => k_is)
    (case c__law_woven_told => k_is)
    (case k__law_woven_told => k_is)
    (case a_law => k_is)
    (case l_law => k_is)
    (case c_law => k_is)
    (case k_law => k_is)
    (case tI_NoName => k_is)
    (case tI_Ring => k_is)
    (case pg_Going => k_is)
    (case hd_Going => k_is)
    (case po_Going => k_is)
    (case sa_Going => k_is)
    (case mk_Going => k_is)
    (case kc_Going => k_is)
    (case n_Going_had => k_is)
    (case n_Going_lacking => k_is)
    (case n_Going_reads => k_is)
    (case pg_Weaving => k_is)
    (case hd_Weaving => k_is)
    (case po_Weaving => k_is)
    (case sa_Weaving => k_is)
    (case mk_Weaving => k_is)
    (case kc_Weaving => k_is)
    (case n_Weaving_begun => k_is)
    (case n_Weaving_given => k_is)
    (case n_Weaving_recipes => k_is)
    (case n_Weaving_waits => k_is)
    (case n_Weaving_worths => k_is)
    (case z_bool => k_is)
    (case z_dict => k_is)
    (case z_int => k_is)
    (case z_isinstance => k_is)
    (case z_len => k_is)
    (case z_list => k_is)
    (case z_max => k_is)
    (case z_min => k_is)
    (case z_range => k_is)
    (case z_str => k_is)
    (case z_tuple => k_is)
    (case g_KNOWN => k_is)
    (case g_WAITS => k_is)
