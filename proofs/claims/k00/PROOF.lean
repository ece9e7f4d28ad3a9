import PyProof.Rows.All
import Wide.All
import OpenK.AllK
import Wide.FinOn
import KE.KExcIs
import HandS.ForExc
import HandS.ForMost
import HandS.ExcInit
import HandS.ExcField
import HandS.ExcValue
import HandS.IsInst
import HandS.Wide
import HandS.EndBits
import HandS.MakeKw
import HandS.HeadHook4
import HandS.Head2
import HandS.Zip
import HandS.Walk
import HandS.Conv
import HandS.HotCalls
import HandS.DictComp
import HandS.HeadEnd
import PySem.Challenge.RW_updowns_k00_errors_made
set_option Elab.async false
set_option linter.all false
set_option maxRecDepth 100000
set_option maxHeartbeats 0
namespace PySem
namespace OEK
open PySem.W PySem.Calls PyProof.Rows PySem.HandSPX
section
variable {M : Model} {A : Around} {E : Value → Shared → Prop} {h : Heap} {g : Array GenState} {d : Drawn} {t : Nat} {os : OsState}
variable {nm q : Str} {C N : Addr} {bs bm bmB : List Value} {hdct : Bool} {sn : List Str} {sub : List Value} {ab : Bool} {col : Option Bool} {dd : Option Addr} {k0 k1 k2 k3 k5 : Option Value} {B newId initId : String}
theorem check_new_ownK (F : ExcBaseFacts B newId initId bmB) (hT : ∀ X : String, bm.contains (.type X) = bmB.contains (.type X)) {rest : List Value} {kw : List (Str × Value)} {Q : Unit → Shared → Prop}
    (hC : h.get? C = some (excClassObj nm q C N bs bm hdct sn sub ab col dd k0 k1 k2 k3 k5 newId)) (hq : Q () ⟨h, g, d, t, os⟩) : wpAny M A (checkBuiltinCall newId ⟨.ref C :: rest, kw⟩) Q E ⟨h, g, d, t, os⟩ := by
  have hcont : (Value.ref C :: bm).contains (.type B) = true := by rw [List.contains_cons, hT, F.hasB, Bool.or_true]
  have hstar := F.noStar
  simp only [checkBuiltinCall, F.newKind, F.newSplit, F.newRow]
  repeat (first | refine wpAny_loadPart_at hC ?_ | (refine wpAny_isSubtype_exc hC ?_; rw [hcont]) | refine wpAny_staticBase_exc hC ?_ | refine wpAny_madeBy_exc hC ?_ | simp only [bne_self_eq_false, Bool.false_eq_true, if_false] | wp_step)
  exact hq
end
section
variable {prog : Program} {w : World} {A : Around} {E : Value → Shared → Prop} {R : Result → Shared → Prop} {h : Heap} {g : Array GenState} {d : Drawn} {t : Nat} {os : OsState}
variable {nm q : Str} {C N : Addr} {bs bm bmB : List Value} {hdct : Bool} {sn : List Str} {sub : List Value} {ab : Bool} {col : Option Bool} {dd : Option Addr} {k0 k1 k2 k3 k5 : Option Value} {B newId initId : String}
theorem new_ownK (F : ExcBaseFacts B newId initId bmB) (hT : ∀ X : String, bm.contains (.type X) = bmB.contains (.type X)) {rest : List Value} {kw : List (Str × Value)}
    (hC : h.get? C = some (excClassObj nm q C N bs bm hdct sn sub ab col dd k0 k1 k2 k3 k5 newId))
    (hq : R (.ok (.ret (.ref (h.objs.size + 1)))) ⟨(h.push { cls := .type "tuple", data := .seq rest.toArray }).push
      { cls := .ref C, data := .fields #[.ref h.objs.size, .none, .none, .none, .bool false, .none] }, g, d, t, os⟩) (hrest : rest.length ≤ sizeLine) :
    codeAny (model prog w) A (.builtin newId ⟨.ref C :: rest, kw⟩) R ⟨h, g, d, t, os⟩ := by
  have hends := F.ends
  have hcB : (Value.ref C :: bm).contains (.type B) = true := by rw [List.contains_cons, hT, F.hasB, Bool.or_true]
  have hcA : (Value.ref C :: bm).contains (.type "AttributeError") = false := by rw [List.contains_cons, hT, F.noAttr]; rfl
  have hcN : (Value.ref C :: bm).contains (.type "NameError") = false := by rw [List.contains_cons, hT, F.noName]; rfl
  refine codeAny_builtinAt F.entry ?_
  unfold Builtin.«BaseException.__new__»
  refine wpAt_bind ?_
  show wpAt _ _ _ (stack >>= _) _ _ _
  refine wpAt_bind (wpAt_stack fun p below => wpAt_of_wpAny ?_)
  wp_walk
  refine wpAt_of_wpAny ?_
  rw [F.owner]
  repeat (first | with_reducible refine wpAny_madeHere_exc F.canon hC ?_ | with_reducible refine wpAny_loadPart_at hC ?_ | (with_reducible refine wpAny_isSubtype_exc hC ?_; first | rw [hcB] | rw [hcA] | rw [hcN]) | wp_step)
  show R _ _
  rw [Heap.size_push]
  exact hq
theorem type_call_ownK (F : ExcBaseFacts B newId initId bmB) (hT : ∀ X : String, bm.contains (.type X) = bmB.contains (.type X)) {rest : List Value} {kw : List (Str × Value)} {fI : Addr} {Q : Fin → Shared → Prop}
    (hC : h.get? C = some (excClassObj nm q C N bs bm hdct sn sub ab col dd k0 k1 k2 k3 k5 newId))
    (hi : W.Looks (model prog w) h (typeLookup (.ref C) "__init__") (some (.ref fI))) (hb : ∀ self, W.Looks (model prog w) h (bindSpecial (.ref fI) self) (.ref fI, [self])) (hrest : rest.length ≤ sizeLine)
    (hq : codeAny (model prog w) A (.call (.ref fI) ⟨.ref (h.objs.size + 1) :: rest, kw⟩)
      (fun r s' => match r with | .ok (.ret v) => v = .none ∧ Q (.done (.ret (.ref (h.objs.size + 1)))) s' | .ok _ => False | .error e => E e s')
      ⟨(h.push (W.kdv_tup rest)).push (excO C h.objs.size), g, d, t, os⟩) :
    wpAny (model prog w) A (Builtin.«type.__call__» ⟨.ref C :: rest, kw⟩) Q E ⟨h, g, d, t, os⟩ := by
  repeat (first | with_reducible refine wpAny_loadPart_at hC ?_ | with_reducible refine wpAny_madeBy_exc hC ?_ | wp_step)
  refine codeAny_call_builtin_code (Code.quiet_builtin _ F.quiet) (check_new_ownK F hT hC ?_)
  refine new_ownK F hT hC ?_ hrest
  show wpAny _ _ _ _ _ _
  have k : ∀ b o, h.get? b = some o → ((h.push (W.kdv_tup rest)).push (excO C h.objs.size)).get? b = some o := fun b o e => Heap.get?_push_of_some _ (Heap.get?_push_of_some _ e)
  have hC₁ := k _ _ hC
  have hget : ((h.push (W.kdv_tup rest)).push (excO C h.objs.size)).get? (h.objs.size + 1) = some (excO C h.objs.size) := by heap_get
  have hcC : (Value.ref C :: bm).contains (.ref C) = true := by simp
  have i1 := hi.keeps k
  have b1 := (hb (.ref (h.objs.size + 1))).keeps k
  unfold isInstance
  repeat (first | with_reducible refine wpAny_loadPart_at hget ?_ | (with_reducible refine wpAny_isSubtype_exc hC₁ ?_; rw [hcC]) | wp_step)
  show wpAny _ _ (typeLookup (.ref C) _) _ _ _
  refine i1.at ?_
  refine wpAny_holding (wpAny_bind (b1.at ?_))
  refine wpAny_bind (wpAny_call (codeAny_mono hq fun r s' z => ?_))
  rcases r with e | (v | _ | _ | _) <;> first | exact z | exact z.elim | skip
  obtain ⟨rfl, z⟩ := z
  first
    | exact wpAny_pure (wpAny_pure z)
    | (wp_walk; exact z)
theorem call_ownK (F : ExcBaseFacts B newId initId bmB) (hT : ∀ X : String, bm.contains (.type X) = bmB.contains (.type X)) {rest : List Value} {kw : List (Str × Value)} {fI : Addr}
    (hC : h.get? C = some (excClassObj nm q C N bs bm hdct sn sub ab col dd k0 k1 k2 k3 k5 newId))
    (hi : W.Looks (model prog w) h (typeLookup (.ref C) "__init__") (some (.ref fI))) (hb : ∀ self, W.Looks (model prog w) h (bindSpecial (.ref fI) self) (.ref fI, [self])) (hrest : rest.length ≤ sizeLine)
    (hq : codeAny (model prog w) (A.under (.builtin "type.__call__" ⟨.ref C :: rest, kw⟩)) (.call (.ref fI) ⟨.ref (h.objs.size + 1) :: rest, kw⟩) (W.InitBack (h.objs.size + 1) R)
      ⟨(h.push (W.kdv_tup rest)).push (excO C h.objs.size), g, d, t, os⟩) :
    codeAny (model prog w) A (.call (.ref C) ⟨rest, kw⟩) R ⟨h, g, d, t, os⟩ := by
  have f1 := tc_lookup
  have f2 := tc_bind (.ref C)
  have hTy : (⟨h, g, d, t, os⟩ : Shared).TypeIs (.ref C) "type" := ⟨_, hC, rfl⟩
  refine codeAny_of_tree ?_
  show wpAny _ _ (callAny (.ref C) _) _ _ _
  repeat (any_goals (first | assumption | with_reducible refine wpAny_loadPart_at hC ?_ | wp_step))
  refine ⟨rfl, ?_⟩
  refine codeAny_call_builtin_at (Code.quiet_builtin _ (by decide +kernel)) entry_typeCall (wpAny_check_type_call_sub hC (type_call_ownK F hT hC hi hb hrest ?_))
  refine codeAny_mono hq fun r s' z => ?_
  rcases r with e | (v | _ | _ | _) <;> exact z
end
end OEK
end PySem
namespace L2
open PySem PySem.Spec PyProof.Rows
/-- what a class whose errors are asked about must say -/
structure XK1 (K : PySem.W.Frag) (C : Addr) : Prop where
  sub : PySem.W.subIn K (.ref C) (.type "BaseException") = some true
  ga : PySem.W.findIn K (.ref C) "__getattribute__" = some (some (.builtin "BaseException.__getattribute__"))
  gg : PySem.W.findIn K (.ref C) "__getattr__" = some none
  hd : PySem.W.hasDictIn K C = true
  ca : PySem.W.findIn K (.ref C) "__class__" = some (some (.builtin "object.__class__"))
  hn : PySem.W.specialIn K (.builtin "object.__class__") "__get__" = some (some (.builtin "getset_descriptor.__get__"))
  ht : PySem.W.takesIn K (.builtin "object.__class__") = some true
  hm : PySem.W.mroIn K C (.type "object") = some true
/-- an error of the class at C stands at a, its own dict (if it has one) is tracked -/
def ExAt (H : Hp) (a C : Addr) : Prop := H a = some (exo a C none) ∨ ∃ d fs, H a = some (exo a C (some d)) ∧ H d = some (exd d fs)
theorem ExAt.mono {H H' : Hp} {a C : Addr} (s : Same H H') (h : ExAt H a C) : ExAt H' a C := by
  rcases h with h | ⟨d, fs, h1, h2⟩
  · exact .inl (s _ _ h)
  · exact .inr ⟨d, fs, s _ _ h1, s _ _ h2⟩
/-- .. and it keeps v under f, and nothing else -/
def ExF (H : Hp) (a C : Addr) (f : Str) (v : V) : Prop := ∃ d, H a = some (exo a C (some d)) ∧ H d = some (exd d [(f, v)])
theorem ExF.mono {H H' : Hp} {a C : Addr} {f : Str} {v : V} (s : Same H H') (h : ExF H a C f v) : ExF H' a C f v := by
  obtain ⟨d, h1, h2⟩ := h
  exact ⟨d, s _ _ h1, s _ _ h2⟩
theorem ExF.at {H : Hp} {a C : Addr} {f : Str} {v : V} (h : ExF H a C f v) : ExAt H a C := by
  obtain ⟨d, h1, h2⟩ := h
  exact .inr ⟨d, _, h1, h2⟩
section
variable {X : Cx} {pins : List (Addr × Obj)} {σ : St} {H : Hp} {s : Shared} {a C : Addr}
theorem Inv.exAt (I : Inv X pins σ H s) (h : ExAt H a C) : ∃ ox od, PySem.W.InstAt s.heap a ox C od := by
  rcases h with h | ⟨d, fs, h1, h2⟩
  · obtain ⟨t1, ho⟩ := exo_at I.hok h
    exact ⟨_, none, ⟨ho, rfl, rfl, trivial⟩⟩
  · obtain ⟨t1, ho⟩ := exo_at I.hok h1
    obtain ⟨mA, hn, _⟩ := exd_at I.hok h2
    obtain ⟨o, _, _, e, _⟩ := hn
    exact ⟨_, some o, ⟨ho, rfl, rfl, e⟩⟩
/-- isinstance(e, c), e such an error -/
def rIsX (K : PySem.W.Frag) : List V → Hp → VK → Prop := fun xs H Q => ∃ (a C : Addr) (c : V) (u : Value) (b : Bool), xs = [.ref a, c] ∧ ExAt H a C ∧ XK1 K C ∧ ClsV c u ∧ PySem.W.kitOne K (.ref C) u = some b ∧ Q (.bl b) H
theorem kitx_ex (T : XK1 X.K C) {ox : Obj} {od : Option Obj} : PySem.W.KitX X.K (.ref a) (.ref C) (fun h => PySem.W.InstAt h a ox C od) := by
  have hcl : (PySem.W.clsIn X.K C).isSome = true := by
    have q := T.hd
    unfold PySem.W.hasDictIn at q
    cases e : PySem.W.clsIn X.K C with
    | none => rw [e] at q; cases q
    | some c => rfl
  exact PySem.W.kitx_exc hcl T.ga T.gg T.sub T.ca T.hn T.ht T.hm
theorem call_isX : CallR X (.builtin "isinstance") (rIsX X.K) := by
  intro pins s σ H xs us Q I r h
  obtain ⟨a, C, c, u, b, rfl, ea, T, k, e, q⟩ := h
  obtain ⟨u1, u2, rfl, r1, r2⟩ := vals2 r
  obtain rfl : u1 = Value.ref a := r1
  have e2 := k.eq r2
  subst e2
  obtain ⟨ox, od, J⟩ := I.exAt ea
  exact PySem.W.kia_one (kitx_ex T) I.kIn J e (fun z => nomatch z) fun tk => ⟨.bl b, H, I.tok tk, rfl, q⟩
/-- isinstance(e, (c1, c2, ..)) -/
def rIsXT (K : PySem.W.Frag) : List V → Hp → VK → Prop := fun xs H Q => ∃ (a C tp : Addr) (cs : List V) (us : List Value) (b : Bool), xs = [.ref a, .ref tp] ∧ H tp = some (.tup cs) ∧ Paired ClsV cs us ∧ ExAt H a C ∧ XK1 K C ∧ PySem.W.kitAny K (.ref C) us = some b ∧ Q (.bl b) H
theorem call_isXT : CallR X (.builtin "isinstance") (rIsXT X.K) := by
  intro pins s σ H xs us Q I r h
  obtain ⟨a, C, tp, cs, ws, b, rfl, hT, k, ea, T, e, q⟩ := h
  obtain ⟨u1, u2, rfl, r1, r2⟩ := vals2 r
  obtain rfl : u1 = Value.ref a := r1
  obtain rfl : u2 = Value.ref tp := r2
  obtain ⟨ox, od, J⟩ := I.exAt ea
  obtain ⟨_, its, rv, o, h1, h2, n, h3⟩ := (show ObjOk X.prog X.w H s.heap tp (.tup cs) from I.hok tp _ hT)
  have e3 := ClsV.all k rv
  subst e3
  obtain ⟨oc, odd, dt, sl⟩ := o
  simp only at h2 h3
  subst h2 h3
  exact PySem.W.kia_tup (kitx_ex T) I.kIn J h1 e (fun z => nomatch z) fun tk => ⟨.bl b, H, I.tok tk, rfl, q⟩
/-- e.f -/
def tXv (K : PySem.W.Frag) (f : Str) (te : TE) : TE := fun σ H Q => te σ H fun x H1 => ∃ (a C : Addr) (v : V), x = .ref a ∧ XK1 K C ∧ PySem.W.findIn K (.ref C) f = some none ∧ ExF H1 a C f v ∧ Q v H1
theorem pe_xv {e : Expr} {te : TE} {pos : Pos} {n : Str} (he : PE X e te) (hb : attributeBase e n X.env (eval e X.env) = eval e X.env := by rfl) : PE X (.Attribute e n pos) (tXv X.K n te) := by
  refine ⟨fun pins s σ H Q I h => ?_⟩
  refine attr_of hb (thn (he.run pins s σ H _ I h) fun u s1 hh => ?_)
  obtain ⟨x, H1, I1, rx, a, C, v, ex, T, hno, ⟨d, h1, h2⟩, q⟩ := hh
  subst ex
  obtain rfl : u = Value.ref a := rx
  obtain ⟨t1, ho⟩ := exo_at I1.hok h1
  obtain ⟨mA, hns, hr⟩ := exd_at I1.hok h2
  obtain ⟨od, hod, hl⟩ := lookIn_ns hns
  have lk : List.lookup n [(n, v)] = some v := by simp [List.lookup]
  obtain ⟨u, hu, ru⟩ := RelO.some_of (v := v) (o := mA n) (by rw [← lk]; exact hr n)
  have J : PySem.W.InstAt s1.heap a _ C (some od) := ⟨ho, rfl, rfl, hod⟩
  exact HandSPX.exc_get I1.kIn J T.ga T.gg T.sub (PySem.W.findObj_own T.hd hno rfl (by rw [hl, hu])) (handed_of ru) ⟨v, H1, I1.tok _, ru, q⟩
end
/-! ### an error made -/
/-- __init__(self, x): self.x = x -/
def spXI (C : Addr) (f : Str) : Sp := fun vs H Q _ => ∃ (a : Addr) (v : V), vs = [.ref a, v] ∧ H a = some (exo a C none) ∧ ∀ d, H d = none → d ≠ a → Q .non (upd (upd H d (exd d [(f, v)])) a (exo a C (some d)))
/-- all that the rules of making ask of a class whose __init__ keeps one thing -/
structure XMk (P : Program) (w : World) (K : PySem.W.Frag) (mg : Str → Option Value) (base : Heap) (C : Addr) (f : Str) : Prop where
  o : OexC K C
  x : XK1 K C
  nof : PySem.W.findIn K (.ref C) f = some none
  ini : ∃ (fI : Addr) (fd : FuncData), PySem.W.findIn K (.ref C) "__init__" = some (some (.ref fI)) ∧ PySem.W.typeIn K (.ref fI) = some (.type "function") ∧ FnOk P w K mg base CX0 1 fI fd ["self", f] (spXI C f) ∧
    Binds K fd ["self", f] [] ∧ KBn K fd ["self", f] 1 [f] (fun us ws => us ++ ws) (fun vs zs => vs ++ zs)
def tXMk (C : Addr) (f : Str) (te : TE) : TE := fun σ H Q => te σ H fun v H1 => ∀ a d, H1 a = none → H1 d = none → d ≠ a → Q (.ref a) (upd (upd H1 d (exd d [(f, v)])) a (exo a C (some d)))
theorem upd_mid {H : Hp} {a d : Addr} {o1 o2 o3 : HO} (h : d ≠ a) : upd (upd (upd H a o1) d o2) a o3 = upd (upd H d o2) a o3 := by
  funext b
  by_cases hb : b = a
  · rw [hb, upd_same, upd_same]
  · rw [upd_ne hb, upd_ne hb]
    by_cases hd : b = d
    · rw [hd, upd_same, upd_same]
    · rw [upd_ne hd, upd_ne hd, upd_ne hb]
section
variable {X : Cx} {C : Addr} {f x : Str} {e : Expr} {te : TE} {p pos kpos : Pos}
theorem run_xmk {pins : List (Addr × Obj)} {σ : St} {H1 : Hp} {s1 : Shared} {v : V} {u : Value} {Q : VK} (T : XMk X.prog X.w X.K X.mg X.base C f) (hr : Room 2 X.A) (I1 : Inv X pins σ H1 s1) (r : RelV v u) (kw : Bool)
    (q1 : ∀ a d, H1 a = none → H1 d = none → d ≠ a → Q (.ref a) (upd (upd H1 d (exd d [(f, v)])) a (exo a C (some d)))) :
    wpAny (model X.prog X.w) X.A (if kw then call (.ref C) [] [(f, u)] else call (.ref C) [u]) (EP X pins σ Q) X.xe s1 := by
  obtain ⟨fI, fd, iC, tI, F1, hb, hk⟩ := T.ini
  obtain ⟨nm, q, N, bs, bm, sn, sub, ab, col, dd, k0, k1, k2, k3, k5, hC, hbm⟩ := T.o.cls
  obtain ⟨hp, g, dr, tk, os⟩ := s1
  have hsz : hp.objs.size ≤ hp.objs.size + 1 := Nat.le_succ _
  have hn : H1 (hp.objs.size + 1) = none := I1.hok.fresh hsz
  have key : ∀ (us : List Value) (kws : List (Str × Value)), us.length ≤ 1 → (∀ (s : Shared), X.K.In s.heap → BindsTo s fd ⟨.ref (hp.objs.size + 1) :: us, kws⟩ ((["self", f] : List Str).zip [.ref (hp.objs.size + 1), u])) →
      wpAny (model X.prog X.w) X.A (call (.ref C) us kws) (EP X pins σ Q) X.xe ⟨hp, g, dr, tk, os⟩ := by
    intro us kws hl hbt
    have kk : ∀ b o, hp.get? b = some o → ((hp.push (PySem.W.kdv_tup us)).push (PySem.HandSPX.excO C hp.objs.size)).get? b = some o := fun b o e => Heap.get?_push_of_some _ (Heap.get?_push_of_some _ e)
    have hget : ((hp.push (PySem.W.kdv_tup us)).push (PySem.HandSPX.excO C hp.objs.size)).get? (hp.objs.size + 1) = some (PySem.HandSPX.excO C hp.objs.size) := by heap_get
    have I2 : Inv X pins σ (upd H1 (hp.objs.size + 1) (exo (hp.objs.size + 1) C none)) ⟨(hp.push (PySem.W.kdv_tup us)).push (PySem.HandSPX.excO C hp.objs.size), g, dr, tk, os⟩ :=
      I1.laid (t' := tk) (a := hp.objs.size + 1) (o := exo (hp.objs.size + 1) C none) (h' := (hp.push (PySem.W.kdv_tup us)).push (PySem.HandSPX.excO C hp.objs.size)) kk hsz (exo_ok hget)
    have r2 : Vals [V.ref (hp.objs.size + 1), v] [Value.ref (hp.objs.size + 1), u] := .cons rfl (.cons r .nil)
    have hus : us.length ≤ sizeLine := Nat.le_trans hl (by rw [sizeLine_eq]; omega)
    have hq : spXI C f [V.ref (hp.objs.size + 1), v] (upd H1 (hp.objs.size + 1) (exo (hp.objs.size + 1) C none)) (fun z H2 => z = .non ∧ Q (.ref (hp.objs.size + 1)) H2) (fun _ _ _ => False) := by
      refine ⟨_, v, rfl, upd_same, fun d hd hda => ⟨rfl, ?_⟩⟩
      rw [upd_mid hda]
      rw [upd_ne hda] at hd
      exact q1 _ d hn hd hda
    refine wpAny_call (PySem.OEK.call_ownK F.excBase_ValueError (fun Y => PySem.HandSPX.refsVE_contains Y bm hbm) (I1.kIn _ _ hC) (PySem.W.looks_findIn I1.kIn iC) (fun self => PySem.W.bind_fn I1.kIn self tI) hus
      (codeAny_mono (F1.run _ X.stack _ _ ⟨Value.ref (hp.objs.size + 1) :: us, kws⟩ [Value.ref (hp.objs.size + 1), u] _ _ (fun _ _ _ => False) (hr.make C us kws) (I2.env0.make C us kws) (hbt _ I2.kIn) r2 hq) fun r s' hq' => ?_))
    cases r with
    | error er => exact False.elim hq'
    | ok fl =>
      cases fl with
      | ret u =>
        obtain ⟨z, H', I3, rv, ev, q3⟩ := I2.after hq'
        subst ev
        exact ⟨rv, ⟨V.ref (hp.objs.size + 1), H', I3, rfl, q3⟩⟩
      | next => exact False.elim hq'
      | brk => exact False.elim hq'
      | cont => exact False.elim hq'
  cases kw with
  | false =>
    refine key [u] [] (Nat.le_refl _) fun s hs => ?_
    have b := hb s [.ref (hp.objs.size + 1), u] hs rfl
    exact b
  | true =>
    refine key [] [(f, u)] (Nat.zero_le _) fun s hs => ?_
    have b := hk.to s [.ref (hp.objs.size + 1)] [u] hs rfl rfl
    exact b
/-- C(e) -/
theorem pe_xmk (T : XMk X.prog X.w X.K X.mg X.base C f) (hr : Room 2 X.A) (hg : Gl X x) (hm : X.mg x = some (.ref C)) (ha : PE X e te) (hdb : (x == ("__debug__" : Str)) = false := by decide)
    (he : starEach [e] X.env = (false, eval e X.env) :: starEach [] X.env := by rfl) : PE X (.Call (.Name x p) [e] [] pos) (tXMk C f te) := by
  refine ⟨fun pins s σ H Q I h => ?_⟩
  refine wpAny_Call_Name_kw (ld_glob I hg hm ?_ hdb)
  refine PySem.W.callWith_K (h₀ := X.base) I.ok.mod.kin T.o.kC ?_ he (by rfl)
  rw [he]
  show wpAny _ _ (spliced ((false, eval e X.env) :: backTo pos (starEach [] X.env))) _ _ s
  refine Calls.spliced_cons (thn (ha.run pins s σ H _ I h) fun u s1 ⟨v, H1, I1, r1, q1⟩ => ?_)
  refine Calls.spliced_nil ⟨I1.kIn, ?_⟩
  exact run_xmk (kw := false) T hr I1 r1 q1
/-- C(f = e) -/
theorem pe_xmkK (T : XMk X.prog X.w X.K X.mg X.base C f) (hr : Room 2 X.A) (hg : Gl X x) (hm : X.mg x = some (.ref C)) (ha : PE X e te) (hdb : (x == ("__debug__" : Str)) = false := by decide)
    (hall : (backToKw pos (keywordEach [⟨some f, e, kpos⟩] X.env)).all (·.1.isSome) = true := by rfl) (hks : (backToKw pos (keywordEach [⟨some f, e, kpos⟩] X.env)).filterMap (·.1) = [f] := by rfl)
    (hpl : ((backTo pos (starEach [] X.env)).any (·.1) || (backToKw pos (keywordEach [⟨some f, e, kpos⟩] X.env)).any (·.1.isNone)) = false := by rfl) :
    PE X (.Call (.Name x p) [] [⟨some f, e, kpos⟩] pos) (tXMk C f te) := by
  refine ⟨fun pins s σ H Q I h => ?_⟩
  refine wpAny_Call_Name_kw (ld_glob I hg hm ?_ hdb)
  have hkw : PK X [⟨some f, e, kpos⟩] (tCons te tNil) := pk_cons ha pk_nil
  refine PySem.W.callWith_KW0 (h₀ := X.base) I.ok.mod.kin T.o.kC hall ?_ hpl
  refine thn (hkw.run pos pins s σ H (fun vs H1 => match vs with
    | [v] => ∀ a d, H1 a = none → H1 d = none → d ≠ a → Q (.ref a) (upd (upd H1 d (exd d [(f, v)])) a (exo a C (some d)))
    | _ => False) I h) fun us s1 ⟨vs, H1, I1, r1, q1⟩ => ?_
  rw [hks]
  cases r1 with
  | nil => exact q1.elim
  | cons rv rn =>
    cases rn with
    | nil => exact ⟨I1.kIn, run_xmk (kw := true) T hr I1 rv q1⟩
    | cons _ _ => exact q1.elim
end
end L2
namespace L2
open PySem PySem.Spec PyProof.Rows
open PySem.HandSPX (refsVE veTail)
theorem band {a b : Bool} (h : (a && b) = true) : a = true ∧ b = true := Bool.and_eq_true_iff.mp h
/-! ### what the head must say of a class, as a Bool -/
def clsXB (K : PySem.W.Frag) (C : Addr) : Bool := match K.lookup C with
  | some ⟨.type "type", _, .cls cd, sl⟩ => (match cd.mro, sl.toList with
    | .ref C' :: bm, [_, _, _, _, some (.builtin n), _] => C' == C && (n == "ValueError.__new__" && (!cd.hasDel && (cd.hasDict && refsVE bm)))
    | _, _ => false)
  | _ => false
theorem clsXB_ok {K : PySem.W.Frag} {C : Addr} (h : clsXB K C = true) : ∃ nm q N bs bm sn sub ab col dd k0 k1 k2 k3 k5, K.lookup C = some (excClassObj nm q C N bs bm true sn sub ab col dd k0 k1 k2 k3 k5 "ValueError.__new__") ∧ refsVE bm = true := by
  unfold clsXB at h
  split at h
  · rename_i dd cd sl ho
    split at h
    · rename_i C' bm k0 k1 k2 k3 n k5 hm hs
      obtain ⟨h1, h⟩ := band h
      obtain ⟨h2, h⟩ := band h
      obtain ⟨h3, h⟩ := band h
      obtain ⟨h4, h5⟩ := band h
      have e1 : C' = C := beq_iff_eq.mp h1
      have e2 : n = "ValueError.__new__" := beq_iff_eq.mp h2
      subst e1 e2
      obtain ⟨nm, bs, mro, ns, qn, hd, sn, sub, ab, col, del⟩ := cd
      dsimp only at hm h3 h4
      have e3 : del = false := by
        cases del with
        | true => cases h3
        | false => rfl
      subst hm e3 h4
      have hsl : sl = #[k0, k1, k2, k3, some (.builtin "ValueError.__new__"), k5] := by
        obtain ⟨l⟩ := sl
        simp only at hs
        rw [hs]
      subst hsl
      exact ⟨nm, qn, ns, bs, bm, sn, sub, ab, col, dd, k0, k1, k2, k3, k5, ho, h5⟩
    · cases h
  · cases h
def oexB (K : PySem.W.Frag) (C : Addr) : Bool := clsXB K C && (decide (PySem.W.findIn K (.ref C) "__setattr__" = some (some (.builtin "object.__setattr__"))) && (decide (PySem.W.subIn K (.ref C) (.type "BaseException") = some true) &&
  (decide (PySem.W.typeIn K (.ref C) = some (.type "type")) && PySem.W.keepIn K (.ref C))))
theorem oexB_ok {K : PySem.W.Frag} {C : Addr} (h : oexB K C = true) : OexC K C := by
  obtain ⟨h1, h⟩ := band h
  obtain ⟨h2, h⟩ := band h
  obtain ⟨h3, h⟩ := band h
  obtain ⟨h4, h5⟩ := band h
  exact ⟨clsXB_ok h1, of_decide_eq_true h2, of_decide_eq_true h3, of_decide_eq_true h4, h5⟩
def xk1B (K : PySem.W.Frag) (C : Addr) : Bool := decide (PySem.W.subIn K (.ref C) (.type "BaseException") = some true) && (decide (PySem.W.findIn K (.ref C) "__getattribute__" = some (some (.builtin "BaseException.__getattribute__"))) &&
  (decide (PySem.W.findIn K (.ref C) "__getattr__" = some none) && (PySem.W.hasDictIn K C && (decide (PySem.W.findIn K (.ref C) "__class__" = some (some (.builtin "object.__class__"))) && decide (PySem.W.mroIn K C (.type "object") = some true)))))
def xkAB (K : PySem.W.Frag) : Bool := decide (PySem.W.specialIn K (.builtin "object.__class__") "__get__" = some (some (.builtin "getset_descriptor.__get__"))) && decide (PySem.W.takesIn K (.builtin "object.__class__") = some true)
theorem xk1B_ok {K : PySem.W.Frag} {C : Addr} (hA : xkAB K = true) (h : xk1B K C = true) : XK1 K C := by
  obtain ⟨a1, a2⟩ := band hA
  obtain ⟨h1, h⟩ := band h
  obtain ⟨h2, h⟩ := band h
  obtain ⟨h3, h⟩ := band h
  obtain ⟨h4, h⟩ := band h
  obtain ⟨h5, h6⟩ := band h
  exact ⟨of_decide_eq_true h1, of_decide_eq_true h2, of_decide_eq_true h3, h4, of_decide_eq_true h5, of_decide_eq_true a1, of_decide_eq_true a2, of_decide_eq_true h6⟩
/-- its mro: itself, T, ValueError and so on -/
def mroXB (K : PySem.W.Frag) (C T : Addr) : Bool := (PySem.W.clsIn K C).any fun cd => decide (cd.mro = .ref C :: .ref T :: veTail)
def mroTB (K : PySem.W.Frag) (T : Addr) : Bool := (PySem.W.clsIn K T).any fun cd => decide (cd.mro = .ref T :: veTail)
theorem kit_in {K : PySem.W.Frag} {C D : Addr} {l : List Value} {cd : ClassData} (hc : PySem.W.clsIn K C = some cd) (hm : cd.mro = .ref C :: l) (hD : (PySem.W.clsIn K D).isSome = true) (tD : PySem.W.typeIn K (.ref D) = some (.type "type")) :
    PySem.W.kitOne K (.ref C) (.ref D) = some (decide (C = D) || l.contains (.ref D)) := by
  unfold PySem.W.kitOne
  by_cases e : C = D
  · subst e
    rw [if_pos (by simp), decide_eq_true rfl, Bool.true_or]
  · have e1 : ¬ ((Value.ref C == Value.ref D) = true) := fun z => e (Value.ref.inj (beq_iff_eq.mp z))
    rw [if_neg e1, decide_eq_false e, Bool.false_or]
    show (if ((PySem.W.clsIn K D).isSome && PySem.W.typeIn K (.ref D) == some (.type "type")) = true then PySem.W.subIn K (.ref C) (.ref D) else none) = _
    rw [if_pos (by rw [hD, tD]; rfl)]
    show PySem.W.mroIn K C (.ref D) = _
    unfold PySem.W.mroIn
    rw [hc, Option.bind_some, if_neg (by rw [hm]; exact fun z => Bool.noConfusion z), hm, List.contains_cons]
    have e2 : (Value.ref D == Value.ref C) = false := by
      cases q : (Value.ref D == Value.ref C) with
      | false => rfl
      | true => exact absurd (Value.ref.inj (beq_iff_eq.mp q)).symm e
    rw [e2, Bool.false_or]
theorem kit_bi {K : PySem.W.Frag} {C : Addr} {n : String} {l : List Value} {cd : ClassData} (hc : PySem.W.clsIn K C = some cd) (hm : cd.mro = .ref C :: l) (hn : PySem.W.kitMeta n = true) :
    PySem.W.kitOne K (.ref C) (.type n) = some (l.contains (.type n)) := by
  unfold PySem.W.kitOne
  have e1 : ¬ ((Value.ref C == Value.type n) = true) := fun z => nomatch (beq_iff_eq.mp z)
  rw [if_neg e1]
  show (if PySem.W.kitMeta n = true then PySem.W.subIn K (.ref C) (.type n) else none) = _
  rw [if_pos hn]
  show PySem.W.mroIn K C (.type n) = _
  unfold PySem.W.mroIn
  rw [hc, Option.bind_some, if_neg (by rw [hm]; exact fun z => Bool.noConfusion z), hm, List.contains_cons]
  have e2 : (Value.type n == Value.ref C) = false := by
    cases q : (Value.type n == Value.ref C) with
    | false => rfl
    | true => exact nomatch (beq_iff_eq.mp q)
  rw [e2, Bool.false_or]
/-! ### __init__(self, f): self.f = f -/
def iArgs (f : Str) (p1 p2 : Pos) : Arguments := { posonlyargs := [], args := [{ arg := "self", annotation := none, pos := p1 }, { arg := f, annotation := none, pos := p2 }], vararg := none, kwonlyargs := [], kw_defaults := [], kwarg := none, defaults := [] }
def iBody (f : Str) (q1 q2 q3 q4 : Pos) : List Stmt := [.Assign [.Attribute (.Name "self" q1) f q2] (.Name f q3) q4]
def iScope (f : Str) : Scope := { kind := .function, names := [("self", .local), (f, .local)], isGenerator := false, isCoroutine := false, more := [] }
/-- a field's name that gives no trouble -/
def fldOk (f : Str) : Bool := !(f == ("self" : Str)) && (!(f == ("__debug__" : Str)) && !(f == ("__classdict__" : Str)))
section
variable {P : Program} {w : World} {K : PySem.W.Frag} {mg : Str → Option Value} {base : Heap} {C fI : Addr} {fd : FuncData} {f qual : Str} {p1 p2 q1 q2 q3 q4 : Pos}
theorem bnot {b : Bool} (h : (!b) = true) : b = false := by
  cases b with
  | true => cases h
  | false => rfl
theorem lk_self (f : Str) : List.lookup ("self" : Str) (iScope f).names = some NameKind.local := by
  show List.lookup ("self" : Str) [(("self" : Str), NameKind.local), (f, .local)] = _
  simp [List.lookup]
theorem lk_fld {f : Str} (h : (f == ("self" : Str)) = false) : List.lookup f (iScope f).names = some NameKind.local := by
  show List.lookup f [(("self" : Str), NameKind.local), (f, .local)] = _
  simp [List.lookup, h]
theorem scI (h : fldOk f = true) : FnScope ["self", f] ["self", f] (iScope f) := by
  obtain ⟨h1, h⟩ := band h
  have e := bnot h1
  refine ⟨rfl, rfl, rfl, ?_, rfl, ?_, ?_⟩
  · refine List.nodup_cons.mpr ⟨fun z => ?_, List.nodup_cons.mpr ⟨(fun z => nomatch z), List.nodup_nil⟩⟩
    have z2 : ("self" : Str) = f := by simpa using z
    rw [← z2] at e
    simp at e
  · intro x hx
    rcases List.mem_cons.mp hx with z | z
    · rw [z]
      exact .inl (lk_self f)
    · have z2 : x = f := by simpa using z
      rw [z2]
      exact .inl (lk_fld e)
  · intro y hy
    rcases List.mem_cons.mp hy with z | z
    · rw [z]
      exact fun q => nomatch q
    · have z2 : y = (f, NameKind.local) := by simpa using z
      rw [z2]
      exact fun q => nomatch q
theorem init_ok (h : fldOk f = true) (T : OexC K C) (nof : PySem.W.findIn K (.ref C) f = some none) (F : FunD K "__init__" qual (iArgs f p1 p2) (iBody f q1 q2 q3 q4) (iScope f) [] [] fI fd) : FnOk P w K mg base CX0 1 fI fd ["self", f] (spXI C f) := by
  obtain ⟨h1, h2⟩ := band (id h)
  obtain ⟨h3, h4⟩ := band h2
  refine F.ok (scI h) (fun vs H Q E h => ?_) (fun cdv A outer s H vs Q E hr hh => ?_)
  · obtain ⟨a, v, rfl, _⟩ := h
    rfl
  · obtain ⟨a, v, rfl, ha, k⟩ := hh
    refine ⟨_, PSs.nox (pss_one (ps_ost (pv 0 (hv := Or.inl (lk_self f))) (pv 1 (hv := Or.inl (lk_fld (bnot h1))) (hd := bnot h3) (hcd := bnot h4)))), ?_⟩
    refine ⟨_, rfl, _, rfl, a, C, rfl, T, nof, Or.inl ⟨ha, fun d hd hda => ?_⟩⟩
    exact k d hd hda
end
theorem xmk_of {P : Program} {w : World} {K : PySem.W.Frag} {mg : Str → Option Value} {base : Heap} {C fI : Addr} {fd : FuncData} {f qual : Str} {p1 p2 q1 q2 q3 q4 : Pos} (h : fldOk f = true) (hA : xkAB K = true) (h1 : oexB K C = true) (h2 : xk1B K C = true) (h3 : decide (PySem.W.findIn K (.ref C) f = some none) = true)
    (iC : PySem.W.findIn K (.ref C) "__init__" = some (some (.ref fI))) (tI : PySem.W.typeIn K (.ref fI) = some (.type "function"))
    (F : FunD K "__init__" qual (iArgs f p1 p2) (iBody f q1 q2 q3 q4) (iScope f) [] [] fI fd)
    (hb : ∀ (kV doc pm : Value) (an : Option Addr) (cdv ct : Value) (us : List Value), us.length = 2 → bindArgs (PySem.W.fnOf "__init__" qual (iArgs f p1 p2) (iBody f q1 q2 q3 q4) (iScope f) .none kV doc pm an cdv ct) ⟨us, []⟩ = pure ((["self", f] : List Str).zip us))
    (hk : ∀ (kV doc pm : Value) (an : Option Addr) (cdv ct u1 u2 : Value), bindArgs (PySem.W.fnOf "__init__" qual (iArgs f p1 p2) (iBody f q1 q2 q3 q4) (iScope f) .none kV doc pm an cdv ct) ⟨[u1], [(f, u2)]⟩ = pure ((["self", f] : List Str).zip [u1, u2])) : XMk P w K mg base C f := by
  refine ⟨oexB_ok h1, xk1B_ok hA h2, of_decide_eq_true h3, fI, fd, iC, tI, init_ok h (oexB_ok h1) (of_decide_eq_true h3) F, F.bindsN (ps := ["self", f]) hb, ?_⟩
  obtain ⟨oc, od, dV, kV, doc, pm, an, cdv, ct, osl, rfl, lk, hcd, hD, hK⟩ := F.ex
  rcases hD with ⟨_, rfl⟩ | ⟨e, _⟩
  · refine ⟨fun s us ws X l1 l2 => ?_, fun r1 r2 => r1.append r2⟩
    match us, ws, l1, l2 with
    | [u1], [u2], _, _ => exact .of_eq (hk kV doc pm an cdv ct u1 u2)
  · exact absurd rfl e
/-- C(), an own class without own __init__ -/
def tXMk0 (C : Addr) : TE := fun _ H Q => ∀ a, H a = none → Q (.ref a) (upd H a (exo a C none))
theorem pe_xmk0 {X : Cx} {C : Addr} {x : Str} {p pos : Pos} (q : PySem.W.excIn X.K C veTail "ValueError.__new__" = true) (gC : X.mg x = some (.ref C)) (kC : PySem.W.keepIn X.K (.ref C) = true) (hg : Gl X x) (hdb : (x == ("__debug__" : Str)) = false := by decide) :
    PE X (.Call (.Name x p) [] [] pos) (tXMk0 C) := by
  refine ⟨fun pins s σ H Q I h => ?_⟩
  refine wpAny_Call_Name_kw (ld_glob I hg gC ?_ hdb)
  refine PySem.W.callWith_K0 I.kIn kC ?_
  show wpAny _ _ (call (.ref C) []) _ _ _
  obtain ⟨bm, N, nm, qn, bs, hdct, sn, sub, ab, col, dd, k0, k1, k2, k3, k5, mN, hC, hN, hni, T⟩ := exc_obj I.kIn q
  refine wpAny_call_exc_subT F.excBase_ValueError T hC hN hni (fun h' a hm => ?_) (by show 0 ≤ sizeLine; exact Nat.zero_le _)
  have hn : H a = none := I.hok.gone hm.new
  obtain ⟨t, ht, _, _⟩ := hm.there
  exact ⟨.ref a, upd H a (exo a C none), I.laidN hm.keeps hm.new hn (exo_ok ht), rfl, h a hn⟩
end L2
/-! a head's facts over a short list of addresses, the run's equation in parts -/
namespace HeY
open PySem PySem.W PySem.Calls PySem.Spec PyProof.Rows L2
/-- the list's spine, made first -/
def frcL {α β : Type} : List α → (List α → β) → β
  | [], k => k []
  | x :: xs, k => frcL xs fun ys => k (x :: ys)
theorem frcL_eq {α β : Type} : ∀ (l : List α) (k : List α → β), frcL l k = k l
  | [], k => rfl
  | x :: xs, k => frcL_eq xs fun ys => k (x :: ys)
def valRefs : Option Obj → List Addr
  | some ⟨_, _, .dict es _, _⟩ => es.toList.flatMap fun e => He.refV e.val
  | _ => []
def nsOf : Option Obj → List Addr
  | some ⟨_, _, .cls cd, _⟩ => [cd.ns]
  | _ => []
def fnOfR : Option Obj → List Addr
  | some ⟨_, _, .func fd, _⟩ => He.refV fd.code ++ (He.refV fd.defaults ++ He.refV fd.kwdefaults)
  | _ => []
/-- what the module's names reach: its objects, the classes' dicts, the methods, the codes -/
def adrs (g : Addr → Option Obj) : List Addr :=
  frcL (valRefs (g mainGlobals)) fun gl => frcL (gl.flatMap fun a => nsOf (g a)) fun ns => frcL (ns.flatMap fun a => valRefs (g a)) fun ms => mainGlobals :: (gl ++ (ns ++ (ms ++ (gl ++ ms).flatMap fun a => fnOfR (g a))))
def fr (g : Addr → Option Obj) : PySem.W.Frag := He.frG g (adrs g)
abbrev AlY : Type := He.AlD × Bool
def obsY (fa : List He.Fa) (fn : List He.DefD) (ex : PySem.W.Frag → Bool) (g : Addr → Option Obj) : AlY := frcL (fr g) fun K => (He.obsD fa fn K, ex K)
def valY (fn : List He.DefD) : AlY := (He.valD fn, true)
theorem obsY_unf {fa : List He.Fa} {fn : List He.DefD} {ex : PySem.W.Frag → Bool} {g : Addr → Option Obj} : obsY fa fn ex g = (He.obsD fa fn (fr g), ex (fr g)) := frcL_eq _ _
def SaysY (fa : List He.Fa) (fn : List He.DefD) (ex : PySem.W.Frag → Bool) (K : PySem.W.Frag) : Prop := He.SaysD fa fn K ∧ ex K = true
def hookY (fa : List He.Fa) (fn : List He.DefD) (ex : PySem.W.Frag → Bool) : PySem.W.Hook where
  α := AlY
  obs := fun s => obsY fa fn ex s.heap.get?
  val := fun _ => valY fn
  says := fun _ h => ∃ K : PySem.W.Frag, K.In h ∧ SaysY fa fn ex K
  of := fun w s e => by
    have e2 : (He.obsD fa fn (fr s.heap.get?), ex (fr s.heap.get?)) = valY fn := obsY_unf.symm.trans e
    exact ⟨_, He.frG_in, congrArg (fun z : AlY => z.1) e2, congrArg (fun z : AlY => z.2) e2⟩
  keeps := fun _ _ _ ⟨K, hK, c⟩ k => ⟨K, PySem.W.Frag.In.keeps hK k, c⟩
theorem obsY_eq {fa : List He.Fa} {fn : List He.DefD} {ex : PySem.W.Frag → Bool} {g : Addr → Option Obj} {s : Shared} (h : ∀ a, g a = s.heap.get? a) : obsY fa fn ex g = (hookY fa fn ex).obs s := by
  have e : g = s.heap.get? := funext h
  rw [e] <;> rfl
/-- the three parts -/
def obA (fa : List He.Fa) (fn : List He.DefD) (g : Addr → Option Obj) : Bool := frcL (fr g) fun K => (fa.all fun f => f.ok K) && fn.all fun d => d.ok K
def obB (fn : List He.DefD) (g : Addr → Option Obj) : List He.FnW := frcL (fr g) fun K => fn.map fun d => He.fnW K d.at_
def obC (ex : PySem.W.Frag → Bool) (g : Addr → Option Obj) : Bool := frcL (fr g) ex
theorem ob_join {fa : List He.Fa} {fn : List He.DefD} {ex : PySem.W.Frag → Bool} {g : Addr → Option Obj} (h1 : obA fa fn g = true) (h2 : obB fn g = fn.map He.DefD.val) (h3 : obC ex g = true) : obsY fa fn ex g = valY fn := by
  have e1 : ((fa.all fun f => f.ok (fr g)) && fn.all fun d => d.ok (fr g)) = true := (frcL_eq (fr g) (fun K => (fa.all fun f => f.ok K) && fn.all fun d => d.ok K)).symm.trans h1
  have e2 : (fn.map fun d => He.fnW (fr g) d.at_) = fn.map He.DefD.val := (frcL_eq (fr g) (fun K => fn.map fun (d : He.DefD) => He.fnW K d.at_)).symm.trans h2
  have e3 : ex (fr g) = true := (frcL_eq (fr g) ex).symm.trans h3
  rw [obsY_unf]
  unfold He.obsD valY He.valD
  rw [e1, e2, e3]
theorem map_join {α β γ : Type} {x : Option α} {f : α → β} {g : α → γ} {b : β} {c : γ} (h1 : x.map f = some b) (h2 : x.map g = some c) : x.map (fun s => (f s, g s)) = some (b, c) := by
  cases x with
  | none => cases h1
  | some s =>
    have e1 : f s = b := Option.some.inj h1
    have e2 : g s = c := Option.some.inj h2
    show some (f s, g s) = _
    rw [e1, e2]
noncomputable def endY (r : PySem.W.OpenRow) (M : Nat) (w : World) (os : OsState) : Option PySem.W.SharedT := HandSHeadRun.endF (HandSHeadRun.stepQ (HandSHeadRun.denQ HandSHeadRun.tabQ) r.prog w) M r.prog w os
/-- the run's equation from its parts -/
theorem run_of {r : PySem.W.OpenRow} {q : Program} {fa : List He.Fa} {fn : List He.DefD} {ex : PySem.W.Frag → Bool} {M : Nat} {loose : List PySem.Str} {w : World}
    (h1 : ∀ os, (endY r M w os).map (fun s => HandSHeadRun.looksF r.prog (boot_heap w.params) s.abs) = some true)
    (h2 : ∀ os, (endY r M w os).map (fun s => HandSHeadRun.seenQ q loose (importedModules r.prog.main.body) (fun s => xlAt q [] s && recOk r.toRowW.records s) s.abs) = some (openGood q loose))
    (h3 : ∀ os, (endY r M w os).map (fun s => obA fa fn (HandSHeadRun.getT s)) = some true)
    (h4 : ∀ os, (endY r M w os).map (fun s => obB fn (HandSHeadRun.getT s)) = some (fn.map He.DefD.val))
    (h5 : ∀ os, (endY r M w os).map (fun s => obC ex (HandSHeadRun.getT s)) = some true) :
    HandSHeadRun.RunEq r q (hookY fa fn ex) (fun s => obsY fa fn ex (HandSHeadRun.getT s)) M loose w := by
  intro os
  have o : (endY r M w os).map (fun s => obsY fa fn ex (HandSHeadRun.getT s)) = some (valY fn) := by
    have z3 := h3 os
    have z4 := h4 os
    have z5 := h5 os
    cases e : endY r M w os with
    | none => rw [e] at z3; cases z3
    | some s =>
      rw [e] at z3 z4 z5
      exact congrArg some (ob_join (Option.some.inj z3) (Option.some.inj z4) (Option.some.inj z5))
  exact map_join (h1 os) (map_join (h2 os) o)
/-! ### classes of errors, by few looks -/
def nsNone (K : PySem.W.Frag) (N : Addr) (x : Str) : Bool := match PySem.W.nsIn K N x with
  | some none => true
  | _ => false
theorem nsNone_ok {K : PySem.W.Frag} {N : Addr} {x : Str} (h : nsNone K N x = true) : PySem.W.nsIn K N x = some none := by
  unfold nsNone at h
  split at h
  · assumption
  · cases h
abbrev five (f : Str) : List Str := ["__setattr__", "__getattribute__", "__getattr__", "__class__", f]
/-- the dict of the class: nothing of these, an __init__ of its own -/
def nsB (K : PySem.W.Frag) (N : Addr) (f : Str) : Bool := ((five f).all fun x => nsNone K N x) && (match PySem.W.nsIn K N "__init__" with
  | some (some (.ref a)) => (match K.lookup a with
    | some ⟨.type c, _, _, _⟩ => c == "function"
    | _ => false)
  | _ => false)
def clsB (K : PySem.W.Frag) (T C : Addr) (f : Str) : Bool := match K.lookup C with
  | some ⟨.type "type", _, .cls cd, sl⟩ => (match cd.mro, sl.toList with
    | .ref C' :: .ref T' :: bm, [_, _, _, _, some (.builtin n), _] => C' == C && (T' == T && (n == "ValueError.__new__" && (!cd.hasDel && (cd.hasDict && (decide (bm = PySem.HandSPX.veTail) && nsB K cd.ns f)))))
    | _, _ => false)
  | _ => false
/-- the base class: fs are the fields' names -/
def tB (K : PySem.W.Frag) (T : Addr) (fs : List Str) : Bool := match K.lookup T with
  | some ⟨.type "type", _, .cls cd, _⟩ => cd.hasDict && (decide (cd.mro = .ref T :: PySem.HandSPX.veTail) && (((five "__init__") ++ fs).all fun x => nsNone K cd.ns x))
  | _ => false
open PySem.HandSPX (veTail refsVE)
theorem al_tail {K : PySem.W.Frag} {x : Str} : PySem.W.alongIn K x veTail = PySem.W.alongIn [] x veTail := rfl
theorem al_sa : PySem.W.alongIn [] "__setattr__" veTail = some (some (.builtin "object.__setattr__")) := by kernel_rfl
theorem al_ga : PySem.W.alongIn [] "__getattribute__" veTail = some (some (.builtin "BaseException.__getattribute__")) := by kernel_rfl
theorem al_gg : PySem.W.alongIn [] "__getattr__" veTail = some none := by kernel_rfl
theorem al_ca : PySem.W.alongIn [] "__class__" veTail = some (some (.builtin "object.__class__")) := by kernel_rfl
theorem al_call {K : PySem.W.Frag} : PySem.W.findIn K (.type "type") "__call__" = some (some (.builtin "type.__call__")) := by kernel_rfl
theorem xkA {K : PySem.W.Frag} : xkAB K = true := by kernel_rfl
/-- no field's name is one that errors have -/
def fldsFree (fs : List Str) : Bool := fs.all fun f => decide (PySem.W.alongIn [] f veTail = some none)
section
variable {K : PySem.W.Frag} {T C : Addr} {f : Str} {fs : List Str}
/-- what is known of such a class -/
structure ClsY (K : PySem.W.Frag) (T C : Addr) (f : Str) : Prop where
  ob : ∃ nm q N bs sn sub ab col dd k0 k1 k2 k3 k5, K.lookup C = some (excClassObj nm q C N bs (.ref T :: veTail) true sn sub ab col dd k0 k1 k2 k3 k5 "ValueError.__new__") ∧ nsB K N f = true
theorem clsY_of (h : clsB K T C f = true) : ClsY K T C f := by
  unfold clsB at h
  split at h
  · rename_i dd cd sl ho
    split at h
    · rename_i C' T' bm k0 k1 k2 k3 n k5 hm hs
      obtain ⟨h1, h⟩ := band h
      obtain ⟨h1b, h⟩ := band h
      obtain ⟨h2, h⟩ := band h
      obtain ⟨h3, h⟩ := band h
      obtain ⟨h4, h⟩ := band h
      obtain ⟨h5, h6⟩ := band h
      have e1 : C' = C := beq_iff_eq.mp h1
      have e1b : T' = T := beq_iff_eq.mp h1b
      have e2 : n = "ValueError.__new__" := beq_iff_eq.mp h2
      have e5 : bm = veTail := of_decide_eq_true h5
      subst e1 e1b e2 e5
      obtain ⟨nm, bs, mro, ns, qn, hd, sn, sub, ab, col, del⟩ := cd
      dsimp only at hm h3 h4 h6
      have e3 : del = false := bnot h3
      subst hm e3 h4
      have hsl : sl = #[k0, k1, k2, k3, some (.builtin "ValueError.__new__"), k5] := by
        obtain ⟨l⟩ := sl
        simp only at hs
        rw [hs]
      subst hsl
      exact ⟨nm, qn, ns, bs, sn, sub, ab, col, dd, k0, k1, k2, k3, k5, ho, h6⟩
    · cases h
  · cases h
theorem tY_of (h : tB K T fs = true) : (∃ cd, PySem.W.clsIn K T = some cd ∧ cd.hasDict = true ∧ cd.mro = .ref T :: veTail) ∧ PySem.W.typeIn K (.ref T) = some (.type "type") ∧ ∀ x ∈ (five "__init__") ++ fs, ∃ r, PySem.W.alongIn K x (.ref T :: veTail) = r ∧ r = PySem.W.alongIn [] x veTail := by
  unfold tB at h
  split at h
  · rename_i dd cd sl ho
    obtain ⟨h1, h⟩ := band h
    obtain ⟨h2, h3⟩ := band h
    refine ⟨⟨cd, ?_, h1, of_decide_eq_true h2⟩, ?_, fun x hx => ⟨_, rfl, ?_⟩⟩
    · unfold PySem.W.clsIn
      rw [ho]
    · show (K.lookup T).map (·.cls) = _
      rw [ho] <;> rfl
    · have e : PySem.W.ownIn K x (.ref T) = some none := by
        show (match K.lookup T with
          | some ⟨_, _, .cls cd, _⟩ => PySem.W.nsIn K cd.ns x
          | _ => none) = _
        rw [ho]
        exact nsNone_ok (List.all_eq_true.mp h3 x hx)
      show (match PySem.W.ownIn K x (.ref T) with
        | some (some v) => some (some v)
        | some none => PySem.W.alongIn K x veTail
        | none => none) = _
      rw [e]
      exact al_tail
  · cases h
theorem ClsY.find (c : ClsY K T C f) (hT : tB K T fs = true) {x : Str} (hx : x ∈ five f) (hx2 : x ∈ (five "__init__") ++ fs) : PySem.W.findIn K (.ref C) x = PySem.W.alongIn [] x veTail := by
  obtain ⟨nm, q, N, bs, sn, sub, ab, col, dd, k0, k1, k2, k3, k5, ho, hn⟩ := c.ob
  obtain ⟨h1, _⟩ := band hn
  obtain ⟨r, e1, e2⟩ := (tY_of hT).2.2 x hx2
  have e : PySem.W.ownIn K x (.ref C) = some none := by
    show (match K.lookup C with
      | some ⟨_, _, .cls cd, _⟩ => PySem.W.nsIn K cd.ns x
      | _ => none) = _
    rw [ho]
    exact nsNone_ok (List.all_eq_true.mp h1 x hx)
  have e3 : PySem.W.findIn K (.ref C) x = PySem.W.alongIn K x (.ref C :: .ref T :: veTail) := by
    show (match K.lookup C with
      | some ⟨_, _, .cls cd, _⟩ => PySem.W.alongIn K x cd.mro
      | _ => none) = _
    rw [ho] <;> rfl
  rw [e3]
  show (match PySem.W.ownIn K x (.ref C) with
    | some (some v) => some (some v)
    | some none => PySem.W.alongIn K x (.ref T :: veTail)
    | none => none) = _
  rw [e, e1, e2]
theorem ClsY.cls (c : ClsY K T C f) : ∃ cd, PySem.W.clsIn K C = some cd ∧ cd.hasDict = true ∧ cd.mro = .ref C :: .ref T :: veTail := by
  obtain ⟨nm, q, N, bs, sn, sub, ab, col, dd, k0, k1, k2, k3, k5, ho, hn⟩ := c.ob
  have e : PySem.W.clsIn K C = some { name := nm, bases := bs, mro := .ref C :: .ref T :: veTail, ns := N, qualname := q, hasDict := true, slotNames := sn, subclasses := sub, abstract := ab, collection := col, hasDel := false } := by
    unfold PySem.W.clsIn
    rw [ho] <;> rfl
  exact ⟨_, e, rfl, rfl⟩
theorem ClsY.ty (c : ClsY K T C f) : PySem.W.typeIn K (.ref C) = some (.type "type") := by
  obtain ⟨nm, q, N, bs, sn, sub, ab, col, dd, k0, k1, k2, k3, k5, ho, hn⟩ := c.ob
  show (K.lookup C).map (·.cls) = _
  rw [ho] <;> rfl
theorem ClsY.mro (c : ClsY K T C f) {v : Value} : PySem.W.mroIn K C v = some ((Value.ref C :: .ref T :: veTail).contains v) := by
  obtain ⟨cd, h1, _, h3⟩ := c.cls
  unfold PySem.W.mroIn
  rw [h1, Option.bind_some, h3]
  rfl
theorem ClsY.keep (c : ClsY K T C f) : PySem.W.keepIn K (.ref C) = true := by
  obtain ⟨nm, q, N, bs, sn, sub, ab, col, dd, k0, k1, k2, k3, k5, ho, hn⟩ := c.ob
  show (match K.lookup C with
    | some ⟨_, _, .func _, _⟩ => true
    | some ⟨_, _, .cls _, _⟩ => PySem.W.specialIn K (.ref C) "__call__" == some (some (.builtin "type.__call__"))
    | _ => false) = true
  rw [ho]
  show (PySem.W.specialIn K (.ref C) "__call__" == some (some (.builtin "type.__call__"))) = true
  unfold PySem.W.specialIn
  rw [c.ty, Option.bind_some, al_call]
  exact beq_self_eq_true _
theorem ClsY.oex (c : ClsY K T C f) (hT : tB K T fs = true) : OexC K C := by
  obtain ⟨nm, q, N, bs, sn, sub, ab, col, dd, k0, k1, k2, k3, k5, ho, hn⟩ := c.ob
  exact ⟨⟨nm, q, N, bs, _, sn, sub, ab, col, dd, k0, k1, k2, k3, k5, ho, rfl⟩, (c.find hT (by simp) (by simp)).trans al_sa, by
    show PySem.W.mroIn K C _ = _
    rw [c.mro]
    simp, c.ty, c.keep⟩
theorem ClsY.xk (c : ClsY K T C f) (hT : tB K T fs = true) : XK1 K C := by
  obtain ⟨a1, a2⟩ := band (xkA (K := K))
  obtain ⟨cd, h1, h2, h3⟩ := c.cls
  refine ⟨?_, (c.find hT (by simp) (by simp)).trans al_ga, (c.find hT (by simp) (by simp)).trans al_gg, ?_, (c.find hT (by simp) (by simp)).trans al_ca, of_decide_eq_true a1, of_decide_eq_true a2, ?_⟩
  · show PySem.W.mroIn K C _ = _
    rw [c.mro]
    simp
  · unfold PySem.W.hasDictIn
    rw [h1]
    exact h2
  · rw [c.mro]
    simp
theorem ClsY.nof (c : ClsY K T C f) (hT : tB K T fs = true) (hf : f ∈ fs) (hff : fldsFree fs = true) : PySem.W.findIn K (.ref C) f = some none :=
  (c.find hT (by simp) (List.mem_append_right _ hf)).trans (of_decide_eq_true (List.all_eq_true.mp hff f hf))
theorem ClsY.ini (c : ClsY K T C f) : ∃ fI, PySem.W.findIn K (.ref C) "__init__" = some (some (.ref fI)) ∧ PySem.W.typeIn K (.ref fI) = some (.type "function") := by
  obtain ⟨nm, q, N, bs, sn, sub, ab, col, dd, k0, k1, k2, k3, k5, ho, hn⟩ := c.ob
  obtain ⟨_, h2⟩ := band hn
  split at h2
  · rename_i a ea
    split at h2
    · rename_i t d1 d2 d3 eo
      have et : t = "function" := beq_iff_eq.mp h2
      refine ⟨a, ?_, ?_⟩
      · have e3 : PySem.W.findIn K (.ref C) "__init__" = PySem.W.alongIn K "__init__" (.ref C :: .ref T :: veTail) := by
          show (match K.lookup C with
            | some ⟨_, _, .cls cd, _⟩ => PySem.W.alongIn K "__init__" cd.mro
            | _ => none) = _
          rw [ho] <;> rfl
        rw [e3]
        have e : PySem.W.ownIn K "__init__" (.ref C) = some (some (.ref a)) := by
          show (match K.lookup C with
            | some ⟨_, _, .cls cd, _⟩ => PySem.W.nsIn K cd.ns "__init__"
            | _ => none) = _
          rw [ho]
          exact ea
        show (match PySem.W.ownIn K "__init__" (.ref C) with
          | some (some v) => some (some v)
          | some none => PySem.W.alongIn K "__init__" (.ref T :: veTail)
          | none => none) = _
        rw [e]
      · show (K.lookup a).map (·.cls) = _
        rw [eo, et]
        rfl
    · cases h2
  · cases h2
end
/-- all that is asked of such a class, from the looks and its __init__ as a datum -/
theorem xmk_y {P : Program} {w : World} {K : PySem.W.Frag} {mg : Str → Option Value} {base : Heap} {T : Addr} {fs : List Str} {x f qual : Str} {fd : FuncData} {p1 p2 q1 q2 q3 q4 : Pos} (hok : fldOk f = true) (hT : tB K T fs = true) (hff : fldsFree fs = true) (hf : f ∈ fs) (c : clsB K T (He.ga K x) f = true)
    (F : FunD K "__init__" qual (iArgs f p1 p2) (iBody f q1 q2 q3 q4) (iScope f) [] [] (He.ma K (He.ga K x) "__init__") fd)
    (hb : ∀ (kV doc pm : Value) (an : Option Addr) (cdv ct : Value) (us : List Value), us.length = 2 → bindArgs (PySem.W.fnOf "__init__" qual (iArgs f p1 p2) (iBody f q1 q2 q3 q4) (iScope f) .none kV doc pm an cdv ct) ⟨us, []⟩ = pure ((["self", f] : List Str).zip us))
    (hk : ∀ (kV doc pm : Value) (an : Option Addr) (cdv ct u1 u2 : Value), bindArgs (PySem.W.fnOf "__init__" qual (iArgs f p1 p2) (iBody f q1 q2 q3 q4) (iScope f) .none kV doc pm an cdv ct) ⟨[u1], [(f, u2)]⟩ = pure ((["self", f] : List Str).zip [u1, u2])) : XMk P w K mg base (He.ga K x) f := by
  have Y := clsY_of c
  obtain ⟨fI, iC, tI⟩ := Y.ini
  have em : He.ma K (He.ga K x) "__init__" = fI := by
    unfold He.ma
    rw [iC]
  rw [em] at F
  refine ⟨Y.oex hT, Y.xk hT, Y.nof hT hf hff, fI, fd, iC, tI, init_ok hok (Y.oex hT) (Y.nof hT hf hff) F, F.bindsN (ps := ["self", f]) hb, ?_⟩
  obtain ⟨oc, od, dV, kV, doc, pm, an, cdv, ct, osl, rfl, lk, hcd, hD, hK⟩ := F.ex
  rcases hD with ⟨_, rfl⟩ | ⟨e, _⟩
  · refine ⟨fun s us ws X l1 l2 => ?_, fun r1 r2 => r1.append r2⟩
    match us, ws, l1, l2 with
    | [u1], [u2], _, _ => exact .of_eq (hk kV doc pm an cdv ct u1 u2)
  · exact absurd rfl e
/-! ### by the module's names -/
def atG (K : PySem.W.Frag) (x : Str) (g : Addr → Bool) : Bool := match PySem.W.nsIn K mainGlobals x with
  | some (some (.ref a)) => g a
  | _ => false
theorem atG_ok {K : PySem.W.Frag} {x : Str} {g : Addr → Bool} (h : atG K x g = true) : PySem.W.nsIn K mainGlobals x = some (some (.ref (He.ga K x))) ∧ g (He.ga K x) = true := by
  unfold atG at h
  split at h
  · rename_i a e
    have ea : He.ga K x = a := by
      unfold He.ga
      rw [e]
    rw [ea]
    exact ⟨e, h⟩
  · cases h
def gasL (K : PySem.W.Frag) : List Str → (List Addr → Bool) → Bool
  | [], k => k []
  | x :: xs, k => atG K x fun a => gasL K xs fun l => k (a :: l)
theorem gasL_ok {K : PySem.W.Frag} : ∀ {xs : List Str} {k : List Addr → Bool}, gasL K xs k = true → k (xs.map (He.ga K)) = true
  | [], _, h => h
  | x :: xs, k, h => by
    obtain ⟨_, h2⟩ := atG_ok (show atG K x (fun a => gasL K xs fun l => k (a :: l)) = true from h)
    exact gasL_ok (xs := xs) (k := fun l => k (He.ga K x :: l)) h2
def distinct : List Addr → Bool
  | [] => true
  | a :: l => (l.all fun b => !(Nat.beq a b)) && distinct l
theorem distinct_ok : ∀ {l : List Addr}, distinct l = true → l.Nodup
  | [], _ => List.nodup_nil
  | a :: l, h => by
    obtain ⟨h1, h2⟩ := band (show ((l.all fun b => !(Nat.beq a b)) && distinct l) = true from h)
    refine List.nodup_cons.mpr ⟨fun z => ?_, distinct_ok h2⟩
    have q := bnot (List.all_eq_true.mp h1 a z)
    rw [show Nat.beq a a = true from Nat.beq_refl a] at q
    cases q
/-- a class of errors without an __init__ -/
def cls0B (K : PySem.W.Frag) (C : Addr) : Bool := PySem.W.excIn K C PySem.HandSPX.veTail "ValueError.__new__" && (PySem.W.keepIn K (.ref C) && (xk1B K C && decide (PySem.W.typeIn K (.ref C) = some (.type "type"))))
open PySem.HandSPX (veTail)
/-- an error's class: its mro is known -/
structure Kn (K : PySem.W.Frag) (T C : Addr) : Prop where
  x : XK1 K C
  m : ∃ cd l, PySem.W.clsIn K C = some cd ∧ cd.mro = .ref C :: l ∧ (l = .ref T :: veTail ∨ (C = T ∧ l = veTail))
  i : (PySem.W.clsIn K C).isSome = true
  t : PySem.W.typeIn K (.ref C) = some (.type "type")
/-- isinstance of it, a class of errors but the base -/
theorem Kn.one {K : PySem.W.Frag} {T C D : Addr} (c : Kn K T C) (d : Kn K T D) (hD : D ≠ T) : PySem.W.kitOne K (.ref C) (.ref D) = some (decide (C = D)) := by
  obtain ⟨cd, l, h1, h2, h3⟩ := c.m
  rw [kit_in h1 h2 d.i d.t]
  have e : l.contains (.ref D) = false := by
    rcases h3 with rfl | ⟨_, rfl⟩
    · simp [hD]
    · simp
  rw [e, Bool.or_false]
theorem Kn.base {K : PySem.W.Frag} {T C : Addr} (c : Kn K T C) (d : Kn K T T) : PySem.W.kitOne K (.ref C) (.ref T) = some true := by
  obtain ⟨cd, l, h1, h2, h3⟩ := c.m
  rw [kit_in h1 h2 d.i d.t]
  rcases h3 with rfl | ⟨e, rfl⟩
  · simp
  · rw [decide_eq_true e, Bool.true_or]
theorem Kn.bi {K : PySem.W.Frag} {T C : Addr} {n : String} (c : Kn K T C) (hn : PySem.W.kitMeta n = true) : PySem.W.kitOne K (.ref C) (.type n) = some (veTail.contains (.type n)) := by
  obtain ⟨cd, l, h1, h2, h3⟩ := c.m
  rw [kit_bi h1 h2 hn]
  rcases h3 with rfl | ⟨_, rfl⟩
  · simp
  · rfl
theorem Kn.of_mro {K : PySem.W.Frag} {T C : Addr} (h1 : mroXB K C T = true) (x : XK1 K C) (t : PySem.W.typeIn K (.ref C) = some (.type "type")) : Kn K T C := by
  unfold mroXB at h1
  cases e : PySem.W.clsIn K C with
  | none => rw [e] at h1; cases h1
  | some cd =>
    rw [e] at h1
    exact ⟨x, ⟨cd, _, e, of_decide_eq_true h1, .inl rfl⟩, by rw [e] <;> rfl, t⟩
inductive AllP {α : Type} (P : α → Prop) : List α → Prop
  | nil : AllP P []
  | cons {a : α} {l : List α} (h : P a) (t : AllP P l) : AllP P (a :: l)
theorem AllP.mem {α : Type} {P : α → Prop} {l : List α} (h : AllP P l) : ∀ a ∈ l, P a := by
  induction h with
  | nil => intro a ha; cases ha
  | cons h t ih =>
    intro a ha
    rcases List.mem_cons.mp ha with e | e
    · rw [e]; exact h
    · exact ih a e
/-- what the laws' defs lean on: clsF the classes of errors that keep one thing, cls0 those that keep nothing, dL the law's defs, frs the names that the module does not bind -/
structure Txt (clsF : List (Str × Str)) (cls0 : List Str) (dL : List He.DefD) (frs : List Str) (P : Program) (w : World) (K : PySem.W.Frag) (mg : Str → Option Value) (base : Heap) (T : Addr) : Prop where
  gC : ∀ p ∈ clsF, mg p.1 = some (.ref (He.ga K p.1))
  mkr : ∀ p ∈ clsF, XMk P w K mg base (He.ga K p.1) p.2
  kn : ∀ p ∈ clsF, Kn K T (He.ga K p.1)
  g0 : ∀ x ∈ cls0, mg x = some (.ref (He.ga K x))
  e0 : ∀ x ∈ cls0, PySem.W.excIn K (He.ga K x) veTail "ValueError.__new__" = true ∧ PySem.W.keepIn K (.ref (He.ga K x)) = true
  k0 : ∀ x ∈ cls0, Kn K T (He.ga K x)
  gT : mg "TellError" = some (.ref T)
  eT : PySem.W.excIn K T veTail "ValueError.__new__" = true ∧ PySem.W.keepIn K (.ref T) = true
  kT : Kn K T T
  nd : (T :: (cls0 ++ clsF.map (·.1)).map (He.ga K)).Nodup
  gF : ∀ d ∈ dL, mg d.name = some (.ref (He.ga K d.name))
  fn : ∀ d ∈ dL, ∃ fd, FunD K d.name d.qual d.params d.body d.scope (d.dvs K) (d.kws K) (He.fAd K d.at_) fd
  fr : ∀ x ∈ frs, mg x = none
/-- the check behind it -/
def exB (clsF : List (Str × Str)) (cls0 flds : List Str) (K : PySem.W.Frag) : Bool := atG K "TellError" fun T => tB K T flds && (cls0B K T && ((clsF.all fun p => atG K p.1 fun C => clsB K T C p.2) &&
  ((cls0.all fun x => atG K x fun C => cls0B K C && mroXB K C T) && gasL K (("TellError" : Str) :: (cls0 ++ clsF.map (·.1))) distinct)))
theorem kn_base {K : PySem.W.Frag} {T : Addr} {fs : List Str} (hT : tB K T fs = true) (x : XK1 K T) : Kn K T T := by
  obtain ⟨⟨cd, h1, h2, h3⟩, h4, _⟩ := tY_of hT
  exact ⟨x, ⟨cd, _, h1, h3, .inr ⟨rfl, rfl⟩⟩, by rw [h1] <;> rfl, h4⟩
theorem cls0_ok {K : PySem.W.Frag} {C : Addr} (h : cls0B K C = true) : PySem.W.excIn K C veTail "ValueError.__new__" = true ∧ PySem.W.keepIn K (.ref C) = true ∧ XK1 K C ∧ PySem.W.typeIn K (.ref C) = some (.type "type") := by
  obtain ⟨h1, h⟩ := band h
  obtain ⟨h2, h⟩ := band h
  obtain ⟨h3, h4⟩ := band h
  exact ⟨h1, h2, xk1B_ok xkA h3, of_decide_eq_true h4⟩
/-- from the facts; the classes' makers are given apart -/
theorem txt_of {clsF : List (Str × Str)} {cls0 flds frs : List Str} {dL fn : List He.DefD} {P : Program} {w : World} {K : PySem.W.Frag} {h : Heap} {mg : Str → Option Value} {base : Heap} (X : K.In h) (G : h.Ns mainGlobals mg)
    (c : SaysY ((dL.map fun d => He.Fa.glo d.name) ++ frs.map He.Fa.free) fn (exB clsF cls0 flds) K) (hsub : ∀ d ∈ dL, d ∈ fn)
    (mk : ∀ (T : Addr), tB K T flds = true → ∀ p ∈ clsF, clsB K T (He.ga K p.1) p.2 = true → XMk P w K mg base (He.ga K p.1) p.2) : Txt clsF cls0 dL frs P w K mg base (He.ga K "TellError") := by
  obtain ⟨c1, c2⟩ := c
  obtain ⟨gt, c2⟩ := atG_ok c2
  obtain ⟨hT, c2⟩ := band c2
  obtain ⟨hT0, c2⟩ := band c2
  obtain ⟨hF, c2⟩ := band c2
  obtain ⟨h0, hn⟩ := band c2
  obtain ⟨t1, t2, t3, t4⟩ := cls0_ok hT0
  have aF := fun p hp => atG_ok (List.all_eq_true.mp hF p hp)
  have a0 := fun p hp => atG_ok (List.all_eq_true.mp h0 p hp)
  refine { gC := fun p hp => PySem.W.mg_of X G (aF p hp).1, mkr := fun p hp => mk _ hT p hp (aF p hp).2, kn := fun p hp => ?_, g0 := fun x hx => PySem.W.mg_of X G (a0 x hx).1, e0 := fun x hx => ?_, k0 := fun x hx => ?_, gT := PySem.W.mg_of X G gt, eT := ⟨t1, t2⟩, kT := kn_base hT t3, nd := ?_, gF := fun d hd => ?_, fn := fun d hd => ?_, fr := fun x hx => ?_ }
  · have Y := clsY_of (aF p hp).2
    obtain ⟨cd, h1, h2, h3⟩ := Y.cls
    exact ⟨Y.xk hT, ⟨cd, _, h1, h3, .inl rfl⟩, by rw [h1] <;> rfl, Y.ty⟩
  · obtain ⟨q1, q2⟩ := band (a0 x hx).2
    obtain ⟨e1, e2, _⟩ := cls0_ok q1
    exact ⟨e1, e2⟩
  · obtain ⟨q1, q2⟩ := band (a0 x hx).2
    obtain ⟨e1, e2, e3, e4⟩ := cls0_ok q1
    exact Kn.of_mro q2 e3 e4
  · have z := distinct_ok (gasL_ok hn)
    simpa using z
  · exact He.glo_ok X G (c1.facts (f := .glo d.name) (List.mem_append_left _ (List.mem_map.mpr ⟨d, hd, rfl⟩)))
  · exact c1.defs (hsub d hd)
  · exact He.free_ok X G (c1.facts (f := .free x) (List.mem_append_right _ (List.mem_map.mpr ⟨x, hx, rfl⟩)))
end HeY
/-! the laws' draws: what _law_start, _law_pick, _law_between do -/
namespace Dw
open PySem PySem.Spec PyProof.Rows L2
abbrev rAddI : R2 := rI0 fun i j => .int (i + j)
abbrev rSubI : R2 := rI0 fun i j => .int (i - j)
abbrev rMulI : R2 := rI CMul fun i j => .int (i * j)
abbrev rModI : R2 := rI (fun _ j => j ≠ 0) fun i j => .int (i.fmod j)
abbrev rDivI : R2 := rI CDivN fun i j => .int (i.fdiv j)
abbrev rPowI : R2 := rI CPow fun i j => .int (i ^ j.toNat)
abbrev rGeI : R2 := rI0 fun i j => .bl (decide (j ≤ i))
abbrev rGtI : R2 := rI0 fun i j => .bl (decide (j < i))
abbrev cInt : List V → Hp → VK → Prop := fun xs H Q => (∃ i, xs = [.int i] ∧ Q (.int i) H) ∨ ∃ k, xs = [.bl k] ∧ Q (.int (if k then 1 else 0)) H
abbrev cAbs : List V → Hp → VK → Prop := fun xs H Q => ∃ i, xs = [.int i] ∧ Q (.int (if i < 0 then -i else i)) H
abbrev cMax : List V → Hp → VK → Prop := fun xs H Q => ∃ i j, xs = [.int i, .int j] ∧ Q (.int (if j > i then j else i)) H
abbrev cList (K : PySem.W.Frag) : List V → Hp → VK → Prop := fun xs H Q => ∃ p ys, xs = [.ref p] ∧ (SqL K H p ys ∨ SqT K H p ys) ∧ ∀ l, H l = none → Q (.ref l) (upd H l (.lst ys))
abbrev ix (K : PySem.W.Frag) (j : Int) : TE := tOp (rIxL K) (tVar 0) (tC (.int j))
def t_start (K : PySem.W.Frag) : TS := tRet (tLst (tCons (tCB (cList K) (tCons (tVar 0) tNil)) (tCons (tC (.int 0)) (tCons (tC (.int 0)) (tCons (tC (.int 29)) tNil)))))
/-- behind the loop -/
def t_tail (K : PySem.W.Frag) : TS :=
  (tSeq (tIfS (tTest (tOp rGtI (ix K 1) (tC (.int 0))))
      (tSeq (tAsg (tOp rModI (tCB cInt (tCons (ix K 1) tNil)) (tVar 1)) (gName 3))
      (tSeq (tAsg (tOp rDivI (ix K 1) (tVar 1)) (gSub (tVar 0) (tC (.int 1)) rSetL)) (tRet (tVar 3)))) tNext)
  (tSeq (tAsg (tOp rModI (tCB cInt (tCons (tOp rPowI (tOp rAddI (tOp rAddI (ix K 3) (tOp rMulI (tC (.int 7907)) (ix K 2))) (tC (.int 104723))) (tC (.int 5))) tNil)) (tC (.int 2147483629))) (gName 4))
    (tRet (tOp rModI (tOp rModI (tCB cInt (tCons (tOp rPowI (tOp rAddI (tOp rAddI (tOp rMulI (tVar 4) (tC (.int 48271))) (tOp rMulI (tC (.int 30011)) (ix K 2))) (tC (.int 31))) (tC (.int 3))) tNil)) (tC (.int 1000000007))) (tVar 1)))))
def t_pick (K : PySem.W.Frag) : TS :=
  tSeq (tAsg (tOp rAddI (ix K 2) (tC (.int 1))) (gSub (tVar 0) (tC (.int 2)) rSetL))
  (tSeq (tWhile (tAnd (tTest (tOp rEq (ix K 1) (tC (.int 0)))) (tTest (tOp (rNeD K) (ix K 0) (tLst tNil))))
    (tSeq (tAsg (tCB cAbs (tCons (tBM K "list" rPopAt (ix K 0) (tCons (tC (.int 0)) tNil)) tNil)) (gName 2))
    (tSeq (tAsg (tOp rModI (tCB cInt (tCons (tOp rAddI (tOp rAddI (tOp rMulI (ix K 3) (tC (.int 6151))) (tVar 2)) (tC (.int 5))) tNil)) (tC (.int 2147483647))) (gSub (tVar 0) (tC (.int 3)) rSetL))
      (tAsg (tIf (tTest (tOp rGeI (tVar 2) (tOp rPowI (tC (.int 10)) (tC (.int 18))))) (tVar 2) (tC (.int 0))) (gSub (tVar 0) (tC (.int 1)) rSetL)))))
  (t_tail K))
def t_between (K : PySem.W.Frag) (sp : Sp) : TS :=
  tRet (tOp rAddI (tVar 1) (tCall sp [] E0 (tCons (tVar 0) (tCons (tOp rAddI (tCB cMax (tCons (tOp rSubI (tVar 2) (tVar 1)) (tCons (tC (.int 0)) tNil))) (tC (.int 1))) tNil))))
/-- the drawn numbers' list at s: its cells at l; n bounds how often was drawn -/
def StAt (H : Hp) (s l : Addr) (n : Nat) : Prop := ∃ (xs : List Int) (cur cnt mix : Int), H s = some (.lst [.ref l, .int cur, .int cnt, .int mix]) ∧ H l = some (.lst (xs.map V.int)) ∧ s ≠ l ∧ 0 ≤ cur ∧ 0 ≤ cnt ∧ cnt ≤ n ∧ 0 ≤ mix ∧ mix < 2147483647
/-- all but the draws' two lists stands as it stood -/
def Fr (s l : Addr) (H H' : Hp) : Prop := ∀ b o, H b = some o → b ≠ s → b ≠ l → H' b = some o
theorem Fr.refl {s l : Addr} {H : Hp} : Fr s l H H := fun _ _ h _ _ => h
theorem Fr.trans {s l : Addr} {H H1 H2 : Hp} (a : Fr s l H H1) (b : Fr s l H1 H2) : Fr s l H H2 := fun c o h n1 n2 => b c o (a c o h n1 n2) n1 n2
theorem Fr.of {s l : Addr} {H H' : Hp} (a : Same H H') : Fr s l H H' := fun c o h _ _ => a c o h
theorem StAt.same {H H' : Hp} {s l : Addr} {n : Nat} (h : StAt H s l n) (a : Same H H') : StAt H' s l n := by
  obtain ⟨xs, cur, cnt, mix, h1, h2, r⟩ := h
  exact ⟨xs, cur, cnt, mix, a _ _ h1, a _ _ h2, r⟩
theorem StAt.mono {H : Hp} {s l : Addr} {n m : Nat} (h : StAt H s l n) (hm : n ≤ m) : StAt H s l m := by
  obtain ⟨xs, cur, cnt, mix, h1, h2, h3, h4, h5, h6, r⟩ := h
  exact ⟨xs, cur, cnt, mix, h1, h2, h3, h4, h5, by omega, r⟩
def spStart (K : PySem.W.Frag) : Sp := fun vs H Q _ => ∃ (a : Addr) (ns : List Int), vs = [.ref a] ∧ SqL K H a (ns.map V.int) ∧ ∀ s l H', StAt H' s l 0 → H s = none → H l = none → Same H H' → Q (.ref s) H'
def spPick : Sp := fun vs H Q _ => ∃ (s l : Addr) (n : Nat) (many : Int), vs = [.ref s, .int many] ∧ 0 < many ∧ many < 1000000 ∧ StAt H s l n ∧ n < 1000000 ∧ ∀ r H', 0 ≤ r → r < many → StAt H' s l (n + 1) → Fr s l H H' → Q (.int r) H'
def spBetween : Sp := fun vs H Q _ => ∃ (s l : Addr) (n : Nat) (lo hi : Int), vs = [.ref s, .int lo, .int hi] ∧ lo ≤ hi ∧ hi - lo < 900000 ∧ StAt H s l n ∧ n < 1000000 ∧ ∀ r H', lo ≤ r → r ≤ hi → StAt H' s l (n + 1) → Fr s l H H' → Q (.int r) H'
theorem pure_start {K : PySem.W.Frag} (vs : List V) (H : Hp) (Q : VK) (E : XK) (h : spStart K vs H Q E) : t_start K { nx := fun _ H' => Q .non H', rt := Q } (start ["script"] vs) H := by
  obtain ⟨a, ns, rfl, hS, k⟩ := h
  refine ⟨_, rfl, a, _, rfl, .inl hS, fun l hl => ⟨by show 4 ≤ sizeLine; decide, fun s hs => ?_⟩⟩
  have hsl : s ≠ l := fun z => by
    rw [z, upd_same] at hs
    cases hs
  rw [upd_ne hsl] at hs
  refine k s l _ ⟨ns, 0, 0, 29, upd_same, by rw [upd_ne hsl.symm, upd_same], hsl, by decide, by decide, by decide, by decide, by decide⟩ hs hl fun b o e => ?_
  rw [upd_ne (ne_of_none e hs), upd_ne (ne_of_none e hl)]
  exact e
theorem pure_between {K : PySem.W.Frag} (vs : List V) (H : Hp) (Q : VK) (E : XK) (h : spBetween vs H Q E) : t_between K spPick { nx := fun _ H' => Q .non H', rt := Q } (start ["state", "low", "high"] vs) H := by
  obtain ⟨s, l, n, lo, hi, rfl, h1, h2, hst, hn, k⟩ := h
  refine ⟨_, rfl, _, rfl, _, rfl, _, rfl, _, _, rfl, rfl, _, _, rfl, _, _, rfl, rfl, ?_⟩
  refine ⟨s, l, n, _, rfl, ?_, ?_, hst, hn, fun r H' r0 r1 hst' fr => ⟨_, _, rfl, rfl, ?_⟩⟩
  · split <;> omega
  · split <;> omega
  · refine k _ _ ?_ ?_ hst' fr
    · omega
    · split at r1 <;> omega
/-- what the state's list says at a place -/
theorem ix_at {K : PySem.W.Frag} {H : Hp} {s : Addr} {vs : List V} {j : Nat} {v : V} {σ : L2.St} {Q : VK} (h0 : σ[0]? = some (some (V.ref s))) (hs : H s = some (.lst vs)) (hv : vs[j]? = some v) (q : Q v H) : ix K (j : Int) σ H Q :=
  ⟨_, h0, s, vs, _, v, rfl, rfl, SqL.of hs, atI_nat hv, q⟩
def PickW (s l : Addr) (many : Int) (n : Nat) (H0 : Hp) (m : Nat) (σ : L2.St) (H : Hp) : Prop := ∃ (xs : List Int) (cur cnt mix : Int) (c : Option V), σ = [some (.ref s), some (.int many), c, none, none] ∧ H s = some (.lst [.ref l, .int cur, .int cnt, .int mix]) ∧ H l = some (.lst (xs.map V.int)) ∧ s ≠ l ∧ 0 ≤ cur ∧ 0 ≤ cnt ∧ cnt ≤ n ∧ 0 ≤ mix ∧ mix < 2147483647 ∧ xs.length = m ∧ Fr s l H0 H
theorem fmod_rng {a b : Int} (h : 0 < b) : 0 ≤ a.fmod b ∧ a.fmod b < b := ⟨Int.fmod_nonneg_of_pos a h, Int.fmod_lt_of_pos a h⟩
theorem dpall_ints {K : PySem.W.Frag} {H : Hp} : ∀ ns : List Int, DpAll K H (ns.map V.int) (ns.map PyData.int)
  | [] => .nil
  | a :: r => .cons (.int a) (dpall_ints r)
theorem depth_ints : ∀ ns : List Int, PyData.depthAll (ns.map PyData.int) = 0
  | [] => by simp [PyData.depthAll]
  | a :: r => by
    rw [List.map_cons, PyData.depthAll, depth_ints r, PyData.depth]
    rfl
theorem can_ints : ∀ ns : List Int, PyData.canLayAll0 (ns.map PyData.int) = true
  | [] => by simp [PyData.canLayAll0]
  | a :: r => by
    rw [List.map_cons, PyData.canLayAll0, can_ints r, PyData.canLay0]
    rfl
theorem shaped_ints (ns : List Int) : SeqAt.shaped (.list (ns.map PyData.int)) = true := by
  unfold SeqAt.shaped
  rw [PyData.canLay0, can_ints, PyData.depth, depth_ints]
  rfl
theorem eqv_nil (ns : List Int) : PyData.eqv (.list (ns.map PyData.int)) (.list []) = ns.isEmpty := by
  cases ns with
  | nil => simp [PyData.eqv, PyData.eqvAll]
  | cons a r => simp [PyData.eqv, PyData.eqvAll]
theorem pure_pick {K : PySem.W.Frag} (vs : List V) (H : Hp) (Q : VK) (E : XK) (h : spPick vs H Q E) : t_pick K { nx := fun _ H' => Q .non H', rt := Q } (start ["state", "many", "cell", "digit", "mixed"] vs) H := by
  obtain ⟨s, l, n, many, rfl, m0, m1, ⟨xs, cur, cnt, mix, h1, h2, hsl, c0, n0, n1, x0, x1⟩, hn, k⟩ := h
  -- state[2] = state[2] + 1
  refine ix_at (j := 2) rfl h1 rfl ⟨_, _, rfl, rfl, ?_⟩
  refine ⟨_, rfl, s, _, 2, 2, rfl, rfl, h1, rfl, ?_⟩
  -- while
  refine ⟨PickW s l many (n + 1) H, ⟨_, xs, cur, cnt + 1, mix, none, rfl, upd_same, by rw [upd_ne hsl.symm]; exact h2, hsl, c0, by omega, by omega, x0, x1, rfl, fun b o e hb hl => by rw [upd_ne hb]; exact e⟩, ?_⟩
  clear h1 h2 c0 n0 n1 x0 x1
  rintro m σ H1 ⟨xs, cur, cnt, mix, c, rfl, h1, h2, _, c0, n0, n1, x0, x1, hm, fr⟩
  -- what follows the loop
  have fin : ∀ H2, (∃ (xs : List Int) (c : Option V), H2 s = some (.lst [.ref l, .int cur, .int cnt, .int mix]) ∧ H2 l = some (.lst (xs.map V.int)) ∧ Fr s l H H2) →
      t_tail K
      { nx := fun _ H' => Q .non H', rt := Q } [some (.ref s), some (.int many), c, none, none] H2 := by
    rintro H2 ⟨xs, _, g1, g2, fr⟩
    refine ix_at (j := 1) rfl g1 rfl ⟨_, _, rfl, rfl, _, rfl, ?_⟩
    refine ite2 (fun hc => ?_) (fun hc => ?_)
    · have hc' : 0 < cur := of_decide_eq_true hc
      refine ix_at (j := 1) rfl g1 rfl (.inl ⟨_, rfl, _, rfl, _, _, rfl, rfl, (by omega), ?_⟩)
      refine ix_at (j := 1) rfl g1 rfl ⟨_, rfl, _, _, rfl, rfl, ⟨by omega, by omega⟩, ?_⟩
      refine ⟨_, rfl, s, _, 1, 1, rfl, rfl, g1, rfl, _, rfl, ?_⟩
      have r := fmod_rng (a := cur) m0
      refine k _ _ r.1 r.2 ⟨xs, _, cnt, mix, upd_same, by rw [upd_ne hsl.symm]; exact g2, hsl, ?_, n0, n1, x0, x1⟩ (fun b o e hb hl => by rw [upd_ne hb]; exact fr b o e hb hl)
      rw [Int.fdiv_eq_ediv_of_nonneg _ (by omega)]
      exact Int.ediv_nonneg (by omega) (by omega)
    · refine ix_at (j := 3) rfl g1 rfl ?_
      refine ix_at (j := 2) rfl g1 rfl ⟨_, _, rfl, rfl, .inl ⟨by decide, by decide⟩, ?_⟩
      refine ⟨_, _, rfl, rfl, _, _, rfl, rfl, _, _, rfl, rfl, ⟨by decide, by decide, ?_⟩, .inl ⟨_, rfl, _, _, rfl, rfl, (by show (2147483629 : Int) ≠ 0; decide), ?_⟩⟩
      · omega
      have r := fmod_rng (a := (mix + 7907 * cnt + 104723) ^ (5 : Int).toNat) (b := 2147483629) (by decide)
      refine ⟨_, rfl, _, _, rfl, rfl, .inl ⟨by omega, by omega⟩, ?_⟩
      refine ix_at (j := 2) rfl g1 rfl ⟨_, _, rfl, rfl, .inl ⟨by decide, by decide⟩, ?_⟩
      refine ⟨_, _, rfl, rfl, _, _, rfl, rfl, _, _, rfl, rfl, ⟨by decide, by decide, ?_⟩, .inl ⟨_, rfl, _, _, rfl, rfl, (by show (1000000007 : Int) ≠ 0; decide), _, rfl, _, _, rfl, rfl, (by omega), ?_⟩⟩
      · omega
      have r2 := fmod_rng (a := (((mix + 7907 * cnt + 104723) ^ (5 : Int).toNat).fmod 2147483629 * 48271 + 30011 * cnt + 31) ^ (3 : Int).toNat |>.fmod 1000000007) m0
      exact k _ _ r2.1 r2.2 ⟨xs, cur, cnt, mix, g1, g2, hsl, c0, n0, n1, x0, x1⟩ fr
  refine ix_at (j := 1) rfl h1 rfl ⟨rfl, _, rfl, ?_⟩
  refine ite2 (fun hc => ?_) (fun hc => ?_)
  · have hc' : cur = 0 := V.int.inj (of_decide_eq_true hc)
    refine ix_at (j := 0) rfl h1 rfl ⟨by show 0 ≤ sizeLine; exact Nat.zero_le _, fun p hp => ?_⟩
    have nps : s ≠ p := ne_of_none h1 hp
    have npl : l ≠ p := ne_of_none h2 hp
    refine ⟨.list (xs.map PyData.int), .list [], .lst (SqL.of (by rw [upd_ne npl]; exact h2)) (dpall_ints xs), .lst (SqL.of upd_same) .nil, shaped_ints xs, shaped_ints [], _, rfl, ?_⟩
    rw [eqv_nil]
    have g1 : ∀ o, upd H1 p o s = some (.lst [.ref l, .int cur, .int cnt, .int mix]) := fun o => by rw [upd_ne nps]; exact h1
    have g2 : ∀ o, upd H1 p o l = some (.lst (xs.map V.int)) := fun o => by rw [upd_ne npl]; exact h2
    have frp : ∀ o, Fr s l H (upd H1 p o) := fun o b u e hb hl => by
      have z := fr b u e hb hl
      rw [upd_ne (ne_of_none z hp)]
      exact z
    cases xs with
    | nil =>
      refine iteF ?_
      exact fin _ ⟨[], none, g1 _, g2 _, frp _⟩
    | cons x xs =>
      refine iteT ?_
      have hm' : xs.length < m := by
        rw [List.length_cons] at hm
        omega
      refine ⟨fun σ' H' => ∃ m', m' < m ∧ PickW s l many (n + 1) H m' σ' H', fun σ' H' z => z, ?_⟩
      refine ix_at (j := 0) rfl (g1 _) rfl ⟨.inl ⟨rfl, _, SqL.of (g2 _)⟩, l, _, 0, 0, _, rfl, rfl, g2 _, by decide, by decide, ?_, rfl, _, rfl, ?_⟩
      · unfold seqIndex?
        simp
      have e1 : ∀ o, (upd (upd H1 p (.lst [])) l o) s = some (.lst [.ref l, .int cur, .int cnt, .int mix]) := fun o => by rw [upd_ne hsl]; exact g1 _
      refine ix_at (j := 3) rfl (e1 _) rfl ⟨_, _, rfl, rfl, .inl ⟨by omega, by omega⟩, _, rfl, _, _, rfl, rfl, _, _, rfl, rfl, .inl ⟨_, rfl, _, _, rfl, rfl, (by show (2147483647 : Int) ≠ 0; decide), ?_⟩⟩
      refine ⟨_, rfl, s, _, 3, 3, rfl, rfl, e1 _, rfl, ?_⟩
      generalize hz : (if x < 0 then -x else x) = z
      have z0 : 0 ≤ z := by
        rw [← hz]
        split <;> omega
      have r := fmod_rng (a := mix * 6151 + z + 5) (b := 2147483647) (by decide)
      refine ⟨_, rfl, _, _, rfl, rfl, ⟨by decide, by decide, by decide⟩, _, _, rfl, rfl, _, rfl, ?_⟩
      have last : ∀ c2 : Int, 0 ≤ c2 → ∀ H3, H3 s = some (.lst [.ref l, .int cur, .int cnt, .int ((mix * 6151 + z + 5).fmod 2147483647)]) → H3 l = some (.lst (xs.map V.int)) → Fr s l H H3 →
          gSub (tVar 0) (tC (.int 1)) rSetL (.int c2) [some (.ref s), some (.int many), some (.int z), none, none] H3 (fun σ' H' => ∃ m', m' < m ∧ PickW s l many (n + 1) H m' σ' H') := fun c2 hc2 H3 e1 e2 e3 =>
        ⟨_, rfl, s, _, 1, 1, rfl, rfl, e1, rfl, xs.length, hm', xs, c2, cnt, _, _, rfl, upd_same, by rw [upd_ne hsl.symm]; exact e2, hsl, hc2, n0, n1, r.1, r.2, rfl, fun b o e hb hl => by rw [upd_ne hb]; exact e3 b o e hb hl⟩
      have q2 : (upd (upd (upd H1 p (.lst [])) l (.lst ((List.map V.int (x :: xs)).eraseIdx 0))) s (.lst [.ref l, .int cur, .int cnt, .int ((mix * 6151 + z + 5).fmod 2147483647)])) l = some (.lst (xs.map V.int)) := by
        rw [upd_ne hsl.symm, upd_same]
        rfl
      have q3 : Fr s l H (upd (upd (upd H1 p (.lst [])) l (.lst ((List.map V.int (x :: xs)).eraseIdx 0))) s (.lst [.ref l, .int cur, .int cnt, .int ((mix * 6151 + z + 5).fmod 2147483647)])) := fun b o e hb hl => by
        rw [upd_ne hb, upd_ne hl]
        exact frp _ b o e hb hl
      refine ite2 (fun hc => ?_) (fun hc => ?_)
      · exact ⟨_, rfl, last z z0 _ upd_same q2 q3⟩
      · exact last 0 (by decide) _ upd_same q2 q3
  · exact fin _ ⟨xs, none, h1, h2, fr⟩
end Dw
/-! what the laws about errors share: isinstance of an error, many at once; lists of errors; the numbers of the classes -/
namespace Er
open PySem PySem.Spec PyProof.Rows L2 HeY Dw
open PySem.HandSPX (veTail)
theorem Same.new {H : Hp} {p : Addr} {o : HO} (h : H p = none) : Same H (upd H p o) := fun b u e => by
  rw [upd_ne (ne_of_none e h)]
  exact e
/-- an object that H does not know may change -/
theorem Same.mut {H H' : Hp} {p : Addr} {o : HO} (e : Same H H') (h : H p = none) : Same H (upd H' p o) := fun a u ha => by
  rw [upd_ne (ne_of_none ha h)]
  exact e a u ha
/-! ### isinstance of an error -/
def tIsx (K : PySem.W.Frag) (T : Addr) (i : Nat) (D : Addr) : TE := fun σ H Q => ∃ a C, σ[i]? = some (some (V.ref a)) ∧ ExAt H a C ∧ Kn K T C ∧ Q (.bl (decide (C = D))) H
section
variable {X : Cx} {T D : Addr} {i : Nat} {x c : Str} {p p1 p2 pos : Pos}
theorem pe_isx (gI : X.mg "isinstance" = none) (gD : X.mg c = some (.ref D)) (kD : Kn X.K T D) (hD : D ≠ T) (hg : Gl X "isinstance" := by rfl) (hc : Gl X c := by rfl) (hN : X.N[i]? = some x := by rfl)
    (hv : Vis X.env.scope x := by first | exact Or.inl rfl | exact Or.inr (Or.inl rfl) | exact Or.inr (Or.inr rfl)) (hd : (x == ("__debug__" : Str)) = false := by decide) (hcd : (x == ("__classdict__" : Str)) = false := by decide) (hdc : (c == ("__debug__" : Str)) = false := by decide)
    (hs : starEach [.Name x p1, .Name c p2] X.env = (false, eval (.Name x p1) X.env) :: starEach [.Name c p2] X.env := by rfl) (hs2 : starEach [.Name c p2] X.env = (false, eval (.Name c p2) X.env) :: starEach [] X.env := by rfl) :
    PE X (.Call (.Name "isinstance" p) [.Name x p1, .Name c p2] [] pos) (tIsx X.K T i D) := by
  refine ⟨fun pins s σ H Q I h => ?_⟩
  obtain ⟨a, C, h0, ea, kC, q⟩ := h
  have pa : PA X [.Name x p1, .Name c p2] (tCons (tVar i) (tCons (tC (.ref D)) tNil)) := pa_cons (pe_var hN hv hd hcd) (pa_cons (pe_glob hc gD rfl hdc) pa_nil hs2) hs
  exact (pe_callB call_isX hg gI (by decide +kernel) pa).run pins s σ H Q I ⟨_, h0, a, C, _, _, _, rfl, ea, kC.x, .own D, kC.one kD hD, q⟩
end
def tIss (K : PySem.W.Frag) (T : Addr) (i : Nat) : List Addr → TA
  | [] => tNil
  | D :: r => tCons (tIsx K T i D) (tIss K T i r)
theorem iss_ok {K : PySem.W.Frag} {T : Addr} {i : Nat} {a C : Addr} {σ : L2.St} {H : Hp} (h0 : σ[i]? = some (some (V.ref a))) (ea : ExAt H a C) (kC : Kn K T C) : ∀ {Ds : List Addr} {Q : List V → Hp → Prop}, Q (Ds.map fun D => V.bl (decide (C = D))) H → tIss K T i Ds σ H Q
  | [], Q, q => q
  | D :: r, Q, q => ⟨a, C, h0, ea, kC, iss_ok h0 ea kC (Ds := r) (Q := fun xs H2 => Q (V.bl (decide (C = D)) :: xs) H2) q⟩
/-- isinstance(e, (C1, C2, ..)) -/
def tIsT (K : PySem.W.Frag) (T : Addr) (i : Nat) (Ds : List Addr) : TE := fun σ H Q => Ds.length ≤ 1000 ∧ ∃ a C, σ[i]? = some (some (V.ref a)) ∧ ExAt H a C ∧ Kn K T C ∧ ∀ H', Same H H' → Q (.bl (decide (C ∈ Ds))) H'
theorem kitAny_of {K : PySem.W.Frag} {T C : Addr} (kC : Kn K T C) : ∀ {Ds : List Addr}, (∀ D ∈ Ds, Kn K T D ∧ D ≠ T) → PySem.W.kitAny K (.ref C) (Ds.map Value.ref) = some (decide (C ∈ Ds))
  | [], _ => by simp [PySem.W.kitAny]
  | D :: r, h => by
    have h1 := h D List.mem_cons_self
    have ih := kitAny_of kC (Ds := r) fun D' hD => h D' (List.mem_cons_of_mem _ hD)
    refine kitAny_cons (b := decide (C = D)) (kC.one h1.1 h1.2) (fun e => ?_) fun e => ?_
    · show PySem.W.kitAny K (.ref C) (r.map Value.ref) = _
      rw [ih]
      have e2 : C ≠ D := of_decide_eq_false e
      simp [e2]
    · have e2 : C = D := of_decide_eq_true e
      simp [e2]
def tGls : List Addr → TA
  | [] => tNil
  | D :: r => tCons (tC (.ref D)) (tGls r)
theorem gls_ok {σ : L2.St} {H : Hp} : ∀ {Ds : List Addr} {Q : List V → Hp → Prop}, Q (Ds.map V.ref) H → tGls Ds σ H Q
  | [], Q, q => q
  | D :: r, Q, q => gls_ok (Ds := r) (Q := fun xs H2 => Q (V.ref D :: xs) H2) q
theorem pair_refs : ∀ Ds : List Addr, Paired ClsV (Ds.map V.ref) (Ds.map Value.ref)
  | [] => .nil
  | D :: r => .cons (.own D) (pair_refs r)
section
variable {X : Cx} {T : Addr} {i : Nat} {x : Str} {p p1 tpos pos : Pos} {es : List Expr} {x1 : ExprContext} {Ds : List Addr}
end
/-! ### lists of errors -/
/-- C(x), C(f = x), C(): what of it is told to the rest -/
def tNew (C : Addr) : TE := fun _ H Q => ∀ a H2, Same H H2 → ExAt H2 a C → Q (.ref a) H2
def tNewF (C : Addr) (f : Str) (i : Nat) : TE := fun σ H Q => ∃ v, σ[i]? = some (some v) ∧ ∀ a H2, Same H H2 → ExF H2 a C f v → Q (.ref a) H2
section
variable {X : Cx} {C : Addr} {f x y : Str} {i : Nat} {p p1 pos kpos : Pos}
theorem xmk_strong {σ : L2.St} {H : Hp} {Q : VK} (h : tNewF C f i σ H Q) : tXMk C f (tVar i) σ H Q := by
  obtain ⟨v, h0, k⟩ := h
  refine ⟨v, h0, fun a d ha hd hda => k a _ (fun b o e => ?_) ⟨d, upd_same, by rw [upd_ne hda, upd_same]⟩⟩
  rw [upd_ne (ne_of_none e ha), upd_ne (ne_of_none e hd)]
  exact e
/-- C(x), x a name of the def -/
theorem pe_newF (T : XMk X.prog X.w X.K X.mg X.base C f) (hr : Room 2 X.A) (hm : X.mg x = some (.ref C)) (hg : Gl X x := by rfl) (hN : X.N[i]? = some y := by rfl)
    (hv : Vis X.env.scope y := by first | exact Or.inl rfl | exact Or.inr (Or.inl rfl) | exact Or.inr (Or.inr rfl)) (hd : (y == ("__debug__" : Str)) = false := by decide) (hcd : (y == ("__classdict__" : Str)) = false := by decide) (hdb : (x == ("__debug__" : Str)) = false := by decide)
    (he : starEach [.Name y p1] X.env = (false, eval (.Name y p1) X.env) :: starEach [] X.env := by rfl) : PE X (.Call (.Name x p) [.Name y p1] [] pos) (tNewF C f i) :=
  ⟨fun pins s σ H Q I h => (pe_xmk T hr hg hm (pe_var hN hv hd hcd) hdb he).run pins s σ H Q I (xmk_strong h)⟩
theorem pe_newFK (T : XMk X.prog X.w X.K X.mg X.base C f) (hr : Room 2 X.A) (hm : X.mg x = some (.ref C)) (hg : Gl X x := by rfl) (hN : X.N[i]? = some y := by rfl)
    (hv : Vis X.env.scope y := by first | exact Or.inl rfl | exact Or.inr (Or.inl rfl) | exact Or.inr (Or.inr rfl)) (hd : (y == ("__debug__" : Str)) = false := by decide) (hcd : (y == ("__classdict__" : Str)) = false := by decide) (hdb : (x == ("__debug__" : Str)) = false := by decide)
    (hall : (backToKw pos (keywordEach [⟨some f, .Name y p1, kpos⟩] X.env)).all (·.1.isSome) = true := by rfl) (hks : (backToKw pos (keywordEach [⟨some f, .Name y p1, kpos⟩] X.env)).filterMap (·.1) = [f] := by rfl)
    (hpl : ((backTo pos (starEach [] X.env)).any (·.1) || (backToKw pos (keywordEach [⟨some f, .Name y p1, kpos⟩] X.env)).any (·.1.isNone)) = false := by rfl) :
    PE X (.Call (.Name x p) [] [⟨some f, .Name y p1, kpos⟩] pos) (tNewF C f i) :=
  ⟨fun pins s σ H Q I h => (pe_xmkK T hr hg hm (pe_var hN hv hd hcd) hdb hall hks hpl).run pins s σ H Q I (xmk_strong h)⟩
/-- C(x), of which only the class is asked later: x is at hand -/
def tNewA (C : Addr) (i : Nat) : TE := fun σ H Q => (∃ v, σ[i]? = some (some v)) ∧ ∀ a H2, Same H H2 → ExAt H2 a C → Q (.ref a) H2
theorem pe_newA {e : Expr} (h : PE X e (tNewF C f i)) : PE X e (tNewA C i) :=
  ⟨fun pins s σ H Q I q => h.run pins s σ H Q I (by
    obtain ⟨⟨v, h0⟩, k⟩ := q
    exact ⟨v, h0, fun a H2 s2 e2 => k a H2 s2 e2.at⟩)⟩
theorem pe_new0 (q : PySem.W.excIn X.K C veTail "ValueError.__new__" = true ∧ PySem.W.keepIn X.K (.ref C) = true) (gC : X.mg x = some (.ref C)) (hg : Gl X x := by rfl) (hdb : (x == ("__debug__" : Str)) = false := by decide) : PE X (.Call (.Name x p) [] [] pos) (tNew C) :=
  ⟨fun pins s σ H Q I h => (pe_xmk0 q.1 gC q.2 hg hdb).run pins s σ H Q I fun a ha => h a _ (Same.new ha) (.inl upd_same)⟩
theorem pe_new0A (q : PySem.W.excIn X.K C veTail "ValueError.__new__" = true ∧ PySem.W.keepIn X.K (.ref C) = true) (gC : X.mg x = some (.ref C)) (hg : Gl X x := by rfl) (hdb : (x == ("__debug__" : Str)) = false := by decide) : PE X (.Call (.Name x p) [] [] pos) (tNewA C i) :=
  ⟨fun pins s σ H Q I h => (pe_new0 q gC hg hdb).run pins s σ H Q I h.2⟩
end
def tNews (i : Nat) : List Addr → TA
  | [] => tNil
  | C :: r => tCons (tNewA C i) (tNews i r)
/-- errors of these classes stand there -/
def ExAll (H : Hp) : List V → List Addr → Prop
  | [], [] => True
  | v :: vs, C :: Cs => (∃ a, v = .ref a ∧ ExAt H a C) ∧ ExAll H vs Cs
  | _, _ => False
theorem ExAll.mono {H H' : Hp} (s : Same H H') : ∀ {vs : List V} {Cs : List Addr}, ExAll H vs Cs → ExAll H' vs Cs
  | [], [], _ => trivial
  | v :: vs, C :: Cs, ⟨⟨a, e, h⟩, r⟩ => ⟨⟨a, e, h.mono s⟩, ExAll.mono s r⟩
  | [], _ :: _, h => h.elim
  | _ :: _, [], h => h.elim
theorem ExAll.len {H : Hp} : ∀ {vs : List V} {Cs : List Addr}, ExAll H vs Cs → vs.length = Cs.length
  | [], [], _ => rfl
  | v :: vs, C :: Cs, ⟨_, r⟩ => congrArg (· + 1) (ExAll.len r)
  | [], _ :: _, h => h.elim
  | _ :: _, [], h => h.elim
theorem ExAll.app {H : Hp} : ∀ {vs ws : List V} {Cs Ds : List Addr}, ExAll H vs Cs → ExAll H ws Ds → ExAll H (vs ++ ws) (Cs ++ Ds)
  | [], _, [], _, _, h => h
  | v :: vs, _, C :: Cs, _, ⟨e, r⟩, h => ⟨e, ExAll.app r h⟩
  | [], _, _ :: _, _, h, _ => h.elim
  | _ :: _, _, [], _, h, _ => h.elim
theorem ExAll.get {H : Hp} : ∀ {vs : List V} {Cs : List Addr} {i : Nat} {v : V}, ExAll H vs Cs → vs[i]? = some v → ∃ C a, Cs[i]? = some C ∧ v = .ref a ∧ ExAt H a C
  | [], [], i, v, _, e => by simp at e
  | v :: vs, C :: Cs, 0, w, ⟨⟨a, ea, h⟩, _⟩, e => by
    have e2 : v = w := by simpa using e
    exact ⟨C, a, rfl, e2 ▸ ea, h⟩
  | v :: vs, C :: Cs, i + 1, w, ⟨_, r⟩, e => by
    obtain ⟨D, a, h1, h2⟩ := ExAll.get (i := i) r (by simpa using e)
    exact ⟨D, a, by simpa using h1, h2⟩
  | [], _ :: _, _, _, h, _ => h.elim
  | _ :: _, [], _, _, h, _ => h.elim
theorem news_ok {i : Nat} {σ : L2.St} (h0 : ∃ v, σ[i]? = some (some v)) : ∀ {Cs : List Addr} {H : Hp} {Q : List V → Hp → Prop}, (∀ vs H2, Same H H2 → ExAll H2 vs Cs → Q vs H2) → tNews i Cs σ H Q
  | [], H, Q, k => k [] H (Same.refl H) trivial
  | C :: r, H, Q, k => ⟨h0, fun a H2 s ea => news_ok h0 (Cs := r) (Q := fun xs H2 => Q (V.ref a :: xs) H2) fun vs H3 s3 er => k _ H3 (s.trans s3) ⟨⟨a, rfl, ea.mono s3⟩, er⟩⟩
/-! ### [k for k in range(n) if told[k]] -/
def idx (c : Int) (bs : List Bool) (n : Nat) : List V := ((List.range n).filter fun k => bs[k]? == some true).map fun (k : Nat) => V.int (c + (k : Int))
theorem idx_step (c : Int) (bs : List Bool) (n : Nat) : idx c bs (n + 1) = idx c bs n ++ (if bs[n]? == some true then [V.int (c + (n : Int))] else []) := by
  unfold idx
  rw [List.range_succ, List.filter_append, List.map_append]
  by_cases h : (bs[n]? == some true) = true
  · rw [List.filter_cons, if_pos h, if_pos h]
    rfl
  · rw [List.filter_cons, if_neg h, if_neg h]
    rfl
theorem idx_len (c : Int) (bs : List Bool) (n : Nat) : (idx c bs n).length ≤ n := by
  unfold idx
  rw [List.length_map]
  have h := List.length_filter_le (fun k => bs[k]? == some true) (List.range n)
  rw [List.length_range] at h
  exact h
/-- the reading of the comprehension: told's list at slot j, k's slot i, elt the element -/
theorem lc_idx {K : PySem.W.Frag} {σ : L2.St} {H : Hp} {Q : VK} {i j : Nat} {p : Addr} {bs : List Bool} {n : Nat} {c : Int} {te : TE} (hw : wipe σ [i] = σ.set i none) (hi : i < σ.length) (hij : j ≠ i) (hj : σ[j]? = some (some (V.ref p))) (hp : H p = some (.lst (bs.map V.bl))) (hn : n ≤ bs.length) (hz : n < 100000)
    (he : ∀ (k : Nat) H1 (Q1 : VK), Q1 (.int (c + k)) H1 → te ((σ.set i none).set i (some (.int (0 + (k : Int))))) H1 Q1)
    (k : ∀ D H', H D = none → Same H H' → H' D = some (.lst (idx c bs n)) → Q (.ref D) H') :
    tLc (iRng1 (tCons (tC (.int n)) tNil)) (gName i) (tTest (tOp (rIxL K) (tVar j) (tVar i))) te [i] σ H Q := by
  refine ⟨n, rfl, by omega, by omega, fun D hD => ?_⟩
  have e0 : ((n : Int).toNat) = n := Int.toNat_natCast n
  show ∃ W, _
  rw [e0]
  refine lc_range (lo := 0) (n := n) (fun m H' => Same H H' ∧ H' D = some (.lst (idx c bs m))) ⟨Same.new hD, upd_same⟩ (fun m H' hm ⟨s, hl⟩ => ?_) fun H' ⟨s, hl⟩ => k D H' hD s hl
  show wipe ((wipe σ [i]).set i (some (V.int (0 + (m : Int))))) [i] = wipe σ [i] ∧ _
  rw [hw]
  refine ⟨?_, ?_⟩
  · show ((σ.set i none).set i (some (V.int (0 + (m : Int))))).set i none = _
    rw [List.set_set, List.set_set]
  · have hb : ∃ b, bs[m]? = some b := ⟨bs[m]'(by omega), List.getElem?_eq_getElem (by omega)⟩
    obtain ⟨b, hb⟩ := hb
    refine ⟨V.ref p, ?_, V.int (0 + (m : Int)), ?_, p, bs.map V.bl, _, V.bl b, rfl, rfl, SqL.of (s _ _ hp), ?_, b, rfl, ?_⟩
    · rw [List.getElem?_set_ne (Ne.symm hij), List.getElem?_set_ne (Ne.symm hij)]
      exact hj
    · rw [List.getElem?_set_self (by rw [List.length_set]; exact hi)]
    · rw [Int.zero_add]
      exact atI_nat (by rw [List.getElem?_map, hb]; rfl)
    · have st := idx_step c bs m
      rw [hb] at st
      cases b with
      | true =>
        refine iteT ?_
        refine he m H' _ ⟨_, hl, Nat.lt_of_le_of_lt (Nat.le_trans (idx_len c bs m) (by omega : m ≤ 100000)) (by decide), Same.mut s hD, ?_⟩
        rw [upd_same, st]
        rfl
      | false =>
        refine iteF ⟨s, ?_⟩
        rw [hl, st]
        show _ = some (HO.lst (idx c bs m ++ []))
        rw [List.append_nil]
end Er
namespace Er
open PySem PySem.Spec PyProof.Rows L2 HeY Dw
/-- a def of the module's own, as its callers see it: what it promises, how it is called -/
structure Cal (P : Program) (w : World) (K : PySem.W.Frag) (mg : Str → Option Value) (base : Heap) (x : Str) (k : Nat) (ps : List Str) (sp : Sp) : Prop where
  ex : ∃ fd, FnOk P w K mg base CX0 k (He.ga K x) fd ps sp ∧ Binds K fd ps []
  kp : PySem.W.keepIn K (.ref (He.ga K x)) = true
  mgx : mg x = some (.ref (He.ga K x))
theorem Cal.mono {P : Program} {w : World} {K : PySem.W.Frag} {mg : Str → Option Value} {base : Heap} {x : Str} {j k : Nat} {ps : List Str} {sp : Sp} (c : Cal P w K mg base x j ps sp) (h : j ≤ k) : Cal P w K mg base x k ps sp := by
  obtain ⟨⟨fd, F, b⟩, kp, g⟩ := c
  exact ⟨⟨fd, F.mono h, b⟩, kp, g⟩
theorem Cal.imp {P : Program} {w : World} {K : PySem.W.Frag} {mg : Str → Option Value} {base : Heap} {x : Str} {k : Nat} {ps : List Str} {sp sp' : Sp} (c : Cal P w K mg base x k ps sp) (h : ∀ vs H Q E, sp' vs H Q E → sp vs H Q E) : Cal P w K mg base x k ps sp' := by
  obtain ⟨⟨fd, F, b⟩, kp, g⟩ := c
  exact ⟨⟨fd, F.imp h, b⟩, kp, g⟩
section
variable {X : Cx} {x : Str} {k : Nat} {ps : List Str} {sp : Sp} {e : Expr} {es : List Expr} {t : TA} {p pos : Pos}
theorem pe_cal (c : Cal X.prog X.w X.K X.mg X.base x k ps sp) (hr : Room k X.A) (ha : PA X (e :: es) t) (hg : Gl X x := by rfl) (hdb : (x == ("__debug__" : Str)) = false := by decide)
    (he : starEach (e :: es) X.env = (false, eval e X.env) :: starEach es X.env := by rfl) (hpl : (backTo pos (starEach es X.env)).any (·.1) = false := by rfl) : PE X (.Call (.Name x p) (e :: es) [] pos) (tCall sp [] E0 t) := by
  obtain ⟨⟨fd, F, b⟩, kp, g⟩ := c
  exact pe_call F hr hg g kp b .nil pass0 ha hdb he hpl
end
theorem cal_of {P : Program} {w : World} {K : PySem.W.Frag} {mg : Str → Option Value} {base : Heap} {x : Str} {params : Arguments} {body : List Stmt} {scope : Scope} {N ps : List Str} {k : Nat} {sp : Sp} (F : ∃ fd, FunD K x x params body scope [] [] (He.ga K x) fd) (g : mg x = some (.ref (He.ga K x)))
    (S : FnScope N ps scope) (hb : ∀ (kV doc pm : Value) (an : Option Addr) (cdv ct : Value) (us : List Value), us.length = ps.length → bindArgs (PySem.W.fnOf x x params body scope .none kV doc pm an cdv ct) ⟨us, []⟩ = pure (ps.zip us))
    (len : ∀ vs H Q E, sp vs H Q E → vs.length = ps.length)
    (hbody : ∀ (cdv : Value) (A : Around) (outer : List Env) (s : Shared) (H : Hp) (vs : List V) (Q : VK) (E : XK), Room k (A.deeper (envOfC x scope s.heap.objs.size (He.ga K x) cdv)) → sp vs H Q E →
      ∃ t, PSs (cxOf CX0 P w K mg base N x scope (He.ga K x) cdv A outer s H E).nox body t ∧ t { nx := fun _ H' => Q .non H', rt := Q } (start N vs) H) : Cal P w K mg base x (k + 1) ps sp := by
  obtain ⟨fd, F⟩ := F
  refine ⟨⟨fd, F.ok S len fun cdv A outer s H vs Q E hr h => ?_, F.bindsN hb⟩, F.kp, g⟩
  obtain ⟨t, ht, q⟩ := hbody cdv A outer s H vs Q E hr h
  exact ⟨t, ht.nox, q⟩
theorem if_int {σ : L2.St} {H : Hp} {D : Ends} {i : Nat} {k m : Int} {t u : TS} (h0 : σ[i]? = some (some (V.int k))) (h1 : k = m → t D σ H) (h2 : k ≠ m → u D σ H) : tIfS (tTest (tOp rEq (tVar i) (tC (.int m)))) t u D σ H :=
  ⟨_, h0, rfl, _, rfl, ite2 (fun h => h1 (V.int.inj (of_decide_eq_true h))) fun h => h2 fun e => h (decide_eq_true (congrArg V.int e))⟩
theorem if_lt {σ : L2.St} {H : Hp} {D : Ends} {i : Nat} {k m : Int} {t u : TS} (h0 : σ[i]? = some (some (V.int k))) (h1 : k < m → t D σ H) (h2 : ¬ k < m → u D σ H) : tIfS (tTest (tOp (rI0 fun i j => .bl (decide (i < j))) (tVar i) (tC (.int m)))) t u D σ H :=
  ⟨_, h0, _, _, rfl, rfl, _, rfl, ite2 (fun h => h1 (of_decide_eq_true h)) fun h => h2 fun e => h (decide_eq_true e)⟩
theorem yes_ok {A B : Hp → Prop} {σ : L2.St} {H : Hp} (h : A H) : tYes σ H (fun b H3 => if b = true then A H3 else B H3) := by
  show (if true = true then A H else B H)
  rw [if_pos rfl]
  exact h
/-! ### two errors of a class, and what they keep -/
def tMade (K : PySem.W.Frag) (C : Addr) (f : Str) : TS :=
  tSeq (tAsg (tLst (tCons (tNewF C f 1) (tCons (tNewF C f 1) tNil))) (gName 2))
    (tRet (tTup (tCons (tVar 2) (tCons (tLc (iList K (tVar 2)) (gName 3) tYes (tXv K f (tVar 3)) [3]) tNil))))
/-- the answer (made, kept): two errors of the class at C, twice the thing x -/
def Made2 (H : Hp) (p C : Addr) (x : V) : Prop := ∃ m k a b, H p = some (.tup [.ref m, .ref k]) ∧ H m = some (.lst [.ref a, .ref b]) ∧ H k = some (.lst [x, x]) ∧ ExAt H a C ∧ ExAt H b C
theorem made_ok {K : PySem.W.Frag} {C : Addr} {f : Str} {at_ x : V} {H : Hp} {Q : VK} {nx : L2.St → Hp → Prop} (T : XK1 K C) (hno : PySem.W.findIn K (.ref C) f = some none) (k : ∀ p H', H p = none → Same H H' → Made2 H' p C x → Q (.ref p) H') :
    tMade K C f { nx := nx, rt := Q } [some at_, some x, none, none] H := by
  refine ⟨x, rfl, fun a H1 s1 ea => ⟨x, rfl, fun b H2 s2 eb => ⟨by show 2 ≤ sizeLine; decide, fun m hm => ?_⟩⟩⟩
  refine ⟨_, rfl, _, rfl, m, rfl, ⟨_, SqL.of upd_same⟩, fun D hD => ?_⟩
  have sm : Same H2 (upd H2 m (.lst [.ref a, .ref b])) := Same.new hm
  have ea2 := (ea.mono s2).mono sm
  have eb2 := eb.mono sm
  refine lc_list (xs := [.ref a, .ref b]) (fun i H' => Same (upd H2 m (.lst [.ref a, .ref b])) H' ∧ H' D = some (.lst (List.replicate i x))) ⟨Same.new hD, upd_same⟩ (fun i H' _ ⟨s, _⟩ => s.seq (SqL.of upd_same)) (fun i y H' hi ⟨s, hl⟩ => ?_) fun H' ⟨s, hl⟩ => ?_
  · have ey : ∃ e, y = .ref e ∧ ExF (upd H2 m (.lst [.ref a, .ref b])) e C f x := by
      match i, hi with
      | 0, hi => exact ⟨a, (Option.some.inj hi).symm, ea2⟩
      | 1, hi => exact ⟨b, (Option.some.inj hi).symm, eb2⟩
    have hi2 : i < 2 := by
      match i, hi with
      | 0, _ => decide
      | 1, _ => decide
    obtain ⟨e, rfl, ee⟩ := ey
    refine ⟨rfl, ?_⟩
    refine yes_ok ?_
    refine ⟨_, rfl, e, C, x, rfl, T, hno, ee.mono s, _, hl, ?_, Same.mut s hD, ?_⟩
    · rw [List.length_replicate]
      exact Nat.lt_trans hi2 (by decide)
    · rw [upd_same, List.replicate_succ']
  · refine ⟨by show 2 ≤ sizeLine; decide, fun p hp => ?_⟩
    have sH : Same H H' := ((s1.trans s2).trans sm).trans s
    refine k p _ (sH.free hp) (sH.trans (Same.new hp)) ?_
    have sp := Same.new (o := .tup [.ref m, .ref D]) hp
    exact ⟨m, D, a, b, upd_same, sp _ _ (s _ _ upd_same), sp _ _ hl, ((ea2.mono s).mono sp).at, ((eb2.mono s).mono sp).at⟩
end Er
namespace Er
open PySem PySem.Spec PyProof.Rows L2 HeY Dw
/-! ### _law_same of things that are the same -/
abbrev isi (K : PySem.W.Frag) (i : Nat) (b : String) : TE := tCB (rIsi K) (tCons (tVar i) (tCons (tC (.ty b)) tNil))
theorem isi_ok {K : PySem.W.Frag} {σ : L2.St} {H : Hp} {Q : VK} {i : Nat} {x : V} {a b : String} {r : Bool} (h0 : σ[i]? = some (some x)) (ty : TyX K H x (.type a)) (hk : kitB a b = some r) (q : Q (.bl r) H) : isi K i b σ H Q :=
  ⟨x, h0, x, .ty b, _, _, r, rfl, .ty b, ty, kit_ty hk, q⟩
abbrev cListD : List V → Hp → VK → Prop := fun xs H Q => ∃ (a : Addr) (kvs : List (Key × V)), xs = [.ref a] ∧ Rd H a (.dK kvs) ∧ ∀ p, H p = none → Q (.ref p) (upd H p (.lst (kvs.map fun kv => kV kv.1)))
/-- the same thing, n deep at most: flat; lists, tuples of such; the same dict of flat things -/
inductive Eqd (H : Hp) : Nat → V → V → Prop
  | flat {n : Nat} {v : V} (h : flatV v = true) : Eqd H n v v
  | lst {n : Nat} {p q : Addr} {xs ys : List V} (hp : H p = some (.lst xs)) (hq : H q = some (.lst ys)) (hl : xs.length = ys.length) (hz : xs.length ≤ 1000) (h : ∀ (i : Nat) (x y : V), xs[i]? = some x → ys[i]? = some y → Eqd H n x y) : Eqd H (n + 1) (.ref p) (.ref q)
  | tup {n : Nat} {p q : Addr} {xs ys : List V} (hp : H p = some (.tup xs)) (hq : H q = some (.tup ys)) (hl : xs.length = ys.length) (hz : xs.length ≤ 1000) (h : ∀ (i : Nat) (x y : V), xs[i]? = some x → ys[i]? = some y → Eqd H n x y) : Eqd H (n + 1) (.ref p) (.ref q)
  | dct {n : Nat} {p : Addr} {kvs : List (Key × V)} (hp : H p = some (.dK kvs)) (hz : kvs.length ≤ 1000) (h : ∀ (k : Key) (v : V), (k, v) ∈ kvs → flatV v = true) : Eqd H (n + 2) (.ref p) (.ref p)
theorem Eqd.mono {H H' : Hp} (s : Same H H') {n : Nat} {u v : V} (h : Eqd H n u v) : Eqd H' n u v := by
  induction h with
  | flat h => exact .flat h
  | lst hp hq hl hz _ ih => exact .lst (s _ _ hp) (s _ _ hq) hl hz ih
  | tup hp hq hl hz _ ih => exact .tup (s _ _ hp) (s _ _ hq) hl hz ih
  | dct hp hz h => exact .dct (s _ _ hp) hz h
def spSame (n : Nat) : Sp := fun vs H Q _ => ∃ u v, vs = [u, v] ∧ Eqd H n u v ∧ ∀ H', Same H H' → Q (.bl true) H'
abbrev lnc (K : PySem.W.Frag) (i : Nat) : TE := tCB (rLen K) (tCons (tVar i) tNil)
def t_same (K : PySem.W.Frag) (sp : Sp) : TS :=
  tSeq (tIfS (tB (tCB (rIsiT K) (tCons (tVar 1) (tCons (tTup (tCons (tC (.ty "list")) (tCons (tC (.ty "tuple")) tNil))) tNil))))
    (tSeq (tIfS (tOr (tTest (tOp rNe (isi K 0 "list") (isi K 1 "list"))) (tTest (tOp rNe (isi K 0 "tuple") (isi K 1 "tuple")))) (tRet (tC (.bl false))) tNext)
      (tRet (tAndV (tOp rEq (lnc K 0) (lnc K 1)) (tCB (rAll K) (tCons (tLc (RZ.iZipA K (tCons (tVar 0) (tCons (tVar 1) tNil))) (gTup K 2 (gCons (gName 2) (gCons (gName 3) gNil))) tYes (tCall sp [] E0 (tCons (tVar 2) (tCons (tVar 3) tNil))) [2, 3]) tNil)))))
    tNext)
  (tSeq (tIfS (tB (isi K 1 "dict"))
      (tSeq (tIfS (tOr (tNot (tB (isi K 0 "dict"))) (tNot (tB (tCall sp [] E0 (tCons (tCB cListD (tCons (tVar 0) tNil)) (tCons (tCB cListD (tCons (tVar 1) tNil)) tNil)))))) (tRet (tC (.bl false))) tNext)
        (tRet (tCB (rAll K) (tCons (tLockE (tLc (iKeys (tVar 1)) (gName 4) tYes (tCall sp [] E0 (tCons (tDGet (tVar 0) (tVar 4)) (tCons (tDGet (tVar 1) (tVar 4)) tNil))) [4])) tNil))))
      tNext)
  (tSeq (tIfS (tB (tIsN (tVar 1))) (tRet (tIsN (tVar 0))) tNext)
  (tSeq (tIfS (tB (isi K 1 "bool")) (tRet (tAndV (isi K 0 "bool") (tOp rEq (tVar 0) (tVar 1)))) tNext)
  (tSeq (tIfS (tB (isi K 1 "int")) (tRet (tAndV (isi K 0 "int") (tAndV (tNotV (isi K 0 "bool")) (tOp rEq (tVar 0) (tVar 1))))) tNext)
    (tRet (tAndV (isi K 0 "str") (tOp rEq (tVar 0) (tVar 1))))))))
theorem all_rep (n : Nat) : ((List.replicate n true).all id) = true := by
  induction n with
  | zero => rfl
  | succ n ih => rw [List.replicate_succ, List.all_cons, ih]; rfl
/-- isinstance(x, (list, tuple)), x of a built-in type -/
theorem isT_ok {K : PySem.W.Frag} {σ : L2.St} {H : Hp} {Q : VK} {i : Nat} {x : V} {a : String} {r1 r2 : Bool} (h0 : σ[i]? = some (some x)) (ty : ∀ H', Same H H' → TyX K H' x (.type a)) (h1 : kitB a "list" = some r1) (h2 : kitB a "tuple" = some r2) (q : ∀ H', Same H H' → Q (.bl (r1 || r2)) H') :
    tCB (rIsiT K) (tCons (tVar i) (tCons (tTup (tCons (tC (.ty "list")) (tCons (tC (.ty "tuple")) tNil))) tNil)) σ H Q := by
  refine ⟨x, h0, by show 2 ≤ sizeLine; decide, fun p hp => ⟨x, p, _, _, [.type "list", .type "tuple"], r1 || r2, rfl, upd_same, .cons (.ty _) (.cons (.ty _) .nil), ty _ (Same.new hp), ?_, q _ (Same.new hp)⟩⟩
  refine kitAny_cons (kit_ty h1) (fun e => ?_) fun e => by rw [e]; rfl
  rw [e]
  refine kitAny_cons (b := r2) (kit_ty h2) (fun e => ?_) fun e => by rw [e]; rfl
  rw [e]
  exact kitAny_nil
end Er
namespace Er
open PySem PySem.Spec PyProof.Rows L2 HeY Dw
theorem walk_zipT {K : PySem.W.Frag} {a b : Addr} {xs ys : List V} {n : Nat} (hn : n = xs.length) (hl : xs.length = ys.length) : Walk (RZ.ItzT K a b) n (fun H => SqT K H a xs ∧ SqT K H b ys) (YPair (fun i => xs[i]?) (fun i => ys[i]?)) := by
  subst hn
  refine ⟨fun i _ hi q => ⟨xs, ys, xs[i], ys[i]'(by omega), q.1, q.2, by simp [hi], by simp [show i < ys.length by omega]⟩, fun _ q => ⟨xs, ys, q.1, q.2, .inl (Nat.le_refl _)⟩, fun i H v H' _ q y => ?_⟩
  obtain ⟨T, x, y, h1, h2, h3, h4, h5⟩ := y
  exact ⟨T, x, y, h1, h2, h3, h4 xs q.1, h5 ys q.2⟩
/-- the comprehension over a zip of two that are the same, item by item -/
theorem lc_same {K : PySem.W.Frag} {J : It} {n m : Nat} {G : Hp → Prop} {xs ys : List V} {H : Hp} {D : Addr} {u v : V} {Qd : Hp → Prop} (w : Walk J n G (YPair (fun i => xs[i]?) (fun i => ys[i]?))) (hn : n ≤ 1000) (hD : H D = none) (hG : ∀ H', Same H H' → G H')
    (he : ∀ (i : Nat) (x y : V), xs[i]? = some x → ys[i]? = some y → Eqd H m x y) (q : ∀ H', Same H H' → H' D = some (.lst (List.replicate n (.bl true))) → Qd H') :
    ∃ W : Nat → Nat → Hp → Prop, (∃ m, W 0 m (upd H D (.lst []))) ∧ ∀ i m' H', W i m' H' →
      (J.stop i H' ∧ Qd H') ∨ (J.go i H' ∧ ∃ Nx : Hp → Prop, (∀ H'', Nx H'' → ∃ m2, m2 < m' ∧ W (i + 1) m2 H'') ∧ ∀ x H'', J.yld i H' x H'' → gTup K 2 (gCons (gName 2) (gCons (gName 3) gNil)) x (wipe [some u, some v, none, none, none] [2, 3]) H'' fun σ2 H2 => wipe σ2 [2, 3] = wipe [some u, some v, none, none, none] [2, 3] ∧ tYes σ2 H2 fun b H3 =>
        if b = true then tCall (spSame m) [] E0 (tCons (tVar 2) (tCons (tVar 3) tNil)) σ2 H3 fun y H4 => ∃ acc, H4 D = some (.lst acc) ∧ acc.length < sizeLine ∧ Nx (upd H4 D (.lst (acc ++ [y]))) else Nx H3) := by
  refine lc_it w (fun i H' => Same H H' ∧ H' D = some (.lst (List.replicate i (.bl true)))) ⟨Same.new hD, upd_same⟩ (fun i H' _ ⟨s, _⟩ => hG _ s) (fun i z H1 H2 hi ⟨s, hl⟩ hy => ?_) fun H' ⟨s, hl⟩ => q H' s hl
  obtain ⟨T, x, y, rfl, hT, rfl, hx, hy⟩ := hy
  refine ⟨T, [x, y], rfl, SqT.of upd_same, rfl, x, [y], rfl, y, [], rfl, rfl, rfl, ?_⟩
  refine yes_ok ?_
  have s2 : Same H (upd H1 T (.tup [x, y])) := s.trans (Same.new hT)
  refine ⟨x, rfl, y, rfl, x, y, rfl, (he i x y hx hy).mono s2, fun H' s3 => ?_⟩
  refine ⟨_, s3 _ _ (Same.new hT _ _ hl), ?_, Same.mut (s2.trans s3) hD, ?_⟩
  · rw [List.length_replicate]
    exact Nat.lt_of_lt_of_le (by omega : i < 1000) (by decide)
  · rw [upd_same, List.replicate_succ']
theorem eqd_keys {H : Hp} {m : Nat} {p q : Addr} {ks : List Key} (hp : H p = some (.lst (ks.map kV))) (hq : H q = some (.lst (ks.map kV))) (hz : ks.length ≤ 1000) : Eqd H (m + 1) (.ref p) (.ref q) := by
  refine .lst hp hq rfl (by rw [List.length_map]; exact hz) fun i x y hx hy => ?_
  rw [hx] at hy
  obtain rfl := Option.some.inj hy
  refine .flat ?_
  rw [List.getElem?_map] at hx
  cases e : ks[i]? with
  | none => rw [e] at hx; cases hx
  | some k =>
    rw [e] at hx
    obtain rfl := Option.some.inj hx
    cases k <;> rfl
theorem val_mem {kvs : List (Key × V)} {k : Key} {v : V} (h : (k, v) ∈ kvs) : ∃ v', valV kvs k = some v' ∧ (k, v') ∈ kvs := by
  induction kvs with
  | nil => cases h
  | cons p r ih =>
    by_cases e : p.1 = k
    · exact ⟨p.2, valV_pos e, by rw [← e]; exact List.mem_cons_self⟩
    · rcases List.mem_cons.mp h with z | z
      · exact absurd (by rw [← z]) e
      · obtain ⟨v', h1, h2⟩ := ih z
        exact ⟨v', by rw [valV_neg e]; exact h1, List.mem_cons_of_mem _ h2⟩
theorem pure_same {K : PySem.W.Frag} {n : Nat} {sp : Sp} (hs : ∀ m, n = m + 1 → sp = spSame m) (vs : List V) (H : Hp) (Q : VK) (E : XK) (h : spSame n vs H Q E) : t_same K sp { nx := fun _ H' => Q .non H', rt := Q } (start ["found", "due", "mine", "theirs", "key"] vs) H := by
  obtain ⟨u, v, rfl, he, k⟩ := h
  cases he with
  | lst hp hq hl hz he =>
    rename_i m p q xs ys
    rw [hs m rfl]
    have tp : ∀ H', Same H H' → TyX K H' (.ref p) (.type "list") := fun H' s => .base (.lst (s _ _ hp))
    have tq : ∀ H', Same H H' → TyX K H' (.ref q) (.type "list") := fun H' s => .base (.lst (s _ _ hq))
    refine isT_ok (r1 := true) (r2 := false) rfl tq (by decide +kernel) (by decide +kernel) fun H1 s1 => ⟨_, rfl, iteT ?_⟩
    refine isi_ok (r := true) rfl (tp _ s1) (by decide +kernel) (isi_ok (r := true) rfl (tq _ s1) (by decide +kernel) ⟨rfl, _, rfl, iteF ?_⟩)
    refine isi_ok (r := false) rfl (tp _ s1) (by decide +kernel) (isi_ok (r := false) rfl (tq _ s1) (by decide +kernel) ⟨rfl, _, rfl, iteF ?_⟩)
    refine ⟨_, rfl, _, _, rfl, .inl ⟨_, SqL.of (s1 _ _ hp), rfl⟩, _, rfl, _, _, rfl, .inl ⟨_, SqL.of (s1 _ _ hq), rfl⟩, rfl, _, rfl, ?_⟩
    rw [hl, decide_eq_true rfl]
    refine iteT ?_
    refine ⟨_, rfl, _, rfl, p, q, xs, ys, rfl, .inl ⟨SqL.of (s1 _ _ hp), SqL.of (s1 _ _ hq), fun D hD => ?_⟩⟩
    refine lc_same (walk_zip (xs := xs) (ys := ys) (n := xs.length) (by omega)) hz hD (fun H' s => ⟨SqL.of (s _ _ (s1 _ _ hp)), SqL.of (s _ _ (s1 _ _ hq))⟩) (fun i x y hx hy => (he i x y hx hy).mono s1) fun H' s hl => ?_
    refine ⟨D, List.replicate xs.length true, rfl, SqL.of (by rw [List.map_replicate]; exact hl), ?_⟩
    rw [all_rep]
    exact k _ (s1.trans s)
  | tup hp hq hl hz he =>
    rename_i m p q xs ys
    rw [hs m rfl]
    have tp : ∀ H', Same H H' → TyX K H' (.ref p) (.type "tuple") := fun H' s => .base (.tup (s _ _ hp))
    have tq : ∀ H', Same H H' → TyX K H' (.ref q) (.type "tuple") := fun H' s => .base (.tup (s _ _ hq))
    refine isT_ok (r1 := false) (r2 := true) rfl tq (by decide +kernel) (by decide +kernel) fun H1 s1 => ⟨_, rfl, iteT ?_⟩
    refine isi_ok (r := false) rfl (tp _ s1) (by decide +kernel) (isi_ok (r := false) rfl (tq _ s1) (by decide +kernel) ⟨rfl, _, rfl, iteF ?_⟩)
    refine isi_ok (r := true) rfl (tp _ s1) (by decide +kernel) (isi_ok (r := true) rfl (tq _ s1) (by decide +kernel) ⟨rfl, _, rfl, iteF ?_⟩)
    refine ⟨_, rfl, _, _, rfl, .inr ⟨_, SqT.of (s1 _ _ hp), rfl⟩, _, rfl, _, _, rfl, .inr ⟨_, SqT.of (s1 _ _ hq), rfl⟩, rfl, _, rfl, ?_⟩
    rw [hl, decide_eq_true rfl]
    refine iteT ?_
    refine ⟨_, rfl, _, rfl, p, q, xs, ys, rfl, .inr ⟨SqT.of (s1 _ _ hp), SqT.of (s1 _ _ hq), fun D hD => ?_⟩⟩
    refine lc_same (walk_zipT (xs := xs) (ys := ys) rfl hl) hz hD (fun H' s => ⟨SqT.of (s _ _ (s1 _ _ hp)), SqT.of (s _ _ (s1 _ _ hq))⟩) (fun i x y hx hy => (he i x y hx hy).mono s1) fun H' s hl => ?_
    refine ⟨D, List.replicate xs.length true, rfl, SqL.of (by rw [List.map_replicate]; exact hl), ?_⟩
    rw [all_rep]
    exact k _ (s1.trans s)
  | dct hp hz he =>
    rename_i m p kvs
    rw [hs (m + 1) rfl]
    have tp : ∀ H', Same H H' → TyX K H' (.ref p) (.type "dict") := fun H' s => .base (.dK (s _ _ hp))
    refine isT_ok (r1 := false) (r2 := false) rfl tp (by decide +kernel) (by decide +kernel) fun H1 s1 => ⟨_, rfl, iteF ?_⟩
    refine isi_ok (r := true) rfl (tp _ s1) (by decide +kernel) ⟨_, rfl, iteT ?_⟩
    refine isi_ok (r := true) rfl (tp _ s1) (by decide +kernel) ⟨_, rfl, iteF ?_⟩
    refine ⟨_, rfl, p, kvs, rfl, .inl (s1 _ _ hp), fun l1 n1 => ⟨_, rfl, p, kvs, rfl, .inl (Same.new n1 _ _ (s1 _ _ hp)), fun l2 n2 => ?_⟩⟩
    have s2 := (s1.trans (Same.new (o := .lst (kvs.map fun kv => kV kv.1)) n1)).trans (Same.new (o := .lst (kvs.map fun kv => kV kv.1)) n2)
    have e1 : (kvs.map fun kv => kV kv.1) = (kvs.map (·.1)).map kV := by rw [List.map_map]; rfl
    refine ⟨_, _, rfl, eqd_keys (ks := kvs.map (·.1)) (by rw [← e1]; exact Same.new n2 _ _ upd_same) (by rw [← e1]; exact upd_same) (by rw [List.length_map]; exact hz), fun H2 s3 => ⟨_, rfl, iteF ?_⟩⟩
    have s4 := s2.trans s3
    -- the comprehension over the dict, locked
    refine ⟨p, _, s4 _ _ hp, trivial, fun od => ⟨_, rfl, p, od, rfl, .inl ⟨kvs, upd_same, fun D hD => ?_⟩⟩⟩
    have pD : p ≠ D := fun z => by
      rw [← z, upd_same] at hD
      cases hD
    have hD2 : H2 D = none := by
      rw [upd_ne pD.symm] at hD
      exact hD
    refine lc_it walk_keys (fun i H' => H' p = some (.frz od (.dK kvs)) ∧ (∀ b o, H2 b = some o → b ≠ p → H' b = some o) ∧ H' D = some (.lst (List.replicate i (.bl true)))) ⟨by rw [upd_ne pD, upd_same], fun b o e hb => by rw [upd_ne (ne_of_none e hD2), upd_ne hb]; exact e, upd_same⟩ (fun i H' _ h => h.1) (fun i z H3 H4 hi ⟨g1, g2, g3⟩ hy => ?_) fun H3 ⟨g1, g2, g3⟩ => ?_
    · obtain ⟨rfl, key, v, hkv, rfl⟩ := hy
      have hm : (key, v) ∈ kvs := List.mem_of_getElem? hkv
      obtain ⟨v', hv', hm'⟩ := val_mem hm
      refine ⟨rfl, ?_⟩
      refine yes_ok ?_
      have dg : DGet H4 p (kV key) (some v') := by
        rw [← hv']
        exact .inl ⟨kvs, key, .inr ⟨od, g1⟩, rfl, rfl⟩
      refine ⟨_, rfl, _, rfl, p, v', rfl, dg, _, rfl, _, rfl, p, v', rfl, dg, v', v', rfl, .flat (he key v' hm'), fun H5 s5 => ?_⟩
      refine ⟨_, s5 _ _ g3, ?_, ?_, fun b o e hb => ?_, ?_⟩
      · rw [List.length_replicate]
        exact Nat.lt_of_lt_of_le (by omega : i < 1000) (by decide)
      · rw [upd_ne pD]
        exact s5 _ _ g1
      · rw [upd_ne (ne_of_none e hD2)]
        exact s5 _ _ (g2 b o e hb)
      · rw [upd_same, List.replicate_succ']
    · refine ⟨g1, D, List.replicate kvs.length true, rfl, SqL.of (by rw [List.map_replicate, upd_ne pD.symm]; exact g3), ?_⟩
      rw [all_rep]
      refine k _ (s4.trans fun b o e => ?_)
      by_cases hb : b = p
      · subst hb
        rw [upd_same, ← e]
        exact (s4 _ _ hp).symm
      · rw [upd_ne hb]
        exact g2 b o e hb
  | flat h =>
    cases u with
    | non =>
      refine isT_ok (r1 := false) (r2 := false) rfl (fun _ _ => .base .non) (by decide +kernel) (by decide +kernel) fun H1 s1 => ⟨_, rfl, iteF ?_⟩
      refine isi_ok (r := false) rfl (.base .non) (by decide +kernel) ⟨_, rfl, iteF ?_⟩
      refine ⟨_, rfl, _, rfl, ?_⟩
      rw [decide_eq_true rfl]
      exact iteT ⟨_, rfl, by show Q (.bl (decide (V.non = V.non))) _; rw [decide_eq_true rfl]; exact k _ s1⟩
    | bl b =>
      refine isT_ok (r1 := false) (r2 := false) rfl (fun _ _ => .base (.bl b)) (by decide +kernel) (by decide +kernel) fun H1 s1 => ⟨_, rfl, iteF ?_⟩
      refine isi_ok (r := false) rfl (.base (.bl b)) (by decide +kernel) ⟨_, rfl, iteF ?_⟩
      refine ⟨_, rfl, _, rfl, ?_⟩
      rw [decide_eq_false (fun z => nomatch z)]
      refine iteF ?_
      refine isi_ok (r := true) rfl (.base (.bl b)) (by decide +kernel) ⟨_, rfl, iteT ?_⟩
      refine isi_ok (r := true) rfl (.base (.bl b)) (by decide +kernel) ⟨_, rfl, iteT ?_⟩
      exact ⟨_, rfl, _, rfl, rfl, by rw [decide_eq_true rfl]; exact k _ s1⟩
    | int b =>
      refine isT_ok (r1 := false) (r2 := false) rfl (fun _ _ => .base (.int b)) (by decide +kernel) (by decide +kernel) fun H1 s1 => ⟨_, rfl, iteF ?_⟩
      refine isi_ok (r := false) rfl (.base (.int b)) (by decide +kernel) ⟨_, rfl, iteF ?_⟩
      refine ⟨_, rfl, _, rfl, ?_⟩
      rw [decide_eq_false (fun z => nomatch z)]
      refine iteF ?_
      refine isi_ok (r := false) rfl (.base (.int b)) (by decide +kernel) ⟨_, rfl, iteF ?_⟩
      refine isi_ok (r := true) rfl (.base (.int b)) (by decide +kernel) ⟨_, rfl, iteT ?_⟩
      refine isi_ok (r := true) rfl (.base (.int b)) (by decide +kernel) ⟨_, rfl, iteT ?_⟩
      refine isi_ok (r := false) rfl (.base (.int b)) (by decide +kernel) ⟨_, rfl, _, rfl, iteT ?_⟩
      exact ⟨_, rfl, _, rfl, rfl, by rw [decide_eq_true rfl]; exact k _ s1⟩
    | str b =>
      refine isT_ok (r1 := false) (r2 := false) rfl (fun _ _ => .base (.str b)) (by decide +kernel) (by decide +kernel) fun H1 s1 => ⟨_, rfl, iteF ?_⟩
      refine isi_ok (r := false) rfl (.base (.str b)) (by decide +kernel) ⟨_, rfl, iteF ?_⟩
      refine ⟨_, rfl, _, rfl, ?_⟩
      rw [decide_eq_false (fun z => nomatch z)]
      refine iteF ?_
      refine isi_ok (r := false) rfl (.base (.str b)) (by decide +kernel) ⟨_, rfl, iteF ?_⟩
      refine isi_ok (r := false) rfl (.base (.str b)) (by decide +kernel) ⟨_, rfl, iteF ?_⟩
      refine isi_ok (r := true) rfl (.base (.str b)) (by decide +kernel) ⟨_, rfl, iteT ?_⟩
      exact ⟨_, rfl, _, rfl, rfl, by rw [decide_eq_true rfl]; exact k _ s1⟩
    | _ => cases h
end Er
namespace Er
open PySem PySem.Spec PyProof.Rows L2 HeY Dw
/-! ### the numbers of the classes of which an error is -/
/-- the places of Ds at which C stands -/
def places (Ds : List Addr) (C : Addr) : List Bool := Ds.map fun D => decide (C = D)
/-- _law_kinds_of(e): the numbers, from c on -/
def spKinds (K : PySem.W.Frag) (T : Addr) (c : Int) (Ds : List Addr) : Sp := fun vs H Q _ => ∃ a C, vs = [.ref a] ∧ ExAt H a C ∧ Kn K T C ∧ ∀ l H', H l = none → Same H H' → H' l = some (.lst (idx c (places Ds C) Ds.length)) → Q (.ref l) H'
theorem idx_none {c : Int} {Ds : List Addr} {C : Addr} (h : C ∉ Ds) (n : Nat) : idx c (places Ds C) n = [] := by
  unfold idx
  rw [List.filter_eq_nil_iff.mpr, List.map_nil]
  intro k _
  unfold places
  rw [List.getElem?_map]
  cases e : Ds[k]? with
  | none => simp
  | some D =>
    have hD : C ≠ D := fun z => h (z ▸ List.mem_of_getElem? e)
    simp [hD]
theorem idx_at {c : Int} {Ds : List Addr} {C : Addr} {i : Nat} (hn : Ds.Nodup) (h : Ds[i]? = some C) : ∀ n, i < n → idx c (places Ds C) n = [V.int (c + (i : Int))]
  | 0, hi => absurd hi (Nat.not_lt_zero _)
  | n + 1, hi => by
    have key : ∀ k, ((places Ds C)[k]? == some true) = decide (k = i) := fun k => by
      unfold places
      rw [List.getElem?_map]
      by_cases e : k = i
      · subst e
        rw [h]
        simp
      · cases q : Ds[k]? with
        | none => simp [e]
        | some D =>
          have hD : C ≠ D := fun z => e (nd_ix hn (by rw [q, z]) h)
          simp [hD, e]
    rw [idx_step, key n]
    by_cases e : n = i
    · subst e
      have : idx c (places Ds C) n = [] := by
        unfold idx
        rw [List.filter_eq_nil_iff.mpr, List.map_nil]
        intro k hk
        rw [key k]
        have := List.mem_range.mp hk
        simp only [decide_eq_true_eq]
        omega
      rw [this]
      simp
    · rw [idx_at hn h n (by omega)]
      rw [decide_eq_false e]
      simp
/-! ### the drawn things -/
def Thing (H : Hp) (l : Addr) (m : Nat) : V → Prop
  | .ref p => (∃ n : Int, H p = some (.tup [.int 1, .int n])) ∨ (∃ (n : Int) (q : Addr), q ≠ p ∧ q ≠ l ∧ H p = some (.lst ([.int n, .ref q] ++ List.replicate m (.str "more"))) ∧ H q = some (.lst [.int 1])) ∨
      (∃ n : Int, H p = some (.dK (([((Sum.inr "a" : Key), V.int n)] : List (Key × V)) ++ (if m = 0 then [] else [((Sum.inr "more" : Key), V.int 1)]))))
  | v => flatV v = true
theorem Thing.mono {H H' : Hp} {l : Addr} {m : Nat} {v : V} (s : Same H H') (h : Thing H l m v) : Thing H' l m v := by
  cases v with
  | ref p =>
    rcases h with ⟨n, h⟩ | ⟨n, q, h0, h0', h1, h2⟩ | ⟨n, h⟩
    · exact .inl ⟨n, s _ _ h⟩
    · exact .inr (.inl ⟨n, q, h0, h0', s _ _ h1, s _ _ h2⟩)
    · exact .inr (.inr ⟨n, s _ _ h⟩)
  | _ => exact h
theorem Thing.eqd {H : Hp} {l : Addr} {m : Nat} {v : V} (h : Thing H l m v) (hm : m ≤ 100) : Eqd H 3 v v := by
  cases v with
  | ref p =>
    rcases h with ⟨n, h⟩ | ⟨n, q, h0, h0', h1, h2⟩ | ⟨n, h⟩
    · refine .tup h h rfl (by show 2 ≤ 1000; decide) fun i x y hx hy => ?_
      rw [hx] at hy
      obtain rfl := Option.some.inj hy
      match i, hx with
      | 0, hx => cases hx; exact .flat rfl
      | 1, hx => cases hx; exact .flat rfl
    · refine .lst h1 h1 rfl (by rw [List.length_append, List.length_replicate]; show 2 + m ≤ 1000; omega) fun i x y hx hy => ?_
      rw [hx] at hy
      obtain rfl := Option.some.inj hy
      match i, hx with
      | 0, hx => cases hx; exact .flat rfl
      | 1, hx =>
        cases hx
        refine .lst h2 h2 rfl (by show 1 ≤ 1000; decide) fun j x y hx hy => ?_
        rw [hx] at hy
        obtain rfl := Option.some.inj hy
        match j, hx with
        | 0, hx => cases hx; exact .flat rfl
      | i + 2, hx =>
        have e : (List.replicate m (V.str "more"))[i]? = some x := by
          have z : ([V.int n, V.ref q] ++ List.replicate m (V.str "more"))[i + 2]? = (List.replicate m (V.str "more"))[i]? := by
            rw [List.getElem?_append_right (by show 2 ≤ i + 2; omega)]
            rfl
          rw [← z]
          exact hx
        have z := List.eq_of_mem_replicate (List.mem_of_getElem? e)
        rw [z]
        exact .flat rfl
    · refine .dct h ?_ fun k v hv => ?_
      · split
        · show 1 ≤ 1000; decide
        · show 2 ≤ 1000; decide
      · rcases List.mem_append.mp hv with z | z
        · have e := List.mem_singleton.mp z
          injection e with _ e2
          rw [e2]
          rfl
        · split at z
          · cases z
          · have e := List.mem_singleton.mp z
            injection e with _ e2
            rw [e2]
            rfl
  | non => exact .flat rfl
  | bl b => exact .flat rfl
  | int i => exact .flat rfl
  | str x => exact .flat rfl
  | _ => cases h
end Er
namespace Er
open PySem PySem.Spec PyProof.Rows L2 HeY Dw
section
variable {ta : TA} {te : TE} {g : TG} {t : TS} {D : Ends} {σ : L2.St} {H : Hp} {Q : VK} {K : PySem.W.Frag}
theorem seqA (h : te σ H fun x H1 => g x σ H1 (t D)) : tSeq (tAsg te g) t D σ H := h
theorem seqD (h : te σ H fun _ H1 => t D σ H1) : tSeq (tDrop te) t D σ H := h
theorem lst_ok (h : ta σ H fun xs H1 => xs.length ≤ sizeLine ∧ ∀ p, H1 p = none → Q (.ref p) (upd H1 p (.lst xs))) : tLst ta σ H Q := h
theorem tup_ok (h : ta σ H fun xs H1 => xs.length ≤ sizeLine ∧ ∀ p, H1 p = none → Q (.ref p) (upd H1 p (.tup xs))) : tTup ta σ H Q := h
/-- xs.extend([..]), xs a name -/
theorem ext_ok {i : Nat} {p : Addr} {xs : List V} (h0 : σ[i]? = some (some (V.ref p))) (hp : H p = some (.lst xs))
    (h : ta σ H fun ys H1 => H1 p = some (.lst xs) ∧ xs.length + ys.length ≤ sizeLine ∧ ∀ q, H1 q = none → Q .non (upd (upd H1 q (.lst ys)) p (.lst (xs ++ ys)))) (mono : ∀ Q1 Q2 : List V → Hp → Prop, (∀ vs H1, Q1 vs H1 → Q2 vs H1) → ta σ H Q1 → ta σ H Q2) :
    tBM K "list" rExtend (tVar i) (tCons (tLst ta) tNil) σ H Q := by
  refine ⟨_, h0, .inl ⟨rfl, _, SqL.of hp⟩, ?_⟩
  refine lst_ok (mono _ _ (fun ys H1 ⟨e, hz, k⟩ => ?_) h)
  refine ⟨by omega, fun q hq => ?_⟩
  have n : p ≠ q := ne_of_none e hq
  exact ⟨p, q, xs, ys, rfl, rfl, by rw [upd_ne n]; exact e, upd_same, hz, k q hq⟩
end
theorem iss_mono {K : PySem.W.Frag} {T : Addr} {i : Nat} : ∀ {Ds : List Addr} {σ : L2.St} {H : Hp} (Q1 Q2 : List V → Hp → Prop), (∀ vs H1, Q1 vs H1 → Q2 vs H1) → tIss K T i Ds σ H Q1 → tIss K T i Ds σ H Q2
  | [], σ, H, Q1, Q2, h, q => h _ _ q
  | D :: r, σ, H, Q1, Q2, h, ⟨a, C, h0, ea, kC, q⟩ => ⟨a, C, h0, ea, kC, iss_mono (Ds := r) (fun xs H2 => Q1 (V.bl (decide (C = D)) :: xs) H2) (fun xs H2 => Q2 (V.bl (decide (C = D)) :: xs) H2) (fun vs H1 z => h _ _ z) q⟩
theorem news_mono {i : Nat} : ∀ {Cs : List Addr} {σ : L2.St} {H : Hp} (Q1 Q2 : List V → Hp → Prop), (∀ vs H1, Q1 vs H1 → Q2 vs H1) → tNews i Cs σ H Q1 → tNews i Cs σ H Q2
  | [], σ, H, Q1, Q2, h, q => h _ _ q
  | C :: r, σ, H, Q1, Q2, h, ⟨h0, k⟩ => ⟨h0, fun a H2 s ea => news_mono (Cs := r) (fun xs H3 => Q1 (V.ref a :: xs) H3) (fun xs H3 => Q2 (V.ref a :: xs) H3) (fun vs H1 z => h _ _ z) (k a H2 s ea)⟩
end Er
namespace Er
open PySem PySem.Spec PyProof.Rows L2 HeY Dw
/-- all but the base are known -/
theorem kn_of {clsF : List (Str × Str)} {cls0 : List Str} {dL : List He.DefD} {frs : List Str} {P : Program} {w : World} {K : PySem.W.Frag} {mg : Str → Option Value} {base : Heap} {T0 : Addr} (T : HeY.Txt clsF cls0 dL frs P w K mg base T0) {ns : List Str}
    (h : (ns.all fun n => cls0.contains n || (clsF.map (·.1)).contains n) = true) : ∀ D ∈ ns.map (He.ga K), Kn K T0 D ∧ D ≠ T0 := fun D hD => by
  obtain ⟨n, hn, rfl⟩ := List.mem_map.mp hD
  have nn := (List.nodup_cons.mp T.nd).1
  rcases Bool.or_eq_true_iff.mp (List.all_eq_true.mp h n hn) with q | q
  · have hm : n ∈ cls0 := List.contains_iff_mem.mp q
    exact ⟨T.k0 n hm, fun z => nn (by rw [← z]; exact List.mem_map.mpr ⟨n, List.mem_append_left _ hm, rfl⟩)⟩
  · have hm : n ∈ clsF.map (·.1) := List.contains_iff_mem.mp q
    obtain ⟨pr, hp, rfl⟩ := List.mem_map.mp hm
    exact ⟨T.kn pr hp, fun z => nn (by rw [← z]; exact List.mem_map.mpr ⟨pr.1, List.mem_append_right _ hm, rfl⟩)⟩
theorem any_in {bs : List Bool} : inV (.bl true) (bs.map V.bl) = bs.any id := by
  unfold inV
  rw [List.any_map]
  induction bs with
  | nil => rfl
  | cons b r ih =>
    rw [List.any_cons, List.any_cons, ih]
    cases b <;> rfl
theorem flat_bls (bs : List Bool) : (bs.map V.bl).all flatV = true := by
  rw [List.all_map]
  exact List.all_eq_true.mpr fun _ _ => rfl
theorem isxt_ok {K : PySem.W.Frag} {T : Addr} {i : Nat} {a C : Addr} {σ : L2.St} {H : Hp} {Q : VK} {Ds : List Addr} (h0 : σ[i]? = some (some (V.ref a))) (ea : ExAt H a C) (kC : Kn K T C) (hK : ∀ D ∈ Ds, Kn K T D ∧ D ≠ T) (hl : Ds.length ≤ 1000) (q : ∀ H', Same H H' → Q (.bl (decide (C ∈ Ds))) H') :
    tCB (rIsXT K) (tCons (tVar i) (tCons (tTup (tGls Ds)) tNil)) σ H Q := by
  refine ⟨_, h0, ?_⟩
  refine tup_ok (gls_ok ⟨by rw [List.length_map]; exact Nat.le_trans hl (by decide), fun p hp => ?_⟩)
  exact ⟨a, C, p, _, Ds.map Value.ref, _, rfl, upd_same, pair_refs Ds, ea.mono (Same.new hp), kC.x, kitAny_of kC hK, q _ (Same.new hp)⟩
def spOthers (Cs : List Addr) : Sp := fun vs H Q _ => ∃ x, vs = [x] ∧ ∀ l H' es, H l = none → Same H H' → H' l = some (.lst es) → ExAll H' es Cs → Q (.ref l) H'
def spIsOther (K : PySem.W.Frag) (T : Addr) (Ds : List Addr) : Sp := fun vs H Q _ => ∃ a C, vs = [.ref a] ∧ ExAt H a C ∧ Kn K T C ∧ ∀ H', Same H H' → Q (.bl (decide (C ∈ Ds))) H'
/-- made, kept of the class with the number of its first argument -/
def spMade (lo : Nat) (Cs : List Addr) : Sp := fun vs H Q _ => ∃ (i : Nat) (C : Addr) (x : V), vs = [.int ((lo + i : Nat) : Int), x] ∧ Cs[i]? = some C ∧ ∀ p H', H p = none → Same H H' → Made2 H' p C x → Q (.ref p) H'
theorem exo_lst {e C : Addr} {d : Option Addr} {xs : List V} : exo e C d ≠ .lst xs := fun z => by
  have z' : HO.ext _ = HO.lst xs := z
  cases z'
theorem exd_lst {e : Addr} {fs : List (Str × V)} {xs : List V} : exd e fs ≠ .lst xs := fun z => by
  have z' : HO.ext _ = HO.lst xs := z
  cases z'
/-- a list changes: the errors stand -/
theorem ExAt.up {H : Hp} {a C t q : Addr} {xs ys : List V} {o : HO} (h : ExAt H a C) (ht : H t = some (.lst xs)) (hq : H q = none) : ExAt (upd (upd H q o) t (.lst ys)) a C := by
  have key : ∀ {b : Addr} {u : HO}, H b = some u → u ≠ .lst xs → (upd (upd H q o) t (.lst ys)) b = some u := fun {b u} e n => by
    have nt : b ≠ t := fun z => by
      rw [z, ht] at e
      exact n (Option.some.inj e).symm
    rw [upd_ne nt, upd_ne (ne_of_none e hq)]
    exact e
  rcases h with h | ⟨d, fs, h1, h2⟩
  · exact .inl (key h exo_lst)
  · exact .inr ⟨d, fs, key h1 exo_lst, key h2 exd_lst⟩
theorem ExAll.up {H : Hp} {t q : Addr} {xs ys : List V} {o : HO} (ht : H t = some (.lst xs)) (hq : H q = none) : ∀ {vs : List V} {Cs : List Addr}, ExAll H vs Cs → ExAll (upd (upd H q o) t (.lst ys)) vs Cs
  | [], [], _ => trivial
  | v :: vs, C :: Cs, ⟨⟨a, e, h⟩, r⟩ => ⟨⟨a, e, ExAt.up h ht hq⟩, ExAll.up ht hq r⟩
  | [], _ :: _, h => h.elim
  | _ :: _, [], h => h.elim
/-- all but what stands at v -/
def Fv (v : V) (H H' : Hp) : Prop := ∀ b o, H b = some o → V.ref b ≠ v → H' b = some o
theorem Fv.of {v : V} {H H' : Hp} (s : Same H H') : Fv v H H' := fun b o e _ => s b o e
theorem Fv.trans {v : V} {H H1 H2 : Hp} (a : Fv v H H1) (b : Fv v H1 H2) : Fv v H H2 := fun c o e n => b c o (a c o e n) n
/-- the draws' lists are not the thing -/
theorem Thing.apart {H : Hp} {s l : Addr} {m n : Nat} {v : V} (h : Thing H l m v) (st : StAt H s l n) : V.ref s ≠ v ∧ V.ref l ≠ v := by
  obtain ⟨xs, cur, cnt, mix, h1, h2, _⟩ := st
  constructor
  · rintro rfl
    rcases h with ⟨k, h⟩ | ⟨k, q, _, _, h, _⟩ | ⟨k, h⟩
    · rw [h1] at h; cases h
    · rw [h1] at h; cases h
    · rw [h1] at h; cases h
  · rintro rfl
    rcases h with ⟨k, h⟩ | ⟨k, q, _, _, h, _⟩ | ⟨k, h⟩
    · rw [h2] at h; cases h
    · rw [h2] at h
      have e := HO.lst.inj (Option.some.inj h)
      match xs, e with
      | [], e => cases e
      | [a], e => cases e
      | a :: b :: r, e =>
        have e2 := (List.cons.inj (List.cons.inj e).2).1
        cases e2
    · rw [h2] at h; cases h
theorem StAt.fv {H H' : Hp} {s l : Addr} {m n : Nat} {v : V} (h : Thing H l m v) (st : StAt H s l n) (f : Fv v H H') : StAt H' s l n := by
  obtain ⟨a1, a2⟩ := h.apart st
  obtain ⟨xs, cur, cnt, mix, h1, h2, r⟩ := st
  exact ⟨xs, cur, cnt, mix, f _ _ h1 a1, f _ _ h2 a2, r⟩
/-- two times the thing: no thing itself -/
theorem Thing.no2 {H : Hp} {l k : Addr} {m : Nat} {v : V} (h : Thing H l m v) (hk : H k = some (.lst [v, v])) : V.ref k ≠ v := by
  rintro rfl
  rcases h with ⟨n, h⟩ | ⟨n, q, _, _, h, _⟩ | ⟨n, h⟩
  · rw [hk] at h; cases h
  · rw [hk] at h
    have e := (List.cons.inj (HO.lst.inj (Option.some.inj h))).1
    cases e
  · rw [hk] at h; cases h
theorem thing_fr {H H' : Hp} {s l : Addr} {m n : Nat} {v : V} (h : Thing H l m v) (st : StAt H s l n) (f : Fr s l H H') : Thing H' l m v := by
  obtain ⟨a1, a2⟩ := h.apart st
  cases v with
  | ref p =>
    have n1 : p ≠ s := fun z => a1 (by rw [z])
    have n2 : p ≠ l := fun z => a2 (by rw [z])
    rcases h with ⟨k, h⟩ | ⟨k, q, h0, h0', h1, h2⟩ | ⟨k, h⟩
    · exact .inl ⟨k, f _ _ h n1 n2⟩
    · refine .inr (.inl ⟨k, q, h0, h0', f _ _ h1 n1 n2, f _ _ h2 (fun z => ?_) h0'⟩)
      obtain ⟨xs, cur, cnt, mix, g1, _⟩ := st
      rw [z, g1] at h2
      cases h2
    · exact .inr (.inr ⟨k, f _ _ h n1 n2⟩)
  | _ => exact h
def spObject : Sp := fun vs H Q _ => ∃ (s l : Addr) (n : Nat), vs = [.ref s] ∧ StAt H s l n ∧ n < 900000 ∧ ∀ v H', Thing H' l 0 v → StAt H' s l (n + 7) → Q v H'
/-- _law_very(kept, thing) of k89: one "more" more each time -/
def spVery (l : Addr) : Sp := fun vs H Q _ => ∃ (m : Nat) (v : V), vs = [v, v] ∧ Thing H l m v ∧ m ≤ 50 ∧ ∀ H', Thing H' l (m + 1) v → Fv v H H' → Q (.bl true) H'
theorem put_more (n : Int) (m : Nat) : putK (([((Sum.inr "a" : Key), V.int n)] : List (Key × V)) ++ (if m = 0 then [] else [((Sum.inr "more" : Key), V.int 1)])) (Sum.inr ("more" : Str)) (V.int 1) = ([((Sum.inr "a" : Key), V.int n)] : List (Key × V)) ++ (if m + 1 = 0 then [] else [((Sum.inr "more" : Key), V.int 1)]) := by
  rw [if_neg (Nat.succ_ne_zero m)]
  have ne : ¬ ((Sum.inr ("a" : Str) : Key) = Sum.inr ("more" : Str)) := by decide +kernel
  by_cases e : m = 0
  · rw [if_pos e, putK_new]
    · rfl
    · rw [List.append_nil, valV_neg ne, valV_nil]
  · rw [if_neg e]
    simp [putK, ne]
end Er
/-! what the errors' laws ask of an error -/
namespace Er
open PySem PySem.Spec PyProof.Rows L2 HeY Dw
section
variable {K : PySem.W.Frag} {T a C : Addr} {σ : L2.St} {H : Hp} {Q : VK} {j m : Nat} {Ds : List Addr}
/-- isinstance(e, TellError) -/
theorem tell_ok (h0 : σ[j]? = some (some (V.ref a))) (ea : ExAt H a C) (kC : Kn K T C) (kT : Kn K T T) (q : Q (.bl true) H) : tCB (rIsX K) (tCons (tVar j) (tCons (tC (.ref T)) tNil)) σ H Q :=
  ⟨_, h0, a, C, _, _, true, rfl, ea, kC.x, .own T, kC.base kT, q⟩
/-- isinstance(e, ValueError) and such -/
theorem bi_ok {n : String} {b : Bool} (h0 : σ[j]? = some (some (V.ref a))) (ea : ExAt H a C) (kC : Kn K T C) (hn : PySem.W.kitMeta n = true) (hb : PySem.HandSPX.veTail.contains (.type n) = b) (q : Q (.bl b) H) : tCB (rIsX K) (tCons (tVar j) (tCons (tC (.ty n)) tNil)) σ H Q :=
  ⟨_, h0, a, C, _, _, b, rfl, ea, kC.x, .ty n, by rw [kC.bi hn, hb], q⟩
/-- _law_kinds_of(e) != [at] -/
theorem kinds_ne {i : Nat} (hD : Ds.Nodup) (hC : Ds[i]? = some C) (h0 : σ[j]? = some (some (V.ref a))) (hm : σ[m]? = some (some (V.int (i : Int)))) (ea : ExAt H a C) (kC : Kn K T C) (q : ∀ H', Same H H' → Q (.bl false) H') :
    tOp (rNeD K) (tCall (spKinds K T 0 Ds) [] E0 (tCons (tVar j) tNil)) (tLst (tCons (tVar m) tNil)) σ H Q := by
  have hi : i < Ds.length := by
    have z := List.getElem?_eq_some_iff.mp hC
    exact z.1
  refine ⟨_, h0, a, C, rfl, ea, kC, fun l H1 hl s1 e1 => ?_⟩
  rw [idx_at hD hC _ hi, Int.zero_add] at e1
  refine ⟨_, hm, by show 1 ≤ sizeLine; decide, fun p hp => ?_⟩
  have npl : l ≠ p := ne_of_none e1 hp
  refine ⟨.list ([(i : Int)].map PyData.int), .list ([(i : Int)].map PyData.int), .lst (SqL.of (by rw [upd_ne npl]; exact e1)) (dpall_ints [(i : Int)]), .lst (SqL.of upd_same) (dpall_ints [(i : Int)]), shaped_ints _, shaped_ints _, ?_⟩
  have e : PyData.eqv (.list ([(i : Int)].map PyData.int)) (.list ([(i : Int)].map PyData.int)) = true := by simp [PyData.eqv, PyData.eqvAll]
  rw [e]
  exact q _ (s1.trans (Same.new hp))
/-- _law_kinds_of(e) == [] -/
theorem kinds_nil (hC : C ∉ Ds) (h0 : σ[j]? = some (some (V.ref a))) (ea : ExAt H a C) (kC : Kn K T C) (q : ∀ H', Same H H' → Q (.bl true) H') :
    tOp (rEqD K) (tCall (spKinds K T 0 Ds) [] E0 (tCons (tVar j) tNil)) (tLst tNil) σ H Q := by
  refine ⟨_, h0, a, C, rfl, ea, kC, fun l H1 hl s1 e1 => ?_⟩
  rw [idx_none hC] at e1
  refine ⟨by show 0 ≤ sizeLine; exact Nat.zero_le _, fun p hp => ?_⟩
  have npl : l ≠ p := ne_of_none e1 hp
  refine ⟨.list (([] : List Int).map PyData.int), .list (([] : List Int).map PyData.int), .lst (SqL.of (by rw [upd_ne npl]; exact e1)) (dpall_ints []), .lst (SqL.of upd_same) (dpall_ints []), shaped_ints _, shaped_ints _, ?_⟩
  have e : PyData.eqv (.list (([] : List Int).map PyData.int)) (.list (([] : List Int).map PyData.int)) = true := by simp [PyData.eqv, PyData.eqvAll]
  rw [e]
  exact q _ (s1.trans (Same.new hp))
/-- _law_is_other(e) -/
theorem other_no (hC : C ∉ Ds) (h0 : σ[j]? = some (some (V.ref a))) (ea : ExAt H a C) (kC : Kn K T C) (q : ∀ H', Same H H' → Q (.bl false) H') :
    tCall (spIsOther K T Ds) [] E0 (tCons (tVar j) tNil) σ H Q := by
  refine ⟨_, h0, a, C, rfl, ea, kC, fun H1 s1 => ?_⟩
  rw [decide_eq_false hC]
  exact q _ s1
end
/-- what the classes' numbers say -/
theorem ga_nodup {clsF : List (Str × Str)} {cls0 : List Str} {dL : List He.DefD} {frs : List Str} {P : Program} {w : World} {K : PySem.W.Frag} {mg : Str → Option Value} {base : Heap} {T0 : Addr} (T : HeY.Txt clsF cls0 dL frs P w K mg base T0) {ns : List Str}
    (h1 : (ns.all fun n => (("TellError" : Str) :: (cls0 ++ clsF.map (·.1))).contains n) = true) (h2 : ns.Nodup) (hT : T0 = He.ga K "TellError") : (ns.map (He.ga K)).Nodup := by
  have nd := T.nd
  have key : ∀ x ∈ (("TellError" : Str) :: (cls0 ++ clsF.map (·.1))), ∀ y ∈ (("TellError" : Str) :: (cls0 ++ clsF.map (·.1))), He.ga K x = He.ga K y → x = y := by
    have nd2 : ((("TellError" : Str) :: (cls0 ++ clsF.map (·.1))).map (He.ga K)).Nodup := by
      rw [List.map_cons, ← hT]
      exact nd
    intro x hx y hy e
    obtain ⟨i, hi⟩ := List.mem_iff_getElem?.mp hx
    obtain ⟨k, hk⟩ := List.mem_iff_getElem?.mp hy
    have g1 : ((("TellError" : Str) :: (cls0 ++ clsF.map (·.1))).map (He.ga K))[i]? = some (He.ga K x) := by rw [List.getElem?_map, hi]; rfl
    have g2 : ((("TellError" : Str) :: (cls0 ++ clsF.map (·.1))).map (He.ga K))[k]? = some (He.ga K x) := by rw [List.getElem?_map, hk, e]; rfl
    have e2 : i = k := nd_ix nd2 g1 g2
    rw [e2, hk] at hi
    exact (Option.some.inj hi).symm
  have mem : ∀ x ∈ ns, x ∈ (("TellError" : Str) :: (cls0 ++ clsF.map (·.1))) := fun x hx => List.contains_iff_mem.mp (List.all_eq_true.mp h1 x hx)
  clear h1
  induction ns with
  | nil => exact List.nodup_nil
  | cons n r ih =>
    have hn := List.nodup_cons.mp h2
    refine List.nodup_cons.mpr ⟨fun z => ?_, ih hn.2 fun x hx => mem x (List.mem_cons_of_mem _ hx)⟩
    obtain ⟨y, hy, e⟩ := List.mem_map.mp z
    have := key y (mem y (List.mem_cons_of_mem _ hy)) n (mem n List.mem_cons_self) e
    exact hn.1 (this ▸ hy)
theorem nodup_apart {α : Type} {xs ys : List α} (h : (xs ++ ys).Nodup) {x : α} (hx : x ∈ xs) : x ∉ ys := fun hy => (List.nodup_append.mp h).2.2 x hx x hy rfl
end Er
/-! what the law of k89 does -/
namespace Er
open PySem PySem.Spec PyProof.Rows L2 HeY Dw
def spVeryE : Sp := fun vs H Q E => ∃ l, spVery l vs H Q E
def spLaw (K : PySem.W.Frag) : Sp := fun vs H Q _ => ∃ (a : Addr) (ns : List Int), vs = [.ref a] ∧ SqL K H a (ns.map V.int) ∧ ∀ H', Q (.bl true) H'
abbrev tTell (K : PySem.W.Frag) (T : Addr) (j : Nat) : TE := tCB (rIsX K) (tCons (tVar j) (tCons (tC (.ref T)) tNil))
abbrev tBi (K : PySem.W.Frag) (n : String) (j : Nat) : TE := tCB (rIsX K) (tCons (tVar j) (tCons (tC (.ty n)) tNil))
def t_bad (K : PySem.W.Frag) (T : Addr) (Cs Is : List Addr) : TS := tIfS (tOr (tNot (L2.tB (tTell K T 7))) (tOr (tNot (L2.tB (tBi K "ValueError" 7))) (tOr (tTest (tOp (rNeD K) (tCall (spKinds K T 0 Cs) [] E0 (tCons (tVar 7) tNil)) (tLst (tCons (tVar 2) tNil)))) (L2.tB (tCall (spIsOther K T Is) [] E0 (tCons (tVar 7) tNil)))))) (tRet (tC (.bl false))) tNext
def t_turn (K : PySem.W.Frag) (T : Addr) (Cs Is : List Addr) : TS :=
  tSeq (tAsg (tCall spObject [] E0 (tCons (tVar 1) tNil)) (gName 4))
  (tSeq (tAsg (tCall (spMade 0 Cs) [] E0 (tCons (tVar 2) (tCons (tVar 4) tNil))) (gTup K 2 (gCons (gName 5) (gCons (gName 6) gNil))))
  (tSeq (tFor (iList K (tVar 5)) (gName 7) (t_bad K T Cs Is))
    (tIfS (tNot (L2.tB (tCB (rAll K) (tCons (tLc (iList K (tVar 6)) (gName 8) tYes (tCall spVeryE [] E0 (tCons (tVar 8) (tCons (tVar 4) tNil))) [8]) tNil)))) (tRet (tC (.bl false))) tNext)))
def t_rest (K : PySem.W.Frag) (T : Addr) (Cs Os : List Addr) : TS :=
  tSeq (tAsg (tCall (spOthers Os) [] E0 (tCons (tCall spPick [] E0 (tCons (tVar 1) (tCons (tC (V.int 9)) tNil))) tNil)) (gName 9))
    (tRet (tCB (rAll K) (tCons (tLc (iList K (tVar 9)) (gName 7) tYes (tAndV (tOp (rEqD K) (tCall (spKinds K T 0 Cs) [] E0 (tCons (tVar 7) tNil)) (tLst tNil)) (tAndV (tTell K T 7) (tBi K "ValueError" 7))) [7]) tNil)))
def t_law (K : PySem.W.Frag) (T : Addr) (Cs Is Os : List Addr) : TS :=
  tSeq (tAsg (tCall (spStart K) [] E0 (tCons (tVar 0) tNil)) (gName 1))
  (tSeq (tFor (iRng1 (tCons (tC (V.int 13)) tNil)) (gName 2) (tFor (iRng1 (tCons (tC (V.int 2)) tNil)) (gName 3) (t_turn K T Cs Is)))
    (t_rest K T Cs Os))
theorem thing_acc {H : Hp} {l D : Addr} {m j : Nat} {v : V} {o : HO} (h : Thing H l m v) (hD : H D = some (.lst (List.replicate j (.bl true)))) (n : V.ref D ≠ v) : Thing (upd H D o) l m v := by
  cases v with
  | ref p =>
    have np : p ≠ D := fun z => n (by rw [z])
    rcases h with ⟨k, h⟩ | ⟨k, q, h0, h0', h1, h2⟩ | ⟨k, h⟩
    · exact .inl ⟨k, by rw [upd_ne np]; exact h⟩
    · refine .inr (.inl ⟨k, q, h0, h0', by rw [upd_ne np]; exact h1, ?_⟩)
      have nq : q ≠ D := fun z => by
        rw [z, hD] at h2
        match j, h2 with
        | 0, h2 => cases h2
        | j + 1, h2 =>
          have e := (List.cons.inj (HO.lst.inj (Option.some.inj h2))).1
          cases e
      rw [upd_ne nq]
      exact h2
    · exact .inr (.inr ⟨k, by rw [upd_ne np]; exact h⟩)
  | _ => exact h
theorem st_acc {H : Hp} {s l D : Addr} {n : Nat} {o : HO} (h : StAt H s l n) (h1 : s ≠ D) (h2 : l ≠ D) : StAt (upd H D o) s l n := by
  obtain ⟨ys, cur, cnt, mix, g1, g2, g3⟩ := h
  exact ⟨ys, cur, cnt, mix, by rw [upd_ne h1]; exact g1, by rw [upd_ne h2]; exact g2, g3⟩
theorem st_free {H : Hp} {s l D : Addr} {n : Nat} (h : StAt H s l n) (hD : H D = none) : s ≠ D ∧ l ≠ D := by
  obtain ⟨ys, cur, cnt, mix, g1, g2, g3⟩ := h
  exact ⟨ne_of_none g1 hD, ne_of_none g2 hD⟩
section
variable {K : PySem.W.Frag} {T : Addr} {Cs Is Os : List Addr}
/-- an error of its own number passes -/
theorem bad_ok {D : Ends} {σ : L2.St} {H : Hp} {i : Nat} {a C : Addr} (kT : Kn K T T) (hn : Cs.Nodup) (hC : Cs[i]? = some C) (hI : C ∉ Is) (kC : Kn K T C) (h7 : σ[7]? = some (some (V.ref a))) (h2 : σ[2]? = some (some (V.int (i : Int)))) (ea : ExAt H a C)
    (q : ∀ H', Same H H' → D.nx σ H') : t_bad K T Cs Is D σ H := by
  refine tell_ok h7 ea kC kT ⟨_, rfl, iteF ?_⟩
  refine bi_ok h7 ea kC (by rfl) (b := true) (by decide +kernel) ⟨_, rfl, iteF ?_⟩
  refine kinds_ne hn hC h7 h2 ea kC fun H1 s1 => ⟨_, rfl, iteF ?_⟩
  refine other_no hI h7 (ea.mono s1) kC fun H2 s2 => ⟨_, rfl, iteF ?_⟩
  exact q _ (s1.trans s2)
/-- one turn -/
theorem turn_ok {D : Ends} {H : Hp} {s l : Addr} {n i : Nat} {x0 : Option V} {o3 o4 o5 o6 o7 : Option V} {C : Addr} (kT : Kn K T T) (hn : Cs.Nodup) (hC : Cs[i]? = some C) (hI : C ∉ Is) (kC : Kn K T C) (st : StAt H s l n) (hz : n < 900000)
    (q : ∀ o4 o5 o6 o7 H', StAt H' s l (n + 7) → D.nx [x0, some (.ref s), some (.int (i : Int)), o3, o4, o5, o6, o7, none, none] H') :
    t_turn K T Cs Is D [x0, some (.ref s), some (.int (i : Int)), o3, o4, o5, o6, o7, none, none] H := by
  refine ⟨_, rfl, s, l, n, rfl, st, hz, fun v H1 th st1 => ?_⟩
  refine ⟨_, rfl, _, rfl, i, C, v, by rw [Nat.zero_add]; rfl, hC, fun p H2 hp s2 ⟨m, k, a, b, e1, e2, e3, ea, eb⟩ => ?_⟩
  refine ⟨p, _, rfl, SqT.of e1, rfl, _, _, rfl, _, _, rfl, rfl, ?_⟩
  -- the errors
  refine ⟨_, rfl, m, rfl, ⟨_, SqL.of e2⟩, ?_⟩
  refine for_list (xs := [.ref a, .ref b]) (fun _ σ' H' => (∃ o7, σ' = [x0, some (.ref s), some (.int (i : Int)), o3, some v, some (.ref m), some (.ref k), o7, none, none]) ∧ Same H2 H') ⟨⟨o7, rfl⟩, Same.refl _⟩ (fun _ _ H' _ z => SqL.of (z.2 _ _ e2)) ?_ ?_
  · rintro j x _ H' hx ⟨⟨o7, rfl⟩, s3⟩
    have key : ∃ c, x = .ref c ∧ ExAt H2 c C := by
      match j, hx with
      | 0, hx => cases hx; exact ⟨a, rfl, ea⟩
      | 1, hx => cases hx; exact ⟨b, rfl, eb⟩
    obtain ⟨c, rfl, ec⟩ := key
    exact bad_ok kT hn hC hI kC rfl rfl (ec.mono s3) fun H4 s4 => ⟨⟨_, rfl⟩, s3.trans s4⟩
  · rintro _ H3 ⟨⟨o7, rfl⟩, s3⟩
    -- what they keep
    have st3 := (st1.same s2).same s3
    have th3 := (th.mono s2).mono s3
    have e3' := s3 _ _ e3
    clear st st1 th e1 e2 e3 ea eb s2 s3
    refine ⟨_, rfl, k, rfl, ⟨_, SqL.of e3'⟩, fun Dn hDn => ?_⟩
    obtain ⟨nds, ndl⟩ := st_free st3 hDn
    have ndk : k ≠ Dn := ne_of_none e3' hDn
    refine lc_list (xs := [v, v]) (fun j H' => Thing H' l j v ∧ StAt H' s l (n + 7) ∧ H' k = some (.lst [v, v]) ∧ H' Dn = some (.lst (List.replicate j (.bl true))) ∧ V.ref Dn ≠ v) ?_ (fun _ H' _ z => SqL.of z.2.2.1) ?_ ?_
    · refine ⟨th3.mono (Same.new hDn), st3.same (Same.new hDn), Same.new hDn _ _ e3', upd_same, ?_⟩
      rintro rfl
      rcases th3 with ⟨_, z⟩ | ⟨_, _, _, _, z, _⟩ | ⟨_, z⟩
      · rw [hDn] at z; cases z
      · rw [hDn] at z; cases z
      · rw [hDn] at z; cases z
    · rintro j x H' hx ⟨t4, st4, e4, d4, n4⟩
      have key : x = v := by
        match j, hx with
        | 0, hx => cases hx; rfl
        | 1, hx => cases hx; rfl
      have hj : j < 2 := by
        have z := List.getElem?_eq_some_iff.mp hx
        exact z.1
      subst key
      refine ⟨rfl, yes_ok ?_⟩
      refine ⟨_, rfl, _, rfl, l, j, x, rfl, t4, by omega, fun H5 t5 f5 => ?_⟩
      have nk := t4.no2 e4
      have d5 := f5 _ _ d4 n4
      have k5 := f5 _ _ e4 nk
      refine ⟨_, d5, ?_, ?_⟩
      · rw [List.length_replicate]
        exact Nat.lt_of_lt_of_le hj (by decide)
      · exact ⟨thing_acc t5 d5 n4, st_acc (StAt.fv t4 st4 f5) nds ndl, by rw [upd_ne ndk]; exact k5, by rw [upd_same, List.replicate_succ'], n4⟩
    · rintro H4 ⟨t4, st4, e4, d4, n4⟩
      refine ⟨Dn, List.replicate 2 true, rfl, SqL.of (by rw [List.map_replicate]; exact d4), ?_⟩
      exact ⟨_, rfl, iteF (q _ _ _ _ _ st4)⟩
/-- the others: no number of theirs -/
theorem rest_ok {D : Ends} {H : Hp} {s l : Addr} {n : Nat} {x0 o2 o3 o4 o5 o6 o7 : Option V} (kT : Kn K T T) (hO : ∀ C ∈ Os, C ∉ Cs ∧ Kn K T C) (hz : Os.length ≤ 1000) (st : StAt H s l n) (hn : n < 900000) (q : ∀ H', D.rt (.bl true) H') :
    t_rest K T Cs Os D [x0, some (.ref s), o2, o3, o4, o5, o6, o7, none, none] H := by
  refine ⟨_, rfl, s, l, n, 9, rfl, by decide, by decide, st, by omega, fun r H1 _ _ st1 _ => ?_⟩
  refine ⟨_, rfl, fun p H2 es hp s2 e2 ex => ?_⟩
  refine ⟨_, rfl, p, rfl, ⟨_, SqL.of e2⟩, fun Dn hDn => ?_⟩
  have npd : p ≠ Dn := ne_of_none e2 hDn
  have hl : es.length ≤ 1000 := by rw [ex.len]; exact hz
  refine lc_list (xs := es) (fun j H' => Same H2 H' ∧ H' Dn = some (.lst (List.replicate j (.bl true)))) ⟨Same.new hDn, upd_same⟩ (fun _ H' _ z => SqL.of (z.1 _ _ e2)) ?_ ?_
  · rintro j x H' hx ⟨s3, d3⟩
    have hj : j < es.length := by
      have z := List.getElem?_eq_some_iff.mp hx
      exact z.1
    obtain ⟨C, a, hC, rfl, ea⟩ := ex.get hx
    obtain ⟨nC, kC⟩ := hO C (List.mem_of_getElem? hC)
    refine ⟨rfl, yes_ok ?_⟩
    refine kinds_nil nC rfl (ea.mono s3) kC fun H4 s4 => ⟨_, rfl, iteT ?_⟩
    refine tell_ok rfl ((ea.mono s3).mono s4) kC kT ⟨_, rfl, iteT ?_⟩
    refine bi_ok rfl ((ea.mono s3).mono s4) kC (by rfl) (b := true) (by decide +kernel) ?_
    refine ⟨_, s4 _ _ d3, ?_, fun b o e => ?_, by rw [upd_same, List.replicate_succ']⟩
    · rw [List.length_replicate]
      exact Nat.lt_of_lt_of_le (by omega : j < 1000) (by decide)
    · rw [upd_ne (ne_of_none e hDn)]
      exact s4 _ _ (s3 _ _ e)
  · rintro H3 ⟨s3, d3⟩
    refine ⟨Dn, List.replicate es.length true, rfl, SqL.of (by rw [List.map_replicate]; exact d3), ?_⟩
    rw [all_rep]
    exact q _
theorem law_ok {H : Hp} {Q : VK} {E : XK} {vs : List V} (kT : Kn K T T) (hn : Cs.Nodup) (hlen : Cs.length = 13) (hK : ∀ C ∈ Cs, Kn K T C) (hI : ∀ C ∈ Cs, C ∉ Is) (hO : ∀ C ∈ Os, C ∉ Cs ∧ Kn K T C) (hz : Os.length ≤ 1000) (h : spLaw K vs H Q E) :
    t_law K T Cs Is Os { nx := fun _ H' => Q .non H', rt := Q } (start ["script", "state", "at", "turn", "thing", "made", "kept", "e", "one", "others"] vs) H := by
  obtain ⟨a, ns, rfl, hS, k⟩ := h
  refine ⟨_, rfl, a, ns, rfl, hS, fun s l H1 st _ _ _ => ?_⟩
  refine ⟨13, rfl, by omega, by omega, ?_⟩
  refine for_range (lo := 0) (n := 13) (fun i σ' H' => ∃ o2 o3 o4 o5 o6 o7, σ' = [some (.ref a), some (.ref s), o2, o3, o4, o5, o6, o7, none, none] ∧ StAt H' s l (14 * i)) ⟨none, none, none, none, none, none, rfl, st⟩ ?_ ?_
  · rintro i _ H2 hi ⟨o2, o3, o4, o5, o6, o7, rfl, st2⟩
    have hi13 : i < Cs.length := by omega
    have hC : Cs[i]? = some Cs[i] := List.getElem?_eq_getElem hi13
    have hm : Cs[i] ∈ Cs := List.mem_of_getElem? hC
    rw [Int.zero_add]
    refine ⟨2, rfl, by omega, by omega, ?_⟩
    refine for_range (lo := 0) (n := 2) (fun j σ' H' => ∃ o3 o4 o5 o6 o7, σ' = [some (.ref a), some (.ref s), some (.int (i : Int)), o3, o4, o5, o6, o7, none, none] ∧ StAt H' s l (14 * i + 7 * j)) ⟨o3, o4, o5, o6, o7, rfl, st2⟩ ?_ ?_
    · rintro j _ H3 hj ⟨o3, o4, o5, o6, o7, rfl, st3⟩
      exact turn_ok kT hn hC (hI _ hm) (hK _ hm) st3 (by omega) fun o4 o5 o6 o7 H' st' => ⟨_, o4, o5, o6, o7, rfl, st'.mono (by omega)⟩
    · rintro _ H3 ⟨o3, o4, o5, o6, o7, rfl, st3⟩
      exact ⟨_, o3, o4, o5, o6, o7, rfl, st3.mono (by omega)⟩
  · rintro _ H2 ⟨o2, o3, o4, o5, o6, o7, rfl, st2⟩
    exact rest_ok kT hO hz st2 (by omega) k
end
end Er
/-! the laws of one error a turn: k95, k00 -/
namespace Er
open PySem PySem.Spec PyProof.Rows L2 HeY Dw
def spMade1 (lo : Nat) (Cs : List Addr) : Sp := fun vs H Q _ => ∃ (i : Nat) (C : Addr) (x : V), vs = [.int ((lo + i : Nat) : Int), x] ∧ Cs[i]? = some C ∧ ∀ p a H', H p = none → Same H H' → H' p = some (.tup [.ref a, x]) → ExAt H' a C → Q (.ref p) H'
def tMade1 (K : PySem.W.Frag) (C : Addr) (f : Str) : TS := tSeq (tAsg (tNewF C f 1) (gName 2)) (tRet (tTup (tCons (tVar 2) (tCons (tXv K f (tVar 2)) tNil))))
theorem made1_ok {K : PySem.W.Frag} {C : Addr} {f : Str} {at_ x : V} {o2 : Option V} {H : Hp} {Q : VK} {nx : L2.St → Hp → Prop} (T : XK1 K C) (hno : PySem.W.findIn K (.ref C) f = some none) (k : ∀ p a H', H p = none → Same H H' → H' p = some (.tup [.ref a, x]) → ExAt H' a C → Q (.ref p) H') :
    tMade1 K C f { nx := nx, rt := Q } [some at_, some x, o2] H := by
  refine ⟨x, rfl, fun a H1 s1 ea => ?_⟩
  refine ⟨_, rfl, _, rfl, a, C, x, rfl, T, hno, ea, by show 2 ≤ sizeLine; decide, fun p hp => ?_⟩
  exact k p a _ (s1.free hp) (s1.trans (Same.new hp)) upd_same (ea.mono (Same.new hp)).at
def spObject1 : Sp := fun vs H Q _ => ∃ (s l : Addr) (n : Nat), vs = [.ref s] ∧ StAt H s l n ∧ n < 900000 ∧ ∀ v H', Thing H' l 0 v → StAt H' s l (n + 3) → Fr s l H H' → Q v H'
/-- _law_very(found, due), found the thing due itself: changed and changed back -/
def spVery1 : Sp := fun vs H Q _ => ∃ (l : Addr) (v : V), vs = [v, v] ∧ Thing H l 0 v ∧ ∀ H', Same H H' → Q (.bl true) H'
theorem same_back {H : Hp} {p : Addr} {o o1 : HO} (h : H p = some o) : Same H (upd (upd H p o1) p o) := fun b u e => by
  by_cases z : b = p
  · subst z
    rw [upd_same, ← h]
    exact e
  · rw [upd_ne z, upd_ne z]
    exact e
theorem a_more : ¬ ((Sum.inr ("a" : Str) : Key) = Sum.inr ("more" : Str)) := by decide +kernel
theorem a_more' : ¬ (Str.ofString "a" = Str.ofString "more") := by decide +kernel
theorem put_a (v w : V) : putK ([((Sum.inr ("a" : Str) : Key), v)] : List (Key × V)) (Sum.inr ("more" : Str)) w = [(Sum.inr ("a" : Str), v), (Sum.inr ("more" : Str), w)] := by
  simp [putK]
  exact a_more'
theorem val_a (v w : V) : valV ([(Sum.inr ("a" : Str), v), (Sum.inr ("more" : Str), w)] : List (Key × V)) (Sum.inr ("more" : Str)) = some w := by
  rw [valV_neg a_more, valV_pos rfl]
theorem drop_a (v w : V) : dropK ([(Sum.inr ("a" : Str), v), (Sum.inr ("more" : Str), w)] : List (Key × V)) (Sum.inr ("more" : Str)) = [(Sum.inr ("a" : Str), v)] := by
  simp [dropK, List.filter_cons, a_more']
end Er
namespace Er
open PySem PySem.Spec PyProof.Rows L2 HeY Dw
theorem eqv_ints : ∀ ns : List Int, PyData.eqvAll (ns.map PyData.int) (ns.map PyData.int) = true
  | [] => by simp [PyData.eqvAll]
  | n :: r => by rw [List.map_cons, PyData.eqvAll, eqv_ints r]; simp [PyData.eqv]
/-- two lists of the same numbers -/
theorem eq_ints {K : PySem.W.Frag} {H : Hp} {p q : Addr} (ns : List Int) (hp : H p = some (.lst (ns.map V.int))) (hq : H q = some (.lst (ns.map V.int))) : ∃ d e, Dp K H (.ref p) d ∧ Dp K H (.ref q) e ∧ SeqAt.shaped d = true ∧ SeqAt.shaped e = true ∧ PyData.eqv d e = true :=
  ⟨_, _, .lst (SqL.of hp) (dpall_ints ns), .lst (SqL.of hq) (dpall_ints ns), shaped_ints ns, shaped_ints ns, by rw [PyData.eqv]; exact eqv_ints ns⟩
end Er
/-! a list comprehension where an exception is handled (within an except suite, or in a def called there) -/
namespace L2H
open PySem PySem.Spec PyProof.Rows L2 HotX
/-- the comprehension's own context; what is pinned stays pinned -/
abbrev blkH (X : Cx) (s : Shared) (H : Hp) (scope : Scope) (cenv : Env) (fp : List Addr) : Cx := { X.blk s H scope cenv fp with pn := X.pn }
theorem Inv.toH {X : Cx} {pins : List (Addr × Obj)} {σ σ' : L2.St} {H H0 : Hp} {s s0 s' : Shared} {scope : Scope} {cenv : Env} {fp : List Addr} (I : Inv X pins σ H s)
    (J : Inv (X.blk s0 H0 scope cenv fp) [] σ' H s') (kp : ∀ b o, s.heap.get? b = some o → s'.heap.get? b = some o) (hL : s.heap.objs.size ≤ cenv.locals) : Inv (blkH X s0 H0 scope cenv fp) [] σ' H s' := by
  have k := J.ok
  refine ⟨⟨k.mod, k.kind, k.glob, k.blt, k.above, k.inj, k.has, k.cab, k.hd, k.frames, k.stk, k.exf, k.bs, k.bsz, k.noex, k.exfs, k.funs, k.frf⟩, J.os, J.bare, J.base, J.loc, J.cell, J.free, J.freeC, fun p hp => ?_, J.hok, J.len⟩
  have hp' : p ∈ X.pn := by simpa using (show p ∈ X.pn ++ [] from hp)
  have P := I.pin p (List.mem_append_left _ hp')
  refine ⟨kp _ _ P.1, P.2.1, ?_, fun hm => ?_, P.2.2.2.2⟩
  · exact Nat.ne_of_lt (Nat.lt_of_lt_of_le (Heap.lt_size P.1) hL)
  · exact (List.mem_cons.mp (I.stkSub p.1 hm)).elim P.2.2.1 P.2.2.2.1
theorem lcH_core {X : Cx} {pins : List (Addr × Obj)} {s : Shared} {σ : L2.St} {H : Hp} {Q : VK} {elt tg iter : Expr} {ifs : List Expr} {scope : Scope} {own : List (Str × Nat)} {pos pos' : Pos} {wi : TI} {g : TG} {tt : TT} {te : TE} {use : Option (Value → Sem Unit)} {Qf : Value → Shared → Prop}
    (hc : HotC X) (hN : X.N.Nodup) (I : Inv X pins σ H s) (hi : PIH X tg iter wi) (ok : BlkOk X.N X.env.scope scope own)
    (hg : ∀ s H C cl fp, PG (blkH X s H scope (compEnvC scope cl C X.env) fp) tg g) (ht : ∀ s H C cl fp, PTs (blkH X s H scope (compEnvC scope cl C X.env) fp) ifs tt)
    (he : ∀ s H C cl fp, PE (blkH X s H scope (compEnvC scope cl C X.env) fp) elt te) (hs : ∀ x, foldedSetIterable iter X.env x = pure x)
    (h : tLc wi g tt te (own.map (·.2)) σ H Q)
    (back : ∀ D C s' m H', Inv X pins σ H' s' → Q (.ref D) H' → s'.heap.Ns C m → FpOk X pins H' C → compPost (model X.prog X.w) X.A X.xe use Qf (.ref D) C (.ok .next) s') :
    wpAny (model X.prog X.w) X.A (comprehension (.ListComp elt [⟨tg, iter, ifs, 0⟩] scope pos) scope X.env pos' (newList []) false (eval iter X.env) use) Qf X.xe s := by
  have free_has : ∀ y ∈ scope.names, y.2 = .free → ∃ c, X.env.cells.lookup y.1 = some c := fun y hy e => (ok.free y hy e).elim (fun k => I.ok.has _ (.inl k)) fun k => I.ok.has _ (.inr k)
  refine wpAny_comprehension_free (use := use) rfl hs (closure_ok free_has) ok.kind (fun y hy e => by rw [ok.uniq y hy, e]) (thn (hi.run pins s σ H _ I h) fun xv s1 r1 => thn r1 fun itv s2 r2 => ?_)
  obtain ⟨it, fp, tn, J, H2, rfl, I2, T, st2, f2, q⟩ := r2
  refine wpAny_newObj_type (newEnv_comp ?_) (by show 0 ≤ sizeLine; decide)
  obtain ⟨D, eD⟩ : ∃ D, D = s2.heap.objs.size := ⟨_, rfl⟩
  rw [← eD]
  have freeD : H2 D = none := I2.hok.fresh (Nat.le_of_eq eD.symm)
  obtain ⟨W, ⟨m0, w0⟩, turn⟩ := q D freeD
  -- the list, empty
  obtain ⟨s3, e3⟩ : ∃ s3 : Shared, s3 = { s2 with heap := s2.heap.push { cls := .type "list", data := .seq ([] : List Value).toArray } } := ⟨_, rfl⟩
  rw [← e3]
  have hh3 : s3.heap = s2.heap.push { cls := .type "list", data := .seq ([] : List Value).toArray } := by rw [e3]
  have I3 : Inv X pins σ (upd H2 D (.lst [])) s3 := by
    rw [e3]
    exact I2.laid (t' := s2.toks) (fun b o e => Heap.get?_push_of_some _ e) (Nat.le_of_eq eD.symm) ⟨Nat.zero_le _, [], 0, .nil, by rw [eD]; exact Heap.get?_push_size _ rfl⟩
  have small : ∀ b ∈ fp, b < s2.heap.objs.size := fun b hb => let ⟨_, e, _⟩ := T.obj _ _ st2 b hb; Heap.lt_size e
  have f3 : ∀ b ∈ fp, FpOk X pins (upd H2 D (.lst [])) b ∧ b < s3.heap.objs.size := fun b hb => by
    have lt := small b hb
    refine ⟨⟨(upd_ne (by rw [eD]; exact Nat.ne_of_lt lt)).trans (f2 b hb).1, (f2 b hb).2⟩, ?_⟩
    rw [hh3, Heap.size_push]
    exact Nat.lt_succ_of_lt lt
  have st3 : tn 0 s3.heap := T.keep _ _ _ st2 fun b _ o e => by rw [hh3]; exact Heap.get?_push_of_some _ e
  have J4 := block_start I3 ok hN f3
  have gk : ∀ b o, s3.heap.get? b = some o → (pushCells (s3.heap.push { cls := .type "dict", data := .dict #[] }) scope.names).get? b = some o := fun b o e => pushCells_keeps _ _ _ _ (Heap.get?_push_of_some _ e)
  have I4 := Inv.toH I3 J4 gk (Nat.le_refl _)
  have pg := hg s3 (upd H2 D (.lst [])) s3.heap.objs.size (cellsFrom (s3.heap.objs.size + 1) scope.names (cloFrom X.env.cells scope.names [])) fp
  have pt := ht s3 (upd H2 D (.lst [])) s3.heap.objs.size (cellsFrom (s3.heap.objs.size + 1) scope.names (cloFrom X.env.cells scope.names [])) fp
  have pe := he s3 (upd H2 D (.lst [])) s3.heap.objs.size (cellsFrom (s3.heap.objs.size + 1) scope.names (cloFrom X.env.cells scope.names [])) fp
  show codeAny _ _ (.compStart _ 0 (.ref it) (.ref D) (compEnvC scope (cellsFrom (s3.heap.objs.size + 1) scope.names (cloFrom X.env.cells scope.names [])) s3.heap.objs.size X.env)) (compPost (model X.prog X.w) X.A X.xe use Qf (.ref D) s3.heap.objs.size) { s3 with heap := pushCells (s3.heap.push { cls := .type "dict", data := .dict #[] }) scope.names }
  have nofp : ∀ b ∈ fp, (upd H2 D (.lst [])) b = none := fun b hb => (f3 b hb).1.1
  have st4 : tn 0 (pushCells (s3.heap.push { cls := .type "dict", data := .dict #[] }) scope.names) := T.keep _ _ _ st3 fun b _ o e => gk b o e
  generalize hce : compEnvC scope (cellsFrom (s3.heap.objs.size + 1) scope.names (cloFrom X.env.cells scope.names [])) s3.heap.objs.size X.env = ce at I4 pg pt pe ⊢
  have cL : ce.locals = s3.heap.objs.size := by rw [← hce]; rfl
  clear J4
  generalize hH3 : upd H2 D (.lst []) = H3 at I3 I4 pg pt pe w0 nofp f3
  obtain ⟨s4, e4⟩ : ∃ s4 : Shared, s4 = { s3 with heap := pushCells (s3.heap.push { cls := .type "dict", data := .dict #[] }) scope.names } := ⟨_, rfl⟩
  rw [← e4] at I4 ⊢
  have st4' : tn 0 s4.heap := by rw [e4]; exact st4
  have hotB : HotC (blkH X s3 H3 scope ce fp) := hc
  have fpB : ∀ {σ' : L2.St} {H' : Hp} {s' : Shared}, Inv (blkH X s3 H3 scope ce fp) [] σ' H' s' → (∀ b ∈ fp, H' b = none) → ∀ b ∈ fp, FpOk (blkH X s3 H3 scope ce fp) [] H' b := fun {σ' H' s'} J n b hb =>
    ⟨n b hb, (J.ok.exf b hb).1, J.ok.exfs b hb, .inl hb, fun x c e => (J.ok.exf b hb).2 x c e, fun p hp => (f3 b hb).1.2.2.2.2.2 p (List.mem_append_left _ (by simpa using (show p ∈ X.pn ++ [] from hp)))⟩
  have run : codeAny (model X.prog X.w) X.A (.compLoop (.ListComp elt [⟨tg, iter, ifs, 0⟩] scope pos) 0 (.ref it) (.ref D) ce) (compPost (model X.prog X.w) X.A X.xe use Qf (.ref D) s3.heap.objs.size) s4 := by
    refine compLoop_any (fun n s' => ∃ i H', Inv (blkH X s3 H3 scope ce fp) [] (wipe σ (own.map (·.2))) H' s' ∧ tn i s'.heap ∧ (∀ b ∈ fp, H' b = none) ∧ W i n H') ?_ m0 ⟨0, H3, I4, st4', nofp, w0⟩
    rintro n s5 ⟨i, H5, I5, st5, n5, w5⟩
    rcases turn i n H5 w5 with ⟨stop, qq⟩ | ⟨go, Nx, hNx, step⟩
    · refine thnF (T.done (blkH X s3 H3 scope ce fp) rfl rfl rfl hotB i [] s5 _ H5 (fun _ _ => False) I5 (fpB I5 n5) st5 stop) fun r s6 ⟨hr, I6⟩ => ?_
      subst hr
      have I7 : Inv X pins σ H5 s6 := I3.call' (ch := fp) I6.os I6.base I6.hok I6.bare fun b hb => ⟨(f3 b hb).1.2.2.2.1, (f3 b hb).1.2.1, (f3 b hb).1.2.2.2.2.1, (f3 b hb).1.2.2.2.2.2⟩
      have nC : H5 s3.heap.objs.size = none := cL ▸ (show H5 ce.locals = none from I6.free)
      obtain ⟨m, hn, _⟩ := I6.loc
      exact back D s3.heap.objs.size s6 m H5 I7 qq (cL ▸ (show s6.heap.Ns ce.locals m from hn)) (I3.fpOk (Nat.le_refl _) nC)
    · refine thnF (T.item (blkH X s3 H3 scope ce fp) rfl rfl rfl hotB i [] s5 _ H5 (fun _ _ => False) I5 (fpB I5 n5) st5 go) fun r s6 ⟨u, hr, h6⟩ => ?_
      subst hr
      refine thnF h6 fun _ s7 ⟨x, H7, I7, r7, y7, st7, n7⟩ => ?_
      have P7 := I7.pinned (fpB I7 n7) (T.obj _ _ st7)
      refine thnF (pg.run _ s7 _ H7 x u _ P7 r7 (step x H7 y7)) fun _ s8 ⟨σ8, H8, I8, hw8, q8⟩ => ?_
      refine thnF (pt.run _ s8 σ8 H8 _ I8 q8) fun b s9 ⟨H9, I9, q9⟩ => ?_
      have fin : ∀ {s' : Shared} {H' : Hp}, Inv (blkH X s3 H3 scope ce fp) ([] ++ pinsAt fp s7.heap) σ8 H' s' → Nx H' → ∃ m, m < n ∧ ∃ i H', Inv (blkH X s3 H3 scope ce fp) [] (wipe σ (own.map (·.2))) H' s' ∧ tn i s'.heap ∧ (∀ b ∈ fp, H' b = none) ∧ W i m H' := fun {s' H'} Z nx => by
        obtain ⟨m', hm, w'⟩ := hNx H' nx
        have still : ∀ b ∈ fp, ∀ o, s7.heap.get? b = some o → s'.heap.get? b = some o ∧ H' b = none := fun b hb o e => by
          have z := Z.pin (b, o) (List.mem_append_right _ (List.mem_append_right _ (mem_pinsAt hb e)))
          exact ⟨z.1, z.2.1⟩
        have len : (wipe σ (own.map (·.2))).length = σ8.length := by rw [← hw8, wipe_length]
        refine ⟨m', hm, i + 1, H', (Z.unpinned (pins := [])).weak len (fun j v e => ?_), T.keep _ _ _ st7 fun b hb o e => (still b hb o e).1, fun b hb => ?_, w'⟩
        · rw [← hw8] at e
          exact (wipe_some e).1
        · obtain ⟨o, e, _⟩ := T.obj _ _ st7 b hb
          exact (still b hb o e).2
      cases b with
      | false => exact fin I9 (by simpa using q9)
      | true =>
        simp only [if_true] at q9
        refine thnF (pe.run _ s9 σ8 H9 _ I9 q9) fun z s10 ⟨yv, H10, I10, r10, acc, hD10, hz10, nx⟩ => ?_
        exact app_ok (X := blkH X s3 H3 scope ce fp) I10 hD10 hz10 r10 fun s11 I11 => fin I11 nx
  exact codeAny_compStart_list run (T.self X.A 0 _ _ _ st4' run)
theorem pe_lcH {X : Cx} {elt tg iter : Expr} {ifs : List Expr} {scope : Scope} {own : List (Str × Nat)} {pos : Pos} {wi : TI} {g : TG} {tt : TT} {te : TE} (hc : HotC X) (hN : X.N.Nodup) (hi : PIH X tg iter wi) (ok : BlkOk X.N X.env.scope scope own)
    (hg : ∀ s H C cl fp, PG (blkH X s H scope (compEnvC scope cl C X.env) fp) tg g) (ht : ∀ s H C cl fp, PTs (blkH X s H scope (compEnvC scope cl C X.env) fp) ifs tt)
    (he : ∀ s H C cl fp, PE (blkH X s H scope (compEnvC scope cl C X.env) fp) elt te) (hs : ∀ x, foldedSetIterable iter X.env x = pure x := by intro _; rfl) :
    PE X (.ListComp elt [⟨tg, iter, ifs, 0⟩] scope pos) (tLc wi g tt te (own.map (·.2))) := by
  refine ⟨fun pins s σ H Q I h => ?_⟩
  rw [eval_ListComp]
  refine lcH_core hc hN I hi ok hg ht he hs h fun D C s' m H' I' q hn f => ⟨m, hn, fun h'' sb => ?_⟩
  obtain ⟨f0, f1, f2, f3, f4, f5⟩ := f
  exact ⟨.ref D, H', I'.turned (t' := s'.toks) (fun b o hb e => (sb.2 b hb).trans e) f0 f1 f3 f4 f5, rfl, q⟩
end L2H
/-! an own error raised, caught, and asked for its class within the suite -/
namespace L2H
open PySem PySem.Spec PyProof.Rows L2 HotX HeY Er
/-- the caught error is of the class at C, its own dict is tracked -/
def HotD (cls : Value) (d : Option Addr) (H : Hp) (C : Addr) : Prop := cls = .ref C ∧ ∃ dd fs, d = some dd ∧ H dd = some (exd dd fs)
theorem HotD.mono {cls : Value} {d : Option Addr} {H H' : Hp} {C : Addr} (s : Same H H') (h : HotD cls d H C) : HotD cls d H' C := by
  obtain ⟨e, dd, fs, e2, h⟩ := h
  exact ⟨e, dd, fs, e2, s _ _ h⟩
/-- what a def promises of a call where p is handled: told of p's address, class and dict -/
abbrev SpQ := Addr → Value → Option Addr → Sp
structure FnQ (P : Program) (w : World) (K : PySem.W.Frag) (mg : Str → Option Value) (base : Heap) (k : Nat) (f : Addr) (fd : FuncData) (ps : List Str) (sp : SpQ) : Prop where
  len : ∀ a c d vs H Q E, sp a c d vs H Q E → vs.length = ps.length
  run : ∀ (A : Around) (outer : List Env) (s : Shared) (H : Hp) (args : Args) (us : List Value) (vs : List V) (Q : VK) (E : XK) (p : Addr × Obj), RoomH k A → Hot1 A p → PinOk outer H s p → Env0 P w K mg base A outer s H → BindsTo s fd args (ps.zip us) → Vals vs us →
    sp p.1 p.2.cls p.2.dict vs H Q E → codeAny (model P w) A (.call (.ref f) args) (CR CX0 outer P w H s Q E) s
theorem FnQ.of {P : Program} {w : World} {K : PySem.W.Frag} {mg : Str → Option Value} {base : Heap} {x qual : Str} {params : Arguments} {body : List Stmt} {scope : Scope} {f : Addr} {fd : FuncData} {N ps : List Str} {k : Nat} {sp : SpQ}
    (F : FunD K x qual params body scope [] [] f fd) (S : FnScope N ps scope) (len : ∀ a c d vs H Q E, sp a c d vs H Q E → vs.length = ps.length)
    (walk : ∀ (cdv : Value) (A : Around) (outer : List Env) (s : Shared) (H : Hp) (vs : List V) (Q : VK) (E : XK) (p : Addr × Obj), Hot1 A p → RoomH k (A.deeper (envOfC qual scope s.heap.objs.size f cdv)) → sp p.1 p.2.cls p.2.dict vs H Q E →
      ∃ t, PSs (cxH CX0 P w K mg base N qual scope f cdv A outer s H E p) body t ∧ t { nx := fun _ H' => Q .non H', rt := Q } (L2.start N vs) H) : FnQ P w K mg base (k + 1) f fd ps sp := by
  obtain ⟨oc, od, dV, kV, doc, pm, an, cdv, ct, osl, rfl, lk, hcd, _, _⟩ := F.ex
  refine ⟨len, fun A outer s H args us vs Q E p room hot pin e0 bind r hsp => ?_⟩
  have hl : vs.length = ps.length := len _ _ _ _ _ _ _ hsp
  have kin : K.In s.heap := e0.mod.kin.keeps fun b o e => (e0.bs b o e).1
  have kinds : ∀ y ∈ ps.zip us, scope.names.lookup y.1 = some .local ∨ (scope.names.lookup y.1 = some .cell ∧ ((cellsFrom (s.heap.objs.size + 1) scope.names []).lookup y.1).isSome = true) := by
    rintro ⟨n, v⟩ hy
    exact (S.par n (List.of_mem_zip hy).1).imp id fun q => ⟨q, PySem.W.cellsFrom_some _ _ _ (.inl q)⟩
  refine codeAny_call_function room.depth (kin _ _ lk) rfl S.co S.gen rfl (PySem.W.codeRec_of kin hcd) (bind _ _ _ _ (wpAny_newFunctionEnv_cells S.kind kinds fun env eqv s1 x => ?_))
  subst eqv
  have lim : s.heap.NoLimit := e0.mod.nolimit.keeps fun b o e => (e0.bs b o e).1
  refine ⟨lim.keeps x.toInCall.keep, codeAny_func ?_⟩
  obtain ⟨t, ht, hq⟩ := walk cdv A outer s H vs Q E p hot (room.deeper _) hsp
  refine wpAny_mono (ht.run [] s1 (L2.start N vs) H _ (inv_startH S pin e0 hl r x) hq) (fun fl s' hs => ?_) fun e s' hs => hs
  match fl, hs with
  | .ret u, ⟨v, σ', H', J, rv, q⟩ => exact ⟨v, H', J.os, J.bare, J.base, J.hok, rv, q⟩
  | .next, ⟨σ', H', J, q⟩ => exact ⟨.non, H', J.os, J.bare, J.base, J.hok, rfl, q⟩
  | .brk, ⟨_, _, _, q⟩ => exact q.elim
  | .cont, ⟨_, _, _, q⟩ => exact q.elim
/-- a def, as it is called there -/
structure CalQ (P : Program) (w : World) (K : PySem.W.Frag) (mg : Str → Option Value) (base : Heap) (x : Str) (k : Nat) (ps : List Str) (sp : SpQ) : Prop where
  ex : ∃ fd, FnQ P w K mg base k (He.ga K x) fd ps sp ∧ Binds K fd ps []
  kp : PySem.W.keepIn K (.ref (He.ga K x)) = true
  mgx : mg x = some (.ref (He.ga K x))
theorem calq_of {P : Program} {w : World} {K : PySem.W.Frag} {mg : Str → Option Value} {base : Heap} {x : Str} {params : Arguments} {body : List Stmt} {scope : Scope} {N ps : List Str} {k : Nat} {sp : SpQ} (F : ∃ fd, FunD K x x params body scope [] [] (He.ga K x) fd) (g : mg x = some (.ref (He.ga K x)))
    (S : FnScope N ps scope) (hb : ∀ (kV doc pm : Value) (an : Option Addr) (cdv ct : Value) (us : List Value), us.length = ps.length → bindArgs (PySem.W.fnOf x x params body scope .none kV doc pm an cdv ct) ⟨us, []⟩ = pure (ps.zip us))
    (len : ∀ a c d vs H Q E, sp a c d vs H Q E → vs.length = ps.length)
    (walk : ∀ (cdv : Value) (A : Around) (outer : List Env) (s : Shared) (H : Hp) (vs : List V) (Q : VK) (E : XK) (p : Addr × Obj), Hot1 A p → RoomH k (A.deeper (envOfC x scope s.heap.objs.size (He.ga K x) cdv)) → sp p.1 p.2.cls p.2.dict vs H Q E →
      ∃ t, PSs (cxH CX0 P w K mg base N x scope (He.ga K x) cdv A outer s H E p) body t ∧ t { nx := fun _ H' => Q .non H', rt := Q } (L2.start N vs) H) : CalQ P w K mg base x (k + 1) ps sp := by
  obtain ⟨fd, F⟩ := F
  exact ⟨⟨fd, FnQ.of F S len walk, F.bindsN hb⟩, F.kp, g⟩
def tCallQ (sp : Sp) (t : TA) : TE := fun σ H Q => t σ H fun vs H1 => sp vs H1 Q (fun _ _ _ => False)
section
variable {X : Cx} {p : Addr × Obj} {C : Addr} {k : Nat} {x : Str} {ps : List Str} {sp : SpQ} {e : Expr} {es : List Expr} {t : TA} {q pos : Pos}
theorem pe_calq (c : CalQ X.prog X.w X.K X.mg X.base x k ps sp) (hr : RoomH k X.A) (hot : Hot1 X.A p) (hp : p ∈ X.pn) (ha : PA X (e :: es) t) (hg : Gl X x := by rfl) (hdb : (x == ("__debug__" : Str)) = false := by decide)
    (he : starEach (e :: es) X.env = (false, eval e X.env) :: starEach es X.env := by rfl) (hpl : (backTo pos (starEach es X.env)).any (·.1) = false := by rfl) :
    PE X (.Call (.Name x q) (e :: es) [] pos) (tCallQ (sp p.1 p.2.cls p.2.dict) t) := by
  obtain ⟨⟨fd, F, bd⟩, kp, g⟩ := c
  refine ⟨fun pins s σ H Q I h => ?_⟩
  refine wpAny_Call_Name_kw (ld_glob I hg g ?_ hdb)
  refine PySem.W.callWith_K (h₀ := X.base) I.ok.mod.kin kp (thn (ha.run pos pins s σ H _ I h) fun us s1 ⟨vs, H1, I1, r, hsp⟩ => ⟨I1.kIn, ?_⟩) he hpl
  have hl : us.length = ps.length := r.length.symm.trans (F.len _ _ _ _ _ _ _ hsp)
  have b := bd s1 us I1.kIn (by rw [List.append_nil]; exact hl)
  rw [List.append_nil] at b
  have P1 := I1.pin p (List.mem_append_left _ hp)
  refine wpAny_call (codeAny_mono (F.run X.A X.stack s1 H1 ⟨us, []⟩ us vs Q (fun _ _ _ => False) p hr hot ⟨P1.1, P1.2.1, fun hm => (List.mem_cons.mp (I1.stkSub p.1 hm)).elim P1.2.2.1 P1.2.2.2.1, P1.2.2.2.2⟩ I1.env0 b r hsp) fun res s' hq => ?_)
  match res, hq with
  | .error _, hq => exact False.elim hq
  | .ok (.ret u), hq => exact I1.after hq
  | .ok .next, hq => exact False.elim hq
  | .ok .brk, hq => exact False.elim hq
  | .ok .cont, hq => exact False.elim hq
theorem Inv.exHot {pins : List (Addr × Obj)} {σ : L2.St} {H : Hp} {s : Shared} (I : Inv X pins σ H s) (hot : Hot1 X.A p) (hp : p ∈ X.pn) (h : HotD p.2.cls p.2.dict H C) : ∃ ox od, PySem.W.InstAt s.heap p.1 ox C od := by
  obtain ⟨ec, dd, fs, ed, hd⟩ := h
  obtain ⟨mA, hn, _⟩ := exd_at I.hok hd
  obtain ⟨o, _, _, eo, _⟩ := hn
  obtain ⟨_, v1, e1, _⟩ := hot
  refine ⟨p.2, some o, ⟨(I.pin p (List.mem_append_left _ hp)).1, ec, by unfold PySem.W.notCls; rw [e1], ?_⟩⟩
  rw [ed]
  exact eo
/-- isinstance(e, c) of the caught one -/
def rIsQ (K : PySem.W.Frag) (a : Addr) (cls : Value) (d : Option Addr) : List V → Hp → VK → Prop := fun xs H Q => ∃ (C : Addr) (c : V) (u : Value) (b : Bool), xs = [.ref a, c] ∧ HotD cls d H C ∧ XK1 K C ∧ ClsV c u ∧ PySem.W.kitOne K (.ref C) u = some b ∧ Q (.bl b) H
theorem call_isQ (hot : Hot1 X.A p) (hp : p ∈ X.pn) : CallR X (.builtin "isinstance") (rIsQ X.K p.1 p.2.cls p.2.dict) := by
  intro pins s σ H xs us Q I r h
  obtain ⟨C, c, u, b, rfl, eh, T, k, e, q⟩ := h
  obtain ⟨u1, u2, rfl, r1, r2⟩ := vals2 r
  obtain rfl : u1 = Value.ref p.1 := r1
  obtain rfl := k.eq r2
  obtain ⟨ox, od, J⟩ := Inv.exHot I hot hp eh
  exact PySem.W.kia_one (kitx_ex T) I.kIn J e (fun z => nomatch z) fun tk => ⟨.bl b, H, I.tok tk, rfl, q⟩
/-- C(..) raised: a new error with a dict of its own -/
theorem pmk_x {te : TE} (hx : X.ex = []) (he : PE X e te) :
    L2N.PMk X e (fun σ H Q => te σ H fun y H1 => ∃ a C dd fs, y = .ref a ∧ H1 a = some (exo a C (some dd)) ∧ H1 dd = some (exd dd fs) ∧ Fr0 X.H_0 a ∧ OexC X.K C ∧ Q (.ref C) (some dd) (delH H1 a)) := by
  intro pins s σ H Q I h
  refine wpAny_mono (he.run pins s σ H _ I h) (fun u s1 hu => ?_) fun _ _ x => x
  obtain ⟨v, H1, I1, r1, a, C, dd, fs, rfl, ha, _, h0, hr, q⟩ := hu
  cases r1
  obtain ⟨t1, ho⟩ := exo_at I1.hok ha
  obtain ⟨G, gs, ga, J⟩ := I1.untrack ha h0 hx
  exact ⟨a, _, _, { s1 with heap := G }, delH H1 a, .ref C, some dd, rfl, J, gs, ga, ho, ⟨rfl, rfl, fun vs e => by cases e; rfl⟩, rfl, rfl, delH_same, rfl, I1.bare, raises_own hr.exC hr.tyC, q⟩
end
theorem exm_base {K : PySem.W.Frag} {T C : Addr} (c : Kn K T C) (d : Kn K T T) (h : C ≠ T) : PySem.W.exmOne K (.ref C) (.ref T) = some true := by
  have e := c.base d
  unfold PySem.W.kitOne at e
  rw [if_neg (fun z => h (Value.ref.inj (beq_iff_eq.mp z)))] at e
  unfold PySem.W.exmOne
  rw [if_pos (by rw [d.x.sub]; rfl)]
  exact e
end L2H
namespace L2H
open PySem PySem.Spec PyProof.Rows L2 HotX HeY Er
def tIsQ (K : PySem.W.Frag) (T : Addr) (a : Addr) (cls : Value) (d : Option Addr) (i : Nat) (D : Addr) : TE := fun σ H Q => ∃ C, σ[i]? = some (some (V.ref a)) ∧ HotD cls d H C ∧ Kn K T C ∧ Q (.bl (decide (C = D))) H
section
variable {X : Cx} {ph : Addr × Obj} {T D : Addr} {i : Nat} {x c : Str} {p p1 p2 pos : Pos}
theorem pe_isQ (hot : Hot1 X.A ph) (hp : ph ∈ X.pn) (gI : X.mg "isinstance" = none) (gD : X.mg c = some (.ref D)) (kD : Kn X.K T D) (hD : D ≠ T) (hg : Gl X "isinstance" := by rfl) (hc : Gl X c := by rfl) (hN : X.N[i]? = some x := by rfl)
    (hv : Vis X.env.scope x := by first | exact Or.inl rfl | exact Or.inr (Or.inl rfl) | exact Or.inr (Or.inr rfl)) (hd : (x == ("__debug__" : Str)) = false := by decide) (hcd : (x == ("__classdict__" : Str)) = false := by decide) (hdc : (c == ("__debug__" : Str)) = false := by decide)
    (hs : starEach [.Name x p1, .Name c p2] X.env = (false, eval (.Name x p1) X.env) :: starEach [.Name c p2] X.env := by rfl) (hs2 : starEach [.Name c p2] X.env = (false, eval (.Name c p2) X.env) :: starEach [] X.env := by rfl) :
    PE X (.Call (.Name "isinstance" p) [.Name x p1, .Name c p2] [] pos) (tIsQ X.K T ph.1 ph.2.cls ph.2.dict i D) := by
  refine ⟨fun pins s σ H Q I h => ?_⟩
  obtain ⟨C, h0, ea, kC, q⟩ := h
  have pa : PA X [.Name x p1, .Name c p2] (tCons (tVar i) (tCons (tC (.ref D)) tNil)) := pa_cons (pe_var hN hv hd hcd) (pa_cons (pe_glob hc gD rfl hdc) pa_nil hs2) hs
  exact (pe_callB (call_isQ hot hp) hg gI (by decide +kernel) pa).run pins s σ H Q I ⟨_, h0, C, _, _, _, rfl, ea, kC.x, .own D, kC.one kD hD, q⟩
end
def tIssQ (K : PySem.W.Frag) (T : Addr) (a : Addr) (cls : Value) (d : Option Addr) (i : Nat) : List Addr → TA
  | [] => tNil
  | D :: r => tCons (tIsQ K T a cls d i D) (tIssQ K T a cls d i r)
section
variable {K : PySem.W.Frag} {T : Addr} {i : Nat} {a C : Addr} {cls : Value} {d : Option Addr}
theorem issQ_ok {σ : L2.St} {H : Hp} (h0 : σ[i]? = some (some (V.ref a))) (ea : HotD cls d H C) (kC : Kn K T C) : ∀ {Ds : List Addr} {Q : List V → Hp → Prop}, Q (Ds.map fun D => V.bl (decide (C = D))) H → tIssQ K T a cls d i Ds σ H Q
  | [], Q, q => q
  | D :: r, Q, q => ⟨C, h0, ea, kC, issQ_ok h0 ea kC (Ds := r) (Q := fun xs H2 => Q (V.bl (decide (C = D)) :: xs) H2) q⟩
theorem issQ_mono : ∀ {Ds : List Addr} {σ : L2.St} {H : Hp} (Q1 Q2 : List V → Hp → Prop), (∀ vs H1, Q1 vs H1 → Q2 vs H1) → tIssQ K T a cls d i Ds σ H Q1 → tIssQ K T a cls d i Ds σ H Q2
  | [], σ, H, Q1, Q2, h, q => h _ _ q
  | D :: r, σ, H, Q1, Q2, h, ⟨C, h0, ea, kC, q⟩ => ⟨C, h0, ea, kC, issQ_mono (Ds := r) (fun xs H2 => Q1 (V.bl (decide (C = D)) :: xs) H2) (fun xs H2 => Q2 (V.bl (decide (C = D)) :: xs) H2) (fun vs H1 z => h _ _ z) q⟩
end
/-- the numbers of the classes of which the caught error is -/
def spKindsQ (K : PySem.W.Frag) (T : Addr) (c : Int) (Ds : List Addr) : SpQ := fun a cls d vs H Q _ => ∃ C, vs = [.ref a] ∧ HotD cls d H C ∧ Kn K T C ∧ ∀ l H', H l = none → Same H H' → H' l = some (.lst (idx c (places Ds C) Ds.length)) → Q (.ref l) H'
end L2H
namespace L2H
open PySem PySem.Spec PyProof.Rows L2 HotX HeY Er
/-- raise C(..) -/
def tRaiseX (K : PySem.W.Frag) (H0 : Hp) (te : TE) (W : WX) : TS := fun _ σ H => te σ H fun y H1 => ∃ a C dd fs, y = .ref a ∧ H1 a = some (exo a C (some dd)) ∧ H1 dd = some (exd dd fs) ∧ Fr0 H0 a ∧ OexC K C ∧ W (.ref C) (some dd) σ (delH H1 a)
theorem ps_raise_x {X : Cx} {W : WX} {e : Expr} {te : TE} {pos : Pos} (hc : X.calm = true) (hx : X.ex = []) (tk : L2N.Takes X W) (he : PE X e te) : PS X (.Raise (some e) none pos) (tRaiseX X.K X.H_0 te W) :=
  L2N.ps_raise hc tk (pmk_x hx he)
end L2H
namespace Er
open PySem PySem.Spec PyProof.Rows L2 HeY Dw
theorem kitAny_no {K : PySem.W.Frag} {C : Addr} : ∀ {us : List Value}, (∀ u ∈ us, PySem.W.kitOne K (.ref C) u = some false) → PySem.W.kitAny K (.ref C) us = some false
  | [], _ => by simp [PySem.W.kitAny]
  | u :: r, h => kitAny_cons (b := false) (h u List.mem_cons_self) (fun _ => kitAny_no fun v hv => h v (List.mem_cons_of_mem _ hv)) fun e => Bool.noConfusion e
/-- isinstance(e, (A, B, ..)), e of none of them -/
theorem isT_no {K : PySem.W.Frag} {T : Addr} {j : Nat} {a C : Addr} {σ : L2.St} {H : Hp} {Q : VK} {ta : TA} {cs : List V} {us : List Value} (h0 : σ[j]? = some (some (V.ref a))) (ea : ExAt H a C) (kC : Kn K T C) (ht : ∀ R : List V → Hp → Prop, R cs H → ta σ H R) (hp : Paired ClsV cs us)
    (hz : cs.length ≤ sizeLine) (hu : ∀ u ∈ us, PySem.W.kitOne K (.ref C) u = some false) (q : ∀ H', Same H H' → Q (.bl false) H') : tCB (rIsXT K) (tCons (tVar j) (tCons (tTup ta) tNil)) σ H Q := by
  refine ⟨_, h0, tup_ok (ht _ ⟨hz, fun tp htp => ?_⟩)⟩
  exact ⟨a, C, tp, cs, us, false, rfl, upd_same, hp, ea.mono (Same.new htp), kC.x, kitAny_no hu, q _ (Same.new htp)⟩
abbrev tAt (n : Int) : TE := tIf (tTest (tOp (rI0 fun i j => .bl (decide (i < j))) (tVar 2) (tC (.int n)))) (tOp rModI (tCB cInt (tCons (tOp rAddI (tVar 2) (tCall spPick [] E0 (tCons (tVar 1) (tCons (tC (.int n)) tNil)))) tNil)) (tC (.int n))) (tOp rSubI (tVar 2) (tC (.int n)))
/-- at: a number below n -/
theorem at_ok {σ : L2.St} {H : Hp} {Q : VK} {s l : Addr} {m : Nat} {n k : Nat} (h1 : σ[1]? = some (some (V.ref s))) (h2 : σ[2]? = some (some (V.int (k : Int)))) (hn : 0 < n) (hn2 : n < 1000) (hk : k < 2 * n) (st : StAt H s l m) (hm : m < 900000)
    (q : ∀ (i : Nat) H', i < n → StAt H' s l (m + 1) → Fr s l H H' → Q (.int (i : Int)) H') : tAt (n : Int) σ H Q := by
  refine ⟨_, h2, _, _, rfl, rfl, _, rfl, ite2 (fun hc => ?_) fun hc => ?_⟩
  · refine ⟨_, h2, _, h1, s, l, m, (n : Int), rfl, by omega, by omega, st, by omega, fun r H1 r0 r1 st1 f1 => ?_⟩
    refine ⟨_, _, rfl, rfl, .inl ⟨_, rfl, _, _, rfl, rfl, (by omega), ?_⟩⟩
    have z := fmod_rng (a := (k : Int) + r) (b := (n : Int)) (by omega)
    obtain ⟨i, hi⟩ := Int.eq_ofNat_of_zero_le z.1
    show Q (.int (((k : Int) + r).fmod (n : Int))) H1
    rw [hi]
    exact q i H1 (by omega) st1 f1
  · have hc' : ¬ ((k : Int) < (n : Int)) := fun y => hc (decide_eq_true y)
    refine ⟨_, h2, _, _, rfl, rfl, ?_⟩
    have e : (k : Int) - (n : Int) = ((k - n : Nat) : Int) := by omega
    show Q (.int ((k : Int) - (n : Int))) H
    rw [e]
    exact q (k - n) H (by omega) (st.mono (by omega)) Fr.refl
theorem bi_no {K : PySem.W.Frag} {T C : Addr} {n : String} (c : Kn K T C) (hn : PySem.W.kitMeta n = true) (hb : PySem.HandSPX.veTail.contains (.type n) = false) : PySem.W.kitOne K (.ref C) (.type n) = some false := by rw [c.bi hn, hb]
end Er
namespace Er
open PySem PySem.Spec PyProof.Rows L2 HeY Dw
theorem idx_app (c : Int) (D1 D2 : List Addr) (C : Addr) : idx c (places (D1 ++ D2) C) (D1.length + D2.length) = idx c (places D1 C) D1.length ++ idx (c + (D1.length : Int)) (places D2 C) D2.length := by
  have l1 : (places D1 C).length = D1.length := by unfold places; rw [List.length_map]
  have e : places (D1 ++ D2) C = places D1 C ++ places D2 C := by unfold places; rw [List.map_append]
  unfold idx
  rw [e, List.range_add, List.filter_append, List.map_append]
  congr 1
  · congr 1
    apply List.filter_congr
    intro k hk
    rw [List.getElem?_append_left (by rw [l1]; exact List.mem_range.mp hk)]
  · rw [List.filter_map, List.map_map]
    have f : ((fun k => (places D1 C ++ places D2 C)[k]? == some true) ∘ fun x => D1.length + x) = fun k => (places D2 C)[k]? == some true := by
      funext k
      show ((places D1 C ++ places D2 C)[D1.length + k]? == some true) = _
      rw [List.getElem?_append_right (by rw [l1]; omega), l1, Nat.add_sub_cancel_left]
    rw [f]
    apply List.map_congr_left
    intro k _
    show V.int (c + ((D1.length + k : Nat) : Int)) = V.int (c + (D1.length : Int) + (k : Int))
    congr 1
    omega
end Er
namespace HK
open PySem PySem.W PySem.Calls PySem.Spec PyProof.Rows L2
def top (i : Nat) : Stmt := PySem.Challenge.pw_updowns_k00_errors_made.main.body.getD i (.Pass ⟨0, 0, 0, 0⟩)

def clsF : List (Str × Str) := ([("BadOther", "other"), ("WrongKinds", "index"), ("WrongRules", "index"), ("BadStart", "start"), ("NoTree", "kind"), ("BadGrammar", "grammar"), ("BadKind", "kind"), ("BadRule", "rule"), ("BadSpot", "spot"), ("BadTree", "tree"), ("BadPlace", "place"), ("BadPart", "part"), ("BadInstance", "instance"), ("BadSize", "size"), ("BadGrammarText", "line"), ("BadTreeText", "place"), ("HasCircle", "tree"), ("BadGiven", "given"), ("BadKnown", "known"), ("BadWanted", "index")] : List (Str × Str)) ++ ([("NotReached", "kind"), ("BadName", "name"), ("NotStart", "tree"), ("BadNumber", "number"), ("BadValue", "value"), ("BadTold", "told"), ("BadOrder", "order"), ("BadWord", "word"), ("BadSource", "source")] : List (Str × Str))
def cls0 : List Str := ([] : List Str)
def dIni : List He.DefD := [
  ⟨("BadOther", some "__init__"), "__init__", "BadOther.__init__", defArgs (inClass (top 2) 0), defBody (inClass (top 2) 0), defScope (inClass (top 2) 0), [], []⟩,
  ⟨("WrongKinds", some "__init__"), "__init__", "WrongKinds.__init__", defArgs (inClass (top 4) 0), defBody (inClass (top 4) 0), defScope (inClass (top 4) 0), [], []⟩,
  ⟨("WrongRules", some "__init__"), "__init__", "WrongRules.__init__", defArgs (inClass (top 5) 0), defBody (inClass (top 5) 0), defScope (inClass (top 5) 0), [], []⟩,
  ⟨("BadStart", some "__init__"), "__init__", "BadStart.__init__", defArgs (inClass (top 6) 0), defBody (inClass (top 6) 0), defScope (inClass (top 6) 0), [], []⟩,
  ⟨("NoTree", some "__init__"), "__init__", "NoTree.__init__", defArgs (inClass (top 7) 0), defBody (inClass (top 7) 0), defScope (inClass (top 7) 0), [], []⟩,
  ⟨("BadGrammar", some "__init__"), "__init__", "BadGrammar.__init__", defArgs (inClass (top 8) 0), defBody (inClass (top 8) 0), defScope (inClass (top 8) 0), [], []⟩,
  ⟨("BadKind", some "__init__"), "__init__", "BadKind.__init__", defArgs (inClass (top 9) 0), defBody (inClass (top 9) 0), defScope (inClass (top 9) 0), [], []⟩,
  ⟨("BadRule", some "__init__"), "__init__", "BadRule.__init__", defArgs (inClass (top 10) 0), defBody (inClass (top 10) 0), defScope (inClass (top 10) 0), [], []⟩,
  ⟨("BadSpot", some "__init__"), "__init__", "BadSpot.__init__", defArgs (inClass (top 11) 0), defBody (inClass (top 11) 0), defScope (inClass (top 11) 0), [], []⟩,
  ⟨("BadTree", some "__init__"), "__init__", "BadTree.__init__", defArgs (inClass (top 12) 0), defBody (inClass (top 12) 0), defScope (inClass (top 12) 0), [], []⟩,
  ⟨("BadPlace", some "__init__"), "__init__", "BadPlace.__init__", defArgs (inClass (top 13) 0), defBody (inClass (top 13) 0), defScope (inClass (top 13) 0), [], []⟩,
  ⟨("BadPart", some "__init__"), "__init__", "BadPart.__init__", defArgs (inClass (top 14) 0), defBody (inClass (top 14) 0), defScope (inClass (top 14) 0), [], []⟩,
  ⟨("BadInstance", some "__init__"), "__init__", "BadInstance.__init__", defArgs (inClass (top 15) 0), defBody (inClass (top 15) 0), defScope (inClass (top 15) 0), [], []⟩,
  ⟨("BadSize", some "__init__"), "__init__", "BadSize.__init__", defArgs (inClass (top 16) 0), defBody (inClass (top 16) 0), defScope (inClass (top 16) 0), [], []⟩,
  ⟨("BadGrammarText", some "__init__"), "__init__", "BadGrammarText.__init__", defArgs (inClass (top 17) 0), defBody (inClass (top 17) 0), defScope (inClass (top 17) 0), [], []⟩,
  ⟨("BadTreeText", some "__init__"), "__init__", "BadTreeText.__init__", defArgs (inClass (top 18) 0), defBody (inClass (top 18) 0), defScope (inClass (top 18) 0), [], []⟩,
  ⟨("HasCircle", some "__init__"), "__init__", "HasCircle.__init__", defArgs (inClass (top 19) 0), defBody (inClass (top 19) 0), defScope (inClass (top 19) 0), [], []⟩,
  ⟨("BadGiven", some "__init__"), "__init__", "BadGiven.__init__", defArgs (inClass (top 20) 0), defBody (inClass (top 20) 0), defScope (inClass (top 20) 0), [], []⟩,
  ⟨("BadKnown", some "__init__"), "__init__", "BadKnown.__init__", defArgs (inClass (top 21) 0), defBody (inClass (top 21) 0), defScope (inClass (top 21) 0), [], []⟩,
  ⟨("BadWanted", some "__init__"), "__init__", "BadWanted.__init__", defArgs (inClass (top 22) 0), defBody (inClass (top 22) 0), defScope (inClass (top 22) 0), [], []⟩,
  ⟨("NotReached", some "__init__"), "__init__", "NotReached.__init__", defArgs (inClass (top 23) 0), defBody (inClass (top 23) 0), defScope (inClass (top 23) 0), [], []⟩,
  ⟨("BadName", some "__init__"), "__init__", "BadName.__init__", defArgs (inClass (top 24) 0), defBody (inClass (top 24) 0), defScope (inClass (top 24) 0), [], []⟩,
  ⟨("NotStart", some "__init__"), "__init__", "NotStart.__init__", defArgs (inClass (top 25) 0), defBody (inClass (top 25) 0), defScope (inClass (top 25) 0), [], []⟩,
  ⟨("BadNumber", some "__init__"), "__init__", "BadNumber.__init__", defArgs (inClass (top 26) 0), defBody (inClass (top 26) 0), defScope (inClass (top 26) 0), [], []⟩,
  ⟨("BadValue", some "__init__"), "__init__", "BadValue.__init__", defArgs (inClass (top 27) 0), defBody (inClass (top 27) 0), defScope (inClass (top 27) 0), [], []⟩,
  ⟨("BadTold", some "__init__"), "__init__", "BadTold.__init__", defArgs (inClass (top 28) 0), defBody (inClass (top 28) 0), defScope (inClass (top 28) 0), [], []⟩,
  ⟨("BadOrder", some "__init__"), "__init__", "BadOrder.__init__", defArgs (inClass (top 29) 0), defBody (inClass (top 29) 0), defScope (inClass (top 29) 0), [], []⟩,
  ⟨("BadWord", some "__init__"), "__init__", "BadWord.__init__", defArgs (inClass (top 30) 0), defBody (inClass (top 30) 0), defScope (inClass (top 30) 0), [], []⟩,
  ⟨("BadSource", some "__init__"), "__init__", "BadSource.__init__", defArgs (inClass (top 31) 0), defBody (inClass (top 31) 0), defScope (inClass (top 31) 0), [], []⟩]
def dLaw : List He.DefD := [
  ⟨("_law_start", none), "_law_start", "_law_start", defArgs (top 33), defBody (top 33), defScope (top 33), [], []⟩,
  ⟨("_law_pick", none), "_law_pick", "_law_pick", defArgs (top 34), defBody (top 34), defScope (top 34), [], []⟩,
  ⟨("_law_between", none), "_law_between", "_law_between", defArgs (top 35), defBody (top 35), defScope (top 35), [], []⟩,
  ⟨("_law_kinds_first", none), "_law_kinds_first", "_law_kinds_first", defArgs (top 36), defBody (top 36), defScope (top 36), [], []⟩,
  ⟨("_law_kinds_last", none), "_law_kinds_last", "_law_kinds_last", defArgs (top 37), defBody (top 37), defScope (top 37), [], []⟩,
  ⟨("_law_kinds", none), "_law_kinds", "_law_kinds", defArgs (top 38), defBody (top 38), defScope (top 38), [], []⟩,
  ⟨("_law_grammar_made", none), "_law_grammar_made", "_law_grammar_made", defArgs (top 39), defBody (top 39), defScope (top 39), [], []⟩,
  ⟨("_law_tree_made", none), "_law_tree_made", "_law_tree_made", defArgs (top 40), defBody (top 40), defScope (top 40), [], []⟩,
  ⟨("_law_value_made", none), "_law_value_made", "_law_value_made", defArgs (top 41), defBody (top 41), defScope (top 41), [], []⟩,
  ⟨("_law_other_made", none), "_law_other_made", "_law_other_made", defArgs (top 42), defBody (top 42), defScope (top 42), [], []⟩,
  ⟨("_law_made_at", none), "_law_made_at", "_law_made_at", defArgs (top 43), defBody (top 43), defScope (top 43), [], []⟩,
  ⟨("_law_object", none), "_law_object", "_law_object", defArgs (top 44), defBody (top 44), defScope (top 44), [], []⟩,
  ⟨("_law_very", none), "_law_very", "_law_very", defArgs (top 45), defBody (top 45), defScope (top 45), [], []⟩,
  ⟨("_law_caught", none), "_law_caught", "_law_caught", defArgs (top 46), defBody (top 46), defScope (top 46), [], []⟩,
  ⟨("law", none), "law", "law", defArgs (top 47), defBody (top 47), defScope (top 47), [], []⟩]
def fn : List He.DefD := dIni ++ dLaw
def frs : List Str := (["abs", "int", "isinstance", "len", "list", "tuple", "dict", "bool", "str", "max", "all", "zip", "range", "ValueError", "KeyError"] : List Str) ++ (["IndexError", "TypeError"] : List Str)
def flds : List Str := (["given", "grammar", "index", "instance", "kind", "known", "line", "name", "number", "order", "other", "part", "place", "rule", "size"] : List Str) ++ (["source", "spot", "start", "told", "tree", "value", "word"] : List Str)
def fa : List He.Fa := (dLaw.map fun d => He.Fa.glo d.name) ++ frs.map He.Fa.free
def ex : PySem.W.Frag → Bool := HeY.exB clsF cls0 flds
abbrev R : PySem.W.OpenRow := PySem.W.OpenLaw.row PySem.Challenge.rw_updowns_k00_errors_made
abbrev hk : PySem.W.Hook := HeY.hookY fa fn ex
def ob (s : PySem.W.SharedT) : HeY.AlY := HeY.obsY fa fn ex (HandSHeadRun.getT s)
theorem ob_eq (s : PySem.W.SharedT) : ob s = hk.obs s.abs := HeY.obsY_eq (HandSHeadRun.getT_eq s)
abbrev qv : Program := PySem.W.view R.prog [47]
theorem flds_free : HeY.fldsFree flds = true := by kernel_rfl
abbrev Txt := HeY.Txt clsF cls0 dLaw frs
section
variable {P : Program} {w : World} {K : PySem.W.Frag} {h : Heap} {mg : Str → Option Value} {base : Heap}
theorem mk_all (c : HeY.SaysY fa fn ex K) (T : Addr) (hT : HeY.tB K T flds = true) : HeY.AllP (fun p => HeY.clsB K T (He.ga K p.1) p.2 = true → XMk P w K mg base (He.ga K p.1) p.2) clsF := by
  unfold clsF

  refine .cons (fun h => (c.1.def_ 0 (h := by rfl)).elim fun fd F => HeY.xmk_y (x := "BadOther") (f := "other") (by decide) hT flds_free (by decide +kernel) h F (fun _ _ _ _ _ _ us hl => match us, hl with | [_, _], _ => rfl) (fun _ _ _ _ _ _ _ _ => rfl)) ?_
  refine .cons (fun h => (c.1.def_ 1 (h := by rfl)).elim fun fd F => HeY.xmk_y (x := "WrongKinds") (f := "index") (by decide) hT flds_free (by decide +kernel) h F (fun _ _ _ _ _ _ us hl => match us, hl with | [_, _], _ => rfl) (fun _ _ _ _ _ _ _ _ => rfl)) ?_
  refine .cons (fun h => (c.1.def_ 2 (h := by rfl)).elim fun fd F => HeY.xmk_y (x := "WrongRules") (f := "index") (by decide) hT flds_free (by decide +kernel) h F (fun _ _ _ _ _ _ us hl => match us, hl with | [_, _], _ => rfl) (fun _ _ _ _ _ _ _ _ => rfl)) ?_
  refine .cons (fun h => (c.1.def_ 3 (h := by rfl)).elim fun fd F => HeY.xmk_y (x := "BadStart") (f := "start") (by decide) hT flds_free (by decide +kernel) h F (fun _ _ _ _ _ _ us hl => match us, hl with | [_, _], _ => rfl) (fun _ _ _ _ _ _ _ _ => rfl)) ?_
  refine .cons (fun h => (c.1.def_ 4 (h := by rfl)).elim fun fd F => HeY.xmk_y (x := "NoTree") (f := "kind") (by decide) hT flds_free (by decide +kernel) h F (fun _ _ _ _ _ _ us hl => match us, hl with | [_, _], _ => rfl) (fun _ _ _ _ _ _ _ _ => rfl)) ?_
  refine .cons (fun h => (c.1.def_ 5 (h := by rfl)).elim fun fd F => HeY.xmk_y (x := "BadGrammar") (f := "grammar") (by decide) hT flds_free (by decide +kernel) h F (fun _ _ _ _ _ _ us hl => match us, hl with | [_, _], _ => rfl) (fun _ _ _ _ _ _ _ _ => rfl)) ?_
  refine .cons (fun h => (c.1.def_ 6 (h := by rfl)).elim fun fd F => HeY.xmk_y (x := "BadKind") (f := "kind") (by decide) hT flds_free (by decide +kernel) h F (fun _ _ _ _ _ _ us hl => match us, hl with | [_, _], _ => rfl) (fun _ _ _ _ _ _ _ _ => rfl)) ?_
  refine .cons (fun h => (c.1.def_ 7 (h := by rfl)).elim fun fd F => HeY.xmk_y (x := "BadRule") (f := "rule") (by decide) hT flds_free (by decide +kernel) h F (fun _ _ _ _ _ _ us hl => match us, hl with | [_, _], _ => rfl) (fun _ _ _ _ _ _ _ _ => rfl)) ?_
  refine .cons (fun h => (c.1.def_ 8 (h := by rfl)).elim fun fd F => HeY.xmk_y (x := "BadSpot") (f := "spot") (by decide) hT flds_free (by decide +kernel) h F (fun _ _ _ _ _ _ us hl => match us, hl with | [_, _], _ => rfl) (fun _ _ _ _ _ _ _ _ => rfl)) ?_
  refine .cons (fun h => (c.1.def_ 9 (h := by rfl)).elim fun fd F => HeY.xmk_y (x := "BadTree") (f := "tree") (by decide) hT flds_free (by decide +kernel) h F (fun _ _ _ _ _ _ us hl => match us, hl with | [_, _], _ => rfl) (fun _ _ _ _ _ _ _ _ => rfl)) ?_
  refine .cons (fun h => (c.1.def_ 10 (h := by rfl)).elim fun fd F => HeY.xmk_y (x := "BadPlace") (f := "place") (by decide) hT flds_free (by decide +kernel) h F (fun _ _ _ _ _ _ us hl => match us, hl with | [_, _], _ => rfl) (fun _ _ _ _ _ _ _ _ => rfl)) ?_
  refine .cons (fun h => (c.1.def_ 11 (h := by rfl)).elim fun fd F => HeY.xmk_y (x := "BadPart") (f := "part") (by decide) hT flds_free (by decide +kernel) h F (fun _ _ _ _ _ _ us hl => match us, hl with | [_, _], _ => rfl) (fun _ _ _ _ _ _ _ _ => rfl)) ?_
  refine .cons (fun h => (c.1.def_ 12 (h := by rfl)).elim fun fd F => HeY.xmk_y (x := "BadInstance") (f := "instance") (by decide) hT flds_free (by decide +kernel) h F (fun _ _ _ _ _ _ us hl => match us, hl with | [_, _], _ => rfl) (fun _ _ _ _ _ _ _ _ => rfl)) ?_
  refine .cons (fun h => (c.1.def_ 13 (h := by rfl)).elim fun fd F => HeY.xmk_y (x := "BadSize") (f := "size") (by decide) hT flds_free (by decide +kernel) h F (fun _ _ _ _ _ _ us hl => match us, hl with | [_, _], _ => rfl) (fun _ _ _ _ _ _ _ _ => rfl)) ?_
  refine .cons (fun h => (c.1.def_ 14 (h := by rfl)).elim fun fd F => HeY.xmk_y (x := "BadGrammarText") (f := "line") (by decide) hT flds_free (by decide +kernel) h F (fun _ _ _ _ _ _ us hl => match us, hl with | [_, _], _ => rfl) (fun _ _ _ _ _ _ _ _ => rfl)) ?_
  refine .cons (fun h => (c.1.def_ 15 (h := by rfl)).elim fun fd F => HeY.xmk_y (x := "BadTreeText") (f := "place") (by decide) hT flds_free (by decide +kernel) h F (fun _ _ _ _ _ _ us hl => match us, hl with | [_, _], _ => rfl) (fun _ _ _ _ _ _ _ _ => rfl)) ?_
  refine .cons (fun h => (c.1.def_ 16 (h := by rfl)).elim fun fd F => HeY.xmk_y (x := "HasCircle") (f := "tree") (by decide) hT flds_free (by decide +kernel) h F (fun _ _ _ _ _ _ us hl => match us, hl with | [_, _], _ => rfl) (fun _ _ _ _ _ _ _ _ => rfl)) ?_
  refine .cons (fun h => (c.1.def_ 17 (h := by rfl)).elim fun fd F => HeY.xmk_y (x := "BadGiven") (f := "given") (by decide) hT flds_free (by decide +kernel) h F (fun _ _ _ _ _ _ us hl => match us, hl with | [_, _], _ => rfl) (fun _ _ _ _ _ _ _ _ => rfl)) ?_
  refine .cons (fun h => (c.1.def_ 18 (h := by rfl)).elim fun fd F => HeY.xmk_y (x := "BadKnown") (f := "known") (by decide) hT flds_free (by decide +kernel) h F (fun _ _ _ _ _ _ us hl => match us, hl with | [_, _], _ => rfl) (fun _ _ _ _ _ _ _ _ => rfl)) ?_
  refine .cons (fun h => (c.1.def_ 19 (h := by rfl)).elim fun fd F => HeY.xmk_y (x := "BadWanted") (f := "index") (by decide) hT flds_free (by decide +kernel) h F (fun _ _ _ _ _ _ us hl => match us, hl with | [_, _], _ => rfl) (fun _ _ _ _ _ _ _ _ => rfl)) ?_
  refine .cons (fun h => (c.1.def_ 20 (h := by rfl)).elim fun fd F => HeY.xmk_y (x := "NotReached") (f := "kind") (by decide) hT flds_free (by decide +kernel) h F (fun _ _ _ _ _ _ us hl => match us, hl with | [_, _], _ => rfl) (fun _ _ _ _ _ _ _ _ => rfl)) ?_
  refine .cons (fun h => (c.1.def_ 21 (h := by rfl)).elim fun fd F => HeY.xmk_y (x := "BadName") (f := "name") (by decide) hT flds_free (by decide +kernel) h F (fun _ _ _ _ _ _ us hl => match us, hl with | [_, _], _ => rfl) (fun _ _ _ _ _ _ _ _ => rfl)) ?_
  refine .cons (fun h => (c.1.def_ 22 (h := by rfl)).elim fun fd F => HeY.xmk_y (x := "NotStart") (f := "tree") (by decide) hT flds_free (by decide +kernel) h F (fun _ _ _ _ _ _ us hl => match us, hl with | [_, _], _ => rfl) (fun _ _ _ _ _ _ _ _ => rfl)) ?_
  refine .cons (fun h => (c.1.def_ 23 (h := by rfl)).elim fun fd F => HeY.xmk_y (x := "BadNumber") (f := "number") (by decide) hT flds_free (by decide +kernel) h F (fun _ _ _ _ _ _ us hl => match us, hl with | [_, _], _ => rfl) (fun _ _ _ _ _ _ _ _ => rfl)) ?_
  refine .cons (fun h => (c.1.def_ 24 (h := by rfl)).elim fun fd F => HeY.xmk_y (x := "BadValue") (f := "value") (by decide) hT flds_free (by decide +kernel) h F (fun _ _ _ _ _ _ us hl => match us, hl with | [_, _], _ => rfl) (fun _ _ _ _ _ _ _ _ => rfl)) ?_
  refine .cons (fun h => (c.1.def_ 25 (h := by rfl)).elim fun fd F => HeY.xmk_y (x := "BadTold") (f := "told") (by decide) hT flds_free (by decide +kernel) h F (fun _ _ _ _ _ _ us hl => match us, hl with | [_, _], _ => rfl) (fun _ _ _ _ _ _ _ _ => rfl)) ?_
  refine .cons (fun h => (c.1.def_ 26 (h := by rfl)).elim fun fd F => HeY.xmk_y (x := "BadOrder") (f := "order") (by decide) hT flds_free (by decide +kernel) h F (fun _ _ _ _ _ _ us hl => match us, hl with | [_, _], _ => rfl) (fun _ _ _ _ _ _ _ _ => rfl)) ?_
  refine .cons (fun h => (c.1.def_ 27 (h := by rfl)).elim fun fd F => HeY.xmk_y (x := "BadWord") (f := "word") (by decide) hT flds_free (by decide +kernel) h F (fun _ _ _ _ _ _ us hl => match us, hl with | [_, _], _ => rfl) (fun _ _ _ _ _ _ _ _ => rfl)) ?_
  refine .cons (fun h => (c.1.def_ 28 (h := by rfl)).elim fun fd F => HeY.xmk_y (x := "BadSource") (f := "source") (by decide) hT flds_free (by decide +kernel) h F (fun _ _ _ _ _ _ us hl => match us, hl with | [_, _], _ => rfl) (fun _ _ _ _ _ _ _ _ => rfl)) ?_
  exact .nil
theorem txt (X : K.In h) (G : h.Ns mainGlobals mg) (c : HeY.SaysY fa fn ex K) : Txt P w K mg base (He.ga K "TellError") :=
  HeY.txt_of X G c (fun d hd => List.mem_append_right _ hd) fun T hT p hp => (mk_all c T hT).mem p hp
end
def names0 : List PySem.Str := ["TellError", "BadOther", "WrongKinds", "WrongRules", "BadStart", "NoTree", "BadGrammar", "BadKind", "BadRule", "BadSpot", "BadTree", "BadPlace", "BadPart", "BadInstance", "BadSize", "BadGrammarText", "BadTreeText", "HasCircle", "BadGiven", "BadKnown"]
def names1 : List PySem.Str := ["BadWanted", "NotReached", "BadName", "NotStart", "BadNumber", "BadValue", "BadTold", "BadOrder", "BadWord", "BadSource", "_law_start", "_law_pick", "_law_between", "_law_kinds_first", "_law_kinds_last", "_law_kinds", "_law_grammar_made", "_law_tree_made", "_law_value_made", "_law_other_made"]
def names2 : List PySem.Str := ["_law_made_at", "_law_object", "_law_very", "_law_caught"]
def names : List PySem.Str := names0 ++ names1 ++ names2
end HK
namespace HK
open PySem PySem.Spec PyProof.Rows L2 HeY Dw Er
theorem cm (i : Nat) {p : Str × Str} (h : clsF[i]? = some p := by rfl) : p ∈ clsF := List.mem_of_getElem? h
theorem zm (i : Nat) {p : Str} (h : cls0[i]? = some p := by rfl) : p ∈ cls0 := List.mem_of_getElem? h
theorem fm (i : Nat) {p : Str} (h : frs[i]? = some p := by rfl) : p ∈ frs := List.mem_of_getElem? h
theorem dm (i : Nat) {d : He.DefD} (h : dLaw[i]? = some d := by rfl) : d ∈ dLaw := List.mem_of_getElem? h
section
variable {P : Program} {w : World} {K : PySem.W.Frag} {mg : Str → Option Value} {base : Heap} {T0 : Addr}
theorem cne (T : Txt P w K mg base T0) (p : Str × Str) (h : p ∈ clsF) : He.ga K p.1 ≠ T0 := fun z => by
  have n := (List.nodup_cons.mp T.nd).1
  exact n (by rw [← z]; exact List.mem_map.mpr ⟨p.1, List.mem_append_right _ (List.mem_map.mpr ⟨p, h, rfl⟩), rfl⟩)
theorem zne (T : Txt P w K mg base T0) (x : Str) (h : x ∈ cls0) : He.ga K x ≠ T0 := fun z => by
  have n := (List.nodup_cons.mp T.nd).1
  exact n (by rw [← z]; exact List.mem_map.mpr ⟨x, List.mem_append_left _ h, rfl⟩)

theorem sc_law_start : FnScope ["script"] ["script"] (defScope (top 33)) := ⟨rfl, rfl, rfl, by decide +kernel, rfl, by decide +kernel, by decide +kernel⟩
theorem c_start (T : Txt P w K mg base T0) : Cal P w K mg base "_law_start" 1 ["script"] (spStart K) := by
  refine cal_of (params := defArgs (top 33)) (body := defBody (top 33)) (scope := defScope (top 33)) (T.fn _ (dm 0)) (T.gF _ (dm 0)) sc_law_start (fun _ _ _ _ _ _ us hl => match us, hl with | [_], _ => rfl) (fun vs H Q E h => ?_) (fun cdv A outer s H vs Q E hr h => ?_)
  · obtain ⟨a, ns, rfl, _⟩ := h
    rfl
  · refine ⟨t_start K, ?_, pure_start vs H Q E h⟩
    exact pss_one (ps_ret (pe_lst (pa_cons (pe_callTy call_list_of (by rfl) (T.fr "list" (fm 4)) (by decide +kernel) (pa_cons (pv 0) pa_nil)) (pa_cons pe_int (pa_cons pe_int (pa_cons pe_int pa_nil))))))
theorem sc_law_pick : FnScope ["state", "many", "cell", "digit", "mixed"] ["state", "many"] (defScope (top 34)) := ⟨rfl, rfl, rfl, by decide +kernel, rfl, by decide +kernel, by decide +kernel⟩
theorem c_pick (T : Txt P w K mg base T0) : Cal P w K mg base "_law_pick" 1 ["state", "many"] (spPick) := by
  refine cal_of (params := defArgs (top 34)) (body := defBody (top 34)) (scope := defScope (top 34)) (T.fn _ (dm 1)) (T.gF _ (dm 1)) sc_law_pick (fun _ _ _ _ _ _ us hl => match us, hl with | [_, _], _ => rfl) (fun vs H Q E h => ?_) (fun cdv A outer s H vs Q E hr h => ?_)
  · obtain ⟨s, l, n, many, rfl, _⟩ := h
    rfl
  · refine ⟨t_pick K, ?_, pure_pick vs H Q E h⟩
    exact (pss_cons (ps_asg (pe_op op_add (pe_ix ix_list (pv 0) pe_int (fun _ _ => rfl)) pe_int) (pg_sub (pv 0) pe_int set_list)) (pss_cons (ps_while PassesOwn.never (PW.pt (pw_and (pt_cmpR op_eq (pe_ix ix_list (pv 0) pe_int (fun _ _ => rfl)) pe_int (nomark _)) (pw_and1 (pt_cmpR (op_neD hr.units) (pe_ix ix_list (pv 0) pe_int (fun _ _ => rfl)) (pe_lst pa_nil) (nomark _))))) (pss_cons (ps_set (i := 2) sc_law_pick.nd rfl (Or.inl rfl) (pe_callB call_abs (by rfl) (T.fr "abs" (fm 0)) (by decide +kernel) (pa_cons (pe_bm PySem.F.plainAttrs_list PySem.F.slot_list_pop PySem.F.type_list_pop mt_popAt (pe_ix ix_list (pv 0) pe_int (fun _ _ => rfl)) (pa_cons pe_int pa_nil)) pa_nil))) (pss_cons (ps_asg (pe_op op_modN (pe_callTy call_int1 (by rfl) (T.fr "int" (fm 1)) (by decide +kernel) (pa_cons (pe_op op_add (pe_op op_add (pe_op op_mul (pe_ix ix_list (pv 0) pe_int (fun _ _ => rfl)) pe_int) (pv 2)) pe_int) pa_nil)) pe_int) (pg_sub (pv 0) pe_int set_list)) (pss_one (ps_asg (pe_ifExp (pt_cmpR op_ge (pv 2) (pe_op op_pow pe_int pe_int) (nomark _)) (pv 2) pe_int) (pg_sub (pv 0) pe_int set_list)))))) (pss_cons (ps_if (pt_cmpR op_gt (pe_ix ix_list (pv 0) pe_int (fun _ _ => rfl)) pe_int (nomark _)) (pss_cons (ps_set (i := 3) sc_law_pick.nd rfl (Or.inl rfl) (pe_op op_modN (pe_callTy call_int1 (by rfl) (T.fr "int" (fm 1)) (by decide +kernel) (pa_cons (pe_ix ix_list (pv 0) pe_int (fun _ _ => rfl)) pa_nil)) (pv 1))) (pss_cons (ps_asg (pe_op op_fdivN (pe_ix ix_list (pv 0) pe_int (fun _ _ => rfl)) (pv 1)) (pg_sub (pv 0) pe_int set_list)) (pss_one (ps_ret (pv 3))))) pss_nil) (pss_cons (ps_set (i := 4) sc_law_pick.nd rfl (Or.inl rfl) (pe_op op_modN (pe_callTy call_int1 (by rfl) (T.fr "int" (fm 1)) (by decide +kernel) (pa_cons (pe_op op_pow (pe_op op_add (pe_op op_add (pe_ix ix_list (pv 0) pe_int (fun _ _ => rfl)) (pe_op op_mul pe_int (pe_ix ix_list (pv 0) pe_int (fun _ _ => rfl)))) pe_int) pe_int) pa_nil)) pe_int)) (pss_one (ps_ret (pe_op op_modN (pe_op op_modN (pe_callTy call_int1 (by rfl) (T.fr "int" (fm 1)) (by decide +kernel) (pa_cons (pe_op op_pow (pe_op op_add (pe_op op_add (pe_op op_mul (pv 4) pe_int) (pe_op op_mul pe_int (pe_ix ix_list (pv 0) pe_int (fun _ _ => rfl)))) pe_int) pe_int) pa_nil)) pe_int) (pv 1))))))))
theorem sc_law_between : FnScope ["state", "low", "high"] ["state", "low", "high"] (defScope (top 35)) := ⟨rfl, rfl, rfl, by decide +kernel, rfl, by decide +kernel, by decide +kernel⟩
theorem c_between (T : Txt P w K mg base T0) : Cal P w K mg base "_law_between" 2 ["state", "low", "high"] (spBetween) := by
  refine cal_of (params := defArgs (top 35)) (body := defBody (top 35)) (scope := defScope (top 35)) (T.fn _ (dm 2)) (T.gF _ (dm 2)) sc_law_between (fun _ _ _ _ _ _ us hl => match us, hl with | [_, _, _], _ => rfl) (fun vs H Q E h => ?_) (fun cdv A outer s H vs Q E hr h => ?_)
  · obtain ⟨s, l, n, lo, hi, rfl, _⟩ := h
    rfl
  · refine ⟨t_between K spPick, ?_, pure_between vs H Q E h⟩
    exact pss_one (ps_ret (pe_op op_add (pv 1) (pe_cal (c_pick T) hr (pa_cons (pv 0) (pa_cons (pe_op op_add (pe_callB (call_max2 rfl) (by rfl) (T.fr "max" (fm 9)) (by decide +kernel) (pa_cons (pe_op op_sub (pv 2) (pv 1)) (pa_cons pe_int pa_nil))) pe_int) pa_nil)))))
end
end HK
namespace HK
open PySem PySem.Spec PyProof.Rows L2 HeY Dw Er L2H
section
variable {P : Program} {w : World} {K : PySem.W.Frag} {mg : Str → Option Value} {base : Heap} {T0 : Addr}

def kz1 : List Str := (["WrongKinds", "WrongRules", "BadStart", "NoTree", "BadGrammar", "BadKind", "BadRule", "BadSpot", "BadTree", "BadPlace", "BadPart", "BadInstance", "BadSize", "BadGrammarText"] : List Str)
def kz2 : List Str := (["BadTreeText", "HasCircle", "BadGiven", "BadKnown", "BadWanted", "NotReached", "BadName", "NotStart", "BadNumber", "BadValue", "BadTold", "BadOrder", "BadWord", "BadSource"] : List Str)
def kz : List Str := kz1 ++ kz2
theorem sc_law_kinds_first : FnScope ["e", "told", "k"] ["e"] (defScope (top 36)) := ⟨rfl, rfl, rfl, by decide +kernel, rfl, by decide +kernel, by decide +kernel⟩
theorem c_kinds1 (T : Txt P w K mg base T0) : Cal P w K mg base "_law_kinds_first" 1 ["e"] (spKinds K T0 0 (kz1.map (He.ga K))) := by
  refine cal_of (params := defArgs (top 36)) (body := defBody (top 36)) (scope := defScope (top 36)) (T.fn _ (dm 3)) (T.gF _ (dm 3)) sc_law_kinds_first (fun _ _ _ _ _ _ us hl => match us, hl with | [_], _ => rfl) (fun vs H Q E h => ?_) (fun cdv A outer s H vs Q E hr h => ?_)
  · obtain ⟨a, C, rfl, _⟩ := h
    rfl
  · obtain ⟨a, C, rfl, ea, kC, k⟩ := h
    refine ⟨_, (pss_cons (ps_set (i := 1) sc_law_kinds_first.nd rfl (Or.inr rfl) (pe_lst (t := tIss K T0 0 ((["WrongKinds", "WrongRules", "BadStart", "NoTree"] : List Str).map (He.ga K))) (pa_cons (pe_isx (i := 0) (T.fr "isinstance" (fm 2)) (T.gC ("WrongKinds", "index") (cm 1)) (T.kn ("WrongKinds", "index") (cm 1)) (cne T ("WrongKinds", "index") (cm 1))) (pa_cons (pe_isx (i := 0) (T.fr "isinstance" (fm 2)) (T.gC ("WrongRules", "index") (cm 2)) (T.kn ("WrongRules", "index") (cm 2)) (cne T ("WrongRules", "index") (cm 2))) (pa_cons (pe_isx (i := 0) (T.fr "isinstance" (fm 2)) (T.gC ("BadStart", "start") (cm 3)) (T.kn ("BadStart", "start") (cm 3)) (cne T ("BadStart", "start") (cm 3))) (pa_cons (pe_isx (i := 0) (T.fr "isinstance" (fm 2)) (T.gC ("NoTree", "kind") (cm 4)) (T.kn ("NoTree", "kind") (cm 4)) (cne T ("NoTree", "kind") (cm 4))) pa_nil)))))) (pss_cons (ps_expr (pe_bm PySem.F.plainAttrs_list PySem.F.slot_list_extend PySem.F.type_list_extend mt_extend (pv 1) (pa_cons (pe_lst (t := tIss K T0 0 ((["BadGrammar", "BadKind", "BadRule", "BadSpot"] : List Str).map (He.ga K))) (pa_cons (pe_isx (i := 0) (T.fr "isinstance" (fm 2)) (T.gC ("BadGrammar", "grammar") (cm 5)) (T.kn ("BadGrammar", "grammar") (cm 5)) (cne T ("BadGrammar", "grammar") (cm 5))) (pa_cons (pe_isx (i := 0) (T.fr "isinstance" (fm 2)) (T.gC ("BadKind", "kind") (cm 6)) (T.kn ("BadKind", "kind") (cm 6)) (cne T ("BadKind", "kind") (cm 6))) (pa_cons (pe_isx (i := 0) (T.fr "isinstance" (fm 2)) (T.gC ("BadRule", "rule") (cm 7)) (T.kn ("BadRule", "rule") (cm 7)) (cne T ("BadRule", "rule") (cm 7))) (pa_cons (pe_isx (i := 0) (T.fr "isinstance" (fm 2)) (T.gC ("BadSpot", "spot") (cm 8)) (T.kn ("BadSpot", "spot") (cm 8)) (cne T ("BadSpot", "spot") (cm 8))) pa_nil))))) pa_nil))) (pss_cons (ps_expr (pe_bm PySem.F.plainAttrs_list PySem.F.slot_list_extend PySem.F.type_list_extend mt_extend (pv 1) (pa_cons (pe_lst (t := tIss K T0 0 ((["BadTree", "BadPlace", "BadPart", "BadInstance"] : List Str).map (He.ga K))) (pa_cons (pe_isx (i := 0) (T.fr "isinstance" (fm 2)) (T.gC ("BadTree", "tree") (cm 9)) (T.kn ("BadTree", "tree") (cm 9)) (cne T ("BadTree", "tree") (cm 9))) (pa_cons (pe_isx (i := 0) (T.fr "isinstance" (fm 2)) (T.gC ("BadPlace", "place") (cm 10)) (T.kn ("BadPlace", "place") (cm 10)) (cne T ("BadPlace", "place") (cm 10))) (pa_cons (pe_isx (i := 0) (T.fr "isinstance" (fm 2)) (T.gC ("BadPart", "part") (cm 11)) (T.kn ("BadPart", "part") (cm 11)) (cne T ("BadPart", "part") (cm 11))) (pa_cons (pe_isx (i := 0) (T.fr "isinstance" (fm 2)) (T.gC ("BadInstance", "instance") (cm 12)) (T.kn ("BadInstance", "instance") (cm 12)) (cne T ("BadInstance", "instance") (cm 12))) pa_nil))))) pa_nil))) (pss_cons (ps_expr (pe_bm PySem.F.plainAttrs_list PySem.F.slot_list_extend PySem.F.type_list_extend mt_extend (pv 1) (pa_cons (pe_lst (t := tIss K T0 0 ((["BadSize", "BadGrammarText"] : List Str).map (He.ga K))) (pa_cons (pe_isx (i := 0) (T.fr "isinstance" (fm 2)) (T.gC ("BadSize", "size") (cm 13)) (T.kn ("BadSize", "size") (cm 13)) (cne T ("BadSize", "size") (cm 13))) (pa_cons (pe_isx (i := 0) (T.fr "isinstance" (fm 2)) (T.gC ("BadGrammarText", "line") (cm 14)) (T.kn ("BadGrammarText", "line") (cm 14)) (cne T ("BadGrammarText", "line") (cm 14))) pa_nil))) pa_nil))) (pss_one (ps_ret (pe_lc (own := [("k", 2)]) rfl sc_law_kinds_first.nd (pi_range1 rfl (T.fr "range" (fm 12)) (pa_cons pe_int pa_nil)) (blkOk_by (N := ["e", "told", "k"]) (sc := defScope (top 36)) (by decide +kernel)) (fun _ _ _ _ _ => pg_name (i := 2) sc_law_kinds_first.nd rfl (Or.inl rfl)) (fun _ _ _ _ _ => pts_one (pt_val (pe_ix (r := rIxL K) ix_list (pv 1) (pv 2) (fun _ _ => rfl)))) (fun _ _ _ _ _ => pe_op op_add pe_int (pv 2))))))))), ?_⟩
    refine seqA (lst_ok (iss_ok rfl ea kC ⟨by show 4 ≤ sizeLine; decide, fun t ht => ?_⟩))
    have s1 : Same H (upd H t (.lst (((["WrongKinds", "WrongRules", "BadStart", "NoTree"] : List Str).map (He.ga K)).map fun D => V.bl (decide (C = D))))) := Same.new ht
    have u1 : (upd H t (.lst (((["WrongKinds", "WrongRules", "BadStart", "NoTree"] : List Str).map (He.ga K)).map fun D => V.bl (decide (C = D))))) t = some (.lst (((["WrongKinds", "WrongRules", "BadStart", "NoTree"] : List Str).map (He.ga K)).map fun D => V.bl (decide (C = D)))) := upd_same
    generalize upd H t (.lst (((["WrongKinds", "WrongRules", "BadStart", "NoTree"] : List Str).map (He.ga K)).map fun D => V.bl (decide (C = D)))) = H1 at s1 u1 ⊢
    refine seqD (ext_ok (i := 1) (p := t) rfl u1 (iss_ok rfl (ea.mono s1) kC ⟨u1, by show 8 ≤ sizeLine; decide, fun q1 h1 => ?_⟩) iss_mono)
    have s2 : Same H (upd (upd H1 q1 (.lst (((["BadGrammar", "BadKind", "BadRule", "BadSpot"] : List Str).map (He.ga K)).map fun D => V.bl (decide (C = D))))) t (.lst ((((["WrongKinds", "WrongRules", "BadStart", "NoTree"] : List Str).map (He.ga K)).map fun D => V.bl (decide (C = D))) ++ (((["BadGrammar", "BadKind", "BadRule", "BadSpot"] : List Str).map (He.ga K)).map fun D => V.bl (decide (C = D)))))) := Same.mut (s1.trans (Same.new h1)) ht
    have u2 : (upd (upd H1 q1 (.lst (((["BadGrammar", "BadKind", "BadRule", "BadSpot"] : List Str).map (He.ga K)).map fun D => V.bl (decide (C = D))))) t (.lst ((((["WrongKinds", "WrongRules", "BadStart", "NoTree"] : List Str).map (He.ga K)).map fun D => V.bl (decide (C = D))) ++ (((["BadGrammar", "BadKind", "BadRule", "BadSpot"] : List Str).map (He.ga K)).map fun D => V.bl (decide (C = D)))))) t = some (.lst ((((["WrongKinds", "WrongRules", "BadStart", "NoTree"] : List Str).map (He.ga K)) ++ ((["BadGrammar", "BadKind", "BadRule", "BadSpot"] : List Str).map (He.ga K))).map fun D => V.bl (decide (C = D)))) := upd_same.trans rfl
    generalize (upd (upd H1 q1 (.lst (((["BadGrammar", "BadKind", "BadRule", "BadSpot"] : List Str).map (He.ga K)).map fun D => V.bl (decide (C = D))))) t (.lst ((((["WrongKinds", "WrongRules", "BadStart", "NoTree"] : List Str).map (He.ga K)).map fun D => V.bl (decide (C = D))) ++ (((["BadGrammar", "BadKind", "BadRule", "BadSpot"] : List Str).map (He.ga K)).map fun D => V.bl (decide (C = D)))))) = H2 at s2 u2 ⊢
    refine seqD (ext_ok (i := 1) (p := t) rfl u2 (iss_ok rfl (ea.mono s2) kC ⟨u2, by show 12 ≤ sizeLine; decide, fun q2 h2 => ?_⟩) iss_mono)
    have s3 : Same H (upd (upd H2 q2 (.lst (((["BadTree", "BadPlace", "BadPart", "BadInstance"] : List Str).map (He.ga K)).map fun D => V.bl (decide (C = D))))) t (.lst (((((["WrongKinds", "WrongRules", "BadStart", "NoTree"] : List Str).map (He.ga K)) ++ ((["BadGrammar", "BadKind", "BadRule", "BadSpot"] : List Str).map (He.ga K))).map fun D => V.bl (decide (C = D))) ++ (((["BadTree", "BadPlace", "BadPart", "BadInstance"] : List Str).map (He.ga K)).map fun D => V.bl (decide (C = D)))))) := Same.mut (s2.trans (Same.new h2)) ht
    have u3 : (upd (upd H2 q2 (.lst (((["BadTree", "BadPlace", "BadPart", "BadInstance"] : List Str).map (He.ga K)).map fun D => V.bl (decide (C = D))))) t (.lst (((((["WrongKinds", "WrongRules", "BadStart", "NoTree"] : List Str).map (He.ga K)) ++ ((["BadGrammar", "BadKind", "BadRule", "BadSpot"] : List Str).map (He.ga K))).map fun D => V.bl (decide (C = D))) ++ (((["BadTree", "BadPlace", "BadPart", "BadInstance"] : List Str).map (He.ga K)).map fun D => V.bl (decide (C = D)))))) t = some (.lst (((((["WrongKinds", "WrongRules", "BadStart", "NoTree"] : List Str).map (He.ga K)) ++ ((["BadGrammar", "BadKind", "BadRule", "BadSpot"] : List Str).map (He.ga K))) ++ ((["BadTree", "BadPlace", "BadPart", "BadInstance"] : List Str).map (He.ga K))).map fun D => V.bl (decide (C = D)))) := upd_same.trans rfl
    generalize (upd (upd H2 q2 (.lst (((["BadTree", "BadPlace", "BadPart", "BadInstance"] : List Str).map (He.ga K)).map fun D => V.bl (decide (C = D))))) t (.lst (((((["WrongKinds", "WrongRules", "BadStart", "NoTree"] : List Str).map (He.ga K)) ++ ((["BadGrammar", "BadKind", "BadRule", "BadSpot"] : List Str).map (He.ga K))).map fun D => V.bl (decide (C = D))) ++ (((["BadTree", "BadPlace", "BadPart", "BadInstance"] : List Str).map (He.ga K)).map fun D => V.bl (decide (C = D)))))) = H3 at s3 u3 ⊢
    refine seqD (ext_ok (i := 1) (p := t) rfl u3 (iss_ok rfl (ea.mono s3) kC ⟨u3, by show 14 ≤ sizeLine; decide, fun q3 h3 => ?_⟩) iss_mono)
    have s4 : Same H (upd (upd H3 q3 (.lst (((["BadSize", "BadGrammarText"] : List Str).map (He.ga K)).map fun D => V.bl (decide (C = D))))) t (.lst ((((((["WrongKinds", "WrongRules", "BadStart", "NoTree"] : List Str).map (He.ga K)) ++ ((["BadGrammar", "BadKind", "BadRule", "BadSpot"] : List Str).map (He.ga K))) ++ ((["BadTree", "BadPlace", "BadPart", "BadInstance"] : List Str).map (He.ga K))).map fun D => V.bl (decide (C = D))) ++ (((["BadSize", "BadGrammarText"] : List Str).map (He.ga K)).map fun D => V.bl (decide (C = D)))))) := Same.mut (s3.trans (Same.new h3)) ht
    have u4 : (upd (upd H3 q3 (.lst (((["BadSize", "BadGrammarText"] : List Str).map (He.ga K)).map fun D => V.bl (decide (C = D))))) t (.lst ((((((["WrongKinds", "WrongRules", "BadStart", "NoTree"] : List Str).map (He.ga K)) ++ ((["BadGrammar", "BadKind", "BadRule", "BadSpot"] : List Str).map (He.ga K))) ++ ((["BadTree", "BadPlace", "BadPart", "BadInstance"] : List Str).map (He.ga K))).map fun D => V.bl (decide (C = D))) ++ (((["BadSize", "BadGrammarText"] : List Str).map (He.ga K)).map fun D => V.bl (decide (C = D)))))) t = some (.lst ((((((["WrongKinds", "WrongRules", "BadStart", "NoTree"] : List Str).map (He.ga K)) ++ ((["BadGrammar", "BadKind", "BadRule", "BadSpot"] : List Str).map (He.ga K))) ++ ((["BadTree", "BadPlace", "BadPart", "BadInstance"] : List Str).map (He.ga K))) ++ ((["BadSize", "BadGrammarText"] : List Str).map (He.ga K))).map fun D => V.bl (decide (C = D)))) := upd_same.trans rfl
    generalize (upd (upd H3 q3 (.lst (((["BadSize", "BadGrammarText"] : List Str).map (He.ga K)).map fun D => V.bl (decide (C = D))))) t (.lst ((((((["WrongKinds", "WrongRules", "BadStart", "NoTree"] : List Str).map (He.ga K)) ++ ((["BadGrammar", "BadKind", "BadRule", "BadSpot"] : List Str).map (He.ga K))) ++ ((["BadTree", "BadPlace", "BadPart", "BadInstance"] : List Str).map (He.ga K))).map fun D => V.bl (decide (C = D))) ++ (((["BadSize", "BadGrammarText"] : List Str).map (He.ga K)).map fun D => V.bl (decide (C = D)))))) = H4 at s4 u4 ⊢
    refine lc_idx (bs := places (kz1.map (He.ga K)) C) (n := 14) (c := 0) (p := t) rfl (by show 2 < 3; decide) (by decide) rfl ?_ (by show 14 ≤ 14; decide) (by decide) (fun m H1 Q1 q => ⟨_, rfl, _, _, rfl, rfl, by show Q1 (.int (0 + (0 + (m : Int)))) H1; rw [Int.zero_add]; exact q⟩) fun D H' hD s hl => ?_
    · exact u4
    · exact k D H' (s4.free hD) (s4.trans s) hl
theorem sc_law_kinds_last : FnScope ["e", "told", "k"] ["e"] (defScope (top 37)) := ⟨rfl, rfl, rfl, by decide +kernel, rfl, by decide +kernel, by decide +kernel⟩
theorem c_kinds2 (T : Txt P w K mg base T0) : Cal P w K mg base "_law_kinds_last" 1 ["e"] (spKinds K T0 14 (kz2.map (He.ga K))) := by
  refine cal_of (params := defArgs (top 37)) (body := defBody (top 37)) (scope := defScope (top 37)) (T.fn _ (dm 4)) (T.gF _ (dm 4)) sc_law_kinds_last (fun _ _ _ _ _ _ us hl => match us, hl with | [_], _ => rfl) (fun vs H Q E h => ?_) (fun cdv A outer s H vs Q E hr h => ?_)
  · obtain ⟨a, C, rfl, _⟩ := h
    rfl
  · obtain ⟨a, C, rfl, ea, kC, k⟩ := h
    refine ⟨_, (pss_cons (ps_set (i := 1) sc_law_kinds_last.nd rfl (Or.inr rfl) (pe_lst (t := tIss K T0 0 ((["BadTreeText", "HasCircle", "BadGiven", "BadKnown"] : List Str).map (He.ga K))) (pa_cons (pe_isx (i := 0) (T.fr "isinstance" (fm 2)) (T.gC ("BadTreeText", "place") (cm 15)) (T.kn ("BadTreeText", "place") (cm 15)) (cne T ("BadTreeText", "place") (cm 15))) (pa_cons (pe_isx (i := 0) (T.fr "isinstance" (fm 2)) (T.gC ("HasCircle", "tree") (cm 16)) (T.kn ("HasCircle", "tree") (cm 16)) (cne T ("HasCircle", "tree") (cm 16))) (pa_cons (pe_isx (i := 0) (T.fr "isinstance" (fm 2)) (T.gC ("BadGiven", "given") (cm 17)) (T.kn ("BadGiven", "given") (cm 17)) (cne T ("BadGiven", "given") (cm 17))) (pa_cons (pe_isx (i := 0) (T.fr "isinstance" (fm 2)) (T.gC ("BadKnown", "known") (cm 18)) (T.kn ("BadKnown", "known") (cm 18)) (cne T ("BadKnown", "known") (cm 18))) pa_nil)))))) (pss_cons (ps_expr (pe_bm PySem.F.plainAttrs_list PySem.F.slot_list_extend PySem.F.type_list_extend mt_extend (pv 1) (pa_cons (pe_lst (t := tIss K T0 0 ((["BadWanted", "NotReached", "BadName", "NotStart"] : List Str).map (He.ga K))) (pa_cons (pe_isx (i := 0) (T.fr "isinstance" (fm 2)) (T.gC ("BadWanted", "index") (cm 19)) (T.kn ("BadWanted", "index") (cm 19)) (cne T ("BadWanted", "index") (cm 19))) (pa_cons (pe_isx (i := 0) (T.fr "isinstance" (fm 2)) (T.gC ("NotReached", "kind") (cm 20)) (T.kn ("NotReached", "kind") (cm 20)) (cne T ("NotReached", "kind") (cm 20))) (pa_cons (pe_isx (i := 0) (T.fr "isinstance" (fm 2)) (T.gC ("BadName", "name") (cm 21)) (T.kn ("BadName", "name") (cm 21)) (cne T ("BadName", "name") (cm 21))) (pa_cons (pe_isx (i := 0) (T.fr "isinstance" (fm 2)) (T.gC ("NotStart", "tree") (cm 22)) (T.kn ("NotStart", "tree") (cm 22)) (cne T ("NotStart", "tree") (cm 22))) pa_nil))))) pa_nil))) (pss_cons (ps_expr (pe_bm PySem.F.plainAttrs_list PySem.F.slot_list_extend PySem.F.type_list_extend mt_extend (pv 1) (pa_cons (pe_lst (t := tIss K T0 0 ((["BadNumber", "BadValue", "BadTold", "BadOrder"] : List Str).map (He.ga K))) (pa_cons (pe_isx (i := 0) (T.fr "isinstance" (fm 2)) (T.gC ("BadNumber", "number") (cm 23)) (T.kn ("BadNumber", "number") (cm 23)) (cne T ("BadNumber", "number") (cm 23))) (pa_cons (pe_isx (i := 0) (T.fr "isinstance" (fm 2)) (T.gC ("BadValue", "value") (cm 24)) (T.kn ("BadValue", "value") (cm 24)) (cne T ("BadValue", "value") (cm 24))) (pa_cons (pe_isx (i := 0) (T.fr "isinstance" (fm 2)) (T.gC ("BadTold", "told") (cm 25)) (T.kn ("BadTold", "told") (cm 25)) (cne T ("BadTold", "told") (cm 25))) (pa_cons (pe_isx (i := 0) (T.fr "isinstance" (fm 2)) (T.gC ("BadOrder", "order") (cm 26)) (T.kn ("BadOrder", "order") (cm 26)) (cne T ("BadOrder", "order") (cm 26))) pa_nil))))) pa_nil))) (pss_cons (ps_expr (pe_bm PySem.F.plainAttrs_list PySem.F.slot_list_extend PySem.F.type_list_extend mt_extend (pv 1) (pa_cons (pe_lst (t := tIss K T0 0 ((["BadWord", "BadSource"] : List Str).map (He.ga K))) (pa_cons (pe_isx (i := 0) (T.fr "isinstance" (fm 2)) (T.gC ("BadWord", "word") (cm 27)) (T.kn ("BadWord", "word") (cm 27)) (cne T ("BadWord", "word") (cm 27))) (pa_cons (pe_isx (i := 0) (T.fr "isinstance" (fm 2)) (T.gC ("BadSource", "source") (cm 28)) (T.kn ("BadSource", "source") (cm 28)) (cne T ("BadSource", "source") (cm 28))) pa_nil))) pa_nil))) (pss_one (ps_ret (pe_lc (own := [("k", 2)]) rfl sc_law_kinds_last.nd (pi_range1 rfl (T.fr "range" (fm 12)) (pa_cons pe_int pa_nil)) (blkOk_by (N := ["e", "told", "k"]) (sc := defScope (top 37)) (by decide +kernel)) (fun _ _ _ _ _ => pg_name (i := 2) sc_law_kinds_last.nd rfl (Or.inl rfl)) (fun _ _ _ _ _ => pts_one (pt_val (pe_ix (r := rIxL K) ix_list (pv 1) (pv 2) (fun _ _ => rfl)))) (fun _ _ _ _ _ => pe_op op_add pe_int (pv 2))))))))), ?_⟩
    refine seqA (lst_ok (iss_ok rfl ea kC ⟨by show 4 ≤ sizeLine; decide, fun t ht => ?_⟩))
    have s1 : Same H (upd H t (.lst (((["BadTreeText", "HasCircle", "BadGiven", "BadKnown"] : List Str).map (He.ga K)).map fun D => V.bl (decide (C = D))))) := Same.new ht
    have u1 : (upd H t (.lst (((["BadTreeText", "HasCircle", "BadGiven", "BadKnown"] : List Str).map (He.ga K)).map fun D => V.bl (decide (C = D))))) t = some (.lst (((["BadTreeText", "HasCircle", "BadGiven", "BadKnown"] : List Str).map (He.ga K)).map fun D => V.bl (decide (C = D)))) := upd_same
    generalize upd H t (.lst (((["BadTreeText", "HasCircle", "BadGiven", "BadKnown"] : List Str).map (He.ga K)).map fun D => V.bl (decide (C = D)))) = H1 at s1 u1 ⊢
    refine seqD (ext_ok (i := 1) (p := t) rfl u1 (iss_ok rfl (ea.mono s1) kC ⟨u1, by show 8 ≤ sizeLine; decide, fun q1 h1 => ?_⟩) iss_mono)
    have s2 : Same H (upd (upd H1 q1 (.lst (((["BadWanted", "NotReached", "BadName", "NotStart"] : List Str).map (He.ga K)).map fun D => V.bl (decide (C = D))))) t (.lst ((((["BadTreeText", "HasCircle", "BadGiven", "BadKnown"] : List Str).map (He.ga K)).map fun D => V.bl (decide (C = D))) ++ (((["BadWanted", "NotReached", "BadName", "NotStart"] : List Str).map (He.ga K)).map fun D => V.bl (decide (C = D)))))) := Same.mut (s1.trans (Same.new h1)) ht
    have u2 : (upd (upd H1 q1 (.lst (((["BadWanted", "NotReached", "BadName", "NotStart"] : List Str).map (He.ga K)).map fun D => V.bl (decide (C = D))))) t (.lst ((((["BadTreeText", "HasCircle", "BadGiven", "BadKnown"] : List Str).map (He.ga K)).map fun D => V.bl (decide (C = D))) ++ (((["BadWanted", "NotReached", "BadName", "NotStart"] : List Str).map (He.ga K)).map fun D => V.bl (decide (C = D)))))) t = some (.lst ((((["BadTreeText", "HasCircle", "BadGiven", "BadKnown"] : List Str).map (He.ga K)) ++ ((["BadWanted", "NotReached", "BadName", "NotStart"] : List Str).map (He.ga K))).map fun D => V.bl (decide (C = D)))) := upd_same.trans rfl
    generalize (upd (upd H1 q1 (.lst (((["BadWanted", "NotReached", "BadName", "NotStart"] : List Str).map (He.ga K)).map fun D => V.bl (decide (C = D))))) t (.lst ((((["BadTreeText", "HasCircle", "BadGiven", "BadKnown"] : List Str).map (He.ga K)).map fun D => V.bl (decide (C = D))) ++ (((["BadWanted", "NotReached", "BadName", "NotStart"] : List Str).map (He.ga K)).map fun D => V.bl (decide (C = D)))))) = H2 at s2 u2 ⊢
    refine seqD (ext_ok (i := 1) (p := t) rfl u2 (iss_ok rfl (ea.mono s2) kC ⟨u2, by show 12 ≤ sizeLine; decide, fun q2 h2 => ?_⟩) iss_mono)
    have s3 : Same H (upd (upd H2 q2 (.lst (((["BadNumber", "BadValue", "BadTold", "BadOrder"] : List Str).map (He.ga K)).map fun D => V.bl (decide (C = D))))) t (.lst (((((["BadTreeText", "HasCircle", "BadGiven", "BadKnown"] : List Str).map (He.ga K)) ++ ((["BadWanted", "NotReached", "BadName", "NotStart"] : List Str).map (He.ga K))).map fun D => V.bl (decide (C = D))) ++ (((["BadNumber", "BadValue", "BadTold", "BadOrder"] : List Str).map (He.ga K)).map fun D => V.bl (decide (C = D)))))) := Same.mut (s2.trans (Same.new h2)) ht
    have u3 : (upd (upd H2 q2 (.lst (((["BadNumber", "BadValue", "BadTold", "BadOrder"] : List Str).map (He.ga K)).map fun D => V.bl (decide (C = D))))) t (.lst (((((["BadTreeText", "HasCircle", "BadGiven", "BadKnown"] : List Str).map (He.ga K)) ++ ((["BadWanted", "NotReached", "BadName", "NotStart"] : List Str).map (He.ga K))).map fun D => V.bl (decide (C = D))) ++ (((["BadNumber", "BadValue", "BadTold", "BadOrder"] : List Str).map (He.ga K)).map fun D => V.bl (decide (C = D)))))) t = some (.lst (((((["BadTreeText", "HasCircle", "BadGiven", "BadKnown"] : List Str).map (He.ga K)) ++ ((["BadWanted", "NotReached", "BadName", "NotStart"] : List Str).map (He.ga K))) ++ ((["BadNumber", "BadValue", "BadTold", "BadOrder"] : List Str).map (He.ga K))).map fun D => V.bl (decide (C = D)))) := upd_same.trans rfl
    generalize (upd (upd H2 q2 (.lst (((["BadNumber", "BadValue", "BadTold", "BadOrder"] : List Str).map (He.ga K)).map fun D => V.bl (decide (C = D))))) t (.lst (((((["BadTreeText", "HasCircle", "BadGiven", "BadKnown"] : List Str).map (He.ga K)) ++ ((["BadWanted", "NotReached", "BadName", "NotStart"] : List Str).map (He.ga K))).map fun D => V.bl (decide (C = D))) ++ (((["BadNumber", "BadValue", "BadTold", "BadOrder"] : List Str).map (He.ga K)).map fun D => V.bl (decide (C = D)))))) = H3 at s3 u3 ⊢
    refine seqD (ext_ok (i := 1) (p := t) rfl u3 (iss_ok rfl (ea.mono s3) kC ⟨u3, by show 14 ≤ sizeLine; decide, fun q3 h3 => ?_⟩) iss_mono)
    have s4 : Same H (upd (upd H3 q3 (.lst (((["BadWord", "BadSource"] : List Str).map (He.ga K)).map fun D => V.bl (decide (C = D))))) t (.lst ((((((["BadTreeText", "HasCircle", "BadGiven", "BadKnown"] : List Str).map (He.ga K)) ++ ((["BadWanted", "NotReached", "BadName", "NotStart"] : List Str).map (He.ga K))) ++ ((["BadNumber", "BadValue", "BadTold", "BadOrder"] : List Str).map (He.ga K))).map fun D => V.bl (decide (C = D))) ++ (((["BadWord", "BadSource"] : List Str).map (He.ga K)).map fun D => V.bl (decide (C = D)))))) := Same.mut (s3.trans (Same.new h3)) ht
    have u4 : (upd (upd H3 q3 (.lst (((["BadWord", "BadSource"] : List Str).map (He.ga K)).map fun D => V.bl (decide (C = D))))) t (.lst ((((((["BadTreeText", "HasCircle", "BadGiven", "BadKnown"] : List Str).map (He.ga K)) ++ ((["BadWanted", "NotReached", "BadName", "NotStart"] : List Str).map (He.ga K))) ++ ((["BadNumber", "BadValue", "BadTold", "BadOrder"] : List Str).map (He.ga K))).map fun D => V.bl (decide (C = D))) ++ (((["BadWord", "BadSource"] : List Str).map (He.ga K)).map fun D => V.bl (decide (C = D)))))) t = some (.lst ((((((["BadTreeText", "HasCircle", "BadGiven", "BadKnown"] : List Str).map (He.ga K)) ++ ((["BadWanted", "NotReached", "BadName", "NotStart"] : List Str).map (He.ga K))) ++ ((["BadNumber", "BadValue", "BadTold", "BadOrder"] : List Str).map (He.ga K))) ++ ((["BadWord", "BadSource"] : List Str).map (He.ga K))).map fun D => V.bl (decide (C = D)))) := upd_same.trans rfl
    generalize (upd (upd H3 q3 (.lst (((["BadWord", "BadSource"] : List Str).map (He.ga K)).map fun D => V.bl (decide (C = D))))) t (.lst ((((((["BadTreeText", "HasCircle", "BadGiven", "BadKnown"] : List Str).map (He.ga K)) ++ ((["BadWanted", "NotReached", "BadName", "NotStart"] : List Str).map (He.ga K))) ++ ((["BadNumber", "BadValue", "BadTold", "BadOrder"] : List Str).map (He.ga K))).map fun D => V.bl (decide (C = D))) ++ (((["BadWord", "BadSource"] : List Str).map (He.ga K)).map fun D => V.bl (decide (C = D)))))) = H4 at s4 u4 ⊢
    refine lc_idx (bs := places (kz2.map (He.ga K)) C) (n := 14) (c := 14) (p := t) rfl (by show 2 < 3; decide) (by decide) rfl ?_ (by show 14 ≤ 14; decide) (by decide) (fun m H1 Q1 q => ⟨_, rfl, _, _, rfl, rfl, by show Q1 (.int (14 + (0 + (m : Int)))) H1; rw [Int.zero_add]; exact q⟩) fun D H' hD s hl => ?_
    · exact u4
    · exact k D H' (s4.free hD) (s4.trans s) hl
theorem q_kinds1 (T : Txt P w K mg base T0) : CalQ P w K mg base "_law_kinds_first" 1 ["e"] (spKindsQ K T0 0 (kz1.map (He.ga K))) := by
  refine calq_of (params := defArgs (top 36)) (body := defBody (top 36)) (scope := defScope (top 36)) (T.fn _ (dm 3)) (T.gF _ (dm 3)) sc_law_kinds_first (fun _ _ _ _ _ _ us hl => match us, hl with | [_], _ => rfl) (fun a cls d vs H Q E h => ?_) (fun cdv A outer s H vs Q E p hot0 hr h => ?_)
  · obtain ⟨C, rfl, _⟩ := h
    rfl
  · obtain ⟨C, rfl, ea, kC, k⟩ := h
    have hot : Hot1 (A.deeper (envOfC "_law_kinds_first" (defScope (top 36)) s.heap.objs.size (He.ga K "_law_kinds_first") cdv)) p := hot0
    have hm : p ∈ [p] := List.mem_cons_self
    refine ⟨_, (pss_cons (ps_set (i := 1) sc_law_kinds_first.nd rfl (Or.inr rfl) (pe_lst (t := tIssQ K T0 p.1 p.2.cls p.2.dict 0 ((["WrongKinds", "WrongRules", "BadStart", "NoTree"] : List Str).map (He.ga K))) (pa_cons (pe_isQ (i := 0) hot hm (T.fr "isinstance" (fm 2)) (T.gC ("WrongKinds", "index") (cm 1)) (T.kn ("WrongKinds", "index") (cm 1)) (cne T ("WrongKinds", "index") (cm 1))) (pa_cons (pe_isQ (i := 0) hot hm (T.fr "isinstance" (fm 2)) (T.gC ("WrongRules", "index") (cm 2)) (T.kn ("WrongRules", "index") (cm 2)) (cne T ("WrongRules", "index") (cm 2))) (pa_cons (pe_isQ (i := 0) hot hm (T.fr "isinstance" (fm 2)) (T.gC ("BadStart", "start") (cm 3)) (T.kn ("BadStart", "start") (cm 3)) (cne T ("BadStart", "start") (cm 3))) (pa_cons (pe_isQ (i := 0) hot hm (T.fr "isinstance" (fm 2)) (T.gC ("NoTree", "kind") (cm 4)) (T.kn ("NoTree", "kind") (cm 4)) (cne T ("NoTree", "kind") (cm 4))) pa_nil)))))) (pss_cons (ps_expr (pe_bm PySem.F.plainAttrs_list PySem.F.slot_list_extend PySem.F.type_list_extend mt_extend (pv 1) (pa_cons (pe_lst (t := tIssQ K T0 p.1 p.2.cls p.2.dict 0 ((["BadGrammar", "BadKind", "BadRule", "BadSpot"] : List Str).map (He.ga K))) (pa_cons (pe_isQ (i := 0) hot hm (T.fr "isinstance" (fm 2)) (T.gC ("BadGrammar", "grammar") (cm 5)) (T.kn ("BadGrammar", "grammar") (cm 5)) (cne T ("BadGrammar", "grammar") (cm 5))) (pa_cons (pe_isQ (i := 0) hot hm (T.fr "isinstance" (fm 2)) (T.gC ("BadKind", "kind") (cm 6)) (T.kn ("BadKind", "kind") (cm 6)) (cne T ("BadKind", "kind") (cm 6))) (pa_cons (pe_isQ (i := 0) hot hm (T.fr "isinstance" (fm 2)) (T.gC ("BadRule", "rule") (cm 7)) (T.kn ("BadRule", "rule") (cm 7)) (cne T ("BadRule", "rule") (cm 7))) (pa_cons (pe_isQ (i := 0) hot hm (T.fr "isinstance" (fm 2)) (T.gC ("BadSpot", "spot") (cm 8)) (T.kn ("BadSpot", "spot") (cm 8)) (cne T ("BadSpot", "spot") (cm 8))) pa_nil))))) pa_nil))) (pss_cons (ps_expr (pe_bm PySem.F.plainAttrs_list PySem.F.slot_list_extend PySem.F.type_list_extend mt_extend (pv 1) (pa_cons (pe_lst (t := tIssQ K T0 p.1 p.2.cls p.2.dict 0 ((["BadTree", "BadPlace", "BadPart", "BadInstance"] : List Str).map (He.ga K))) (pa_cons (pe_isQ (i := 0) hot hm (T.fr "isinstance" (fm 2)) (T.gC ("BadTree", "tree") (cm 9)) (T.kn ("BadTree", "tree") (cm 9)) (cne T ("BadTree", "tree") (cm 9))) (pa_cons (pe_isQ (i := 0) hot hm (T.fr "isinstance" (fm 2)) (T.gC ("BadPlace", "place") (cm 10)) (T.kn ("BadPlace", "place") (cm 10)) (cne T ("BadPlace", "place") (cm 10))) (pa_cons (pe_isQ (i := 0) hot hm (T.fr "isinstance" (fm 2)) (T.gC ("BadPart", "part") (cm 11)) (T.kn ("BadPart", "part") (cm 11)) (cne T ("BadPart", "part") (cm 11))) (pa_cons (pe_isQ (i := 0) hot hm (T.fr "isinstance" (fm 2)) (T.gC ("BadInstance", "instance") (cm 12)) (T.kn ("BadInstance", "instance") (cm 12)) (cne T ("BadInstance", "instance") (cm 12))) pa_nil))))) pa_nil))) (pss_cons (ps_expr (pe_bm PySem.F.plainAttrs_list PySem.F.slot_list_extend PySem.F.type_list_extend mt_extend (pv 1) (pa_cons (pe_lst (t := tIssQ K T0 p.1 p.2.cls p.2.dict 0 ((["BadSize", "BadGrammarText"] : List Str).map (He.ga K))) (pa_cons (pe_isQ (i := 0) hot hm (T.fr "isinstance" (fm 2)) (T.gC ("BadSize", "size") (cm 13)) (T.kn ("BadSize", "size") (cm 13)) (cne T ("BadSize", "size") (cm 13))) (pa_cons (pe_isQ (i := 0) hot hm (T.fr "isinstance" (fm 2)) (T.gC ("BadGrammarText", "line") (cm 14)) (T.kn ("BadGrammarText", "line") (cm 14)) (cne T ("BadGrammarText", "line") (cm 14))) pa_nil))) pa_nil))) (pss_one (ps_ret (pe_lcH (own := [("k", 2)]) ⟨p, hot, hm⟩ sc_law_kinds_first.nd (pi_range1H rfl (T.fr "range" (fm 12)) (pa_cons pe_int pa_nil)) (blkOk_by (N := ["e", "told", "k"]) (sc := defScope (top 36)) (by decide +kernel)) (fun _ _ _ _ _ => pg_name (i := 2) sc_law_kinds_first.nd rfl (Or.inl rfl)) (fun _ _ _ _ _ => pts_one (pt_val (pe_ix (r := rIxL K) ix_list (pv 1) (pv 2) (fun _ _ => rfl)))) (fun _ _ _ _ _ => pe_op op_add pe_int (pv 2))))))))), ?_⟩
    refine seqA (lst_ok (issQ_ok rfl ea kC ⟨by show 4 ≤ sizeLine; decide, fun t ht => ?_⟩))
    have s1 : Same H (upd H t (.lst (((["WrongKinds", "WrongRules", "BadStart", "NoTree"] : List Str).map (He.ga K)).map fun D => V.bl (decide (C = D))))) := Same.new ht
    have u1 : (upd H t (.lst (((["WrongKinds", "WrongRules", "BadStart", "NoTree"] : List Str).map (He.ga K)).map fun D => V.bl (decide (C = D))))) t = some (.lst (((["WrongKinds", "WrongRules", "BadStart", "NoTree"] : List Str).map (He.ga K)).map fun D => V.bl (decide (C = D)))) := upd_same
    generalize upd H t (.lst (((["WrongKinds", "WrongRules", "BadStart", "NoTree"] : List Str).map (He.ga K)).map fun D => V.bl (decide (C = D)))) = H1 at s1 u1 ⊢
    refine seqD (ext_ok (i := 1) (p := t) rfl u1 (issQ_ok rfl (ea.mono s1) kC ⟨u1, by show 8 ≤ sizeLine; decide, fun q1 h1 => ?_⟩) issQ_mono)
    have s2 : Same H (upd (upd H1 q1 (.lst (((["BadGrammar", "BadKind", "BadRule", "BadSpot"] : List Str).map (He.ga K)).map fun D => V.bl (decide (C = D))))) t (.lst ((((["WrongKinds", "WrongRules", "BadStart", "NoTree"] : List Str).map (He.ga K)).map fun D => V.bl (decide (C = D))) ++ (((["BadGrammar", "BadKind", "BadRule", "BadSpot"] : List Str).map (He.ga K)).map fun D => V.bl (decide (C = D)))))) := Same.mut (s1.trans (Same.new h1)) ht
    have u2 : (upd (upd H1 q1 (.lst (((["BadGrammar", "BadKind", "BadRule", "BadSpot"] : List Str).map (He.ga K)).map fun D => V.bl (decide (C = D))))) t (.lst ((((["WrongKinds", "WrongRules", "BadStart", "NoTree"] : List Str).map (He.ga K)).map fun D => V.bl (decide (C = D))) ++ (((["BadGrammar", "BadKind", "BadRule", "BadSpot"] : List Str).map (He.ga K)).map fun D => V.bl (decide (C = D)))))) t = some (.lst ((((["WrongKinds", "WrongRules", "BadStart", "NoTree"] : List Str).map (He.ga K)) ++ ((["BadGrammar", "BadKind", "BadRule", "BadSpot"] : List Str).map (He.ga K))).map fun D => V.bl (decide (C = D)))) := upd_same.trans rfl
    generalize (upd (upd H1 q1 (.lst (((["BadGrammar", "BadKind", "BadRule", "BadSpot"] : List Str).map (He.ga K)).map fun D => V.bl (decide (C = D))))) t (.lst ((((["WrongKinds", "WrongRules", "BadStart", "NoTree"] : List Str).map (He.ga K)).map fun D => V.bl (decide (C = D))) ++ (((["BadGrammar", "BadKind", "BadRule", "BadSpot"] : List Str).map (He.ga K)).map fun D => V.bl (decide (C = D)))))) = H2 at s2 u2 ⊢
    refine seqD (ext_ok (i := 1) (p := t) rfl u2 (issQ_ok rfl (ea.mono s2) kC ⟨u2, by show 12 ≤ sizeLine; decide, fun q2 h2 => ?_⟩) issQ_mono)
    have s3 : Same H (upd (upd H2 q2 (.lst (((["BadTree", "BadPlace", "BadPart", "BadInstance"] : List Str).map (He.ga K)).map fun D => V.bl (decide (C = D))))) t (.lst (((((["WrongKinds", "WrongRules", "BadStart", "NoTree"] : List Str).map (He.ga K)) ++ ((["BadGrammar", "BadKind", "BadRule", "BadSpot"] : List Str).map (He.ga K))).map fun D => V.bl (decide (C = D))) ++ (((["BadTree", "BadPlace", "BadPart", "BadInstance"] : List Str).map (He.ga K)).map fun D => V.bl (decide (C = D)))))) := Same.mut (s2.trans (Same.new h2)) ht
    have u3 : (upd (upd H2 q2 (.lst (((["BadTree", "BadPlace", "BadPart", "BadInstance"] : List Str).map (He.ga K)).map fun D => V.bl (decide (C = D))))) t (.lst (((((["WrongKinds", "WrongRules", "BadStart", "NoTree"] : List Str).map (He.ga K)) ++ ((["BadGrammar", "BadKind", "BadRule", "BadSpot"] : List Str).map (He.ga K))).map fun D => V.bl (decide (C = D))) ++ (((["BadTree", "BadPlace", "BadPart", "BadInstance"] : List Str).map (He.ga K)).map fun D => V.bl (decide (C = D)))))) t = some (.lst (((((["WrongKinds", "WrongRules", "BadStart", "NoTree"] : List Str).map (He.ga K)) ++ ((["BadGrammar", "BadKind", "BadRule", "BadSpot"] : List Str).map (He.ga K))) ++ ((["BadTree", "BadPlace", "BadPart", "BadInstance"] : List Str).map (He.ga K))).map fun D => V.bl (decide (C = D)))) := upd_same.trans rfl
    generalize (upd (upd H2 q2 (.lst (((["BadTree", "BadPlace", "BadPart", "BadInstance"] : List Str).map (He.ga K)).map fun D => V.bl (decide (C = D))))) t (.lst (((((["WrongKinds", "WrongRules", "BadStart", "NoTree"] : List Str).map (He.ga K)) ++ ((["BadGrammar", "BadKind", "BadRule", "BadSpot"] : List Str).map (He.ga K))).map fun D => V.bl (decide (C = D))) ++ (((["BadTree", "BadPlace", "BadPart", "BadInstance"] : List Str).map (He.ga K)).map fun D => V.bl (decide (C = D)))))) = H3 at s3 u3 ⊢
    refine seqD (ext_ok (i := 1) (p := t) rfl u3 (issQ_ok rfl (ea.mono s3) kC ⟨u3, by show 14 ≤ sizeLine; decide, fun q3 h3 => ?_⟩) issQ_mono)
    have s4 : Same H (upd (upd H3 q3 (.lst (((["BadSize", "BadGrammarText"] : List Str).map (He.ga K)).map fun D => V.bl (decide (C = D))))) t (.lst ((((((["WrongKinds", "WrongRules", "BadStart", "NoTree"] : List Str).map (He.ga K)) ++ ((["BadGrammar", "BadKind", "BadRule", "BadSpot"] : List Str).map (He.ga K))) ++ ((["BadTree", "BadPlace", "BadPart", "BadInstance"] : List Str).map (He.ga K))).map fun D => V.bl (decide (C = D))) ++ (((["BadSize", "BadGrammarText"] : List Str).map (He.ga K)).map fun D => V.bl (decide (C = D)))))) := Same.mut (s3.trans (Same.new h3)) ht
    have u4 : (upd (upd H3 q3 (.lst (((["BadSize", "BadGrammarText"] : List Str).map (He.ga K)).map fun D => V.bl (decide (C = D))))) t (.lst ((((((["WrongKinds", "WrongRules", "BadStart", "NoTree"] : List Str).map (He.ga K)) ++ ((["BadGrammar", "BadKind", "BadRule", "BadSpot"] : List Str).map (He.ga K))) ++ ((["BadTree", "BadPlace", "BadPart", "BadInstance"] : List Str).map (He.ga K))).map fun D => V.bl (decide (C = D))) ++ (((["BadSize", "BadGrammarText"] : List Str).map (He.ga K)).map fun D => V.bl (decide (C = D)))))) t = some (.lst ((((((["WrongKinds", "WrongRules", "BadStart", "NoTree"] : List Str).map (He.ga K)) ++ ((["BadGrammar", "BadKind", "BadRule", "BadSpot"] : List Str).map (He.ga K))) ++ ((["BadTree", "BadPlace", "BadPart", "BadInstance"] : List Str).map (He.ga K))) ++ ((["BadSize", "BadGrammarText"] : List Str).map (He.ga K))).map fun D => V.bl (decide (C = D)))) := upd_same.trans rfl
    generalize (upd (upd H3 q3 (.lst (((["BadSize", "BadGrammarText"] : List Str).map (He.ga K)).map fun D => V.bl (decide (C = D))))) t (.lst ((((((["WrongKinds", "WrongRules", "BadStart", "NoTree"] : List Str).map (He.ga K)) ++ ((["BadGrammar", "BadKind", "BadRule", "BadSpot"] : List Str).map (He.ga K))) ++ ((["BadTree", "BadPlace", "BadPart", "BadInstance"] : List Str).map (He.ga K))).map fun D => V.bl (decide (C = D))) ++ (((["BadSize", "BadGrammarText"] : List Str).map (He.ga K)).map fun D => V.bl (decide (C = D)))))) = H4 at s4 u4 ⊢
    refine lc_idx (bs := places (kz1.map (He.ga K)) C) (n := 14) (c := 0) (p := t) rfl (by show 2 < 3; decide) (by decide) rfl ?_ (by show 14 ≤ 14; decide) (by decide) (fun m H1 Q1 q => ⟨_, rfl, _, _, rfl, rfl, by show Q1 (.int (0 + (0 + (m : Int)))) H1; rw [Int.zero_add]; exact q⟩) fun D H' hD s hl => ?_
    · exact u4
    · exact k D H' (s4.free hD) (s4.trans s) hl
theorem q_kinds2 (T : Txt P w K mg base T0) : CalQ P w K mg base "_law_kinds_last" 1 ["e"] (spKindsQ K T0 14 (kz2.map (He.ga K))) := by
  refine calq_of (params := defArgs (top 37)) (body := defBody (top 37)) (scope := defScope (top 37)) (T.fn _ (dm 4)) (T.gF _ (dm 4)) sc_law_kinds_last (fun _ _ _ _ _ _ us hl => match us, hl with | [_], _ => rfl) (fun a cls d vs H Q E h => ?_) (fun cdv A outer s H vs Q E p hot0 hr h => ?_)
  · obtain ⟨C, rfl, _⟩ := h
    rfl
  · obtain ⟨C, rfl, ea, kC, k⟩ := h
    have hot : Hot1 (A.deeper (envOfC "_law_kinds_last" (defScope (top 37)) s.heap.objs.size (He.ga K "_law_kinds_last") cdv)) p := hot0
    have hm : p ∈ [p] := List.mem_cons_self
    refine ⟨_, (pss_cons (ps_set (i := 1) sc_law_kinds_last.nd rfl (Or.inr rfl) (pe_lst (t := tIssQ K T0 p.1 p.2.cls p.2.dict 0 ((["BadTreeText", "HasCircle", "BadGiven", "BadKnown"] : List Str).map (He.ga K))) (pa_cons (pe_isQ (i := 0) hot hm (T.fr "isinstance" (fm 2)) (T.gC ("BadTreeText", "place") (cm 15)) (T.kn ("BadTreeText", "place") (cm 15)) (cne T ("BadTreeText", "place") (cm 15))) (pa_cons (pe_isQ (i := 0) hot hm (T.fr "isinstance" (fm 2)) (T.gC ("HasCircle", "tree") (cm 16)) (T.kn ("HasCircle", "tree") (cm 16)) (cne T ("HasCircle", "tree") (cm 16))) (pa_cons (pe_isQ (i := 0) hot hm (T.fr "isinstance" (fm 2)) (T.gC ("BadGiven", "given") (cm 17)) (T.kn ("BadGiven", "given") (cm 17)) (cne T ("BadGiven", "given") (cm 17))) (pa_cons (pe_isQ (i := 0) hot hm (T.fr "isinstance" (fm 2)) (T.gC ("BadKnown", "known") (cm 18)) (T.kn ("BadKnown", "known") (cm 18)) (cne T ("BadKnown", "known") (cm 18))) pa_nil)))))) (pss_cons (ps_expr (pe_bm PySem.F.plainAttrs_list PySem.F.slot_list_extend PySem.F.type_list_extend mt_extend (pv 1) (pa_cons (pe_lst (t := tIssQ K T0 p.1 p.2.cls p.2.dict 0 ((["BadWanted", "NotReached", "BadName", "NotStart"] : List Str).map (He.ga K))) (pa_cons (pe_isQ (i := 0) hot hm (T.fr "isinstance" (fm 2)) (T.gC ("BadWanted", "index") (cm 19)) (T.kn ("BadWanted", "index") (cm 19)) (cne T ("BadWanted", "index") (cm 19))) (pa_cons (pe_isQ (i := 0) hot hm (T.fr "isinstance" (fm 2)) (T.gC ("NotReached", "kind") (cm 20)) (T.kn ("NotReached", "kind") (cm 20)) (cne T ("NotReached", "kind") (cm 20))) (pa_cons (pe_isQ (i := 0) hot hm (T.fr "isinstance" (fm 2)) (T.gC ("BadName", "name") (cm 21)) (T.kn ("BadName", "name") (cm 21)) (cne T ("BadName", "name") (cm 21))) (pa_cons (pe_isQ (i := 0) hot hm (T.fr "isinstance" (fm 2)) (T.gC ("NotStart", "tree") (cm 22)) (T.kn ("NotStart", "tree") (cm 22)) (cne T ("NotStart", "tree") (cm 22))) pa_nil))))) pa_nil))) (pss_cons (ps_expr (pe_bm PySem.F.plainAttrs_list PySem.F.slot_list_extend PySem.F.type_list_extend mt_extend (pv 1) (pa_cons (pe_lst (t := tIssQ K T0 p.1 p.2.cls p.2.dict 0 ((["BadNumber", "BadValue", "BadTold", "BadOrder"] : List Str).map (He.ga K))) (pa_cons (pe_isQ (i := 0) hot hm (T.fr "isinstance" (fm 2)) (T.gC ("BadNumber", "number") (cm 23)) (T.kn ("BadNumber", "number") (cm 23)) (cne T ("BadNumber", "number") (cm 23))) (pa_cons (pe_isQ (i := 0) hot hm (T.fr "isinstance" (fm 2)) (T.gC ("BadValue", "value") (cm 24)) (T.kn ("BadValue", "value") (cm 24)) (cne T ("BadValue", "value") (cm 24))) (pa_cons (pe_isQ (i := 0) hot hm (T.fr "isinstance" (fm 2)) (T.gC ("BadTold", "told") (cm 25)) (T.kn ("BadTold", "told") (cm 25)) (cne T ("BadTold", "told") (cm 25))) (pa_cons (pe_isQ (i := 0) hot hm (T.fr "isinstance" (fm 2)) (T.gC ("BadOrder", "order") (cm 26)) (T.kn ("BadOrder", "order") (cm 26)) (cne T ("BadOrder", "order") (cm 26))) pa_nil))))) pa_nil))) (pss_cons (ps_expr (pe_bm PySem.F.plainAttrs_list PySem.F.slot_list_extend PySem.F.type_list_extend mt_extend (pv 1) (pa_cons (pe_lst (t := tIssQ K T0 p.1 p.2.cls p.2.dict 0 ((["BadWord", "BadSource"] : List Str).map (He.ga K))) (pa_cons (pe_isQ (i := 0) hot hm (T.fr "isinstance" (fm 2)) (T.gC ("BadWord", "word") (cm 27)) (T.kn ("BadWord", "word") (cm 27)) (cne T ("BadWord", "word") (cm 27))) (pa_cons (pe_isQ (i := 0) hot hm (T.fr "isinstance" (fm 2)) (T.gC ("BadSource", "source") (cm 28)) (T.kn ("BadSource", "source") (cm 28)) (cne T ("BadSource", "source") (cm 28))) pa_nil))) pa_nil))) (pss_one (ps_ret (pe_lcH (own := [("k", 2)]) ⟨p, hot, hm⟩ sc_law_kinds_last.nd (pi_range1H rfl (T.fr "range" (fm 12)) (pa_cons pe_int pa_nil)) (blkOk_by (N := ["e", "told", "k"]) (sc := defScope (top 37)) (by decide +kernel)) (fun _ _ _ _ _ => pg_name (i := 2) sc_law_kinds_last.nd rfl (Or.inl rfl)) (fun _ _ _ _ _ => pts_one (pt_val (pe_ix (r := rIxL K) ix_list (pv 1) (pv 2) (fun _ _ => rfl)))) (fun _ _ _ _ _ => pe_op op_add pe_int (pv 2))))))))), ?_⟩
    refine seqA (lst_ok (issQ_ok rfl ea kC ⟨by show 4 ≤ sizeLine; decide, fun t ht => ?_⟩))
    have s1 : Same H (upd H t (.lst (((["BadTreeText", "HasCircle", "BadGiven", "BadKnown"] : List Str).map (He.ga K)).map fun D => V.bl (decide (C = D))))) := Same.new ht
    have u1 : (upd H t (.lst (((["BadTreeText", "HasCircle", "BadGiven", "BadKnown"] : List Str).map (He.ga K)).map fun D => V.bl (decide (C = D))))) t = some (.lst (((["BadTreeText", "HasCircle", "BadGiven", "BadKnown"] : List Str).map (He.ga K)).map fun D => V.bl (decide (C = D)))) := upd_same
    generalize upd H t (.lst (((["BadTreeText", "HasCircle", "BadGiven", "BadKnown"] : List Str).map (He.ga K)).map fun D => V.bl (decide (C = D)))) = H1 at s1 u1 ⊢
    refine seqD (ext_ok (i := 1) (p := t) rfl u1 (issQ_ok rfl (ea.mono s1) kC ⟨u1, by show 8 ≤ sizeLine; decide, fun q1 h1 => ?_⟩) issQ_mono)
    have s2 : Same H (upd (upd H1 q1 (.lst (((["BadWanted", "NotReached", "BadName", "NotStart"] : List Str).map (He.ga K)).map fun D => V.bl (decide (C = D))))) t (.lst ((((["BadTreeText", "HasCircle", "BadGiven", "BadKnown"] : List Str).map (He.ga K)).map fun D => V.bl (decide (C = D))) ++ (((["BadWanted", "NotReached", "BadName", "NotStart"] : List Str).map (He.ga K)).map fun D => V.bl (decide (C = D)))))) := Same.mut (s1.trans (Same.new h1)) ht
    have u2 : (upd (upd H1 q1 (.lst (((["BadWanted", "NotReached", "BadName", "NotStart"] : List Str).map (He.ga K)).map fun D => V.bl (decide (C = D))))) t (.lst ((((["BadTreeText", "HasCircle", "BadGiven", "BadKnown"] : List Str).map (He.ga K)).map fun D => V.bl (decide (C = D))) ++ (((["BadWanted", "NotReached", "BadName", "NotStart"] : List Str).map (He.ga K)).map fun D => V.bl (decide (C = D)))))) t = some (.lst ((((["BadTreeText", "HasCircle", "BadGiven", "BadKnown"] : List Str).map (He.ga K)) ++ ((["BadWanted", "NotReached", "BadName", "NotStart"] : List Str).map (He.ga K))).map fun D => V.bl (decide (C = D)))) := upd_same.trans rfl
    generalize (upd (upd H1 q1 (.lst (((["BadWanted", "NotReached", "BadName", "NotStart"] : List Str).map (He.ga K)).map fun D => V.bl (decide (C = D))))) t (.lst ((((["BadTreeText", "HasCircle", "BadGiven", "BadKnown"] : List Str).map (He.ga K)).map fun D => V.bl (decide (C = D))) ++ (((["BadWanted", "NotReached", "BadName", "NotStart"] : List Str).map (He.ga K)).map fun D => V.bl (decide (C = D)))))) = H2 at s2 u2 ⊢
    refine seqD (ext_ok (i := 1) (p := t) rfl u2 (issQ_ok rfl (ea.mono s2) kC ⟨u2, by show 12 ≤ sizeLine; decide, fun q2 h2 => ?_⟩) issQ_mono)
    have s3 : Same H (upd (upd H2 q2 (.lst (((["BadNumber", "BadValue", "BadTold", "BadOrder"] : List Str).map (He.ga K)).map fun D => V.bl (decide (C = D))))) t (.lst (((((["BadTreeText", "HasCircle", "BadGiven", "BadKnown"] : List Str).map (He.ga K)) ++ ((["BadWanted", "NotReached", "BadName", "NotStart"] : List Str).map (He.ga K))).map fun D => V.bl (decide (C = D))) ++ (((["BadNumber", "BadValue", "BadTold", "BadOrder"] : List Str).map (He.ga K)).map fun D => V.bl (decide (C = D)))))) := Same.mut (s2.trans (Same.new h2)) ht
    have u3 : (upd (upd H2 q2 (.lst (((["BadNumber", "BadValue", "BadTold", "BadOrder"] : List Str).map (He.ga K)).map fun D => V.bl (decide (C = D))))) t (.lst (((((["BadTreeText", "HasCircle", "BadGiven", "BadKnown"] : List Str).map (He.ga K)) ++ ((["BadWanted", "NotReached", "BadName", "NotStart"] : List Str).map (He.ga K))).map fun D => V.bl (decide (C = D))) ++ (((["BadNumber", "BadValue", "BadTold", "BadOrder"] : List Str).map (He.ga K)).map fun D => V.bl (decide (C = D)))))) t = some (.lst (((((["BadTreeText", "HasCircle", "BadGiven", "BadKnown"] : List Str).map (He.ga K)) ++ ((["BadWanted", "NotReached", "BadName", "NotStart"] : List Str).map (He.ga K))) ++ ((["BadNumber", "BadValue", "BadTold", "BadOrder"] : List Str).map (He.ga K))).map fun D => V.bl (decide (C = D)))) := upd_same.trans rfl
    generalize (upd (upd H2 q2 (.lst (((["BadNumber", "BadValue", "BadTold", "BadOrder"] : List Str).map (He.ga K)).map fun D => V.bl (decide (C = D))))) t (.lst (((((["BadTreeText", "HasCircle", "BadGiven", "BadKnown"] : List Str).map (He.ga K)) ++ ((["BadWanted", "NotReached", "BadName", "NotStart"] : List Str).map (He.ga K))).map fun D => V.bl (decide (C = D))) ++ (((["BadNumber", "BadValue", "BadTold", "BadOrder"] : List Str).map (He.ga K)).map fun D => V.bl (decide (C = D)))))) = H3 at s3 u3 ⊢
    refine seqD (ext_ok (i := 1) (p := t) rfl u3 (issQ_ok rfl (ea.mono s3) kC ⟨u3, by show 14 ≤ sizeLine; decide, fun q3 h3 => ?_⟩) issQ_mono)
    have s4 : Same H (upd (upd H3 q3 (.lst (((["BadWord", "BadSource"] : List Str).map (He.ga K)).map fun D => V.bl (decide (C = D))))) t (.lst ((((((["BadTreeText", "HasCircle", "BadGiven", "BadKnown"] : List Str).map (He.ga K)) ++ ((["BadWanted", "NotReached", "BadName", "NotStart"] : List Str).map (He.ga K))) ++ ((["BadNumber", "BadValue", "BadTold", "BadOrder"] : List Str).map (He.ga K))).map fun D => V.bl (decide (C = D))) ++ (((["BadWord", "BadSource"] : List Str).map (He.ga K)).map fun D => V.bl (decide (C = D)))))) := Same.mut (s3.trans (Same.new h3)) ht
    have u4 : (upd (upd H3 q3 (.lst (((["BadWord", "BadSource"] : List Str).map (He.ga K)).map fun D => V.bl (decide (C = D))))) t (.lst ((((((["BadTreeText", "HasCircle", "BadGiven", "BadKnown"] : List Str).map (He.ga K)) ++ ((["BadWanted", "NotReached", "BadName", "NotStart"] : List Str).map (He.ga K))) ++ ((["BadNumber", "BadValue", "BadTold", "BadOrder"] : List Str).map (He.ga K))).map fun D => V.bl (decide (C = D))) ++ (((["BadWord", "BadSource"] : List Str).map (He.ga K)).map fun D => V.bl (decide (C = D)))))) t = some (.lst ((((((["BadTreeText", "HasCircle", "BadGiven", "BadKnown"] : List Str).map (He.ga K)) ++ ((["BadWanted", "NotReached", "BadName", "NotStart"] : List Str).map (He.ga K))) ++ ((["BadNumber", "BadValue", "BadTold", "BadOrder"] : List Str).map (He.ga K))) ++ ((["BadWord", "BadSource"] : List Str).map (He.ga K))).map fun D => V.bl (decide (C = D)))) := upd_same.trans rfl
    generalize (upd (upd H3 q3 (.lst (((["BadWord", "BadSource"] : List Str).map (He.ga K)).map fun D => V.bl (decide (C = D))))) t (.lst ((((((["BadTreeText", "HasCircle", "BadGiven", "BadKnown"] : List Str).map (He.ga K)) ++ ((["BadWanted", "NotReached", "BadName", "NotStart"] : List Str).map (He.ga K))) ++ ((["BadNumber", "BadValue", "BadTold", "BadOrder"] : List Str).map (He.ga K))).map fun D => V.bl (decide (C = D))) ++ (((["BadWord", "BadSource"] : List Str).map (He.ga K)).map fun D => V.bl (decide (C = D)))))) = H4 at s4 u4 ⊢
    refine lc_idx (bs := places (kz2.map (He.ga K)) C) (n := 14) (c := 14) (p := t) rfl (by show 2 < 3; decide) (by decide) rfl ?_ (by show 14 ≤ 14; decide) (by decide) (fun m H1 Q1 q => ⟨_, rfl, _, _, rfl, rfl, by show Q1 (.int (14 + (0 + (m : Int)))) H1; rw [Int.zero_add]; exact q⟩) fun D H' hD s hl => ?_
    · exact u4
    · exact k D H' (s4.free hD) (s4.trans s) hl
theorem sc_law_kinds : FnScope ["e"] ["e"] (defScope (top 38)) := ⟨rfl, rfl, rfl, by decide +kernel, rfl, by decide +kernel, by decide +kernel⟩
theorem c_kinds (T : Txt P w K mg base T0) : Cal P w K mg base "_law_kinds" 2 ["e"] (spKinds K T0 0 (kz.map (He.ga K))) := by
  refine cal_of (params := defArgs (top 38)) (body := defBody (top 38)) (scope := defScope (top 38)) (T.fn _ (dm 5)) (T.gF _ (dm 5)) sc_law_kinds (fun _ _ _ _ _ _ us hl => match us, hl with | [_], _ => rfl) (fun vs H Q E h => ?_) (fun cdv A outer s H vs Q E hr h => ?_)
  · obtain ⟨a, C, rfl, _⟩ := h
    rfl
  · obtain ⟨a, C, rfl, ea, kC, k⟩ := h
    refine ⟨_, pss_one (ps_ret (pe_op op_cat (pe_cal (c_kinds1 T) hr (pa_cons (pv 0) pa_nil)) (pe_cal (c_kinds2 T) hr (pa_cons (pv 0) pa_nil)))), ?_⟩
    refine ⟨_, rfl, a, C, rfl, ea, kC, fun l1 H1 hl1 s1 e1 => ⟨_, rfl, a, C, rfl, ea.mono s1, kC, fun l2 H2 hl2 s2 e2 => ?_⟩⟩
    refine ⟨l1, l2, _, _, rfl, rfl, s2 _ _ e1, e2, ?_, fun l hl => ?_⟩
    · have hle : (idx 0 (places (kz1.map (He.ga K)) C) (kz1.map (He.ga K)).length).length + (idx 14 (places (kz2.map (He.ga K)) C) (kz2.map (He.ga K)).length).length ≤ sizeLine := by
        have z1 := idx_len 0 (places (kz1.map (He.ga K)) C) (kz1.map (He.ga K)).length
        have z2 := idx_len 14 (places (kz2.map (He.ga K)) C) (kz2.map (He.ga K)).length
        have y1 : (kz1.map (He.ga K)).length = 14 := by rw [List.length_map]; rfl
        have y2 : (kz2.map (He.ga K)).length = 14 := by rw [List.length_map]; rfl
        exact Nat.le_trans (by omega : _ ≤ 28) (by decide)
      exact hle
    · have sA := (s1.trans s2).trans (Same.new (o := .lst (idx 0 (places (kz1.map (He.ga K)) C) (kz1.map (He.ga K)).length ++ idx 14 (places (kz2.map (He.ga K)) C) (kz2.map (He.ga K)).length)) hl)
      refine k l _ ((s1.trans s2).free hl) sA ?_
      rw [upd_same]
      unfold kz
      rw [List.map_append, List.length_append, idx_app]
      rfl
end
end HK
namespace HK
open PySem PySem.Spec PyProof.Rows L2 HeY Dw Er L2H
section
variable {P : Program} {w : World} {K : PySem.W.Frag} {mg : Str → Option Value} {base : Heap} {T0 : Addr}

theorem q_kinds (T : Txt P w K mg base T0) : CalQ P w K mg base "_law_kinds" 2 ["e"] (spKindsQ K T0 0 (kz.map (He.ga K))) := by
  refine calq_of (params := defArgs (top 38)) (body := defBody (top 38)) (scope := defScope (top 38)) (T.fn _ (dm 5)) (T.gF _ (dm 5)) sc_law_kinds (fun _ _ _ _ _ _ us hl => match us, hl with | [_], _ => rfl) (fun a cls d vs H Q E h => ?_) (fun cdv A outer s H vs Q E p hot0 hr h => ?_)
  · obtain ⟨C, rfl, _⟩ := h
    rfl
  · obtain ⟨C, rfl, ea, kC, k⟩ := h
    have hot : Hot1 (A.deeper (envOfC "_law_kinds" (defScope (top 38)) s.heap.objs.size (He.ga K "_law_kinds") cdv)) p := hot0
    have hm : p ∈ [p] := List.mem_cons_self
    refine ⟨_, pss_one (ps_ret (pe_op op_cat (pe_calq (p := p) (q_kinds1 T) hr hot hm (pa_cons (pv 0) pa_nil)) (pe_calq (p := p) (q_kinds2 T) hr hot hm (pa_cons (pv 0) pa_nil)))), ?_⟩
    refine ⟨_, rfl, C, rfl, ea, kC, fun l1 H1 hl1 s1 e1 => ⟨_, rfl, C, rfl, ea.mono s1, kC, fun l2 H2 hl2 s2 e2 => ?_⟩⟩
    refine ⟨l1, l2, _, _, rfl, rfl, s2 _ _ e1, e2, ?_, fun l hl => ?_⟩
    · have hle : (idx 0 (places (kz1.map (He.ga K)) C) (kz1.map (He.ga K)).length).length + (idx 14 (places (kz2.map (He.ga K)) C) (kz2.map (He.ga K)).length).length ≤ sizeLine := by
        have z1 := idx_len 0 (places (kz1.map (He.ga K)) C) (kz1.map (He.ga K)).length
        have z2 := idx_len 14 (places (kz2.map (He.ga K)) C) (kz2.map (He.ga K)).length
        have y1 : (kz1.map (He.ga K)).length = 14 := by rw [List.length_map]; rfl
        have y2 : (kz2.map (He.ga K)).length = 14 := by rw [List.length_map]; rfl
        exact Nat.le_trans (by omega : _ ≤ 28) (by decide)
      exact hle
    · have sA := (s1.trans s2).trans (Same.new (o := .lst (idx 0 (places (kz1.map (He.ga K)) C) (kz1.map (He.ga K)).length ++ idx 14 (places (kz2.map (He.ga K)) C) (kz2.map (He.ga K)).length)) hl)
      refine k l _ ((s1.trans s2).free hl) sA ?_
      rw [upd_same]
      unfold kz
      rw [List.map_append, List.length_append, idx_app]
      rfl
end
end HK
namespace HK
open PySem PySem.Spec PyProof.Rows L2 HeY Dw Er
section
variable {P : Program} {w : World} {K : PySem.W.Frag} {mg : Str → Option Value} {base : Heap} {T0 : Addr}

theorem sc_law_object : FnScope ["state", "way"] ["state"] (defScope (top 44)) := ⟨rfl, rfl, rfl, by decide +kernel, rfl, by decide +kernel, by decide +kernel⟩
theorem c_object (T : Txt P w K mg base T0) : Cal P w K mg base "_law_object" 3 ["state"] (spObject1) := by
  refine cal_of (params := defArgs (top 44)) (body := defBody (top 44)) (scope := defScope (top 44)) (T.fn _ (dm 11)) (T.gF _ (dm 11)) sc_law_object (fun _ _ _ _ _ _ us hl => match us, hl with | [_], _ => rfl) (fun vs H Q E h => ?_) (fun cdv A outer s H vs Q E hr h => ?_)
  · obtain ⟨s, l, n, rfl, _⟩ := h
    rfl
  · obtain ⟨s, l, n, rfl, st, hn, k⟩ := h
    refine ⟨_, (pss_cons (ps_set (i := 1) sc_law_object.nd rfl (Or.inl rfl) (pe_cal (c_pick T |>.mono (by decide)) hr (pa_cons (pv 0) (pa_cons pe_int pa_nil)))) (pss_cons (ps_if (pt_cmpR op_lt (pv 1) pe_int (nomark _)) (pss_one (ps_ret (pe_ix ix_list (pe_lst (pa_cons (pe_cal (c_between T) hr (pa_cons (pv 0) (pa_cons (pe_un un_neg pe_int) (pa_cons pe_int pa_nil)))) (pa_cons (pe_op op_add_str pe_str (pe_callTy call_str_int (by rfl) (T.fr "str" (fm 8)) (by decide +kernel) (pa_cons (pe_cal (c_pick T |>.mono (by decide)) hr (pa_cons (pv 0) (pa_cons pe_int pa_nil))) pa_nil))) pa_nil))) (pv 1) (fun _ _ => rfl)))) pss_nil) (pss_cons (ps_if (pt_cmpR op_lt (pv 1) pe_int (nomark _)) (pss_one (ps_ret (pe_ix ix_list (pe_lst (pa_cons pe_non (pa_cons (pe_cmpR op_eq (pe_cal (c_pick T |>.mono (by decide)) hr (pa_cons (pv 0) (pa_cons pe_int pa_nil))) pe_int (nomark _)) (pa_cons (pe_tup (pa_cons pe_int (pa_cons (pe_cal (c_pick T |>.mono (by decide)) hr (pa_cons (pv 0) (pa_cons pe_int pa_nil))) pa_nil))) pa_nil)))) (pe_op op_sub (pv 1) pe_int) (fun _ _ => rfl)))) pss_nil) (pss_one (ps_ret (pe_ifExp (pt_cmpR op_eq (pv 1) pe_int (nomark _)) (pe_lst (pa_cons (pe_cal (c_pick T |>.mono (by decide)) hr (pa_cons (pv 0) (pa_cons pe_int pa_nil))) (pa_cons (pe_lst (pa_cons pe_int pa_nil)) pa_nil))) (pe_disp (pps_cons pe_str (pe_cal (c_pick T |>.mono (by decide)) hr (pa_cons (pv 0) (pa_cons pe_int pa_nil))) pps_nil) (by rfl) (by rfl) (fun z => by cases z) (by decide)))))))), ?_⟩
    refine ⟨_, rfl, s, l, n, 7, rfl, by decide, by decide, st, by omega, fun wy H1 w0 w1 st1 f1 => ?_⟩
    by_cases h2 : wy < 2
    · refine if_lt (k := wy) rfl (fun _ => ?_) fun h => absurd h2 h
      refine ⟨_, rfl, _, rfl, s, l, n + 1, -9, 9, rfl, by decide, by decide, st1, by omega, fun r1 H2 _ _ st2 f2 => ?_⟩
      refine ⟨_, rfl, s, l, n + 2, 99, rfl, by decide, by decide, st2, by omega, fun r2 H3 a2 b2 st3 f3 => ?_⟩
      have lg : r2.natAbs.log2 < 1920 := Nat.lt_of_le_of_lt (Nat.log2_le_self _) (by omega)
      refine ⟨_, rfl, lg, _, _, rfl, rfl, ?_, ?_⟩
      · obtain ⟨m, rfl⟩ := Int.eq_ofNat_of_zero_le a2
        have key : ∀ x : Fin 99, (Str.ofString "w").length + (Str.ofString (toString ((x.val : Nat) : Int))).length ≤ 100 := by decide +kernel
        exact Nat.le_trans (key ⟨m, by omega⟩) (by show 100 ≤ sizeLine; decide)
      refine ⟨by show 2 ≤ sizeLine; decide, fun sm hsm => ?_⟩
      have st4 := st3.same (Same.new (o := .lst [.int r1, .str (("w" : Str) ++ Str.ofString (toString r2))]) hsm)
      have f4 : Fr s l H (upd H3 sm (.lst [.int r1, .str (("w" : Str) ++ Str.ofString (toString r2))])) := ((f1.trans f2).trans f3).trans (Fr.of (Same.new hsm))
      obtain ⟨kk, rfl⟩ := Int.eq_ofNat_of_zero_le w0
      match kk, h2 with
      | 0, _ =>
        refine ⟨_, rfl, sm, _, 0, _, rfl, rfl, SqL.of upd_same, rfl, ?_⟩
        exact k _ _ rfl (st4.mono (by omega)) f4
      | 1, _ =>
        refine ⟨_, rfl, sm, _, 1, _, rfl, rfl, SqL.of upd_same, rfl, ?_⟩
        exact k _ _ rfl (st4.mono (by omega)) f4
      | kk + 2, h => exact absurd h (by omega)
    refine if_lt (k := wy) rfl (fun h => absurd h h2) fun _ => ?_
    by_cases h5 : wy < 5
    · refine if_lt (k := wy) rfl (fun _ => ?_) fun h => absurd h5 h
      refine ⟨_, rfl, s, l, n + 1, 2, rfl, by decide, by decide, st1, by omega, fun r3 H2 _ _ st2 f2 => ⟨rfl, ?_⟩⟩
      refine ⟨_, rfl, s, l, n + 2, 9, rfl, by decide, by decide, st2, by omega, fun r4 H3 _ _ st3 f3 => ?_⟩
      refine ⟨by show 2 ≤ sizeLine; decide, fun t ht => ⟨by show 3 ≤ sizeLine; decide, fun sm hsm => ?_⟩⟩
      have s4 : Same H3 (upd (upd H3 t (.tup [.int 1, .int r4])) sm (.lst [.non, .bl (decide (V.int r3 = V.int 0)), .ref t])) := (Same.new ht).trans (Same.new hsm)
      have f4 : Fr s l H (upd (upd H3 t (.tup [.int 1, .int r4])) sm (.lst [.non, .bl (decide (V.int r3 = V.int 0)), .ref t])) := ((f1.trans f2).trans f3).trans (Fr.of s4)
      have st4 := st3.same s4
      obtain ⟨kk, rfl⟩ := Int.eq_ofNat_of_zero_le w0
      match kk, h2, h5 with
      | 2, _, _ =>
        refine ⟨_, rfl, _, _, rfl, rfl, sm, _, 0, _, rfl, rfl, SqL.of upd_same, rfl, ?_⟩
        exact k _ _ rfl (st4.mono (by omega)) f4
      | 3, _, _ =>
        refine ⟨_, rfl, _, _, rfl, rfl, sm, _, 1, _, rfl, rfl, SqL.of upd_same, rfl, ?_⟩
        exact k _ _ rfl (st4.mono (by omega)) f4
      | 4, _, _ =>
        refine ⟨_, rfl, _, _, rfl, rfl, sm, _, 2, _, rfl, rfl, SqL.of upd_same, rfl, ?_⟩
        exact k _ _ (.inl ⟨r4, Same.new hsm _ _ upd_same⟩) (st4.mono (by omega)) f4
      | 0, h, _ => exact absurd (by decide) h
      | 1, h, _ => exact absurd (by decide) h
      | kk + 5, _, h => exact absurd h (by omega)
    refine if_lt (k := wy) rfl (fun h => absurd h h5) fun _ => ?_
    refine ⟨_, rfl, rfl, _, rfl, ?_⟩
    by_cases h6 : wy = 5
    · rw [h6, decide_eq_true rfl]
      refine iteT ?_
      refine ⟨_, rfl, s, l, n + 1, 9, rfl, by decide, by decide, st1, by omega, fun r6 H6 _ _ st6 f6 => ?_⟩
      refine ⟨by show 1 ≤ sizeLine; decide, fun q hq => ⟨by show 2 ≤ sizeLine; decide, fun p hp => ?_⟩⟩
      have nqp : q ≠ p := ne_of_none upd_same hp
      have nql : q ≠ l := fun z => by
        obtain ⟨xs, cur, cnt, mix, g1, g2, _⟩ := st6
        rw [z, g2] at hq
        cases hq
      have s7 := (Same.new (o := .lst [.int 1]) hq).trans (Same.new (o := .lst [.int r6, .ref q]) hp)
      exact k _ _ (.inr (.inl ⟨r6, q, nqp, nql, upd_same, by rw [upd_ne nqp]; exact upd_same⟩)) ((st6.same s7).mono (by omega)) ((f1.trans f6).trans (Fr.of s7))
    · rw [decide_eq_false (fun z => h6 (V.int.inj z))]
      refine iteF ?_
      intro p hp
      have sp := Same.new (o := .dK []) hp
      refine ⟨_, rfl, s, l, n + 1, 9, rfl, by decide, by decide, st1.same sp, by omega, fun r6 H6 _ _ st6 f6 => ?_⟩
      have n1 : p ≠ s ∧ p ≠ l := by
        obtain ⟨xs, cur, cnt, mix, g1, g2, _⟩ := st1
        constructor
        · intro z
          rw [← z, hp] at g1
          cases g1
        · intro z
          rw [← z, hp] at g2
          cases g2
      have e6 := f6 _ _ (upd_same (o := .dK [])) n1.1 n1.2
      refine ⟨e6, [(Sum.inr "a", .int r6)], rfl, by show 1 ≤ 15; decide, ?_⟩
      refine k _ _ (.inr (.inr ⟨r6, ?_⟩)) ?_ (fun b o e h1 h2 => ?_)
      · rw [upd_same]
        rfl
      · obtain ⟨xs, cur, cnt, mix, g1, g2, g3⟩ := st6
        exact ⟨xs, cur, cnt, mix, by rw [upd_ne n1.1.symm]; exact g1, by rw [upd_ne n1.2.symm]; exact g2, g3.1, g3.2.1, g3.2.2.1, by omega, g3.2.2.2.2⟩
      · have e1 := f1 _ _ e h1 h2
        have e2 := f6 _ _ (sp _ _ e1) h1 h2
        rw [upd_ne (ne_of_none e1 hp)]
        exact e2
end
end HK
namespace HK
open PySem PySem.Spec PyProof.Rows L2 HeY Dw Er
section
variable {P : Program} {w : World} {K : PySem.W.Frag} {mg : Str → Option Value} {base : Heap} {T0 : Addr}

theorem sc_law_grammar_made : FnScope ["at", "x", "made"] ["at", "x"] (defScope (top 39)) := ⟨rfl, rfl, rfl, by decide +kernel, rfl, by decide +kernel, by decide +kernel⟩
theorem c_made0 (T : Txt P w K mg base T0) : Cal P w K mg base "_law_grammar_made" 3 ["at", "x"] (spMade1 0 (((["WrongKinds", "WrongRules", "BadStart", "NoTree", "BadGrammar", "BadKind", "BadRule", "BadSpot"] : List Str)).map (He.ga K))) := by
  refine cal_of (params := defArgs (top 39)) (body := defBody (top 39)) (scope := defScope (top 39)) (T.fn _ (dm 6)) (T.gF _ (dm 6)) sc_law_grammar_made (fun _ _ _ _ _ _ us hl => match us, hl with | [_, _], _ => rfl) (fun vs H Q E h => ?_) (fun cdv A outer s H vs Q E hr h => ?_)
  · obtain ⟨i, C, x, rfl, _⟩ := h
    rfl
  · obtain ⟨i, C, x, rfl, hC, k⟩ := h
    refine ⟨(tSeq (tIfS (tTest (tOp rEq (tVar 0) (tC (.int 0)))) (tMade1 K (He.ga K "WrongKinds") "index") tNext) (tSeq (tIfS (tTest (tOp rEq (tVar 0) (tC (.int 1)))) (tMade1 K (He.ga K "WrongRules") "index") tNext) (tSeq (tIfS (tTest (tOp rEq (tVar 0) (tC (.int 2)))) (tMade1 K (He.ga K "BadStart") "start") tNext) (tSeq (tIfS (tTest (tOp rEq (tVar 0) (tC (.int 3)))) (tMade1 K (He.ga K "NoTree") "kind") tNext) (tSeq (tIfS (tTest (tOp rEq (tVar 0) (tC (.int 4)))) (tMade1 K (He.ga K "BadGrammar") "grammar") tNext) (tSeq (tIfS (tTest (tOp rEq (tVar 0) (tC (.int 5)))) (tMade1 K (He.ga K "BadKind") "kind") tNext) (tSeq (tIfS (tTest (tOp rEq (tVar 0) (tC (.int 6)))) (tMade1 K (He.ga K "BadRule") "rule") tNext) (tMade1 K (He.ga K "BadSpot") "spot")))))))), (pss_cons (ps_if (pt_cmpR op_eq (pv 0) pe_int (nomark _)) (pss_cons (ps_set (i := 2) sc_law_grammar_made.nd rfl (Or.inl rfl) (pe_newF (i := 1) (T.mkr ("WrongKinds", "index") (cm 1)) (hr.mono (by decide)) (T.gC ("WrongKinds", "index") (cm 1)))) (pss_one (ps_ret (pe_tup (pa_cons (pv 2) (pa_cons (pe_xv (pv 2)) pa_nil)))))) pss_nil) (pss_cons (ps_if (pt_cmpR op_eq (pv 0) pe_int (nomark _)) (pss_cons (ps_set (i := 2) sc_law_grammar_made.nd rfl (Or.inl rfl) (pe_newFK (i := 1) (T.mkr ("WrongRules", "index") (cm 2)) (hr.mono (by decide)) (T.gC ("WrongRules", "index") (cm 2)))) (pss_one (ps_ret (pe_tup (pa_cons (pv 2) (pa_cons (pe_xv (pv 2)) pa_nil)))))) pss_nil) (pss_cons (ps_if (pt_cmpR op_eq (pv 0) pe_int (nomark _)) (pss_cons (ps_set (i := 2) sc_law_grammar_made.nd rfl (Or.inl rfl) (pe_newF (i := 1) (T.mkr ("BadStart", "start") (cm 3)) (hr.mono (by decide)) (T.gC ("BadStart", "start") (cm 3)))) (pss_one (ps_ret (pe_tup (pa_cons (pv 2) (pa_cons (pe_xv (pv 2)) pa_nil)))))) pss_nil) (pss_cons (ps_if (pt_cmpR op_eq (pv 0) pe_int (nomark _)) (pss_cons (ps_set (i := 2) sc_law_grammar_made.nd rfl (Or.inl rfl) (pe_newF (i := 1) (T.mkr ("NoTree", "kind") (cm 4)) (hr.mono (by decide)) (T.gC ("NoTree", "kind") (cm 4)))) (pss_one (ps_ret (pe_tup (pa_cons (pv 2) (pa_cons (pe_xv (pv 2)) pa_nil)))))) pss_nil) (pss_cons (ps_if (pt_cmpR op_eq (pv 0) pe_int (nomark _)) (pss_cons (ps_set (i := 2) sc_law_grammar_made.nd rfl (Or.inl rfl) (pe_newFK (i := 1) (T.mkr ("BadGrammar", "grammar") (cm 5)) (hr.mono (by decide)) (T.gC ("BadGrammar", "grammar") (cm 5)))) (pss_one (ps_ret (pe_tup (pa_cons (pv 2) (pa_cons (pe_xv (pv 2)) pa_nil)))))) pss_nil) (pss_cons (ps_if (pt_cmpR op_eq (pv 0) pe_int (nomark _)) (pss_cons (ps_set (i := 2) sc_law_grammar_made.nd rfl (Or.inl rfl) (pe_newF (i := 1) (T.mkr ("BadKind", "kind") (cm 6)) (hr.mono (by decide)) (T.gC ("BadKind", "kind") (cm 6)))) (pss_one (ps_ret (pe_tup (pa_cons (pv 2) (pa_cons (pe_xv (pv 2)) pa_nil)))))) pss_nil) (pss_cons (ps_if (pt_cmpR op_eq (pv 0) pe_int (nomark _)) (pss_cons (ps_set (i := 2) sc_law_grammar_made.nd rfl (Or.inl rfl) (pe_newF (i := 1) (T.mkr ("BadRule", "rule") (cm 7)) (hr.mono (by decide)) (T.gC ("BadRule", "rule") (cm 7)))) (pss_one (ps_ret (pe_tup (pa_cons (pv 2) (pa_cons (pe_xv (pv 2)) pa_nil)))))) pss_nil) (pss_cons (ps_set (i := 2) sc_law_grammar_made.nd rfl (Or.inl rfl) (pe_newFK (i := 1) (T.mkr ("BadSpot", "spot") (cm 8)) (hr.mono (by decide)) (T.gC ("BadSpot", "spot") (cm 8)))) (pss_one (ps_ret (pe_tup (pa_cons (pv 2) (pa_cons (pe_xv (pv 2)) pa_nil))))))))))))), ?_⟩
    match i, hC with
    | 0, hC =>
      obtain rfl : He.ga K "WrongKinds" = C := Option.some.inj hC
      refine if_int (k := 0) rfl (fun _ => ?_) fun h => absurd rfl h
      exact made1_ok (C := He.ga K "WrongKinds") (f := "index") (T.mkr ("WrongKinds", "index") (cm 1)).x (T.mkr ("WrongKinds", "index") (cm 1)).nof k
    | 1, hC =>
      obtain rfl : He.ga K "WrongRules" = C := Option.some.inj hC
      refine if_int (k := 1) rfl (fun h => absurd h (by decide)) fun _ => ?_
      refine if_int (k := 1) rfl (fun _ => ?_) fun h => absurd rfl h
      exact made1_ok (C := He.ga K "WrongRules") (f := "index") (T.mkr ("WrongRules", "index") (cm 2)).x (T.mkr ("WrongRules", "index") (cm 2)).nof k
    | 2, hC =>
      obtain rfl : He.ga K "BadStart" = C := Option.some.inj hC
      refine if_int (k := 2) rfl (fun h => absurd h (by decide)) fun _ => ?_
      refine if_int (k := 2) rfl (fun h => absurd h (by decide)) fun _ => ?_
      refine if_int (k := 2) rfl (fun _ => ?_) fun h => absurd rfl h
      exact made1_ok (C := He.ga K "BadStart") (f := "start") (T.mkr ("BadStart", "start") (cm 3)).x (T.mkr ("BadStart", "start") (cm 3)).nof k
    | 3, hC =>
      obtain rfl : He.ga K "NoTree" = C := Option.some.inj hC
      refine if_int (k := 3) rfl (fun h => absurd h (by decide)) fun _ => ?_
      refine if_int (k := 3) rfl (fun h => absurd h (by decide)) fun _ => ?_
      refine if_int (k := 3) rfl (fun h => absurd h (by decide)) fun _ => ?_
      refine if_int (k := 3) rfl (fun _ => ?_) fun h => absurd rfl h
      exact made1_ok (C := He.ga K "NoTree") (f := "kind") (T.mkr ("NoTree", "kind") (cm 4)).x (T.mkr ("NoTree", "kind") (cm 4)).nof k
    | 4, hC =>
      obtain rfl : He.ga K "BadGrammar" = C := Option.some.inj hC
      refine if_int (k := 4) rfl (fun h => absurd h (by decide)) fun _ => ?_
      refine if_int (k := 4) rfl (fun h => absurd h (by decide)) fun _ => ?_
      refine if_int (k := 4) rfl (fun h => absurd h (by decide)) fun _ => ?_
      refine if_int (k := 4) rfl (fun h => absurd h (by decide)) fun _ => ?_
      refine if_int (k := 4) rfl (fun _ => ?_) fun h => absurd rfl h
      exact made1_ok (C := He.ga K "BadGrammar") (f := "grammar") (T.mkr ("BadGrammar", "grammar") (cm 5)).x (T.mkr ("BadGrammar", "grammar") (cm 5)).nof k
    | 5, hC =>
      obtain rfl : He.ga K "BadKind" = C := Option.some.inj hC
      refine if_int (k := 5) rfl (fun h => absurd h (by decide)) fun _ => ?_
      refine if_int (k := 5) rfl (fun h => absurd h (by decide)) fun _ => ?_
      refine if_int (k := 5) rfl (fun h => absurd h (by decide)) fun _ => ?_
      refine if_int (k := 5) rfl (fun h => absurd h (by decide)) fun _ => ?_
      refine if_int (k := 5) rfl (fun h => absurd h (by decide)) fun _ => ?_
      refine if_int (k := 5) rfl (fun _ => ?_) fun h => absurd rfl h
      exact made1_ok (C := He.ga K "BadKind") (f := "kind") (T.mkr ("BadKind", "kind") (cm 6)).x (T.mkr ("BadKind", "kind") (cm 6)).nof k
    | 6, hC =>
      obtain rfl : He.ga K "BadRule" = C := Option.some.inj hC
      refine if_int (k := 6) rfl (fun h => absurd h (by decide)) fun _ => ?_
      refine if_int (k := 6) rfl (fun h => absurd h (by decide)) fun _ => ?_
      refine if_int (k := 6) rfl (fun h => absurd h (by decide)) fun _ => ?_
      refine if_int (k := 6) rfl (fun h => absurd h (by decide)) fun _ => ?_
      refine if_int (k := 6) rfl (fun h => absurd h (by decide)) fun _ => ?_
      refine if_int (k := 6) rfl (fun h => absurd h (by decide)) fun _ => ?_
      refine if_int (k := 6) rfl (fun _ => ?_) fun h => absurd rfl h
      exact made1_ok (C := He.ga K "BadRule") (f := "rule") (T.mkr ("BadRule", "rule") (cm 7)).x (T.mkr ("BadRule", "rule") (cm 7)).nof k
    | 7, hC =>
      obtain rfl : He.ga K "BadSpot" = C := Option.some.inj hC
      refine if_int (k := 7) rfl (fun h => absurd h (by decide)) fun _ => ?_
      refine if_int (k := 7) rfl (fun h => absurd h (by decide)) fun _ => ?_
      refine if_int (k := 7) rfl (fun h => absurd h (by decide)) fun _ => ?_
      refine if_int (k := 7) rfl (fun h => absurd h (by decide)) fun _ => ?_
      refine if_int (k := 7) rfl (fun h => absurd h (by decide)) fun _ => ?_
      refine if_int (k := 7) rfl (fun h => absurd h (by decide)) fun _ => ?_
      refine if_int (k := 7) rfl (fun h => absurd h (by decide)) fun _ => ?_
      exact made1_ok (C := He.ga K "BadSpot") (f := "spot") (T.mkr ("BadSpot", "spot") (cm 8)).x (T.mkr ("BadSpot", "spot") (cm 8)).nof k
theorem sc_law_tree_made : FnScope ["at", "x", "made"] ["at", "x"] (defScope (top 40)) := ⟨rfl, rfl, rfl, by decide +kernel, rfl, by decide +kernel, by decide +kernel⟩
theorem c_made1 (T : Txt P w K mg base T0) : Cal P w K mg base "_law_tree_made" 3 ["at", "x"] (spMade1 8 (((["BadTree", "BadPlace", "BadPart", "BadInstance", "BadSize", "BadGrammarText", "BadTreeText", "HasCircle"] : List Str)).map (He.ga K))) := by
  refine cal_of (params := defArgs (top 40)) (body := defBody (top 40)) (scope := defScope (top 40)) (T.fn _ (dm 7)) (T.gF _ (dm 7)) sc_law_tree_made (fun _ _ _ _ _ _ us hl => match us, hl with | [_, _], _ => rfl) (fun vs H Q E h => ?_) (fun cdv A outer s H vs Q E hr h => ?_)
  · obtain ⟨i, C, x, rfl, _⟩ := h
    rfl
  · obtain ⟨i, C, x, rfl, hC, k⟩ := h
    refine ⟨(tSeq (tIfS (tTest (tOp rEq (tVar 0) (tC (.int 8)))) (tMade1 K (He.ga K "BadTree") "tree") tNext) (tSeq (tIfS (tTest (tOp rEq (tVar 0) (tC (.int 9)))) (tMade1 K (He.ga K "BadPlace") "place") tNext) (tSeq (tIfS (tTest (tOp rEq (tVar 0) (tC (.int 10)))) (tMade1 K (He.ga K "BadPart") "part") tNext) (tSeq (tIfS (tTest (tOp rEq (tVar 0) (tC (.int 11)))) (tMade1 K (He.ga K "BadInstance") "instance") tNext) (tSeq (tIfS (tTest (tOp rEq (tVar 0) (tC (.int 12)))) (tMade1 K (He.ga K "BadSize") "size") tNext) (tSeq (tIfS (tTest (tOp rEq (tVar 0) (tC (.int 13)))) (tMade1 K (He.ga K "BadGrammarText") "line") tNext) (tSeq (tIfS (tTest (tOp rEq (tVar 0) (tC (.int 14)))) (tMade1 K (He.ga K "BadTreeText") "place") tNext) (tMade1 K (He.ga K "HasCircle") "tree")))))))), (pss_cons (ps_if (pt_cmpR op_eq (pv 0) pe_int (nomark _)) (pss_cons (ps_set (i := 2) sc_law_tree_made.nd rfl (Or.inl rfl) (pe_newF (i := 1) (T.mkr ("BadTree", "tree") (cm 9)) (hr.mono (by decide)) (T.gC ("BadTree", "tree") (cm 9)))) (pss_one (ps_ret (pe_tup (pa_cons (pv 2) (pa_cons (pe_xv (pv 2)) pa_nil)))))) pss_nil) (pss_cons (ps_if (pt_cmpR op_eq (pv 0) pe_int (nomark _)) (pss_cons (ps_set (i := 2) sc_law_tree_made.nd rfl (Or.inl rfl) (pe_newFK (i := 1) (T.mkr ("BadPlace", "place") (cm 10)) (hr.mono (by decide)) (T.gC ("BadPlace", "place") (cm 10)))) (pss_one (ps_ret (pe_tup (pa_cons (pv 2) (pa_cons (pe_xv (pv 2)) pa_nil)))))) pss_nil) (pss_cons (ps_if (pt_cmpR op_eq (pv 0) pe_int (nomark _)) (pss_cons (ps_set (i := 2) sc_law_tree_made.nd rfl (Or.inl rfl) (pe_newF (i := 1) (T.mkr ("BadPart", "part") (cm 11)) (hr.mono (by decide)) (T.gC ("BadPart", "part") (cm 11)))) (pss_one (ps_ret (pe_tup (pa_cons (pv 2) (pa_cons (pe_xv (pv 2)) pa_nil)))))) pss_nil) (pss_cons (ps_if (pt_cmpR op_eq (pv 0) pe_int (nomark _)) (pss_cons (ps_set (i := 2) sc_law_tree_made.nd rfl (Or.inl rfl) (pe_newF (i := 1) (T.mkr ("BadInstance", "instance") (cm 12)) (hr.mono (by decide)) (T.gC ("BadInstance", "instance") (cm 12)))) (pss_one (ps_ret (pe_tup (pa_cons (pv 2) (pa_cons (pe_xv (pv 2)) pa_nil)))))) pss_nil) (pss_cons (ps_if (pt_cmpR op_eq (pv 0) pe_int (nomark _)) (pss_cons (ps_set (i := 2) sc_law_tree_made.nd rfl (Or.inl rfl) (pe_newFK (i := 1) (T.mkr ("BadSize", "size") (cm 13)) (hr.mono (by decide)) (T.gC ("BadSize", "size") (cm 13)))) (pss_one (ps_ret (pe_tup (pa_cons (pv 2) (pa_cons (pe_xv (pv 2)) pa_nil)))))) pss_nil) (pss_cons (ps_if (pt_cmpR op_eq (pv 0) pe_int (nomark _)) (pss_cons (ps_set (i := 2) sc_law_tree_made.nd rfl (Or.inl rfl) (pe_newF (i := 1) (T.mkr ("BadGrammarText", "line") (cm 14)) (hr.mono (by decide)) (T.gC ("BadGrammarText", "line") (cm 14)))) (pss_one (ps_ret (pe_tup (pa_cons (pv 2) (pa_cons (pe_xv (pv 2)) pa_nil)))))) pss_nil) (pss_cons (ps_if (pt_cmpR op_eq (pv 0) pe_int (nomark _)) (pss_cons (ps_set (i := 2) sc_law_tree_made.nd rfl (Or.inl rfl) (pe_newF (i := 1) (T.mkr ("BadTreeText", "place") (cm 15)) (hr.mono (by decide)) (T.gC ("BadTreeText", "place") (cm 15)))) (pss_one (ps_ret (pe_tup (pa_cons (pv 2) (pa_cons (pe_xv (pv 2)) pa_nil)))))) pss_nil) (pss_cons (ps_set (i := 2) sc_law_tree_made.nd rfl (Or.inl rfl) (pe_newFK (i := 1) (T.mkr ("HasCircle", "tree") (cm 16)) (hr.mono (by decide)) (T.gC ("HasCircle", "tree") (cm 16)))) (pss_one (ps_ret (pe_tup (pa_cons (pv 2) (pa_cons (pe_xv (pv 2)) pa_nil))))))))))))), ?_⟩
    match i, hC with
    | 0, hC =>
      obtain rfl : He.ga K "BadTree" = C := Option.some.inj hC
      refine if_int (k := 8) rfl (fun _ => ?_) fun h => absurd rfl h
      exact made1_ok (C := He.ga K "BadTree") (f := "tree") (T.mkr ("BadTree", "tree") (cm 9)).x (T.mkr ("BadTree", "tree") (cm 9)).nof k
    | 1, hC =>
      obtain rfl : He.ga K "BadPlace" = C := Option.some.inj hC
      refine if_int (k := 9) rfl (fun h => absurd h (by decide)) fun _ => ?_
      refine if_int (k := 9) rfl (fun _ => ?_) fun h => absurd rfl h
      exact made1_ok (C := He.ga K "BadPlace") (f := "place") (T.mkr ("BadPlace", "place") (cm 10)).x (T.mkr ("BadPlace", "place") (cm 10)).nof k
    | 2, hC =>
      obtain rfl : He.ga K "BadPart" = C := Option.some.inj hC
      refine if_int (k := 10) rfl (fun h => absurd h (by decide)) fun _ => ?_
      refine if_int (k := 10) rfl (fun h => absurd h (by decide)) fun _ => ?_
      refine if_int (k := 10) rfl (fun _ => ?_) fun h => absurd rfl h
      exact made1_ok (C := He.ga K "BadPart") (f := "part") (T.mkr ("BadPart", "part") (cm 11)).x (T.mkr ("BadPart", "part") (cm 11)).nof k
    | 3, hC =>
      obtain rfl : He.ga K "BadInstance" = C := Option.some.inj hC
      refine if_int (k := 11) rfl (fun h => absurd h (by decide)) fun _ => ?_
      refine if_int (k := 11) rfl (fun h => absurd h (by decide)) fun _ => ?_
      refine if_int (k := 11) rfl (fun h => absurd h (by decide)) fun _ => ?_
      refine if_int (k := 11) rfl (fun _ => ?_) fun h => absurd rfl h
      exact made1_ok (C := He.ga K "BadInstance") (f := "instance") (T.mkr ("BadInstance", "instance") (cm 12)).x (T.mkr ("BadInstance", "instance") (cm 12)).nof k
    | 4, hC =>
      obtain rfl : He.ga K "BadSize" = C := Option.some.inj hC
      refine if_int (k := 12) rfl (fun h => absurd h (by decide)) fun _ => ?_
      refine if_int (k := 12) rfl (fun h => absurd h (by decide)) fun _ => ?_
      refine if_int (k := 12) rfl (fun h => absurd h (by decide)) fun _ => ?_
      refine if_int (k := 12) rfl (fun h => absurd h (by decide)) fun _ => ?_
      refine if_int (k := 12) rfl (fun _ => ?_) fun h => absurd rfl h
      exact made1_ok (C := He.ga K "BadSize") (f := "size") (T.mkr ("BadSize", "size") (cm 13)).x (T.mkr ("BadSize", "size") (cm 13)).nof k
    | 5, hC =>
      obtain rfl : He.ga K "BadGrammarText" = C := Option.some.inj hC
      refine if_int (k := 13) rfl (fun h => absurd h (by decide)) fun _ => ?_
      refine if_int (k := 13) rfl (fun h => absurd h (by decide)) fun _ => ?_
      refine if_int (k := 13) rfl (fun h => absurd h (by decide)) fun _ => ?_
      refine if_int (k := 13) rfl (fun h => absurd h (by decide)) fun _ => ?_
      refine if_int (k := 13) rfl (fun h => absurd h (by decide)) fun _ => ?_
      refine if_int (k := 13) rfl (fun _ => ?_) fun h => absurd rfl h
      exact made1_ok (C := He.ga K "BadGrammarText") (f := "line") (T.mkr ("BadGrammarText", "line") (cm 14)).x (T.mkr ("BadGrammarText", "line") (cm 14)).nof k
    | 6, hC =>
      obtain rfl : He.ga K "BadTreeText" = C := Option.some.inj hC
      refine if_int (k := 14) rfl (fun h => absurd h (by decide)) fun _ => ?_
      refine if_int (k := 14) rfl (fun h => absurd h (by decide)) fun _ => ?_
      refine if_int (k := 14) rfl (fun h => absurd h (by decide)) fun _ => ?_
      refine if_int (k := 14) rfl (fun h => absurd h (by decide)) fun _ => ?_
      refine if_int (k := 14) rfl (fun h => absurd h (by decide)) fun _ => ?_
      refine if_int (k := 14) rfl (fun h => absurd h (by decide)) fun _ => ?_
      refine if_int (k := 14) rfl (fun _ => ?_) fun h => absurd rfl h
      exact made1_ok (C := He.ga K "BadTreeText") (f := "place") (T.mkr ("BadTreeText", "place") (cm 15)).x (T.mkr ("BadTreeText", "place") (cm 15)).nof k
    | 7, hC =>
      obtain rfl : He.ga K "HasCircle" = C := Option.some.inj hC
      refine if_int (k := 15) rfl (fun h => absurd h (by decide)) fun _ => ?_
      refine if_int (k := 15) rfl (fun h => absurd h (by decide)) fun _ => ?_
      refine if_int (k := 15) rfl (fun h => absurd h (by decide)) fun _ => ?_
      refine if_int (k := 15) rfl (fun h => absurd h (by decide)) fun _ => ?_
      refine if_int (k := 15) rfl (fun h => absurd h (by decide)) fun _ => ?_
      refine if_int (k := 15) rfl (fun h => absurd h (by decide)) fun _ => ?_
      refine if_int (k := 15) rfl (fun h => absurd h (by decide)) fun _ => ?_
      exact made1_ok (C := He.ga K "HasCircle") (f := "tree") (T.mkr ("HasCircle", "tree") (cm 16)).x (T.mkr ("HasCircle", "tree") (cm 16)).nof k
theorem sc_law_value_made : FnScope ["at", "x", "made"] ["at", "x"] (defScope (top 41)) := ⟨rfl, rfl, rfl, by decide +kernel, rfl, by decide +kernel, by decide +kernel⟩
theorem c_made2 (T : Txt P w K mg base T0) : Cal P w K mg base "_law_value_made" 3 ["at", "x"] (spMade1 16 (((["BadGiven", "BadKnown", "BadWanted", "NotReached", "BadName", "NotStart", "BadNumber", "BadValue"] : List Str)).map (He.ga K))) := by
  refine cal_of (params := defArgs (top 41)) (body := defBody (top 41)) (scope := defScope (top 41)) (T.fn _ (dm 8)) (T.gF _ (dm 8)) sc_law_value_made (fun _ _ _ _ _ _ us hl => match us, hl with | [_, _], _ => rfl) (fun vs H Q E h => ?_) (fun cdv A outer s H vs Q E hr h => ?_)
  · obtain ⟨i, C, x, rfl, _⟩ := h
    rfl
  · obtain ⟨i, C, x, rfl, hC, k⟩ := h
    refine ⟨(tSeq (tIfS (tTest (tOp rEq (tVar 0) (tC (.int 16)))) (tMade1 K (He.ga K "BadGiven") "given") tNext) (tSeq (tIfS (tTest (tOp rEq (tVar 0) (tC (.int 17)))) (tMade1 K (He.ga K "BadKnown") "known") tNext) (tSeq (tIfS (tTest (tOp rEq (tVar 0) (tC (.int 18)))) (tMade1 K (He.ga K "BadWanted") "index") tNext) (tSeq (tIfS (tTest (tOp rEq (tVar 0) (tC (.int 19)))) (tMade1 K (He.ga K "NotReached") "kind") tNext) (tSeq (tIfS (tTest (tOp rEq (tVar 0) (tC (.int 20)))) (tMade1 K (He.ga K "BadName") "name") tNext) (tSeq (tIfS (tTest (tOp rEq (tVar 0) (tC (.int 21)))) (tMade1 K (He.ga K "NotStart") "tree") tNext) (tSeq (tIfS (tTest (tOp rEq (tVar 0) (tC (.int 22)))) (tMade1 K (He.ga K "BadNumber") "number") tNext) (tMade1 K (He.ga K "BadValue") "value")))))))), (pss_cons (ps_if (pt_cmpR op_eq (pv 0) pe_int (nomark _)) (pss_cons (ps_set (i := 2) sc_law_value_made.nd rfl (Or.inl rfl) (pe_newF (i := 1) (T.mkr ("BadGiven", "given") (cm 17)) (hr.mono (by decide)) (T.gC ("BadGiven", "given") (cm 17)))) (pss_one (ps_ret (pe_tup (pa_cons (pv 2) (pa_cons (pe_xv (pv 2)) pa_nil)))))) pss_nil) (pss_cons (ps_if (pt_cmpR op_eq (pv 0) pe_int (nomark _)) (pss_cons (ps_set (i := 2) sc_law_value_made.nd rfl (Or.inl rfl) (pe_newFK (i := 1) (T.mkr ("BadKnown", "known") (cm 18)) (hr.mono (by decide)) (T.gC ("BadKnown", "known") (cm 18)))) (pss_one (ps_ret (pe_tup (pa_cons (pv 2) (pa_cons (pe_xv (pv 2)) pa_nil)))))) pss_nil) (pss_cons (ps_if (pt_cmpR op_eq (pv 0) pe_int (nomark _)) (pss_cons (ps_set (i := 2) sc_law_value_made.nd rfl (Or.inl rfl) (pe_newF (i := 1) (T.mkr ("BadWanted", "index") (cm 19)) (hr.mono (by decide)) (T.gC ("BadWanted", "index") (cm 19)))) (pss_one (ps_ret (pe_tup (pa_cons (pv 2) (pa_cons (pe_xv (pv 2)) pa_nil)))))) pss_nil) (pss_cons (ps_if (pt_cmpR op_eq (pv 0) pe_int (nomark _)) (pss_cons (ps_set (i := 2) sc_law_value_made.nd rfl (Or.inl rfl) (pe_newF (i := 1) (T.mkr ("NotReached", "kind") (cm 20)) (hr.mono (by decide)) (T.gC ("NotReached", "kind") (cm 20)))) (pss_one (ps_ret (pe_tup (pa_cons (pv 2) (pa_cons (pe_xv (pv 2)) pa_nil)))))) pss_nil) (pss_cons (ps_if (pt_cmpR op_eq (pv 0) pe_int (nomark _)) (pss_cons (ps_set (i := 2) sc_law_value_made.nd rfl (Or.inl rfl) (pe_newFK (i := 1) (T.mkr ("BadName", "name") (cm 21)) (hr.mono (by decide)) (T.gC ("BadName", "name") (cm 21)))) (pss_one (ps_ret (pe_tup (pa_cons (pv 2) (pa_cons (pe_xv (pv 2)) pa_nil)))))) pss_nil) (pss_cons (ps_if (pt_cmpR op_eq (pv 0) pe_int (nomark _)) (pss_cons (ps_set (i := 2) sc_law_value_made.nd rfl (Or.inl rfl) (pe_newF (i := 1) (T.mkr ("NotStart", "tree") (cm 22)) (hr.mono (by decide)) (T.gC ("NotStart", "tree") (cm 22)))) (pss_one (ps_ret (pe_tup (pa_cons (pv 2) (pa_cons (pe_xv (pv 2)) pa_nil)))))) pss_nil) (pss_cons (ps_if (pt_cmpR op_eq (pv 0) pe_int (nomark _)) (pss_cons (ps_set (i := 2) sc_law_value_made.nd rfl (Or.inl rfl) (pe_newF (i := 1) (T.mkr ("BadNumber", "number") (cm 23)) (hr.mono (by decide)) (T.gC ("BadNumber", "number") (cm 23)))) (pss_one (ps_ret (pe_tup (pa_cons (pv 2) (pa_cons (pe_xv (pv 2)) pa_nil)))))) pss_nil) (pss_cons (ps_set (i := 2) sc_law_value_made.nd rfl (Or.inl rfl) (pe_newFK (i := 1) (T.mkr ("BadValue", "value") (cm 24)) (hr.mono (by decide)) (T.gC ("BadValue", "value") (cm 24)))) (pss_one (ps_ret (pe_tup (pa_cons (pv 2) (pa_cons (pe_xv (pv 2)) pa_nil))))))))))))), ?_⟩
    match i, hC with
    | 0, hC =>
      obtain rfl : He.ga K "BadGiven" = C := Option.some.inj hC
      refine if_int (k := 16) rfl (fun _ => ?_) fun h => absurd rfl h
      exact made1_ok (C := He.ga K "BadGiven") (f := "given") (T.mkr ("BadGiven", "given") (cm 17)).x (T.mkr ("BadGiven", "given") (cm 17)).nof k
    | 1, hC =>
      obtain rfl : He.ga K "BadKnown" = C := Option.some.inj hC
      refine if_int (k := 17) rfl (fun h => absurd h (by decide)) fun _ => ?_
      refine if_int (k := 17) rfl (fun _ => ?_) fun h => absurd rfl h
      exact made1_ok (C := He.ga K "BadKnown") (f := "known") (T.mkr ("BadKnown", "known") (cm 18)).x (T.mkr ("BadKnown", "known") (cm 18)).nof k
    | 2, hC =>
      obtain rfl : He.ga K "BadWanted" = C := Option.some.inj hC
      refine if_int (k := 18) rfl (fun h => absurd h (by decide)) fun _ => ?_
      refine if_int (k := 18) rfl (fun h => absurd h (by decide)) fun _ => ?_
      refine if_int (k := 18) rfl (fun _ => ?_) fun h => absurd rfl h
      exact made1_ok (C := He.ga K "BadWanted") (f := "index") (T.mkr ("BadWanted", "index") (cm 19)).x (T.mkr ("BadWanted", "index") (cm 19)).nof k
    | 3, hC =>
      obtain rfl : He.ga K "NotReached" = C := Option.some.inj hC
      refine if_int (k := 19) rfl (fun h => absurd h (by decide)) fun _ => ?_
      refine if_int (k := 19) rfl (fun h => absurd h (by decide)) fun _ => ?_
      refine if_int (k := 19) rfl (fun h => absurd h (by decide)) fun _ => ?_
      refine if_int (k := 19) rfl (fun _ => ?_) fun h => absurd rfl h
      exact made1_ok (C := He.ga K "NotReached") (f := "kind") (T.mkr ("NotReached", "kind") (cm 20)).x (T.mkr ("NotReached", "kind") (cm 20)).nof k
    | 4, hC =>
      obtain rfl : He.ga K "BadName" = C := Option.some.inj hC
      refine if_int (k := 20) rfl (fun h => absurd h (by decide)) fun _ => ?_
      refine if_int (k := 20) rfl (fun h => absurd h (by decide)) fun _ => ?_
      refine if_int (k := 20) rfl (fun h => absurd h (by decide)) fun _ => ?_
      refine if_int (k := 20) rfl (fun h => absurd h (by decide)) fun _ => ?_
      refine if_int (k := 20) rfl (fun _ => ?_) fun h => absurd rfl h
      exact made1_ok (C := He.ga K "BadName") (f := "name") (T.mkr ("BadName", "name") (cm 21)).x (T.mkr ("BadName", "name") (cm 21)).nof k
    | 5, hC =>
      obtain rfl : He.ga K "NotStart" = C := Option.some.inj hC
      refine if_int (k := 21) rfl (fun h => absurd h (by decide)) fun _ => ?_
      refine if_int (k := 21) rfl (fun h => absurd h (by decide)) fun _ => ?_
      refine if_int (k := 21) rfl (fun h => absurd h (by decide)) fun _ => ?_
      refine if_int (k := 21) rfl (fun h => absurd h (by decide)) fun _ => ?_
      refine if_int (k := 21) rfl (fun h => absurd h (by decide)) fun _ => ?_
      refine if_int (k := 21) rfl (fun _ => ?_) fun h => absurd rfl h
      exact made1_ok (C := He.ga K "NotStart") (f := "tree") (T.mkr ("NotStart", "tree") (cm 22)).x (T.mkr ("NotStart", "tree") (cm 22)).nof k
    | 6, hC =>
      obtain rfl : He.ga K "BadNumber" = C := Option.some.inj hC
      refine if_int (k := 22) rfl (fun h => absurd h (by decide)) fun _ => ?_
      refine if_int (k := 22) rfl (fun h => absurd h (by decide)) fun _ => ?_
      refine if_int (k := 22) rfl (fun h => absurd h (by decide)) fun _ => ?_
      refine if_int (k := 22) rfl (fun h => absurd h (by decide)) fun _ => ?_
      refine if_int (k := 22) rfl (fun h => absurd h (by decide)) fun _ => ?_
      refine if_int (k := 22) rfl (fun h => absurd h (by decide)) fun _ => ?_
      refine if_int (k := 22) rfl (fun _ => ?_) fun h => absurd rfl h
      exact made1_ok (C := He.ga K "BadNumber") (f := "number") (T.mkr ("BadNumber", "number") (cm 23)).x (T.mkr ("BadNumber", "number") (cm 23)).nof k
    | 7, hC =>
      obtain rfl : He.ga K "BadValue" = C := Option.some.inj hC
      refine if_int (k := 23) rfl (fun h => absurd h (by decide)) fun _ => ?_
      refine if_int (k := 23) rfl (fun h => absurd h (by decide)) fun _ => ?_
      refine if_int (k := 23) rfl (fun h => absurd h (by decide)) fun _ => ?_
      refine if_int (k := 23) rfl (fun h => absurd h (by decide)) fun _ => ?_
      refine if_int (k := 23) rfl (fun h => absurd h (by decide)) fun _ => ?_
      refine if_int (k := 23) rfl (fun h => absurd h (by decide)) fun _ => ?_
      refine if_int (k := 23) rfl (fun h => absurd h (by decide)) fun _ => ?_
      exact made1_ok (C := He.ga K "BadValue") (f := "value") (T.mkr ("BadValue", "value") (cm 24)).x (T.mkr ("BadValue", "value") (cm 24)).nof k
theorem sc_law_other_made : FnScope ["at", "x", "made"] ["at", "x"] (defScope (top 42)) := ⟨rfl, rfl, rfl, by decide +kernel, rfl, by decide +kernel, by decide +kernel⟩
theorem c_made3 (T : Txt P w K mg base T0) : Cal P w K mg base "_law_other_made" 3 ["at", "x"] (spMade1 24 (((["BadTold", "BadOrder", "BadWord", "BadSource"] : List Str)).map (He.ga K))) := by
  refine cal_of (params := defArgs (top 42)) (body := defBody (top 42)) (scope := defScope (top 42)) (T.fn _ (dm 9)) (T.gF _ (dm 9)) sc_law_other_made (fun _ _ _ _ _ _ us hl => match us, hl with | [_, _], _ => rfl) (fun vs H Q E h => ?_) (fun cdv A outer s H vs Q E hr h => ?_)
  · obtain ⟨i, C, x, rfl, _⟩ := h
    rfl
  · obtain ⟨i, C, x, rfl, hC, k⟩ := h
    refine ⟨(tSeq (tIfS (tTest (tOp rEq (tVar 0) (tC (.int 24)))) (tMade1 K (He.ga K "BadTold") "told") tNext) (tSeq (tIfS (tTest (tOp rEq (tVar 0) (tC (.int 25)))) (tMade1 K (He.ga K "BadOrder") "order") tNext) (tSeq (tIfS (tTest (tOp rEq (tVar 0) (tC (.int 26)))) (tMade1 K (He.ga K "BadWord") "word") tNext) (tMade1 K (He.ga K "BadSource") "source")))), (pss_cons (ps_if (pt_cmpR op_eq (pv 0) pe_int (nomark _)) (pss_cons (ps_set (i := 2) sc_law_other_made.nd rfl (Or.inl rfl) (pe_newF (i := 1) (T.mkr ("BadTold", "told") (cm 25)) (hr.mono (by decide)) (T.gC ("BadTold", "told") (cm 25)))) (pss_one (ps_ret (pe_tup (pa_cons (pv 2) (pa_cons (pe_xv (pv 2)) pa_nil)))))) pss_nil) (pss_cons (ps_if (pt_cmpR op_eq (pv 0) pe_int (nomark _)) (pss_cons (ps_set (i := 2) sc_law_other_made.nd rfl (Or.inl rfl) (pe_newFK (i := 1) (T.mkr ("BadOrder", "order") (cm 26)) (hr.mono (by decide)) (T.gC ("BadOrder", "order") (cm 26)))) (pss_one (ps_ret (pe_tup (pa_cons (pv 2) (pa_cons (pe_xv (pv 2)) pa_nil)))))) pss_nil) (pss_cons (ps_if (pt_cmpR op_eq (pv 0) pe_int (nomark _)) (pss_cons (ps_set (i := 2) sc_law_other_made.nd rfl (Or.inl rfl) (pe_newF (i := 1) (T.mkr ("BadWord", "word") (cm 27)) (hr.mono (by decide)) (T.gC ("BadWord", "word") (cm 27)))) (pss_one (ps_ret (pe_tup (pa_cons (pv 2) (pa_cons (pe_xv (pv 2)) pa_nil)))))) pss_nil) (pss_cons (ps_set (i := 2) sc_law_other_made.nd rfl (Or.inl rfl) (pe_newF (i := 1) (T.mkr ("BadSource", "source") (cm 28)) (hr.mono (by decide)) (T.gC ("BadSource", "source") (cm 28)))) (pss_one (ps_ret (pe_tup (pa_cons (pv 2) (pa_cons (pe_xv (pv 2)) pa_nil))))))))), ?_⟩
    match i, hC with
    | 0, hC =>
      obtain rfl : He.ga K "BadTold" = C := Option.some.inj hC
      refine if_int (k := 24) rfl (fun _ => ?_) fun h => absurd rfl h
      exact made1_ok (C := He.ga K "BadTold") (f := "told") (T.mkr ("BadTold", "told") (cm 25)).x (T.mkr ("BadTold", "told") (cm 25)).nof k
    | 1, hC =>
      obtain rfl : He.ga K "BadOrder" = C := Option.some.inj hC
      refine if_int (k := 25) rfl (fun h => absurd h (by decide)) fun _ => ?_
      refine if_int (k := 25) rfl (fun _ => ?_) fun h => absurd rfl h
      exact made1_ok (C := He.ga K "BadOrder") (f := "order") (T.mkr ("BadOrder", "order") (cm 26)).x (T.mkr ("BadOrder", "order") (cm 26)).nof k
    | 2, hC =>
      obtain rfl : He.ga K "BadWord" = C := Option.some.inj hC
      refine if_int (k := 26) rfl (fun h => absurd h (by decide)) fun _ => ?_
      refine if_int (k := 26) rfl (fun h => absurd h (by decide)) fun _ => ?_
      refine if_int (k := 26) rfl (fun _ => ?_) fun h => absurd rfl h
      exact made1_ok (C := He.ga K "BadWord") (f := "word") (T.mkr ("BadWord", "word") (cm 27)).x (T.mkr ("BadWord", "word") (cm 27)).nof k
    | 3, hC =>
      obtain rfl : He.ga K "BadSource" = C := Option.some.inj hC
      refine if_int (k := 27) rfl (fun h => absurd h (by decide)) fun _ => ?_
      refine if_int (k := 27) rfl (fun h => absurd h (by decide)) fun _ => ?_
      refine if_int (k := 27) rfl (fun h => absurd h (by decide)) fun _ => ?_
      exact made1_ok (C := He.ga K "BadSource") (f := "source") (T.mkr ("BadSource", "source") (cm 28)).x (T.mkr ("BadSource", "source") (cm 28)).nof k
def mz : List Str := (["WrongKinds", "WrongRules", "BadStart", "NoTree", "BadGrammar", "BadKind", "BadRule", "BadSpot", "BadTree", "BadPlace", "BadPart", "BadInstance", "BadSize", "BadGrammarText", "BadTreeText"] : List Str) ++ (["HasCircle", "BadGiven", "BadKnown", "BadWanted", "NotReached", "BadName", "NotStart", "BadNumber", "BadValue", "BadTold", "BadOrder", "BadWord", "BadSource"] : List Str)
theorem sc_law_made_at : FnScope ["at", "x"] ["at", "x"] (defScope (top 43)) := ⟨rfl, rfl, rfl, by decide +kernel, rfl, by decide +kernel, by decide +kernel⟩
theorem c_made (T : Txt P w K mg base T0) : Cal P w K mg base "_law_made_at" 4 ["at", "x"] (spMade1 0 (mz.map (He.ga K))) := by
  refine cal_of (params := defArgs (top 43)) (body := defBody (top 43)) (scope := defScope (top 43)) (T.fn _ (dm 10)) (T.gF _ (dm 10)) sc_law_made_at (fun _ _ _ _ _ _ us hl => match us, hl with | [_, _], _ => rfl) (fun vs H Q E h => ?_) (fun cdv A outer s H vs Q E hr h => ?_)
  · obtain ⟨i, C, x, rfl, _⟩ := h
    rfl
  · obtain ⟨i, C, x, rfl, hC, k⟩ := h
    refine ⟨_, (pss_cons (ps_if (pt_cmpR op_lt (pv 0) pe_int (nomark _)) (pss_one (ps_ret (pe_cal (c_made0 T) hr (pa_cons (pv 0) (pa_cons (pv 1) pa_nil))))) pss_nil) (pss_cons (ps_if (pt_cmpR op_lt (pv 0) pe_int (nomark _)) (pss_one (ps_ret (pe_cal (c_made1 T) hr (pa_cons (pv 0) (pa_cons (pv 1) pa_nil))))) pss_nil) (pss_one (ps_ret (pe_ifExp (pt_cmpR op_lt (pv 0) pe_int (nomark _)) (pe_cal (c_made2 T) hr (pa_cons (pv 0) (pa_cons (pv 1) pa_nil))) (pe_cal (c_made3 T) hr (pa_cons (pv 0) (pa_cons (pv 1) pa_nil)))))))), ?_⟩
    match i, hC with
    | 0, hC =>
      refine if_lt (k := 0) rfl (fun _ => ?_) fun h => absurd (by decide) h
      exact ⟨_, rfl, _, rfl, 0, C, x, rfl, hC, k⟩
    | 1, hC =>
      refine if_lt (k := 1) rfl (fun _ => ?_) fun h => absurd (by decide) h
      exact ⟨_, rfl, _, rfl, 1, C, x, rfl, hC, k⟩
    | 2, hC =>
      refine if_lt (k := 2) rfl (fun _ => ?_) fun h => absurd (by decide) h
      exact ⟨_, rfl, _, rfl, 2, C, x, rfl, hC, k⟩
    | 3, hC =>
      refine if_lt (k := 3) rfl (fun _ => ?_) fun h => absurd (by decide) h
      exact ⟨_, rfl, _, rfl, 3, C, x, rfl, hC, k⟩
    | 4, hC =>
      refine if_lt (k := 4) rfl (fun _ => ?_) fun h => absurd (by decide) h
      exact ⟨_, rfl, _, rfl, 4, C, x, rfl, hC, k⟩
    | 5, hC =>
      refine if_lt (k := 5) rfl (fun _ => ?_) fun h => absurd (by decide) h
      exact ⟨_, rfl, _, rfl, 5, C, x, rfl, hC, k⟩
    | 6, hC =>
      refine if_lt (k := 6) rfl (fun _ => ?_) fun h => absurd (by decide) h
      exact ⟨_, rfl, _, rfl, 6, C, x, rfl, hC, k⟩
    | 7, hC =>
      refine if_lt (k := 7) rfl (fun _ => ?_) fun h => absurd (by decide) h
      exact ⟨_, rfl, _, rfl, 7, C, x, rfl, hC, k⟩
    | 8, hC =>
      refine if_lt (k := 8) rfl (fun h => absurd h (by decide)) fun _ => ?_
      refine if_lt (k := 8) rfl (fun _ => ?_) fun h => absurd (by decide) h
      exact ⟨_, rfl, _, rfl, 0, C, x, rfl, hC, k⟩
    | 9, hC =>
      refine if_lt (k := 9) rfl (fun h => absurd h (by decide)) fun _ => ?_
      refine if_lt (k := 9) rfl (fun _ => ?_) fun h => absurd (by decide) h
      exact ⟨_, rfl, _, rfl, 1, C, x, rfl, hC, k⟩
    | 10, hC =>
      refine if_lt (k := 10) rfl (fun h => absurd h (by decide)) fun _ => ?_
      refine if_lt (k := 10) rfl (fun _ => ?_) fun h => absurd (by decide) h
      exact ⟨_, rfl, _, rfl, 2, C, x, rfl, hC, k⟩
    | 11, hC =>
      refine if_lt (k := 11) rfl (fun h => absurd h (by decide)) fun _ => ?_
      refine if_lt (k := 11) rfl (fun _ => ?_) fun h => absurd (by decide) h
      exact ⟨_, rfl, _, rfl, 3, C, x, rfl, hC, k⟩
    | 12, hC =>
      refine if_lt (k := 12) rfl (fun h => absurd h (by decide)) fun _ => ?_
      refine if_lt (k := 12) rfl (fun _ => ?_) fun h => absurd (by decide) h
      exact ⟨_, rfl, _, rfl, 4, C, x, rfl, hC, k⟩
    | 13, hC =>
      refine if_lt (k := 13) rfl (fun h => absurd h (by decide)) fun _ => ?_
      refine if_lt (k := 13) rfl (fun _ => ?_) fun h => absurd (by decide) h
      exact ⟨_, rfl, _, rfl, 5, C, x, rfl, hC, k⟩
    | 14, hC =>
      refine if_lt (k := 14) rfl (fun h => absurd h (by decide)) fun _ => ?_
      refine if_lt (k := 14) rfl (fun _ => ?_) fun h => absurd (by decide) h
      exact ⟨_, rfl, _, rfl, 6, C, x, rfl, hC, k⟩
    | 15, hC =>
      refine if_lt (k := 15) rfl (fun h => absurd h (by decide)) fun _ => ?_
      refine if_lt (k := 15) rfl (fun _ => ?_) fun h => absurd (by decide) h
      exact ⟨_, rfl, _, rfl, 7, C, x, rfl, hC, k⟩
    | 16, hC =>
      refine if_lt (k := 16) rfl (fun h => absurd h (by decide)) fun _ => ?_
      refine if_lt (k := 16) rfl (fun h => absurd h (by decide)) fun _ => ?_
      exact ⟨_, rfl, _, _, rfl, rfl, _, rfl, ite2 (fun _ => ⟨_, rfl, _, rfl, 0, C, x, rfl, hC, k⟩) fun h => absurd (by decide) h⟩
    | 17, hC =>
      refine if_lt (k := 17) rfl (fun h => absurd h (by decide)) fun _ => ?_
      refine if_lt (k := 17) rfl (fun h => absurd h (by decide)) fun _ => ?_
      exact ⟨_, rfl, _, _, rfl, rfl, _, rfl, ite2 (fun _ => ⟨_, rfl, _, rfl, 1, C, x, rfl, hC, k⟩) fun h => absurd (by decide) h⟩
    | 18, hC =>
      refine if_lt (k := 18) rfl (fun h => absurd h (by decide)) fun _ => ?_
      refine if_lt (k := 18) rfl (fun h => absurd h (by decide)) fun _ => ?_
      exact ⟨_, rfl, _, _, rfl, rfl, _, rfl, ite2 (fun _ => ⟨_, rfl, _, rfl, 2, C, x, rfl, hC, k⟩) fun h => absurd (by decide) h⟩
    | 19, hC =>
      refine if_lt (k := 19) rfl (fun h => absurd h (by decide)) fun _ => ?_
      refine if_lt (k := 19) rfl (fun h => absurd h (by decide)) fun _ => ?_
      exact ⟨_, rfl, _, _, rfl, rfl, _, rfl, ite2 (fun _ => ⟨_, rfl, _, rfl, 3, C, x, rfl, hC, k⟩) fun h => absurd (by decide) h⟩
    | 20, hC =>
      refine if_lt (k := 20) rfl (fun h => absurd h (by decide)) fun _ => ?_
      refine if_lt (k := 20) rfl (fun h => absurd h (by decide)) fun _ => ?_
      exact ⟨_, rfl, _, _, rfl, rfl, _, rfl, ite2 (fun _ => ⟨_, rfl, _, rfl, 4, C, x, rfl, hC, k⟩) fun h => absurd (by decide) h⟩
    | 21, hC =>
      refine if_lt (k := 21) rfl (fun h => absurd h (by decide)) fun _ => ?_
      refine if_lt (k := 21) rfl (fun h => absurd h (by decide)) fun _ => ?_
      exact ⟨_, rfl, _, _, rfl, rfl, _, rfl, ite2 (fun _ => ⟨_, rfl, _, rfl, 5, C, x, rfl, hC, k⟩) fun h => absurd (by decide) h⟩
    | 22, hC =>
      refine if_lt (k := 22) rfl (fun h => absurd h (by decide)) fun _ => ?_
      refine if_lt (k := 22) rfl (fun h => absurd h (by decide)) fun _ => ?_
      exact ⟨_, rfl, _, _, rfl, rfl, _, rfl, ite2 (fun _ => ⟨_, rfl, _, rfl, 6, C, x, rfl, hC, k⟩) fun h => absurd (by decide) h⟩
    | 23, hC =>
      refine if_lt (k := 23) rfl (fun h => absurd h (by decide)) fun _ => ?_
      refine if_lt (k := 23) rfl (fun h => absurd h (by decide)) fun _ => ?_
      exact ⟨_, rfl, _, _, rfl, rfl, _, rfl, ite2 (fun _ => ⟨_, rfl, _, rfl, 7, C, x, rfl, hC, k⟩) fun h => absurd (by decide) h⟩
    | 24, hC =>
      refine if_lt (k := 24) rfl (fun h => absurd h (by decide)) fun _ => ?_
      refine if_lt (k := 24) rfl (fun h => absurd h (by decide)) fun _ => ?_
      exact ⟨_, rfl, _, _, rfl, rfl, _, rfl, ite2 (fun h => absurd h (by decide)) fun _ => ⟨_, rfl, _, rfl, 0, C, x, rfl, hC, k⟩⟩
    | 25, hC =>
      refine if_lt (k := 25) rfl (fun h => absurd h (by decide)) fun _ => ?_
      refine if_lt (k := 25) rfl (fun h => absurd h (by decide)) fun _ => ?_
      exact ⟨_, rfl, _, _, rfl, rfl, _, rfl, ite2 (fun h => absurd h (by decide)) fun _ => ⟨_, rfl, _, rfl, 1, C, x, rfl, hC, k⟩⟩
    | 26, hC =>
      refine if_lt (k := 26) rfl (fun h => absurd h (by decide)) fun _ => ?_
      refine if_lt (k := 26) rfl (fun h => absurd h (by decide)) fun _ => ?_
      exact ⟨_, rfl, _, _, rfl, rfl, _, rfl, ite2 (fun h => absurd h (by decide)) fun _ => ⟨_, rfl, _, rfl, 2, C, x, rfl, hC, k⟩⟩
    | 27, hC =>
      refine if_lt (k := 27) rfl (fun h => absurd h (by decide)) fun _ => ?_
      refine if_lt (k := 27) rfl (fun h => absurd h (by decide)) fun _ => ?_
      exact ⟨_, rfl, _, _, rfl, rfl, _, rfl, ite2 (fun h => absurd h (by decide)) fun _ => ⟨_, rfl, _, rfl, 3, C, x, rfl, hC, k⟩⟩
theorem mz_kz : mz = kz := by decide +kernel
end
end HK
namespace HK
open PySem PySem.Spec PyProof.Rows L2 HeY Dw Er
section
variable {P : Program} {w : World} {K : PySem.W.Frag} {mg : Str → Option Value} {base : Heap} {T0 : Addr}

theorem sc_law_very : FnScope ["found", "due", "same"] ["found", "due"] (defScope (top 45)) := ⟨rfl, rfl, rfl, by decide +kernel, rfl, by decide +kernel, by decide +kernel⟩
theorem c_very (T : Txt P w K mg base T0) : Cal P w K mg base "_law_very" 2 ["found", "due"] (spVery1) := by
  refine cal_of (params := defArgs (top 45)) (body := defBody (top 45)) (scope := defScope (top 45)) (T.fn _ (dm 12)) (T.gF _ (dm 12)) sc_law_very (fun _ _ _ _ _ _ us hl => match us, hl with | [_, _], _ => rfl) (fun vs H Q E h => ?_) (fun cdv A outer s H vs Q E hr h => ?_)
  · obtain ⟨l, v, rfl, _⟩ := h
    rfl
  · obtain ⟨l, v, rfl, th, k⟩ := h
    refine ⟨_, (pss_cons (ps_if (pt_val (pe_callB call_isi (by rfl) (T.fr "isinstance" (fm 2)) (by decide +kernel) (pa_cons (pv 1) (pa_cons (pe_bltn (v := .ty "list") (by rfl) (T.fr "list" (fm 4)) (by decide +kernel) rfl) pa_nil)))) (pss_cons (ps_expr (pe_bm PySem.F.plainAttrs_list PySem.F.slot_list_append PySem.F.type_list_append mt_append (pv 1) (pa_cons pe_str pa_nil))) (pss_cons (ps_set (i := 2) sc_law_very.nd rfl (Or.inl rfl) (pe_and (pe_callB call_isi (by rfl) (T.fr "isinstance" (fm 2)) (by decide +kernel) (pa_cons (pv 0) (pa_cons (pe_bltn (v := .ty "list") (by rfl) (T.fr "list" (fm 4)) (by decide +kernel) rfl) pa_nil))) (pe_and (pe_cmpR op_eq (pe_callB call_len (by rfl) (T.fr "len" (fm 3)) PySem.boot_len (pa_cons (pv 0) pa_nil)) (pe_callB call_len (by rfl) (T.fr "len" (fm 3)) PySem.boot_len (pa_cons (pv 1) pa_nil)) (nomark _)) (pe_one (pe_cmpR op_eq (pe_ix ix_list (pv 0) (pe_un un_neg pe_int) (fun _ _ => rfl)) pe_str (nomark _)))))) (pss_cons (ps_expr (pe_bm0 PySem.F.plainAttrs_list PySem.F.slot_list_pop PySem.F.type_list_pop mt_pop (pv 1))) (pss_one (ps_ret (pe_and (pv 2) (pe_and (pe_callB call_isi (by rfl) (T.fr "isinstance" (fm 2)) (by decide +kernel) (pa_cons (pv 0) (pa_cons (pe_bltn (v := .ty "list") (by rfl) (T.fr "list" (fm 4)) (by decide +kernel) rfl) pa_nil))) (pe_one (pe_cmpR (op_eqD hr.units) (pv 0) (pv 1) (nomark _)))))))))) pss_nil) (pss_cons (ps_if (pt_val (pe_callB call_isi (by rfl) (T.fr "isinstance" (fm 2)) (by decide +kernel) (pa_cons (pv 1) (pa_cons (pe_bltn (v := .ty "dict") (by rfl) (T.fr "dict" (fm 6)) (by decide +kernel) rfl) pa_nil)))) (pss_cons (ps_dput (hu_of hr) (pv 1) pe_str pe_int rfl) (pss_cons (ps_set (i := 2) sc_law_very.nd rfl (Or.inl rfl) (pe_and (pe_callB call_isi (by rfl) (T.fr "isinstance" (fm 2)) (by decide +kernel) (pa_cons (pv 0) (pa_cons (pe_bltn (v := .ty "dict") (by rfl) (T.fr "dict" (fm 6)) (by decide +kernel) rfl) pa_nil))) (pe_and (pe_cmp (pc_din (hu_of hr) pe_str (pv 0)) rfl) (pe_one (pe_cmpR op_eq (pe_callB call_lenD (by rfl) (T.fr "len" (fm 3)) PySem.boot_len (pa_cons (pv 0) pa_nil)) (pe_callB call_lenD (by rfl) (T.fr "len" (fm 3)) PySem.boot_len (pa_cons (pv 1) pa_nil)) (nomark _)))))) (pss_cons (ps_expr (pe_dpop1 (pv 1) pe_str ⟨by rfl, by rfl, by rfl, by rfl⟩)) (pss_one (ps_ret (pe_and (pv 2) (pe_and (pe_callB call_isi (by rfl) (T.fr "isinstance" (fm 2)) (by decide +kernel) (pa_cons (pv 0) (pa_cons (pe_bltn (v := .ty "dict") (by rfl) (T.fr "dict" (fm 6)) (by decide +kernel) rfl) pa_nil))) (pe_one (pe_cmpR (op_eq_dictA (Nat.lt_of_le_of_lt (Nat.le_add_right _ 64) hr.units)) (pv 0) (pv 1) (nomark _)))))))))) pss_nil) (pss_cons (ps_if (pt_cmp (pc_isN (pv 1))) (pss_one (ps_ret (pe_cmp (pc_isN (pv 0)) rfl))) pss_nil) (pss_cons (ps_if (pt_val (pe_callB call_isi (by rfl) (T.fr "isinstance" (fm 2)) (by decide +kernel) (pa_cons (pv 1) (pa_cons (pe_bltn (v := .ty "bool") (by rfl) (T.fr "bool" (fm 7)) (by decide +kernel) rfl) pa_nil)))) (pss_one (ps_ret (pe_and (pe_callB call_isi (by rfl) (T.fr "isinstance" (fm 2)) (by decide +kernel) (pa_cons (pv 0) (pa_cons (pe_bltn (v := .ty "bool") (by rfl) (T.fr "bool" (fm 7)) (by decide +kernel) rfl) pa_nil))) (pe_one (pe_cmpR op_eq (pv 0) (pv 1) (nomark _)))))) pss_nil) (pss_cons (ps_if (pt_val (pe_callB call_isi (by rfl) (T.fr "isinstance" (fm 2)) (by decide +kernel) (pa_cons (pv 1) (pa_cons (pe_bltn (v := .ty "int") (by rfl) (T.fr "int" (fm 1)) (by decide +kernel) rfl) pa_nil)))) (pss_one (ps_ret (pe_and (pe_callB call_isi (by rfl) (T.fr "isinstance" (fm 2)) (by decide +kernel) (pa_cons (pv 0) (pa_cons (pe_bltn (v := .ty "int") (by rfl) (T.fr "int" (fm 1)) (by decide +kernel) rfl) pa_nil))) (pe_and (pe_not (pe_callB call_isi (by rfl) (T.fr "isinstance" (fm 2)) (by decide +kernel) (pa_cons (pv 0) (pa_cons (pe_bltn (v := .ty "bool") (by rfl) (T.fr "bool" (fm 7)) (by decide +kernel) rfl) pa_nil)))) (pe_one (pe_cmpR op_eq (pv 0) (pv 1) (nomark _))))))) pss_nil) (pss_cons (ps_if (pt_val (pe_callB call_isi (by rfl) (T.fr "isinstance" (fm 2)) (by decide +kernel) (pa_cons (pv 1) (pa_cons (pe_bltn (v := .ty "str") (by rfl) (T.fr "str" (fm 8)) (by decide +kernel) rfl) pa_nil)))) (pss_one (ps_ret (pe_and (pe_callB call_isi (by rfl) (T.fr "isinstance" (fm 2)) (by decide +kernel) (pa_cons (pv 0) (pa_cons (pe_bltn (v := .ty "str") (by rfl) (T.fr "str" (fm 8)) (by decide +kernel) rfl) pa_nil))) (pe_one (pe_cmpR op_eq (pv 0) (pv 1) (nomark _)))))) pss_nil) (pss_one (ps_ret (pe_and (pe_callB call_isi (by rfl) (T.fr "isinstance" (fm 2)) (by decide +kernel) (pa_cons (pv 0) (pa_cons (pe_bltn (v := .ty "tuple") (by rfl) (T.fr "tuple" (fm 5)) (by decide +kernel) rfl) pa_nil))) (pe_one (pe_cmpR (op_eqD hr.units) (pe_callTy call_list_of (by rfl) (T.fr "list" (fm 4)) (by decide +kernel) (pa_cons (pv 0) pa_nil)) (pe_callTy call_list_of (by rfl) (T.fr "list" (fm 4)) (by decide +kernel) (pa_cons (pv 1) pa_nil)) (nomark _)))))))))))), ?_⟩
    cases v with
    | ref p =>
      rcases th with ⟨n, h⟩ | ⟨n, q, h0, h0', h1, h2⟩ | ⟨n, h⟩
      · refine isi_ok (r := false) rfl (.base (.tup h)) (by decide +kernel) ⟨_, rfl, iteF ?_⟩
        refine isi_ok (r := false) rfl (.base (.tup h)) (by decide +kernel) ⟨_, rfl, iteF ?_⟩
        refine ⟨_, rfl, _, rfl, ?_⟩
        rw [decide_eq_false (fun z => nomatch z)]
        refine iteF ?_
        refine isi_ok (r := false) rfl (.base (.tup h)) (by decide +kernel) ⟨_, rfl, iteF ?_⟩
        refine isi_ok (r := false) rfl (.base (.tup h)) (by decide +kernel) ⟨_, rfl, iteF ?_⟩
        refine isi_ok (r := false) rfl (.base (.tup h)) (by decide +kernel) ⟨_, rfl, iteF ?_⟩
        refine isi_ok (r := true) rfl (.base (.tup h)) (by decide +kernel) ⟨_, rfl, iteT ?_⟩
        refine ⟨_, rfl, p, _, rfl, .inr (SqT.of h), fun l1 hl1 => ⟨_, rfl, p, _, rfl, .inr (SqT.of (Same.new hl1 _ _ h)), fun l2 hl2 => ?_⟩⟩
        have z := eq_ints (K := K) (H := upd (upd H l1 (.lst [.int 1, .int n])) l2 (.lst [.int 1, .int n])) (p := l1) (q := l2) [1, n] (Same.new hl2 _ _ upd_same) upd_same
        obtain ⟨d, e, z1, z2, z3, z4, z5⟩ := z
        refine ⟨d, e, z1, z2, z3, z4, ?_⟩
        rw [z5]
        exact k _ ((Same.new hl1).trans (Same.new hl2))
      · refine isi_ok (r := true) rfl (.base (.lst h1)) (by decide +kernel) ⟨_, rfl, iteT ?_⟩
        refine ⟨_, rfl, .inl ⟨rfl, _, SqL.of h1⟩, p, _, _, rfl, rfl, h1, by show 2 < sizeLine; decide, ?_⟩
        refine isi_ok (r := true) rfl (.base (.lst upd_same)) (by decide +kernel) ⟨_, rfl, iteT ?_⟩
        refine ⟨_, rfl, _, _, rfl, .inl ⟨_, SqL.of upd_same, rfl⟩, _, rfl, _, _, rfl, .inl ⟨_, SqL.of upd_same, rfl⟩, rfl, _, rfl, ?_⟩
        rw [decide_eq_true rfl]
        refine iteT ?_
        refine ⟨_, rfl, _, rfl, p, _, -1, _, rfl, rfl, SqL.of upd_same, rfl, rfl, ?_⟩
        refine ⟨_, rfl, .inl ⟨rfl, _, SqL.of upd_same⟩, p, _, _, rfl, rfl, upd_same, rfl, ?_⟩
        refine ⟨_, rfl, _, rfl, ?_⟩
        rw [if_pos (decide_eq_true rfl)]
        have sb := same_back (o1 := .lst ([.int n, .ref q] ++ List.replicate 0 (.str "more") ++ [.str "more"])) h1
        refine isi_ok (r := true) rfl (.base (.lst upd_same)) (by decide +kernel) ⟨_, rfl, iteT ?_⟩
        have dv := fun H' (e1 : H' p = some (.lst [.int n, .ref q])) (e2 : H' q = some (.lst [.int 1])) => (Dp.lst (K := K) (SqL.of e1) (.cons (.int n) (.cons (.lst (SqL.of e2) (.cons (.int 1) .nil)) .nil)) : Dp K H' (.ref p) (.list [.int n, .list [.int 1]]))
        have dp := dv _ (sb _ _ h1) (sb _ _ h2)
        refine ⟨_, rfl, _, rfl, _, _, dp, dp, ?_, ?_, ?_⟩
        · rfl
        · rfl
        · have e : PyData.eqv (.list [.int n, .list [.int 1]]) (.list [.int n, .list [.int 1]]) = true := by simp [PyData.eqv, PyData.eqvAll]
          rw [e]
          exact k _ sb
      · refine isi_ok (r := false) rfl (.base (.dK h)) (by decide +kernel) ⟨_, rfl, iteF ?_⟩
        refine isi_ok (r := true) rfl (.base (.dK h)) (by decide +kernel) ⟨_, rfl, iteT ?_⟩
        refine ⟨_, rfl, p, _, rfl, DPut.k (k := Sum.inr "more") h (by show 1 < sizeLine; decide), ?_⟩
        show tSeq _ _ _ _ (upd H p (.dK (putK [((Sum.inr ("a" : Str) : Key), V.int n)] (Sum.inr ("more" : Str)) (.int 1))))
        rw [put_a]
        refine isi_ok (r := true) rfl (.base (.dK upd_same)) (by decide +kernel) ⟨_, rfl, iteT ?_⟩
        refine ⟨_, rfl, p, _, rfl, DGet.k (k := Sum.inr "more") upd_same, _, rfl, ?_⟩
        rw [val_a]
        refine iteT ?_
        refine ⟨_, rfl, p, _, rfl, upd_same, _, rfl, p, _, rfl, upd_same, rfl, ?_⟩
        refine ⟨_, rfl, p, rfl, .inl ⟨_, .inl upd_same⟩, _, Sum.inr "more", .int 1, upd_same, rfl, val_a _ _, ?_⟩
        rw [drop_a]
        refine ⟨_, rfl, _, rfl, ?_⟩
        rw [if_pos (decide_eq_true rfl)]
        have sb := same_back (o1 := .dK [(Sum.inr ("a" : Str), V.int n), (Sum.inr ("more" : Str), .int 1)]) h
        refine isi_ok (r := true) rfl (.base (.dK upd_same)) (by decide +kernel) ⟨_, rfl, iteT ?_⟩
        refine ⟨_, rfl, _, rfl, p, p, _, _, rfl, rfl, upd_same, upd_same, rfl, fun kv hkv => ?_, k _ sb⟩
        obtain rfl := List.mem_singleton.mp hkv
        exact ⟨valV_pos rfl, rfl⟩
    | non =>
      refine isi_ok (r := false) rfl (.base .non) (by decide +kernel) ⟨_, rfl, iteF ?_⟩
      refine isi_ok (r := false) rfl (.base .non) (by decide +kernel) ⟨_, rfl, iteF ?_⟩
      refine ⟨_, rfl, _, rfl, ?_⟩
      rw [decide_eq_true rfl]
      refine iteT ⟨_, rfl, ?_⟩
      show Q (.bl (decide (V.non = V.non))) _
      rw [decide_eq_true rfl]
      exact k _ (Same.refl _)
    | bl b =>
      refine isi_ok (r := false) rfl (.base (.bl b)) (by decide +kernel) ⟨_, rfl, iteF ?_⟩
      refine isi_ok (r := false) rfl (.base (.bl b)) (by decide +kernel) ⟨_, rfl, iteF ?_⟩
      refine ⟨_, rfl, _, rfl, ?_⟩
      rw [decide_eq_false (fun z => nomatch z)]
      refine iteF ?_
      refine isi_ok (r := true) rfl (.base (.bl b)) (by decide +kernel) ⟨_, rfl, iteT ?_⟩
      refine isi_ok (r := true) rfl (.base (.bl b)) (by decide +kernel) ⟨_, rfl, iteT ?_⟩
      exact ⟨_, rfl, _, rfl, rfl, by rw [decide_eq_true rfl]; exact k _ (Same.refl _)⟩
    | int b =>
      refine isi_ok (r := false) rfl (.base (.int b)) (by decide +kernel) ⟨_, rfl, iteF ?_⟩
      refine isi_ok (r := false) rfl (.base (.int b)) (by decide +kernel) ⟨_, rfl, iteF ?_⟩
      refine ⟨_, rfl, _, rfl, ?_⟩
      rw [decide_eq_false (fun z => nomatch z)]
      refine iteF ?_
      refine isi_ok (r := false) rfl (.base (.int b)) (by decide +kernel) ⟨_, rfl, iteF ?_⟩
      refine isi_ok (r := true) rfl (.base (.int b)) (by decide +kernel) ⟨_, rfl, iteT ?_⟩
      refine isi_ok (r := true) rfl (.base (.int b)) (by decide +kernel) ⟨_, rfl, iteT ?_⟩
      refine isi_ok (r := false) rfl (.base (.int b)) (by decide +kernel) ⟨_, rfl, _, rfl, iteT ?_⟩
      exact ⟨_, rfl, _, rfl, rfl, by rw [decide_eq_true rfl]; exact k _ (Same.refl _)⟩
    | str b =>
      refine isi_ok (r := false) rfl (.base (.str b)) (by decide +kernel) ⟨_, rfl, iteF ?_⟩
      refine isi_ok (r := false) rfl (.base (.str b)) (by decide +kernel) ⟨_, rfl, iteF ?_⟩
      refine ⟨_, rfl, _, rfl, ?_⟩
      rw [decide_eq_false (fun z => nomatch z)]
      refine iteF ?_
      refine isi_ok (r := false) rfl (.base (.str b)) (by decide +kernel) ⟨_, rfl, iteF ?_⟩
      refine isi_ok (r := false) rfl (.base (.str b)) (by decide +kernel) ⟨_, rfl, iteF ?_⟩
      refine isi_ok (r := true) rfl (.base (.str b)) (by decide +kernel) ⟨_, rfl, iteT ?_⟩
      refine isi_ok (r := true) rfl (.base (.str b)) (by decide +kernel) ⟨_, rfl, iteT ?_⟩
      exact ⟨_, rfl, _, rfl, rfl, by rw [decide_eq_true rfl]; exact k _ (Same.refl _)⟩
    | _ => cases th
end
end HK
namespace HK
open PySem PySem.Spec PyProof.Rows L2 HeY Dw Er L2H
section
variable {P : Program} {w : World} {K : PySem.W.Frag} {mg : Str → Option Value} {base : Heap} {T0 : Addr}

theorem kz_nd (T : Txt P w K mg base T0) (hT : T0 = He.ga K "TellError") : (kz.map (He.ga K)).Nodup := ga_nodup T (by decide +kernel) (by decide +kernel) hT
def spCaught : Sp := fun vs H Q _ => ∃ x, vs = [x] ∧ ∀ p l1 l2 H', H p = none → Same H H' → H' p = some (.tup [.ref l1, .ref l2, .bl true]) → H' l1 = some (.lst [.int 10]) → H' l2 = some (.lst []) → Q (.ref p) H'
theorem sc_law_caught : FnScope ["x", "e", "told", "plain"] ["x"] (defScope (top 46)) := ⟨rfl, rfl, rfl, by decide +kernel, rfl, by decide +kernel, by decide +kernel⟩
theorem c_caught (T : Txt P w K mg base T0) (hT : T0 = He.ga K "TellError") : Cal P w K mg base "_law_caught" 3 ["x"] spCaught := by
  refine cal_of (params := defArgs (top 46)) (body := defBody (top 46)) (scope := defScope (top 46)) (T.fn _ (dm 13)) (T.gF _ (dm 13)) sc_law_caught (fun _ _ _ _ _ _ us hl => match us, hl with | [_], _ => rfl) (fun vs H Q E h => ?_) (fun cdv A outer s H vs Q E hr h => ?_)
  · obtain ⟨x, rfl, _⟩ := h
    rfl
  · obtain ⟨x, rfl, k⟩ := h
    refine ⟨_, (pss_cons (L2N.ps_try_as (i := 1) (tb := fun W => tRaiseX K H (tXMk (He.ga K "BadPart") "part" (tVar 0)) W) (Wout := fun _ _ _ _ => False) (ts := fun a cls d => tAsg (tCallQ (spKindsQ K T0 0 (kz.map (He.ga K)) a cls d) (tCons (tVar 1) tNil)) (gName 2)) rfl rfl sc_law_caught.nd rfl rfl (c := .ref T0) ⟨rfl, rfl, .inl T.gT⟩
      (fun u s' ⟨_, _, _, _, _, _, _, _, _, _, _, _, _, _, _, _, wf⟩ => wf.elim)
      (fun W pn xe tk _ => pss_one (ps_raise_x rfl rfl tk (pe_xmk (T.mkr ("BadPart", "part") (cm 11)) hr (by rfl) (T.gC ("BadPart", "part") (cm 11)) (pv 0))))
      (fun a oe cls d pn z hv => by
        obtain ⟨rfl, rfl, hc⟩ := z
        obtain ⟨v1, hv⟩ := hv
        exact pss_one (ps_set (i := 2) sc_law_caught.nd rfl (Or.inl rfl) (pe_calq (p := (a, oe)) (q_kinds T) ⟨hr.dp, hr.un⟩ ⟨rfl, v1, hv, hc v1 hv⟩ List.mem_cons_self (pa_cons (pv 1) pa_nil))))) (pss_cons (ps_set (i := 3) sc_law_caught.nd rfl (Or.inl rfl) (pe_new0 T.eT T.gT)) (pss_one (ps_ret (pe_tup (pa_cons (pv 2) (pa_cons (pe_cal (c_kinds T |>.mono (by decide)) hr (pa_cons (pv 3) pa_nil)) (pa_cons (pe_callB call_isX (by rfl) (T.fr "isinstance" (fm 2)) (by decide +kernel) (pa_cons (pv 3) (pa_cons (pe_bltn (v := .ty "ValueError") (by rfl) (T.fr "ValueError" (fm 13)) (by decide +kernel) rfl) pa_nil))) pa_nil)))))))), ?_⟩
    refine ⟨x, rfl, fun a dd ha hd hda => ?_⟩
    refine ⟨a, He.ga K "BadPart", dd, [("part", x)], rfl, upd_same, by rw [upd_ne hda]; exact upd_same, fr0_none ha, (T.mkr ("BadPart", "part") (cm 11)).o, true, exm_base (T.kn ("BadPart", "part") (cm 11)) T.kT (cne T ("BadPart", "part") (cm 11)), fun _ a1 ha1 => ?_, fun z => by cases z⟩
    have eH : delH (upd (upd H dd (exd dd [("part", x)])) a (exo a (He.ga K "BadPart") (some dd))) a = upd H dd (exd dd [("part", x)]) := delH_new (by rw [upd_ne (fun z => hda z.symm)]; exact ha)
    rw [eH]
    have s0 : Same H (upd H dd (exd dd [("part", x)])) := Same.new hd
    refine ⟨_, rfl, He.ga K "BadPart", rfl, ⟨rfl, dd, _, rfl, upd_same⟩, (T.kn ("BadPart", "part") (cm 11)), fun l1 H1 hl1 s1 e1 => ?_⟩
    rw [idx_at (kz_nd T hT) (i := 10) (by rfl) _ (by rw [List.length_map]; decide)] at e1
    refine fun a2 H2 s2 ea2 => ?_
    refine ⟨_, rfl, _, rfl, a2, T0, rfl, ea2, T.kT, fun l2 H3 hl2 s3 e3 => ?_⟩
    rw [idx_none (fun y => (kn_of T (by decide +kernel) T0 y).2 rfl)] at e3
    refine bi_ok rfl (ea2.mono s3) T.kT (by rfl) (b := true) (by decide +kernel) ⟨by show 3 ≤ sizeLine; decide, fun p hp => ?_⟩
    have sA : Same H H3 := ((s0.trans s1).trans s2).trans s3
    exact k p l1 l2 _ (sA.free hp) (sA.trans (Same.new hp)) upd_same (Same.new hp _ _ (s3 _ _ (s2 _ _ e1))) (Same.new hp _ _ e3)
end
end HK
namespace HK
open PySem PySem.Spec PyProof.Rows L2 HeY Dw Er L2H
section
variable {P : Program} {w : World} {K : PySem.W.Frag} {mg : Str → Option Value} {base : Heap} {T0 : Addr}

theorem sclaw : FnScope ["script", "state", "k", "at", "one", "two", "made", "kept", "other", "others"] ["script"] (defScope (top 47)) := ⟨rfl, rfl, rfl, by decide +kernel, rfl, by decide +kernel, by decide +kernel⟩
theorem kz_bo (T : Txt P w K mg base T0) (hT : T0 = He.ga K "TellError") : (kz.map (He.ga K) ++ (["BadOther"] : List Str).map (He.ga K)).Nodup := by
  rw [← List.map_append]
  exact ga_nodup T (by decide +kernel) (by decide +kernel) hT
theorem kn_all (T : Txt P w K mg base T0) {ns : List Str} (h : (ns.all fun n => cls0.contains n || (clsF.map (·.1)).contains n) = true) : ∀ D ∈ ns.map (He.ga K), Kn K T0 D := fun D hD => (kn_of T h D hD).1
theorem ok_law (T : Txt P w K mg base T0) (hT : T0 = He.ga K "TellError") {fd : FuncData} (F : FunD K "law" "law" (defArgs (top 47)) (defBody (top 47)) (defScope (top 47)) [] [] (He.ga K "law") fd) : FnOk P w K mg base CX0 5 (He.ga K "law") fd ["script"] (spLaw K) := by
  refine F.ok sclaw (fun vs H Q E h => ?_) (fun cdv A outer s H vs Q E hr h => ?_)
  · obtain ⟨a, ns, rfl, _⟩ := h
    rfl
  · obtain ⟨a, ns, rfl, hS, k⟩ := h
    refine ⟨_, PSs.nox (pss_cons (ps_set (i := 1) sclaw.nd rfl (Or.inl rfl) (pe_cal (c_start T |>.mono (by decide)) hr (pa_cons (pv 0) pa_nil))) (pss_cons (ps_for PassesOwn.never rfl (pi_range1 rfl (T.fr "range" (fm 12)) (pa_cons pe_int pa_nil)) (pg_name (i := 2) sclaw.nd rfl (Or.inl rfl)) (pss_cons (ps_set (i := 3) sclaw.nd rfl (Or.inl rfl) (pe_ifExp (pt_cmpR op_lt (pv 2) pe_int (nomark _)) (pe_op op_modN (pe_callTy call_int1 (by rfl) (T.fr "int" (fm 1)) (by decide +kernel) (pa_cons (pe_op op_add (pv 2) (pe_cal (c_pick T |>.mono (by decide)) hr (pa_cons (pv 1) (pa_cons pe_int pa_nil)))) pa_nil)) pe_int) (pe_op op_sub (pv 2) pe_int))) (pss_cons (ps_par (i := 4) (j := 5) rfl sclaw.nd rfl rfl (by decide) rfl rfl (pa_cons (pe_cal (c_object T |>.mono (by decide)) hr (pa_cons (pv 1) pa_nil)) (pa_cons (pe_cal (c_object T |>.mono (by decide)) hr (pa_cons (pv 1) pa_nil)) pa_nil)) (by rfl)) (pss_cons (ps_asg (pe_cal (c_made T |>.mono (by decide)) hr (pa_cons (pv 3) (pa_cons (pv 4) pa_nil))) (pg_tup rfl (pgs_cons (pg_name (i := 6) sclaw.nd rfl (Or.inl rfl)) (pgs_cons (pg_name (i := 7) sclaw.nd rfl (Or.inl rfl)) pgs_nil)))) (pss_cons (ps_asg (pe_cal (c_made T |>.mono (by decide)) hr (pa_cons (pv 3) (pa_cons (pv 5) pa_nil))) (pg_tup rfl (pgs_cons (pg_name (i := 8) sclaw.nd rfl (Or.inl rfl)) (pgs_cons (pg_name (i := 9) sclaw.nd rfl (Or.inl rfl)) pgs_nil)))) (pss_cons (ps_if (PW.pt (pw_or (pt_not (pt_val (pe_callB call_isX (by rfl) (T.fr "isinstance" (fm 2)) (by decide +kernel) (pa_cons (pv 6) (pa_cons (pe_glob (v := .ref T0) (by rfl) T.gT rfl) pa_nil))))) (pw_or (pt_not (pt_val (pe_callB call_isX (by rfl) (T.fr "isinstance" (fm 2)) (by decide +kernel) (pa_cons (pv 6) (pa_cons (pe_bltn (v := .ty "ValueError") (by rfl) (T.fr "ValueError" (fm 13)) (by decide +kernel) rfl) pa_nil))))) (pw_or1 (pt_cmpR (op_neD hr.units) (pe_cal (c_kinds T |>.mono (by decide)) hr (pa_cons (pv 6) pa_nil)) (pe_lst (pa_cons (pv 3) pa_nil)) (nomark _)))))) (pss_one (ps_ret pe_bl)) pss_nil) (pss_cons (ps_if (PW.pt (pw_or (pt_val (pe_callB call_isXT (by rfl) (T.fr "isinstance" (fm 2)) (by decide +kernel) (pa_cons (pv 6) (pa_cons (pe_tup (pa_cons (pe_bltn (v := .ty "KeyError") (by rfl) (T.fr "KeyError" (fm 14)) (by decide +kernel) rfl) (pa_cons (pe_bltn (v := .ty "IndexError") (by rfl) (T.fr "IndexError" (fm 15)) (by decide +kernel) rfl) (pa_cons (pe_bltn (v := .ty "TypeError") (by rfl) (T.fr "TypeError" (fm 16)) (by decide +kernel) rfl) (pa_cons (pe_glob (v := .ref (He.ga K "BadOther")) (by rfl) (T.gC ("BadOther", "other") (cm 0)) rfl) pa_nil))))) pa_nil)))) (pw_or1 (pt_val (pe_callB call_isXT (by rfl) (T.fr "isinstance" (fm 2)) (by decide +kernel) (pa_cons (pv 8) (pa_cons (pe_tup (pa_cons (pe_bltn (v := .ty "KeyError") (by rfl) (T.fr "KeyError" (fm 14)) (by decide +kernel) rfl) (pa_cons (pe_bltn (v := .ty "TypeError") (by rfl) (T.fr "TypeError" (fm 16)) (by decide +kernel) rfl) pa_nil))) pa_nil))))))) (pss_one (ps_ret pe_bl)) pss_nil) (pss_one (ps_if (PW.pt (pw_or (pt_not (pt_val (pe_cal (c_very T |>.mono (by decide)) hr (pa_cons (pv 7) (pa_cons (pv 4) pa_nil))))) (pw_or1 (pt_not (pt_val (pe_cal (c_very T |>.mono (by decide)) hr (pa_cons (pv 9) (pa_cons (pv 5) pa_nil)))))))) (pss_one (ps_ret pe_bl)) pss_nil))))))))) (pss_one (ps_ret (pe_cmpR (op_eqD hr.units) (pe_cal (c_caught T hT |>.mono (by decide)) hr (pa_cons (pe_cal (c_object T |>.mono (by decide)) hr (pa_cons (pv 1) pa_nil)) pa_nil)) (pe_tup (pa_cons (pe_lst (pa_cons pe_int pa_nil)) (pa_cons (pe_lst pa_nil) (pa_cons pe_bl pa_nil)))) (nomark _)))))), ?_⟩
    have hCs : (kz.map (He.ga K)).length = 28 := by rw [List.length_map]; rfl
    refine ⟨_, rfl, a, ns, rfl, hS, fun s l H1 st _ _ _ => ?_⟩
    refine ⟨56, rfl, by omega, by omega, ?_⟩
    refine for_range (lo := 0) (n := 56) (fun i σ' H' => ∃ o2 o3 o4 o5 o6 o7 o8 o9, σ' = [some (.ref a), some (.ref s), o2, o3, o4, o5, o6, o7, o8, o9] ∧ StAt H' s l (7 * i)) ⟨none, none, none, none, none, none, none, none, rfl, st⟩ ?_ ?_
    · rintro ki _ H2 hki ⟨o2, o3, o4, o5, o6, o7, o8, o9, rfl, st2⟩
      rw [Int.zero_add]
      refine seqA (at_ok (n := 28) (k := ki) rfl rfl (by decide) (by decide) (by omega) st2 (by omega) fun i H3 hi st3 f3 => ?_)
      refine ⟨_, rfl, s, l, _, rfl, st3, by omega, fun v1 H4 th1 st4 f4 => ⟨_, rfl, s, l, _, rfl, st4, by omega, fun v2 H5 th2 st5 f5 => ⟨v1, v2, rfl, ?_⟩⟩⟩
      have th1' : Thing H5 l 0 v1 := thing_fr th1 st4 f5
      have hi' : i < (kz.map (He.ga K)).length := by omega
      have hC : (kz.map (He.ga K))[i]? = some (kz.map (He.ga K))[i] := List.getElem?_eq_getElem hi'
      have hm : (kz.map (He.ga K))[i] ∈ kz.map (He.ga K) := List.mem_of_getElem? hC
      generalize (kz.map (He.ga K))[i] = C at hC hm
      have kC := kn_all T (ns := kz) (by decide +kernel) C hm
      refine ⟨_, rfl, _, rfl, i, C, v1, by rw [Nat.zero_add]; rfl, hC, fun p a1 H6 hp s6 e6 ea6 => ⟨p, _, rfl, SqT.of e6, rfl, _, _, rfl, _, _, rfl, rfl, ?_⟩⟩
      refine ⟨_, rfl, _, rfl, i, C, v2, by rw [Nat.zero_add]; rfl, hC, fun p2 a2 H7 hp2 s7 e7 ea7 => ⟨p2, _, rfl, SqT.of e7, rfl, _, _, rfl, _, _, rfl, rfl, ?_⟩⟩
      have ea := ea6.mono s7
      have t1 := (th1'.mono s6).mono s7
      have t2 := (th2.mono s6).mono s7
      have st7 := (st5.same s6).same s7
      clear th1 th1' th2 ea6 e6 e7 s6 s7 st5 st4 st3 st2 hp hp2 f3 f4 f5
      refine tell_ok rfl ea kC T.kT ⟨_, rfl, iteF ?_⟩
      refine bi_ok rfl ea kC (by rfl) (b := true) (by decide +kernel) ⟨_, rfl, iteF ?_⟩
      refine kinds_ne (kz_nd T hT) hC rfl rfl ea kC fun H8 s8 => ⟨_, rfl, iteF ?_⟩
      have ea8 := ea.mono s8
      refine isT_no (cs := [.ty "KeyError", .ty "IndexError", .ty "TypeError", .ref (He.ga K "BadOther")]) (us := [.type "KeyError", .type "IndexError", .type "TypeError", .ref (He.ga K "BadOther")]) rfl ea8 kC (fun R r => r) (.cons (.ty _) (.cons (.ty _) (.cons (.ty _) (.cons (.own _) .nil)))) (by show 4 ≤ sizeLine; decide) (fun u hu => ?_) fun H9 s9 => ⟨_, rfl, iteF ?_⟩
      · rcases List.mem_cons.mp hu with rfl | hu
        · exact bi_no kC (by rfl) (by decide +kernel)
        rcases List.mem_cons.mp hu with rfl | hu
        · exact bi_no kC (by rfl) (by decide +kernel)
        rcases List.mem_cons.mp hu with rfl | hu
        · exact bi_no kC (by rfl) (by decide +kernel)
        obtain rfl := List.mem_singleton.mp hu
        have hne : C ≠ He.ga K "BadOther" := fun z => nodup_apart (kz_bo T hT) hm (by rw [z]; exact List.mem_cons_self)
        have z := kC.one (T.kn ("BadOther", "other") (cm 0)) (cne T ("BadOther", "other") (cm 0))
        rw [decide_eq_false hne] at z
        exact z
      have sA := s8.trans s9
      refine isT_no (cs := [.ty "KeyError", .ty "TypeError"]) (us := [.type "KeyError", .type "TypeError"]) rfl (ea7.mono sA) kC (fun R r => r) (.cons (.ty _) (.cons (.ty _) .nil)) (by show 2 ≤ sizeLine; decide) (fun u hu => ?_) fun H10 s10 => ⟨_, rfl, iteF ?_⟩
      · rcases List.mem_cons.mp hu with rfl | hu
        · exact bi_no kC (by rfl) (by decide +kernel)
        obtain rfl := List.mem_singleton.mp hu
        exact bi_no kC (by rfl) (by decide +kernel)
      have sB := sA.trans s10
      refine ⟨_, rfl, _, rfl, l, v1, rfl, t1.mono sB, fun H11 s11 => ⟨_, rfl, iteF ?_⟩⟩
      refine ⟨_, rfl, _, rfl, l, v2, rfl, (t2.mono sB).mono s11, fun H12 s12 => ⟨_, rfl, iteF ?_⟩⟩
      exact ⟨_, _, _, _, _, _, _, _, rfl, (((st7.same sB).same s11).same s12).mono (by omega)⟩
    · rintro _ H2 ⟨o2, o3, o4, o5, o6, o7, o8, o9, rfl, st2⟩
      refine ⟨_, rfl, s, l, _, rfl, st2, by omega, fun v H7 th st7 f7 => ⟨v, rfl, fun p l1 l2 H8 hp s8 e8 e1 e2 => ?_⟩⟩
      refine ⟨by show 1 ≤ sizeLine; decide, fun q1 hq1 => ⟨by show 0 ≤ sizeLine; decide, fun q2 hq2 => ⟨by show 3 ≤ sizeLine; decide, fun t ht => ?_⟩⟩⟩
      have n1 := Same.new (o := .lst [.int 10]) hq1
      have n2 := Same.new (o := .lst []) hq2
      have n3 := Same.new (o := .tup [.ref q1, .ref q2, .bl true]) ht
      have up : ∀ b o, H8 b = some o → (upd (upd (upd H8 q1 (.lst [.int 10])) q2 (.lst [])) t (.tup [.ref q1, .ref q2, .bl true])) b = some o := fun b o e => n3 _ _ (n2 _ _ (n1 _ _ e))
      refine ⟨.tuple [.list [.int 10], .list [], .bool true], .tuple [.list [.int 10], .list [], .bool true],
        .tup (SqT.of (up _ _ e8)) (.cons (.lst (SqL.of (up _ _ e1)) (.cons (.int 10) .nil)) (.cons (.lst (SqL.of (up _ _ e2)) .nil) (.cons (.bl _) .nil))),
        .tup (SqT.of upd_same) (.cons (.lst (SqL.of (n3 _ _ (n2 _ _ upd_same))) (.cons (.int 10) .nil)) (.cons (.lst (SqL.of (n3 _ _ upd_same)) .nil) (.cons (.bl _) .nil))), by decide +kernel, by decide +kernel, ?_⟩
      have e : PyData.eqv (.tuple [.list [.int 10], .list [], .bool true]) (.tuple [.list [.int 10], .list [], .bool true]) = true := by simp [PyData.eqv, PyData.eqvAll]
      rw [e]
      exact k _
end
theorem law_at : dLaw[14]? = some ⟨("law", none), "law", "law", defArgs (top 47), defBody (top 47), defScope (top 47), [], []⟩ := by rfl
end HK
namespace HK
open PySem PySem.W PySem.Calls PySem.Spec PyProof.Rows L2

theorem r1 (w : World) (os : OsState) : (HeY.endY R 20000 w os).map (fun s => HandSHeadRun.looksF R.prog (PySem.W.boot_heap w.params) s.abs) = some true := by kernel_rfl
theorem r2 (w : World) (os : OsState) : (HeY.endY R 20000 w os).map (fun s => HandSHeadRun.seenQ qv names (PySem.importedModules R.prog.main.body) (fun s => PySem.W.xlAt qv [] s && PySem.W.recOk R.toRowW.records s) s.abs) = some (PySem.W.openGood qv names) := by kernel_rfl
theorem r3 (w : World) (os : OsState) : (HeY.endY R 20000 w os).map (fun s => HeY.obA fa fn (HandSHeadRun.getT s)) = some true := by kernel_rfl
theorem r4 (w : World) (os : OsState) : (HeY.endY R 20000 w os).map (fun s => HeY.obB fn (HandSHeadRun.getT s)) = some (fn.map He.DefD.val) := by kernel_rfl
theorem r5 (w : World) (os : OsState) : (HeY.endY R 20000 w os).map (fun s => HeY.obC ex (HandSHeadRun.getT s)) = some true := by kernel_rfl
theorem run (w : World) : HandSHeadRun.RunEq R qv hk ob 20000 names w := HeY.run_of (r1 w) (r2 w) (r3 w) (r4 w) (r5 w)
end HK
namespace HK
open PySem PySem.Spec PyProof.Rows L2
theorem facts {P : Program} {w : World} {K : PySem.W.Frag} {h : Heap} {mg : Str → Option Value} {f : Addr} (X : K.In h) (G : h.Ns mainGlobals mg) (hfa : mg ("law" : Str) = some (.ref f)) (c : HeY.SaysY fa fn ex K) :
    ∃ fd : FuncData, (∀ (s : Shared) (v : Value), BindsTo s fd ⟨[v], []⟩ [("script", v)]) ∧ ∀ base : Heap, K.In base → base.Ns mainGlobals mg → FnOk P w K mg base CX0 5 f fd ["script"] (Er.spLaw K) := by
  have T : ∀ base, Txt P w K mg base (He.ga K "TellError") := fun base => txt X G c
  have e := hfa.symm.trans ((T h).gF _ (List.mem_of_getElem? law_at))
  cases e
  obtain ⟨fd, F⟩ := (T h).fn _ (List.mem_of_getElem? law_at)
  have b := FunD.bindsA (ps := ["script"]) F fun _ _ _ _ _ _ us hl => match us, hl with | [_], _ => rfl
  exact ⟨fd, fun s v => b s [v] rfl, fun base _ _ => ok_law (T base) rfl F⟩
end HK
open PySem PySem.W PySem.Calls PyProof.Rows
theorem PySem.Challenge.cw_updowns_k00_errors_made_holds : PySem.Challenge.rw_updowns_k00_errors_made.Holds := by
  w_on; o_law
  refine HandSHeadRun.head_any (r := OpenLaw.row PySem.Challenge.rw_updowns_k00_errors_made) (q := view (OpenLaw.row PySem.Challenge.rw_updowns_k00_errors_made).prog [47]) (H := HK.hk) (ob := HK.ob) (M := 20000) (loose := HK.names) (d := HandSHeadRun.topDef (OpenLaw.row PySem.Challenge.rw_updowns_k00_errors_made).prog 47) (kwd := []) HK.ob_eq
    (by kernel_rfl) (fun s => by kernel_rfl) HK.run (by kernel_rfl) (by kernel_rfl) (by kernel_rfl) (by rfl) (by first | assumption | decide +kernel) (by decide +kernel) ⟨rfl, rfl, rfl, rfl, rfl, by decide +kernel⟩ ?hw ?hc
  case hw => w_witness2
  case hc =>
    refine L2.walk_ofE (l := PySem.Challenge.rw_updowns_k00_errors_made) (n := 63) (k := 5) (x := "script") (CX := L2.CX0) rfl (by decide) (by kernel_rfl) ⟨rfl, by decide, by decide⟩ ?F (fun _ _ _ _ z => z)
    intro w mg fa h Y G hmg0
    obtain ⟨K, KX, c⟩ := Y
    have hmg : mg ("law" : PySem.Str) = some (.ref fa) := by
      have e : (HandSHeadRun.topDef (OpenLaw.row PySem.Challenge.rw_updowns_k00_errors_made).prog 47).name = ("law" : PySem.Str) := by kernel_rfl
      rw [← e]
      exact hmg0
    obtain ⟨fd, hb, hF⟩ := HK.facts (P := (PySem.Challenge.rw_updowns_k00_errors_made).prog) (w := w) KX G hmg c
    exact ⟨K, fd, Er.spLaw K, KX, hb, fun H a ns hl _ hS => ⟨a, ns, rfl, hS, fun _ => rfl⟩, hF⟩
