import PyProof.Rows.All
import Wide.All
import OpenK.AllK
import Wide.FinOn
import HandS.ForMost
import HandS.ForExc
import HandS.ExcInit
import HandS.ExcIs
import KE.KExcSuper
import PyProof.Rows.FactsExc_KeyError
import HandS.ExcValue
import HandS.ExcField
import HandS.IsInst
import KE.KExcIs
import HandS.TryMany
import KE.KTryMore
import HandS.Iter
import HandS.Zip
import KE.GoesMore
import KE.KDictCopyH
import HandS.Wide
import HandS.WideMore
import HandS.TupAny
import HandS.TupMul
import HandS.Deep
import PyProof.Rows.RuleB_pow
import HandS.Style
import KE.LtData
import HandS.Dict
import HandS.Text
import PyProof.Rows.InDataRows
import HandS.SortInts
import HandS.More
import PyProof.ReprRoads
import KE.KSortedM
import HandS.Flow
import HandS.Comp
import HandS.Small
import HandS.ExcOwn
import KE.KDictDisplayH
import HandS.Ends
import PySem.Challenge.RW_dealtrows_k00_errors_and_what_they_keep
set_option Elab.async false
set_option linter.all false
set_option maxRecDepth 100000
set_option maxHeartbeats 4000000
/-! X1: exceptions with an own __init__ that says super().__init__("..") and stores one field. -/
namespace DX
open PySem PySem.W
/-! ### made -/
section
variable {M : Model} {A : Around} {E : Value → Shared → Prop} {h : Heap} {g : Array GenState} {d : Drawn} {t : Nat} {os : OsState}
variable {nm q : Str} {C N : Addr} {bs bm bmN : List Value} {hdct : Bool} {sn : List Str} {sub : List Value} {ab : Bool} {col : Option Bool} {dd : Option Addr} {k0 k1 k2 k3 k5 : Option Value} {Bn nid iN : String}
theorem chkNew (Fn : ExcBaseFacts Bn nid iN bmN) (hBx : bm.contains (.type Bn) = true) {rs : List Value} {Q : Unit → Shared → Prop}
    (cC : h.get? C = some (excClassObj nm q C N bs bm hdct sn sub ab col dd k0 k1 k2 k3 k5 nid)) (z : Q () ⟨h, g, d, t, os⟩) : wpAny M A (checkBuiltinCall nid ⟨.ref C :: rs, []⟩) Q E ⟨h, g, d, t, os⟩ := by
  have cont : (Value.ref C :: bm).contains (.type Bn) = true := by rw [List.contains_cons, hBx, Bool.or_true]
  have star := Fn.noStar
  simp only [checkBuiltinCall, Fn.newKind, Fn.newSplit, Fn.newRow]
  repeat (first | refine wpAny_loadPart_at cC ?_ | (refine wpAny_isSubtype_exc cC ?_; rw [cont]) | refine wpAny_staticBase_exc cC ?_ | refine wpAny_madeBy_exc cC ?_ | simp only [bne_self_eq_false, Bool.false_eq_true, if_false] | wp_step)
  exact z
end
section
variable {prog : Program} {w : World} {A : Around} {E : Value → Shared → Prop} {R : Result → Shared → Prop} {h : Heap} {g : Array GenState} {d : Drawn} {t : Nat} {os : OsState}
variable {nm q : Str} {C N : Addr} {bs bm bmN : List Value} {hdct : Bool} {sn : List Str} {sub : List Value} {ab : Bool} {col : Option Bool} {dd : Option Addr} {k0 k1 k2 k3 k5 : Option Value} {Bn nid iN : String}
theorem newX (Fn : ExcBaseFacts Bn nid iN bmN) (hBx : bm.contains (.type Bn) = true) (hAx : bm.contains (.type "AttributeError") = false) (hNx : bm.contains (.type "NameError") = false) {rs : List Value}
    (cC : h.get? C = some (excClassObj nm q C N bs bm hdct sn sub ab col dd k0 k1 k2 k3 k5 nid))
    (z : R (.ok (.ret (.ref (h.objs.size + 1)))) ⟨(h.push (W.kdv_tup rs)).push (HandSPX.excO C h.objs.size), g, d, t, os⟩) (hrs : rs.length ≤ sizeLine) :
    codeAny (model prog w) A (.builtin nid ⟨.ref C :: rs, []⟩) R ⟨h, g, d, t, os⟩ := by
  have ends := Fn.ends
  have cB : (Value.ref C :: bm).contains (.type Bn) = true := by rw [List.contains_cons, hBx, Bool.or_true]
  have cA : (Value.ref C :: bm).contains (.type "AttributeError") = false := by rw [List.contains_cons, hAx]; rfl
  have cN : (Value.ref C :: bm).contains (.type "NameError") = false := by rw [List.contains_cons, hNx]; rfl
  refine codeAny_builtinAt Fn.entry ?_
  unfold Builtin.«BaseException.__new__»
  refine wpAt_bind ?_
  show wpAt _ _ _ (stack >>= _) _ _ _
  refine wpAt_bind (wpAt_stack fun pp bel => wpAt_of_wpAny ?_)
  wp_walk
  refine wpAt_of_wpAny ?_
  rw [Fn.owner]
  repeat (first | with_reducible refine wpAny_madeHere_exc Fn.canon cC ?_ | with_reducible refine wpAny_loadPart_at cC ?_ | (with_reducible refine wpAny_isSubtype_exc cC ?_; first | rw [cB] | rw [cA] | rw [cN]) | wp_step)
  show R _ _
  rw [Heap.size_push]
  exact z
theorem tcX (Fn : ExcBaseFacts Bn nid iN bmN) (hBx : bm.contains (.type Bn) = true) (hAx : bm.contains (.type "AttributeError") = false) (hNx : bm.contains (.type "NameError") = false) {rs : List Value} {fI : Addr} {Q : Fin → Shared → Prop}
    (cC : h.get? C = some (excClassObj nm q C N bs bm hdct sn sub ab col dd k0 k1 k2 k3 k5 nid))
    (hiI : W.Looks (model prog w) h (typeLookup (.ref C) "__init__") (some (.ref fI))) (hbI : ∀ self, W.Looks (model prog w) h (bindSpecial (.ref fI) self) (.ref fI, [self])) (hrs : rs.length ≤ sizeLine)
    (z : codeAny (model prog w) A (.call (.ref fI) ⟨.ref (h.objs.size + 1) :: rs, []⟩)
      (fun r s' => match r with | .ok (.ret v) => v = .none ∧ Q (.done (.ret (.ref (h.objs.size + 1)))) s' | .ok _ => False | .error e => E e s')
      ⟨(h.push (W.kdv_tup rs)).push (HandSPX.excO C h.objs.size), g, d, t, os⟩) :
    wpAny (model prog w) A (Builtin.«type.__call__» ⟨.ref C :: rs, []⟩) Q E ⟨h, g, d, t, os⟩ := by
  repeat (first | with_reducible refine wpAny_loadPart_at cC ?_ | with_reducible refine wpAny_madeBy_exc cC ?_ | wp_step)
  refine codeAny_call_builtin_code (Code.quiet_builtin _ Fn.quiet) (chkNew Fn hBx cC ?_)
  refine newX Fn hBx hAx hNx cC ?_ hrs
  show wpAny _ _ _ _ _ _
  have kk : ∀ b o, h.get? b = some o → ((h.push (W.kdv_tup rs)).push (HandSPX.excO C h.objs.size)).get? b = some o := fun b o e => Heap.get?_push_of_some _ (Heap.get?_push_of_some _ e)
  have cC1 := kk _ _ cC
  have gg : ((h.push (W.kdv_tup rs)).push (HandSPX.excO C h.objs.size)).get? (h.objs.size + 1) = some (HandSPX.excO C h.objs.size) := by heap_get
  have cCC : (Value.ref C :: bm).contains (.ref C) = true := by simp
  have i2 := hiI.keeps kk
  have b2 := (hbI (.ref (h.objs.size + 1))).keeps kk
  unfold isInstance
  repeat (first | with_reducible refine wpAny_loadPart_at gg ?_ | (with_reducible refine wpAny_isSubtype_exc cC1 ?_; rw [cCC]) | wp_step)
  show wpAny _ _ (typeLookup (.ref C) _) _ _ _
  refine i2.at ?_
  refine wpAny_holding (wpAny_bind (b2.at ?_))
  refine wpAny_bind (wpAny_call (codeAny_mono z fun r s' y => ?_))
  rcases r with e | (v | _ | _ | _) <;> first | exact y | exact y.elim | skip
  obtain ⟨rfl, y⟩ := y
  first
    | exact wpAny_pure (wpAny_pure y)
    | (wp_walk; exact y)
theorem callX (Fn : ExcBaseFacts Bn nid iN bmN) (hBx : bm.contains (.type Bn) = true) (hAx : bm.contains (.type "AttributeError") = false) (hNx : bm.contains (.type "NameError") = false) {rs : List Value} {fI : Addr}
    (cC : h.get? C = some (excClassObj nm q C N bs bm hdct sn sub ab col dd k0 k1 k2 k3 k5 nid))
    (hiI : W.Looks (model prog w) h (typeLookup (.ref C) "__init__") (some (.ref fI))) (hbI : ∀ self, W.Looks (model prog w) h (bindSpecial (.ref fI) self) (.ref fI, [self])) (hrs : rs.length ≤ sizeLine)
    (z : codeAny (model prog w) (A.under (.builtin "type.__call__" ⟨.ref C :: rs, []⟩)) (.call (.ref fI) ⟨.ref (h.objs.size + 1) :: rs, []⟩) (W.InitBack (h.objs.size + 1) R)
      ⟨(h.push (W.kdv_tup rs)).push (HandSPX.excO C h.objs.size), g, d, t, os⟩) :
    codeAny (model prog w) A (.call (.ref C) ⟨rs, []⟩) R ⟨h, g, d, t, os⟩ := by
  have f1 := tc_lookup
  have f2 := tc_bind (.ref C)
  have hTy : (⟨h, g, d, t, os⟩ : Shared).TypeIs (.ref C) "type" := ⟨_, cC, rfl⟩
  refine codeAny_of_tree ?_
  show wpAny _ _ (callAny (.ref C) _) _ _ _
  repeat (any_goals (first | assumption | with_reducible refine wpAny_loadPart_at cC ?_ | wp_step))
  refine ⟨rfl, ?_⟩
  refine codeAny_call_builtin_at (Code.quiet_builtin _ (by decide +kernel)) entry_typeCall (wpAny_check_type_call_sub cC (tcX Fn hBx hAx hNx cC hiI hbI hrs ?_))
  refine codeAny_mono z fun r s' y => ?_
  rcases r with e | (v | _ | _ | _) <;> exact y
end
/-! ### B.__init__, bound by super() -/
structure IniF (B iid : String) : Prop where
  kx : KxsFacts B iid
  kind : builtinKind iid = some .slot
  row : Manifest.signature? iid = some ⟨.positional, "*", B, .self, [⟨"args", .varPos, false⟩]⟩
  star : (B != "*") = true
  plain : plainId iid = true
  entry : entryFor table iid = some Builtin.«BaseException.__init__»
theorem IniF.of {B nid iid : String} (F : ExcCallFacts B nid iid) (k : KxsFacts B iid) : IniF B iid := ⟨k, F.initKind, F.initRow, F.noStar, F.init.plain, F.initEntry⟩
theorem kxs_KeyError : KxsFacts "KeyError" "KeyError.__init__" := ⟨by show builtinType _ = _; rw [builtinType_eq_fast]; kernel_rfl, by first | kernel_rfl | rfl⟩
theorem ini_ValueError : IniF "ValueError" "ValueError.__init__" := .of PySem.F.excCall_ValueError kxs_ValueError
theorem ini_LookupError : IniF "LookupError" "LookupError.__init__" := .of PySem.F.excCall_LookupError kxs_LookupError
theorem ini_IndexError : IniF "IndexError" "IndexError.__init__" := .of PySem.F.excCall_IndexError kxs_IndexError
theorem ini_OverflowError : IniF "OverflowError" "OverflowError.__init__" := .of PySem.F.excCall_OverflowError kxs_OverflowError
theorem ini_RuntimeError : IniF "RuntimeError" "RuntimeError.__init__" := .of PySem.F.excCall_RuntimeError kxs_RuntimeError
theorem ini_ZeroDivisionError : IniF "ZeroDivisionError" "ZeroDivisionError.__init__" := .of PySem.F.excCall_ZeroDivisionError kxs_ZeroDivisionError
theorem ini_KeyError : IniF "KeyError" "KeyError.__init__" := ⟨kxs_KeyError, PyProof.Rows.excClass_KeyError.initKind, by kernel_rfl, by decide +kernel, PyProof.Rows.excClass_KeyError.init.plain, PyProof.Rows.excClass_KeyError.initEntry⟩
section
variable {prog : Program} {w : World} {M : Model} {A : Around} {E : Value → Shared → Prop} {h : Heap} {g : Array GenState} {d : Drawn} {t : Nat} {os : OsState}
variable {nm q : Str} {C N : Addr} {bs bm : List Value} {hdct : Bool} {sn : List Str} {sub : List Value} {ab : Bool} {col : Option Bool} {dd : Option Addr} {k0 k1 k2 k3 k5 : Option Value} {B nid iid : String}
theorem chkBound (F : IniF B iid) {e : Addr} {oe : Obj} {rs : List Value} {Q : Unit → Shared → Prop}
    (cC : h.get? C = some (excClassObj nm q C N bs bm hdct sn sub ab col dd k0 k1 k2 k3 k5 nid)) (he : h.get? e = some oe) (hcl : oe.cls = .ref C) (z : Q () ⟨h, g, d, t, os⟩) :
    wpAny M A (checkBoundCall iid ⟨.ref e :: rs, []⟩) Q E ⟨h, g, d, t, os⟩ := by
  have short := F.star
  simp only [checkBoundCall, F.kind, F.row]
  repeat (first | (with_reducible refine wpAny_loadPart_at he ?_; rw [hcl]) | with_reducible refine wpAny_loadPart_at cC ?_ | wp_step)
  refine wpAny_onRaise ?_
  rw [show ∀ (a b : String) (n : Nat), Bind.check ⟨.positional, "*", B, .self, [⟨"args", .varPos, false⟩]⟩ a b n (List.map (fun y => y.fst) ({ pos := Value.ref e :: rs } : Args).kw) = pure () from
    fun a b n => check_star_args _ _ _ _ _ _]
  exact wpAny_pure z
theorem callBound (F : IniF B iid) {u e t0 : Addr} {rs : List Value} {Q : Value → Shared → Prop}
    (cC : h.get? C = some (excClassObj nm q C N bs bm hdct sn sub ab col dd k0 k1 k2 k3 k5 nid)) (he : h.get? e = some (HandSPX.excO C t0)) (hu : h.get? u = some (kxs_mw iid e)) (hrs : rs.length ≤ sizeLine)
    (z : ∀ h' t1, (∀ b o, b ≠ e → h.get? b = some o → h'.get? b = some o) → h'.get? e = some (HandSPX.excO C t1) → Q .none ⟨h', g, d, t, os⟩) :
    wpAny (model prog w) A (call (.ref u) rs) Q E ⟨h, g, d, t, os⟩ := by
  refine wpAny_call (codeAny_of_tree ?_)
  show wpAny _ A.in1 (callAny (.ref u) ⟨rs, []⟩) _ _ _
  simp only [callAny]
  refine wpAny_bind (wpAny_load hu ?_)
  simp only [kxs_mw, show (Value.type "method-wrapper" == Value.type "method" || Value.type "method-wrapper" == Value.type "builtin_function_or_method" || Value.type "method-wrapper" == Value.type "method-wrapper") = true from by decide, if_true]
  refine W.KFB.if_so (by decide) ?_
  refine wpAny_bind (chkBound F cC he rfl ?_)
  refine wpAny_bind (wpAny_pure (wpAny_pure ?_))
  refine ⟨plainId_quiet F.plain _, codeAny_builtin F.entry ?_⟩
  exact exc_init_tree (cls := .ref C) (t0 := t0) (dv := none) (c2 := .none) (c3 := .none) (b4 := .bool false) he hrs (fun h' kk e1 _ => z h' _ kk e1)
end
end DX

set_option Elab.async false
set_option linter.all false
set_option maxRecDepth 100000
set_option maxHeartbeats 4000000
/-! X2: such an __init__, run. -/
namespace DX
open PySem PySem.W
section
open Builtin Builtin.ObjectAttr
variable {prog : Program} {w : World} {A : Around} {E : Value → Shared → Prop} {R : Result → Shared → Prop} {hp : Heap} {g : Array GenState} {d : Drawn} {t : Nat} {os : OsState}
theorem osaX {K : W.Frag} {fl : Str} {tk : Tok} {v : Value} {x C : Addr} {fv : Array Value} {cd : ClassData}
    (X : K.In hp) (hx : hp.get? x = some { cls := .ref C, data := .fields fv }) (hcd : W.clsIn K C = some cd) (hne : cd.mro.isEmpty = false) (hob : cd.mro.contains (.type "object") = true) (hpass : ∀ self, refuseLoop self "__setattr__" cd.mro = pure ()) (hh : cd.hasDict = true) (hno : W.findIn K (.ref C) fl = some none)
    (z : ∀ h' tk' dx, (∀ b o, b ≠ x → hp.get? b = some o → h'.get? b = some o) → hp.objs.size ≤ dx → dx ≠ x → h'.get? x = some { cls := .ref C, dict := some dx, data := .fields fv } →
      h'.Ns1 dx (fun y => if y = fl then some v else none) → R (.ok (.ret .none)) ⟨h', g, d, tk', os⟩) :
    codeAny (model prog w) A (.call (.builtin "object.__setattr__") ⟨[.ref x, .str fl tk, v], []⟩) R ⟨hp, g, d, t, os⟩ := by
  have I : W.InstAt hp x { cls := .ref C, data := .fields fv } C none := ⟨hx, rfl, rfl, trivial⟩
  have SF := F.store_object
  have xs : x ≠ hp.objs.size := Nat.ne_of_lt (Heap.lt_size hx)
  have sb : W.Looks (model prog w) hp (isInstance (.ref x) (.type "object")) true := I.type.andThen (W.looks_mroIn X (by unfold W.mroIn; rw [hcd, Option.bind_some, if_neg (by rw [hne]; decide), hob]))
  refine codeAny_call_builtin SF.slot.plain SF.entry (@W.check_slot (model prog w) _ _ ⟨hp, g, d, t, os⟩ "object.__setattr__" "object" "__setattr__" (.ref x) [.str fl tk, v] [] _ SF.kind SF.split sb (SF.args (.ref x) (.str fl tk) v) ?_)
  have lm : W.Looks (model prog w) hp (mroOf (.ref C)) cd.mro := (W.looks_clsIn X hcd).andThen .now
  have l3 : W.Looks (model prog w) hp (storeTaker? none) none := .now
  have lc : W.Looks (model prog w) hp (classData C) cd := W.looks_clsIn X hcd
  rw [W.osa_eq, refuse_eq]
  refine wpAny_bind (wpAny_bind (I.type.at (wpAny_bind (lm.at ?_))))
  rw [hpass]
  refine wpAny_pure (wpAny_bind (I.type.at (wpAny_bind ((W.looks_findIn X hno).at (wpAny_bind (l3.at ?_))))))
  show wpAny _ _ (storeInOwnDict (.ref x) (.ref C) (.str fl tk) fl v false) _ _ _
  obtain ⟨nm, bs, mro, ns, qn, hd, sn, sbs, ab, col, del⟩ := cd
  dsimp only at hh
  subst hh
  unfold storeInOwnDict ownDictForStores
  repeat (first | with_reducible refine HandSPX.store_in_new ?_ ?_ | with_reducible refine wpAny_loadPart_at hx ?_ | with_reducible refine lc.at ?_ | wp_step)
  · exact ⟨_, #[], _, (Heap.get?_update_ne _ _ _ _ xs.symm).trans (Heap.get?_push_at rfl rfl), rfl, fun e he => absurd he (by simp), fun _ => rfl⟩
  · intro h' tk' hn' hs
    have hx1 : (hp.push { cls := .type "dict", data := .dict #[] }).get? x = some { cls := .ref C, data := .fields fv } := Heap.get?_push_of_some _ hx
    refine z h' tk' hp.objs.size (fun b o hb ho => ?_) (Nat.le_refl _) xs.symm ?_ hn'
    · exact (hs.2 b (Nat.ne_of_lt (Heap.lt_size ho))).trans ((Heap.get?_update_ne _ _ _ _ hb).trans (Heap.get?_push_of_some _ ho))
    · exact (hs.2 x xs).trans (Heap.get?_update_self _ hx1 rfl)
end
/-- the text of such an __init__ -/
def ibody (msg f y : Str) (j : Nat) (p0 p1 p2 p3 p4 p5 p6 p7 p8 p9 : Pos) : List Stmt :=
  [.Expr (.Call (.Attribute (.Call (.Name "super" p0) [] [] p1) "__init__" p2) [.Constant (.str msg) j p3] [] p4) p5,
   .Assign [.Attribute (.Name "self" p6) f p7] (.Name y p8) p9]
def iscope (y : Str) : Scope := { kind := .function, names := [("self", .local), (y, .local), ("__class__", .free), ("super", .globalImplicit)], isGenerator := false, isCoroutine := false, more := [] }
def iparams (y : Str) (a0 a1 : Pos) : Arguments := { posonlyargs := [], args := [{ arg := "self", annotation := none, pos := a0 }, { arg := y, annotation := none, pos := a1 }], vararg := none, kwonlyargs := [], kw_defaults := [], kwarg := none, defaults := [] }
abbrev ifn (qual msg f y : Str) (j : Nat) (p0 p1 p2 p3 p4 p5 p6 p7 p8 p9 a0 a1 : Pos) (kV doc pm : Value) (an : Option Addr) (cda : Addr) (ct : Value) (cc : Addr) : FuncData :=
  ksFn "__init__" qual (iparams y a0 a1) (ibody msg f y j p0 p1 p2 p3 p4 p5 p6 p7 p8 p9) (iscope y) .none kV doc pm an (.ref cda) ct cc
/-- a name that may be the parameter's -/
def okY (y : Str) : Bool := y != "self" && y != "__class__" && y != "super" && y != "__debug__"
section
variable {prog : Program} {w : World} {A : Around} {R : Result → Shared → Prop} {hp base : Heap} {g : Array GenState} {d : Drawn} {t : Nat} {os : OsState} {K : Frag} {mg : Str → Option Value}
variable {nm q : Str} {C N fI cda cc e t0 : Addr} {bs bm : List Value} {sn : List Str} {sub : List Value} {ab : Bool} {col : Option Bool} {dd : Option Addr} {k0 k1 k2 k3 k5 : Option Value} {B nid iid : String}
variable {qual msg f y : Str} {j : Nat} {p0 p1 p2 p3 p4 p5 p6 p7 p8 p9 a0 a1 : Pos} {kV doc pm ct oc : Value} {an od : Option Addr} {osl : Array (Option Value)} {vs : Array Value} {file : Str} {tf : Tok} {ccl cl : Value} {cdd cld : Option Addr} {ccs csl : Array (Option Value)} {u : Value}
theorem he_super {o : Expr} {name : Str} {apos pos : Pos} {msg : Str} {j : Nat} {p3 : Pos} {env : PySem.Env} (hl : (apos.endLine == pos.line) = true) :
    eval (.Call (.Attribute o name apos) [.Constant (.str msg) j p3] [] pos) env = (do
      let ov ← attributeBase o name env (eval o env)
      standAt apos.atName
      let (f, first) ← holding [ov] (getMethod ov name (do return (← importBound o env).getD true))
      callWith pos f first (backTo pos (starEach [.Constant (.str msg) j p3] env)) []) := by
  have hpos : methodCallPos true o env apos pos = pure pos := by unfold methodCallPos; simp [hl]
  show (do
      let ov ← attributeBase o name env (eval o env)
      standAt apos.atName
      methodCall o name apos pos env ov 1 (backTo pos (starEach [.Constant (.str msg) j p3] env)) []) = _
  have hf : methodCallForm 1 (backTo pos (starEach [.Constant (.str msg) j p3] env)) [] = true := by rfl
  unfold methodCall calleeOf
  simp only [hf, hpos, if_true, pure_bind]
theorem init_run (X : K.In hp) (hb : base.StaysIn hp) (Md : L2.Mod K mg base) (hroom : A.depth < recursionLimit) (F : IniF B iid) (hbd : ∀ (e : Addr) (u : Value), bindArgs (ifn qual msg f y j p0 p1 p2 p3 p4 p5 p6 p7 p8 p9 a0 a1 kV doc pm an cda ct cc) ⟨[.ref e, u], []⟩ = pure ([(("self" : Str), Value.ref e), (y, u)] : List (Str × Value))) (hln : (p2.endLine == p4.line) = true) (hy : okY y = true)
    (lk : K.lookup fI = some ⟨oc, od, .func (ifn qual msg f y j p0 p1 p2 p3 p4 p5 p6 p7 p8 p9 a0 a1 kV doc pm an cda ct cc), osl⟩) (hcd : codeIn K (.ref cda) qual = true)
    (hcode : K.lookup cda = some ⟨ccl, cdd, .fields vs, ccs⟩) (hvs : vs[2]? = some (.str file tf)) (hfile : ((prog.main.file : Str) == file) = true) (htop : (prog.main.scope.names.lookup ("super" : Str)).isSome = false)
    (hcell : K.lookup cc = some ⟨cl, cld, .cell (some (.ref C)), csl⟩) (hC : K.lookup C = some (excClassObj nm q C N bs bm true sn sub ab col dd k0 k1 k2 k3 k5 nid))
    (hsuper : mg "super" = none) (hno : nsIn K cStatics "thirdparty.any" = some none) (hm : ks_superIn K C C "__init__" = some (some (.builtin iid))) (hB : subIn K (.ref C) (.type B) = some true)
    (hob : bm.contains (.type "object") = true) (hpass : ∀ self, refuseLoop self "__setattr__" bm = pure ()) (hsa : findIn K (.ref C) "__setattr__" = some (some (.builtin "object.__setattr__"))) (hff : findIn K (.ref C) f = some none)
    (he : hp.get? e = some (HandSPX.excO C t0)) (heb : base.get? e = none)
    (z : ∀ h' tk' dx t1, (∀ b o, b ≠ e → hp.get? b = some o → h'.get? b = some o) → hp.objs.size ≤ dx → dx ≠ e → h'.get? e = some { cls := .ref C, dict := some dx, data := .fields #[.ref t1, .none, .none, .none, .bool false, .none] } →
      h'.Ns1 dx (fun y => if y = f then some u else none) → R (.ok (.ret .none)) ⟨h', g, d, tk', os⟩) :
    codeAny (model prog w) A (.call (.ref fI) ⟨[.ref e, u], []⟩) R ⟨hp, g, d, t, os⟩ := by
  unfold okY at hy
  simp only [Bool.and_eq_true, bne_iff_ne, ne_eq] at hy
  obtain ⟨⟨⟨y1, y2⟩, y3⟩, y4⟩ := hy
  have hcl : clsIn K C = some { name := nm, bases := bs, mro := .ref C :: bm, ns := N, qualname := q, hasDict := true, slotNames := sn, subclasses := sub, abstract := ab, collection := col, hasDel := false } := by unfold clsIn; rw [hC] <;> rfl
  have hsub : mroIn K C (.ref C) = some true := by
    unfold mroIn
    rw [hcl, Option.bind_some, if_neg (by simp)]
    simp
  refine ks_codeAny_call_defAt (fd := ifn qual msg f y j p0 p1 p2 p3 p4 p5 p6 p7 p8 p9 a0 a1 kV doc pm an cda ct cc) (body := ibody msg f y j p0 p1 p2 p3 p4 p5 p6 p7 p8 p9) (binds := ([(("self" : Str), Value.ref e), (y, u)] : List (Str × Value))) hroom (X _ _ lk) rfl (Md.nolimit.keeps hb) (codeRec_of X hcd) rfl (BindsTo.of_eq (hbd e u)) ?_ ?_ (fun h1 hns hk1 => ?_) rfl rfl rfl
  · intro x hx
    simp only [iscope, List.mem_cons, List.not_mem_nil, or_false] at hx
    rcases hx with rfl | rfl | rfl | rfl <;> (intro h; cases h)
  · intro x hx
    simp only [List.mem_cons, List.not_mem_nil, or_false] at hx
    rcases hx with rfl | rfl
    · rfl
    · show List.lookup y [(("self" : Str), NameKind.local), (y, .local), ("__class__", .free), ("super", .globalImplicit)] = _
      have e1 : (y == ("self" : Str)) = false := by simpa using y1
      simp [List.lookup, e1]
  have ky : (callEnv (ifn qual msg f y j p0 p1 p2 p3 p4 p5 p6 p7 p8 p9 a0 a1 kV doc pm an cda ct cc) hp.objs.size fI).kindOf y = some .local := by
    show List.lookup y [(("self" : Str), NameKind.local), (y, .local), ("__class__", .free), ("super", .globalImplicit)] = _
    have e1 : (y == ("self" : Str)) = false := by simpa using y1
    simp [List.lookup, e1]
  have n1 : (("__class__" : Str) == y) = false := by simpa using fun h : ("__class__" : Str) = y => y2 h.symm
  have n3 : (("super" : Str) == y) = false := by simpa using fun h : ("super" : Str) = y => y3 h.symm
  have kc : (callEnv (ifn qual msg f y j p0 p1 p2 p3 p4 p5 p6 p7 p8 p9 a0 a1 kV doc pm an cda ct cc) hp.objs.size fI).kindOf "__class__" = some .free := by
    show List.lookup ("__class__" : Str) [(("self" : Str), NameKind.local), (y, .local), ("__class__", .free), ("super", .globalImplicit)] = _
    have e0 : (("__class__" : Str) == ("self" : Str)) = false := by decide
    simp [List.lookup, e0, n1]
  have ks : (callEnv (ifn qual msg f y j p0 p1 p2 p3 p4 p5 p6 p7 p8 p9 a0 a1 kV doc pm an cda ct cc) hp.objs.size fI).kindOf "super" = some .globalImplicit := by
    show List.lookup ("super" : Str) [(("self" : Str), NameKind.local), (y, .local), ("__class__", .free), ("super", .globalImplicit)] = _
    have e0 : (("super" : Str) == ("self" : Str)) = false := by decide
    have e2 : (("super" : Str) == ("__class__" : Str)) = false := by decide
    simp [List.lookup, e0, n3, e2]
  have m0 : (fun x => List.lookup x (([(("self" : Str), Value.ref e), (y, u)] : List (Str × Value)).reverse)) "self" = some (.ref e) := by
    show List.lookup ("self" : Str) ([(y, u), (("self" : Str), Value.ref e)] : List (Str × Value)) = _
    have e1 : (("self" : Str) == y) = false := by simpa using fun h : ("self" : Str) = y => y1 h.symm
    simp [List.lookup, e1]
  have m1 : (fun x => List.lookup x (([(("self" : Str), Value.ref e), (y, u)] : List (Str × Value)).reverse)) y = some u := by
    show List.lookup y ([(y, u), (("self" : Str), Value.ref e)] : List (Str × Value)) = _
    simp [List.lookup]
  have X1 : K.In h1 := X.keeps hk1
  have b1 : base.StaysIn h1 := fun b o q => hk1 _ _ (hb _ _ q)
  have e1 := hk1 _ _ he
  have I1 : InstAt h1 e (HandSPX.excO C t0) C none := ⟨e1, rfl, rfl, trivial⟩
  have eC : e ≠ C := ks_ne X1 I1 hcl
  have elt : e < hp.objs.size := Heap.lt_size he
  refine ks_wpAt_execs_cons (ks_wpAt_Expr_any (ks_wpAt_MethodCall ?_ (he_super hln)) rfl rfl)
  obtain ⟨mb, hmb, hmb2⟩ := Md.blt
  refine ks_wpAt_super_base ks kc rfl rfl (X1 _ _ lk) rfl rfl rfl (X1 _ _ hcode) rfl hvs hfile htop ?_
  refine ks_loadName_global rfl ks (Calls.loadGlobal_builtin (Md.glob.keeps b1) hsuper (hmb.keeps b1) ((hmb2 _ (by decide)).trans (by decide +kernel)) ⟨rfl, ?_⟩)
  refine wpAny_loadName_free rfl kc rfl ⟨_, X1 _ _ hcell, rfl⟩ ?_
  refine wpAny_loadName_local rfl rfl hns m0 ?_
  refine ks_wpAny_isType_cls (X1 _ _ hC) rfl ⟨rfl, ?_⟩
  refine ks_wpAny_call_super (X1 _ _ hC) rfl e1 rfl (fun c q => by cases q) (looks_mroIn X1 hsub) (fun h2 so2 hk2 => ?_)
  have X2 : K.In h2 := X1.keeps hk2
  have hm' := hm
  unfold ks_superIn at hm'
  rw [hcl] at hm'
  have I2 : InstAt h2 e (HandSPX.excO C t0) C none := ⟨hk2 _ _ e1, rfl, rfl, trivial⟩
  refine kxs_getMethod F.kx so2 (looks_opaque X2 hno) (l₀ := .ref C :: bm) (fun A Q E s k q => wpAny_bind ((looks_clsIn X2 hcl) A _ E s k (wpAny_pure q))) rfl X2 hm' (I2.type.andThen (looks_subIn X2 hB)) eC (by decide) ?_
  dsimp only
  have u3 : (h2.push (kxs_mw iid e)).get? h2.objs.size = some (kxs_mw iid e) := Heap.get?_push_at rfl rfl
  have hk3 : ∀ b o, h2.get? b = some o → (h2.push (kxs_mw iid e)).get? b = some o := fun b o q => Heap.get?_push_of_some _ q
  refine kxs_callWith (i := iid) (x := e) rfl (Calls.evalArgs_plain (Calls.spliced_cons (Calls.Constant_str (k := j) (pos := p3) (Calls.spliced_nil ⟨u3, ?_⟩))))
  refine callBound F (X2.keeps hk3 _ _ hC) (hk3 _ _ (hk2 _ _ e1)) u3 (by show 1 ≤ sizeLine; rw [sizeLine_eq]; omega) (fun h4 t1 hk4 e4 => ?_)
  have kk : ∀ b o, b ≠ e → h1.get? b = some o → h4.get? b = some o := fun b o n q => hk4 _ _ n (hk3 _ _ (hk2 _ _ q))
  have X4 : K.In h4 := fun b o q => kk b o (fun z => by
    have q1 := Md.kin _ _ q
    rw [z, heb] at q1
    cases q1) (X1 _ _ q)
  have ns4 : h4.Ns hp.objs.size (fun x => List.lookup x (([(("self" : Str), Value.ref e), (y, u)] : List (Str × Value)).reverse)) := by
    obtain ⟨o, es, ep, q1, r⟩ := hns
    exact ⟨o, es, ep, kk _ _ (Nat.ne_of_gt elt) q1, r⟩
  refine ks_wpAt_execs_cons (ks_wpAt_Assign_Attr ?_ rfl)
  refine wpAt_of_wpAny (wpAny_Name ?_ (by simpa using y4))
  refine wpAny_loadName_local (m := fun x => List.lookup x (([(("self" : Str), Value.ref e), (y, u)] : List (Str × Value)).reverse)) rfl ky ns4 m1 ?_
  refine wpAny_Name ?_ (by decide)
  refine wpAny_loadName_local (m := fun x => List.lookup x (([(("self" : Str), Value.ref e), (y, u)] : List (Str × Value)).reverse)) rfl rfl ns4 m0 ?_
  refine set_plain X4 (ox := HandSPX.excO C t1) (od := none) ⟨e4, rfl, rfl, trivial⟩ hsa ?_
  refine osaX X4 e4 hcl rfl ?_ ?_ rfl hff (fun h5 tk5 dx hk5 l5 n5 e5 ns5 => ?_)
  · show (Value.ref C :: bm).contains (.type "object") = true
    rw [List.contains_cons, hob, Bool.or_true]
  · intro self
    show refuseLoop self "__setattr__" (.ref C :: bm) = _
    rw [refuseLoop_ref]
    exact hpass self
  · refine wpAt_of_wpAny (wpAny_pure ?_)
    exact z h5 _ dx t1 (fun b o n q => hk5 _ _ n (kk _ _ n (hk1 _ _ q))) (Nat.le_trans (by obtain ⟨o, es, ep, q1, r⟩ := ns4; exact Nat.le_of_lt (Heap.lt_size q1)) l5) n5 e5 ns5
end
end DX

set_option Elab.async false
set_option linter.all false
set_option maxRecDepth 100000
set_option maxHeartbeats 4000000
/-! X3: such an exception as a value: made, raised, read, asked for its class. -/
namespace DX
open PySem PySem.W
/-- C(u), C's own __init__ keeping u in the field f -/
def MakesX (P : Program) (w : World) (K : Frag) (mg : Str → Option Value) (base : Heap) (C : Addr) (f : Str) : Prop :=
  ∀ (A : Around) (hp : Heap) (g : Array GenState) (d : Drawn) (t : Nat) (os : OsState) (u : Value) (R : Result → Shared → Prop), base.StaysIn hp → base.objs.size ≤ hp.objs.size → L2.Mod K mg base → A.depth + 2 < recursionLimit →
    (∀ (h' : Heap) (tk' : Nat) (e dx t1 : Addr), (∀ b o, hp.get? b = some o → h'.get? b = some o) → hp.objs.size ≤ e → hp.objs.size ≤ dx → dx ≠ e →
      h'.get? e = some { cls := .ref C, dict := some dx, data := .fields #[.ref t1, .none, .none, .none, .bool false, .none] } → h'.Ns1 dx (fun y => if y = f then some u else none) → R (.ok (.ret (.ref e))) ⟨h', g, d, tk', os⟩) →
    codeAny (model P w) A (.call (.ref C) ⟨[u], []⟩) R ⟨hp, g, d, t, os⟩
section
variable {prog : Program} {w : World} {base : Heap} {K : Frag} {mg : Str → Option Value}
variable {nm q : Str} {C N fI cda cc : Addr} {bs bm bmN : List Value} {sn : List Str} {sub : List Value} {ab : Bool} {col : Option Bool} {dd : Option Addr} {k0 k1 k2 k3 k5 : Option Value} {B nid iid Bn iN : String}
variable {qual msg f y : Str} {j : Nat} {p0 p1 p2 p3 p4 p5 p6 p7 p8 p9 a0 a1 : Pos} {kV doc pm ct oc : Value} {an od : Option Addr} {osl : Array (Option Value)} {vs : Array Value} {file : Str} {tf : Tok} {ccl cl : Value} {cdd cld : Option Addr} {ccs csl : Array (Option Value)}
theorem makesX (Fn : ExcBaseFacts Bn nid iN bmN) (hBx : bm.contains (.type Bn) = true) (hAx : bm.contains (.type "AttributeError") = false) (hNx : bm.contains (.type "NameError") = false) (F : IniF B iid)
    (hbd : ∀ (e : Addr) (u : Value), bindArgs (ifn qual msg f y j p0 p1 p2 p3 p4 p5 p6 p7 p8 p9 a0 a1 kV doc pm an cda ct cc) ⟨[.ref e, u], []⟩ = pure ([(("self" : Str), Value.ref e), (y, u)] : List (Str × Value))) (hln : (p2.endLine == p4.line) = true) (hy : okY y = true)
    (hob : bm.contains (.type "object") = true) (hpass : ∀ self, refuseLoop self "__setattr__" bm = pure ()) (hfile : ((prog.main.file : Str) == file) = true) (htop : (prog.main.scope.names.lookup ("super" : Str)).isSome = false) (hvs : vs[2]? = some (.str file tf))
    (iC : findIn K (.ref C) "__init__" = some (some (.ref fI))) (tI : typeIn K (.ref fI) = some (.type "function"))
    (lk : K.lookup fI = some ⟨oc, od, .func (ifn qual msg f y j p0 p1 p2 p3 p4 p5 p6 p7 p8 p9 a0 a1 kV doc pm an cda ct cc), osl⟩) (hcd : codeIn K (.ref cda) qual = true)
    (hcode : K.lookup cda = some ⟨ccl, cdd, .fields vs, ccs⟩)
    (hcell : K.lookup cc = some ⟨cl, cld, .cell (some (.ref C)), csl⟩) (hC : K.lookup C = some (excClassObj nm q C N bs bm true sn sub ab col dd k0 k1 k2 k3 k5 nid))
    (hsuper : mg "super" = none) (hno : nsIn K cStatics "thirdparty.any" = some none) (hm : ks_superIn K C C "__init__" = some (some (.builtin iid))) (hB : subIn K (.ref C) (.type B) = some true)
    (hsa : findIn K (.ref C) "__setattr__" = some (some (.builtin "object.__setattr__"))) (hff : findIn K (.ref C) f = some none) : MakesX prog w K mg base C f := by
  intro A hp g d t os u R hb hbs Md hroom z
  have X : K.In hp := Md.kin.keeps hb
  refine callX Fn hBx hAx hNx (X _ _ hC) (looks_findIn X iC) (fun self => bind_fn X self tI) (by show 1 ≤ sizeLine; rw [sizeLine_eq]; omega) ?_
  have kk : ∀ b o, hp.get? b = some o → ((hp.push (kdv_tup [u])).push (HandSPX.excO C hp.objs.size)).get? b = some o := fun b o e => Heap.get?_push_of_some _ (Heap.get?_push_of_some _ e)
  have gg : ((hp.push (kdv_tup [u])).push (HandSPX.excO C hp.objs.size)).get? (hp.objs.size + 1) = some (HandSPX.excO C hp.objs.size) := by heap_get
  have sz : hp.objs.size ≤ ((hp.push (kdv_tup [u])).push (HandSPX.excO C hp.objs.size)).objs.size := by simp only [Heap.size_push]; omega
  refine init_run (e := hp.objs.size + 1) (base := base) (X.keeps kk) (fun b o q => kk _ _ (hb _ _ q)) Md (by rw [L2.make_depth]; omega) F hbd hln hy lk hcd hcode hvs hfile htop hcell hC hsuper hno hm hB hob hpass hsa hff gg ?_ (fun h' tk' dx t1 hk l n e5 n5 => ⟨rfl, ?_⟩)
  · cases q : base.get? (hp.objs.size + 1) with
    | none => rfl
    | some o => exact absurd (Nat.lt_of_lt_of_le (Heap.lt_size q) hbs) (Nat.not_lt_of_le (Nat.le_succ _))
  · exact z h' tk' (hp.objs.size + 1) dx t1 (fun b o q => hk _ _ (Nat.ne_of_lt (Nat.lt_succ_of_lt (Heap.lt_size q))) (kk _ _ q)) (Nat.le_succ _) (Nat.le_trans sz l) n e5 n5
end
end DX
namespace L2
open PySem PySem.Spec PyProof.Rows
section
variable {X : Cx} {pins : List (Addr × Obj)} {σ : St} {H : Hp} {s : Shared}
/-- an exception with its dict laid and tracked -/
theorem Inv.laidX {h' : Heap} {e dx C : Addr} {t1 : Addr} {f : Str} {v : V} {u : Value} {tk : Nat} (I : Inv X pins σ H s) (k : ∀ b o, s.heap.get? b = some o → h'.get? b = some o) (he : s.heap.objs.size ≤ e) (hd : s.heap.objs.size ≤ dx) (ne : dx ≠ e)
    (oe : h'.get? e = some ({ cls := .ref C, dict := some dx, data := .fields #[.ref t1, .none, .none, .none, .bool false, .none] } : Obj)) (hn : h'.Ns1 dx (fun y => if y = f then some u else none)) (r : RelV v u) :
    Inv X pins σ (upd (upd H dx (exd dx [(f, v)])) e (exo e C (some dx))) { s with heap := h', toks := tk } := by
  have nH : H e = none := I.hok.fresh he
  have nD : H dx = none := I.hok.fresh hd
  have ae : ∀ {b : Addr} {o : Obj}, s.heap.get? b = some o → b ≠ e := fun {b o} q => Nat.ne_of_lt (Nat.lt_of_lt_of_le (Heap.lt_size q) he)
  have ad : ∀ {b : Addr} {o : Obj}, s.heap.get? b = some o → b ≠ dx := fun {b o} q => Nat.ne_of_lt (Nat.lt_of_lt_of_le (Heap.lt_size q) hd)
  have Un1 : Un X.fs [] H (upd (upd H dx (exd dx [(f, v)])) e (exo e C (some dx))) s.heap h' := {
    keep := fun b o q _ _ _ => k b o q
    slot := fun b o q _ _ _ => ⟨o.slots, k b o q⟩
    free := fun b o q n _ => by rw [upd_ne (ae q), upd_ne (ad q)]; exact n
    there := fun b o q _ => ⟨o, k b o q⟩
    tups := fun b xs q => by rw [upd_ne (ne_of_none q nH), upd_ne (ne_of_none q nD)]; exact q
    frzs := fun b o v q => by rw [upd_ne (ne_of_none q nH), upd_ne (ne_of_none q nD)]; exact q
    tbls := fun b ps q => ⟨#[], by rw [upd_ne (ne_of_none q nH), upd_ne (ne_of_none q nD), q]; simp⟩ }
  refine I.un (t' := tk) Un1 fun b o q => ?_
  by_cases hb : b = e
  · subst hb
    rw [upd_same] at q
    cases q
    exact exo_ok oe
  · rw [upd_ne hb] at q
    by_cases hd : b = dx
    · subst hd
      rw [upd_same] at q
      cases q
      exact exd_ok hn (relO_put (fs := []) r fun g => True.intro)
    · rw [upd_ne hd] at q
      exact (I.hok b o q).stay (fun c v _ y => k c v y) (fun c hc => by rw [upd_ne (ne_of_none hc nH), upd_ne (ne_of_none hc nD)]; exact hc) (fun c xs hc => by rw [upd_ne (ne_of_none hc nH), upd_ne (ne_of_none hc nD)]; exact hc)
end
section
variable {X : Cx} {C : Addr} {f x : Str} {e : Expr} {ta : TE} {p pos : Pos}
def tKeep (C : Addr) (f : Str) (ta : TE) : TE := fun σ H Q => ta σ H fun v H1 => ∀ a dx, H1 a = none → H1 dx = none → dx ≠ a → Q (.ref a) (upd (upd H1 dx (exd dx [(f, v)])) a (exo a C (some dx)))
theorem pe_keep (Mx : DX.MakesX X.prog X.w X.K X.mg X.base C f) (hr : X.A.depth + 2 < recursionLimit) (kC : PySem.W.keepIn X.K (.ref C) = true) (gC : X.mg x = some (.ref C)) (hg : Gl X x)
    (he : PE X e ta) (hs : starEach [e] X.env = (false, eval e X.env) :: starEach [] X.env) (hdb : (x == ("__debug__" : Str)) = false) : PE X (.Call (.Name x p) [e] [] pos) (tKeep C f ta) := by
  refine ⟨fun pins s σ H Q I h => ?_⟩
  refine wpAny_Call_Name_kw (ld_glob I hg gC ?_ hdb)
  refine PySem.W.callWith_K (h₀ := X.base) I.ok.mod.kin kC ?_ hs (by rfl)
  rw [hs]
  show wpAny _ _ (spliced ((false, eval e X.env) :: backTo pos (starEach [] X.env))) _ _ s
  refine Calls.spliced_cons (thn (he.run pins s σ H _ I h) fun u s1 ⟨v, H1, I1, r1, q1⟩ => ?_)
  refine Calls.spliced_nil ⟨I1.kIn, ?_⟩
  obtain ⟨hp, g, d, tk, os⟩ := s1
  refine wpAny_call (Mx _ hp g d tk os u _ I1.bk (Nat.le_trans I1.ok.bsz I1.sz) I1.ok.mod hr fun h' tk' a dx t1 k la ld ne oe hn => ?_)
  exact ⟨.ref a, _, I1.laidX (tk := tk') k la ld ne oe hn r1, rfl, q1 a dx (I1.hok.fresh la) (I1.hok.fresh ld) ne⟩
/-- .. to be raised -/
theorem pmk_keep (Mx : DX.MakesX X.prog X.w X.K X.mg X.base C f) (hr : X.A.depth + 2 < recursionLimit) (kC : PySem.W.keepIn X.K (.ref C) = true) (gC : X.mg x = some (.ref C)) (hR : Raises X (.ref C)) (hg : Gl X x)
    (he : PE X e ta) (hs : starEach [e] X.env = (false, eval e X.env) :: starEach [] X.env) (hdb : (x == ("__debug__" : Str)) = false) :
    PMk X (.Call (.Name x p) [e] [] pos) (fun σ H Q => ta σ H fun _ H1 => ∀ d, Q (.ref C) d H1) := by
  intro pins s σ H Q I h
  refine wpAny_Call_Name_kw (ld_glob I hg gC ?_ hdb)
  refine PySem.W.callWith_K (h₀ := X.base) I.ok.mod.kin kC ?_ hs (by rfl)
  rw [hs]
  show wpAny _ _ (spliced ((false, eval e X.env) :: backTo pos (starEach [] X.env))) _ _ s
  refine Calls.spliced_cons (thn (he.run pins s σ H _ I h) fun u s1 ⟨v, H1, I1, r1, q1⟩ => ?_)
  refine Calls.spliced_nil ⟨I1.kIn, ?_⟩
  obtain ⟨hp, g, d, tk, os⟩ := s1
  refine wpAny_call (Mx _ hp g d tk os u _ I1.bk (Nat.le_trans I1.ok.bsz I1.sz) I1.ok.mod hr fun h' tk' a dx t1 k la ld ne oe hn => ?_)
  obtain ⟨G, g1, g2⟩ := restrict h' fun b => decide (b ≠ a)
  have gk : ∀ b o, b ≠ a → h'.get? b = some o → G.get? b = some o := fun b o hb q => by rw [g1 b (decide_eq_true hb)]; exact q
  have ga : G.get? a = none := g2 a (by simp)
  have J : Inv X pins σ H1 ⟨G, g, d, tk, os⟩ := I1.kept (t' := tk) fun b o q => gk b o (Nat.ne_of_lt (Nat.lt_of_lt_of_le (Heap.lt_size q) la)) (k b o q)
  refine ⟨a, _, _, ⟨G, g, d, tk, os⟩, H1, .ref C, some dx, rfl, J, fun b o q => ?_, ga, oe, ⟨rfl, rfl⟩, rfl, rfl, I1.hok.fresh la, rfl, I1.bare, hR, q1 _⟩
  by_cases hb : b = a
  · rw [hb, ga] at q; cases q
  · rw [← g1 b (decide_eq_true hb)]; exact q
/-- its field -/
theorem pe_fldX {n : Str} (he : PE X e ta) (hb : attributeBase e n X.env (eval e X.env) = eval e X.env) :
    PE X (.Attribute e n pos) (fun σ H Q => ta σ H fun x H1 => ∃ (a C dx : Addr) (fs : List (Str × V)) (v : V), x = .ref a ∧ XfC X.K C ∧ PySem.W.findIn X.K (.ref C) n = some none ∧ H1 a = some (exo a C (some dx)) ∧ H1 dx = some (exd dx fs) ∧ fs.lookup n = some v ∧ Q v H1) := by
  refine ⟨fun pins s σ H Q I h => ?_⟩
  refine attr_of hb (thn (he.run pins s σ H _ I h) fun u s1 hh => ?_)
  obtain ⟨x, H1, I1, rx, a, C, dx, fs, v, ex, T, hno, ha, hd, l, q⟩ := hh
  subst ex
  obtain rfl : u = Value.ref a := rx
  obtain ⟨t1, oe⟩ := exo_at I1.hok ha
  obtain ⟨mA, hns, hr⟩ := exd_at I1.hok hd
  obtain ⟨od, ho, hl⟩ := lookIn_ns hns
  obtain ⟨u, hu, ru⟩ := RelO.some_of (v := v) (o := mA n) (by rw [← l]; exact hr n)
  have J : PySem.W.InstAt s1.heap a _ C (some od) := ⟨oe, rfl, rfl, ho⟩
  exact HandSPX.exc_get I1.kIn J T.ga T.gg T.exC (PySem.W.findObj_own T.hdC hno rfl (by rw [hl, hu])) (handed_of ru) ⟨v, H1, I1.tok _, ru, q⟩
/-- isinstance(x, c), x an exception as a value -/
def rIsX (K : PySem.W.Frag) : List V → Hp → VK → Prop := fun xs H Q => ∃ (a D : Addr) (c : V) (cv : Value) (b : Bool), xs = [.ref a, c] ∧ ExcC K D ∧ (H a = some (ExO (.ref D) a) ∨ ∃ dx fs, H a = some (exo a D (some dx)) ∧ H dx = some (exd dx fs)) ∧ ClsV c cv ∧ PySem.W.kitOne K (.ref D) cv = some b ∧ Q (.bl b) H
theorem call_isX : CallR X (.builtin "isinstance") (rIsX X.K) := by
  intro pins s σ H xs us Q I r h
  obtain ⟨a, D, c, cv, b, rfl, Ec, ha, kc, e, q⟩ := h
  obtain ⟨u1, u2, rfl, r1, r2⟩ := vals2 r
  cases (show u1 = Value.ref a from r1)
  have e2 := kc.eq r2
  subst e2
  have hcl : (PySem.W.clsIn X.K D).isSome = true := by obtain ⟨cd, hc, _⟩ := PySem.W.any_some Ec.hd; rw [hc]; rfl
  rcases ha with ha | ⟨dx, fs, ha, hd⟩
  · obtain ⟨⟨oe, vs, ho, hz, hd, _⟩, _, _⟩ := I.hok a _ ha
    have J : PySem.W.InstAt s.heap a oe D none := by
      obtain ⟨oc, od, oda, osl⟩ := oe
      obtain ⟨h1, h2⟩ := hz
      dsimp only at h1 h2 hd
      subst h1 h2 hd
      exact ⟨ho, rfl, rfl, trivial⟩
    exact PySem.W.kia_one (PySem.W.kitx_exc hcl Ec.hg Ec.hk Ec.hs Ec.ha Ec.hn Ec.ht Ec.hm) I.kIn J e (fun z => nomatch z) fun tk => ⟨.bl b, H, I.kept (t' := tk) fun _ _ z => z, rfl, q⟩
  · obtain ⟨t1, oe⟩ := exo_at I.hok ha
    obtain ⟨mA, hns, hr⟩ := exd_at I.hok hd
    obtain ⟨od, ho, hl⟩ := lookIn_ns hns
    have J : PySem.W.InstAt s.heap a _ D (some od) := ⟨oe, rfl, rfl, ho⟩
    exact PySem.W.kia_one (PySem.W.kitx_exc hcl Ec.hg Ec.hk Ec.hs Ec.ha Ec.hn Ec.ht Ec.hm) I.kIn J e (fun z => nomatch z) fun tk => ⟨.bl b, H, I.kept (t' := tk) fun _ _ z => z, rfl, q⟩
end
end L2

set_option Elab.async false
set_option linter.all false
set_option maxRecDepth 100000
set_option maxHeartbeats 4000000
/-! TryX: several except clauses, one of which may name three classes. -/
namespace L2
open PySem PySem.Spec PyProof.Rows
/-- what the clauses wish of an exception of the body, one after the other -/
def wManyX (K : PySem.W.Frag) (Wo : WX) (D : Ends) : List (List Value × (Addr → Value → Option Addr → TS)) → WX
  | [] => Wo
  | ([c], ts) :: r => fun cl d σ H => ∃ b, PySem.W.exmOne K cl c = some b ∧ (b = true → ∀ a, H a = none → ts a cl d D σ H) ∧ (b = false → wManyX K Wo D r cl d σ H)
  | (cs, ts) :: _ => fun cl d σ H => PySem.W.exmAny K cl cs = some true ∧ ∀ a, H a = none → ts a cl d D σ H
inductive HdsX (X : Cx) : List ExceptHandler → List (List Value × (Addr → Value → Option Addr → TS)) → Prop
  | nil : HdsX X [] []
  | cons {x : Str} {c : Value} {ts : Addr → Value → Option Addr → TS} {b₀ : Stmt} {sui : List Stmt} {np pos' : Pos} {hds : List ExceptHandler} {l : List (List Value × (Addr → Value → Option Addr → TS))} (hc : Names X x c)
      (hsi : ∀ (a : Addr) (oe : Obj) (cl : Value) (d : Option Addr) (pn : List (Addr × Obj)), Zc cl d oe → (∃ vs, oe.data = .fields vs) → PSs (X.suite a ((a, oe) :: pn)) (b₀ :: sui) (ts a cl d)) (r : HdsX X hds l) :
      HdsX X (.ExceptHandler (some (.Name x np)) none (b₀ :: sui) pos' :: hds) (([c], ts) :: l)
  | tup {x1 x2 x3 : Str} {c1 c2 c3 : Value} {ts : Addr → Value → Option Addr → TS} {b₀ : Stmt} {sui : List Stmt} {n1 n2 n3 np pos' : Pos} {k : Nat} {hds : List ExceptHandler} {l : List (List Value × (Addr → Value → Option Addr → TS))} (h1 : Names X x1 c1) (h2 : Names X x2 c2) (h3 : Names X x3 c3)
      (hsi : ∀ (a : Addr) (oe : Obj) (cl : Value) (d : Option Addr) (pn : List (Addr × Obj)), Zc cl d oe → (∃ vs, oe.data = .fields vs) → PSs (X.suite a ((a, oe) :: pn)) (b₀ :: sui) (ts a cl d)) :
      HdsX X (.ExceptHandler (some (.Tuple [.Name x1 n1, .Name x2 n2, .Name x3 n3] k np)) none (b₀ :: sui) pos' :: hds) (([c1, c2, c3], ts) :: l)
section
variable {X : Cx} {body : List Stmt} {h₀ : ExceptHandler} {hds : List ExceptHandler} {l : List (List Value × (Addr → Value → Option Addr → TS))} {pos : Pos} {bt : WX → TS} {Wo : WX}
theorem ps_try_manyX (hs : X.stack = X.env :: X.outer) (hf : X.env.frame = some X.env.locals) (tk : Takes X Wo)
    (hb : ∀ (W : WX) (pn : List (Addr × Obj)) (xe : Value → Shared → Prop), Takes (X.tr pn xe) W → PassesOwn (model X.prog X.w) X.A X.env xe → PSs (X.tr pn xe) body (bt W))
    (hh : HdsX X (h₀ :: hds) l) : PS X (.Try body (h₀ :: hds) [] [] pos) (fun D σ H => bt (wManyX X.K Wo D l) D σ H) := by
  refine ⟨fun pins s σ H D I hQ => ?_⟩
  have ok := I.ok
  have fR : X.A.frames = some (X.env :: X.outer) := by rw [ok.frames, hs]
  refine wpAny_Try_except ?_
  refine wpAny_mono ((hb (wManyX X.K Wo D l) (X.pn ++ pins) (fun e s₁ => wpAny (model X.prog X.w) X.A (noteFrame e X.env) (fun _ s₂ => wpAny (model X.prog X.w) X.A (setFlight e none) (fun _ s₃ =>
    wpAny (model X.prog X.w) X.A (handleBy e X.env (h₀ :: hds)) (SP X pins D) X.xe s₃) X.xe s₂) X.xe s₁) (fun u s' xx => ?_) PassesOwn.looking).run [] s σ H D (I.toTry _) hQ) (fun f s1 qp => ?_) (fun e s1 he => he)
  · -- the catch
    obtain ⟨a, B, sI, pins', σ', H', cl, d, rfl, J', nb, up0, sk, na, os, ag, w⟩ := xx
    have J : Inv X pins σ' H' sI := J'.ofTry ok
    have sky' : Sky B (X.env :: X.outer) a (Zc cl d) X.env.locals s'.heap := by rw [← hs]; exact sk
    show wpAny (model X.prog X.w) X.A (noteFrame (.ref a) X.env) _ _ _
    refine Sky.land Zc.steady fR hf sky' fun g3 y3 u3 => ?_
    have Jj3 : Inv X pins σ' H' { s' with heap := g3 } := J.landed nb y3.1 (up0.trans u3) os ag
    obtain ⟨o3, v3, e3, z3, d3⟩ := y3.there
    have noFr : ∀ {h : Heap} {o : Obj} {vs : Array Value}, h.FunFrames B (X.env :: X.outer) → h.get? a = some o → o.data = .fields vs → a ∉ frs (X.env :: X.outer) := fun {h o vs} ff e dd hm => by
      obtain ⟨_, o', e', hnf⟩ := ff.mem hm
      rw [e] at e'; cases e'
      exact hnf _ dd
    have nf0 := noFr y3.2.2.1 e3 d3
    have nL : a ≠ X.env.locals := fun z => nf0 (List.mem_filterMap.mpr ⟨X.env, List.mem_cons_self, by rw [hf, z]⟩)
    have nF : a ∉ X.fs := fun hm => by
      obtain ⟨e, he, q⟩ := List.mem_filterMap.mp hm
      exact nf0 (List.mem_filterMap.mpr ⟨e, List.mem_cons_of_mem _ he, q⟩)
    have Rr3 := Jj3.suite e3 d3 na nL nF
    have run1 : ∀ {hds' : List ExceptHandler} {l' : List (List Value × (Addr → Value → Option Addr → TS))}, HdsX X hds' l' → wManyX X.K Wo D l' cl d σ' H' →
        wpAny (model X.prog X.w) X.A (handleBy (.ref a) X.env hds') (SP X pins D) X.xe { s' with heap := g3 } := by
      intro hds' l' hk
      induction hk with
      | nil =>
        intro w
        refine wpAny_handleBy_nil ?_
        obtain ⟨k1, k2, k3, oe, vs, Tt, oTt, ts', he, hz, hd, h1, hr⟩ := id y3
        unfold PySem.passOn
        refine wpAny_bind (wpAny_field he hd h1 ?_)
        rw [if_neg (show ¬ ((Value.ref Tt == Value.none) = true) from by simp)]
        have fn0 : wpAny (model X.prog X.w) X.A (setFlight (.ref a) X.env.frame) (fun _ s4 => wpAny (model X.prog X.w) X.A (throw (.ref a) : Sem Flow) (SP X pins D) X.xe s4) X.xe { s' with heap := g3 } := by
          rw [hf]
          refine HandSPX.setFlight_upZ y3 fun g4 hh4 u4 => wpAny_throw (tk _ _ ?_)
          exact ⟨a, B, sI, pins, σ', H', cl, d, rfl, J, nb, (up0.trans u3).trans u4, .inr (.inr (by rw [hs]; exact hh4)), na, os, ag, w⟩
        first
          | exact wpAny_bind (wpAny_pure (wpAny_bind fn0))
          | exact wpAny_bind fn0
      | @cons x c ts b₀ sui np pos' hdr lr hc hsi r ihh =>
        intro w
        obtain ⟨b, q1, qy, qn⟩ := w
        refine wpAny_handleBy_cons (codeAny_handlers_test ?_) (by intro z; cases z)
        have Lt0 : PySem.W.Looks (model X.prog X.w) g3 (typeOf (.ref a)) cl := fun A Q E s k q => wpAny_typeOf_ref (k _ _ e3) (by rw [z3.1]; exact q)
        have Lm0 := PySem.W.exm_one (M := model X.prog X.w) (Jj3.kIn) Lt0 q1
        have test : ∀ {Q : Value → Shared → Prop} {E : Value → Shared → Prop}, Q c { s' with heap := g3 } → wpAny (model X.prog X.w) (X.A.mark (some (.ref a))) (eval (.Name x np) X.env) Q E { s' with heap := g3 } := fun {Q E} q => by
          obtain ⟨hg, hdbg, hm | ⟨hm, hv, hnn⟩⟩ := hc
          · exact ld_glob (X := X.suite a ((a, o3) :: (X.pn ++ pins))) Rr3 hg hm q hdbg
          · exact ld_blt (X := X.suite a ((a, o3) :: (X.pn ++ pins))) Rr3 hg hm hv q hnn hdbg
        refine test (Lm0.here ?_)
        cases b with
        | true =>
          refine codeAny_handlers_suite ?_
          refine HandSPX.lands_againZ y3 fun g4 y4 u4 => ?_
          have Jj4 : Inv X pins σ' H' { s' with heap := g4 } := J.landed nb y4.1 ((up0.trans u3).trans u4) os ag
          obtain ⟨o4, v4, e4, z4, d4⟩ := y4.there
          have Rr4 := Jj4.suite e4 d4 na nL nF
          refine wpAny_mono ((hsi a o4 cl d (X.pn ++ pins) z4 ⟨_, d4⟩).run [] _ _ H' _ Rr4 (qy rfl a na)) (fun f s6 qp => ?_) (fun _ _ z => False.elim z)
          cases f with
          | next =>
            obtain ⟨σ6, G6, R6, w6⟩ := qp
            exact ⟨_, _, R6.unsuite ok, w6⟩
          | brk =>
            obtain ⟨σ6, G6, R6, w6⟩ := qp
            exact ⟨_, _, R6.unsuite ok, w6⟩
          | cont =>
            obtain ⟨σ6, G6, R6, w6⟩ := qp
            exact ⟨_, _, R6.unsuite ok, w6⟩
          | ret u =>
            obtain ⟨v6, σ6, G6, R6, r6, w6⟩ := qp
            exact ⟨_, _, _, R6.unsuite ok, r6, w6⟩
        | false =>
          show wpAny _ X.A (handleBy (.ref a) X.env hdr) _ _ _
          exact ihh (qn rfl)
      | @tup x1 x2 x3 c1 c2 c3 ts b₀ sui n1 n2 n3 np pos' k hdr lr k1 k2 k3 hsi =>
        intro w
        obtain ⟨q1, qy⟩ := w
        refine wpAny_handleBy_cons (codeAny_handlers_test ?_) (by intro z; cases z)
        have one : ∀ {x : Str} {c : Value} {np : Pos} {Q : Value → Shared → Prop} {E : Value → Shared → Prop}, Names X x c → Q c { s' with heap := g3 } → wpAny (model X.prog X.w) (X.A.mark (some (.ref a))) (eval (.Name x np) X.env) Q E { s' with heap := g3 } := fun {x c np Q E} hc q => by
          obtain ⟨hg, hdbg, hm | ⟨hm, hv, hnn⟩⟩ := hc
          · exact ld_glob (X := X.suite a ((a, o3) :: (X.pn ++ pins))) Rr3 hg hm q hdbg
          · exact ld_blt (X := X.suite a ((a, o3) :: (X.pn ++ pins))) Rr3 hg hm hv q hnn hdbg
        refine wpAny_Tuple_spliced ?_
        refine Calls.spliced_cons (one k1 (Calls.spliced_cons (one k2 (Calls.spliced_cons (one k3 (Calls.spliced_nil ⟨by show 3 ≤ sizeLine; rw [sizeLine_eq]; omega, ?_⟩))))))
        have kk5 : ∀ b o, g3.get? b = some o → (g3.push { cls := .type "tuple", data := .seq [c1, c2, c3].toArray }).get? b = some o := fun b o e => Heap.get?_push_of_some _ e
        have tp5 : (g3.push { cls := .type "tuple", data := .seq [c1, c2, c3].toArray }).get? g3.objs.size = some { cls := .type "tuple", data := .seq [c1, c2, c3].toArray } := Heap.get?_push_size _ rfl
        have Lt0 : PySem.W.Looks (model X.prog X.w) (g3.push { cls := .type "tuple", data := .seq [c1, c2, c3].toArray }) (typeOf (.ref a)) cl := fun A Q E s k q => wpAny_typeOf_ref (k _ _ (kk5 _ _ e3)) (by rw [z3.1]; exact q)
        have Lm0 := PySem.W.exm_tup3 (M := model X.prog X.w) (Jj3.kIn.keeps kk5) Lt0 tp5 q1
        refine PySem.W.Looks.here (s := { s' with heap := g3.push { cls := .type "tuple", data := .seq [c1, c2, c3].toArray } }) Lm0 ?_
        have y5 : HandSPX.FlyingZ B (X.env :: X.outer) a (Zc cl d) (g3.push { cls := .type "tuple", data := .seq [c1, c2, c3].toArray }) := by
          obtain ⟨f1, f2, f3, oe, vs, Tt, oTt, ts', f4, f5, f6, f7, f8, f9, f10, f11, f12⟩ := y3
          exact ⟨fun b o e => kk5 _ _ (f1 b o e), f2, f3.of_keeps fun b o e _ => ⟨o, kk5 _ _ e, rfl⟩, oe, vs, Tt, oTt, ts', kk5 _ _ f4, f5, f6, f7, f8, f9, kk5 _ _ f10, f11, f12⟩
        have u5 : s'.heap.UpToSlots (g3.push { cls := .type "tuple", data := .seq [c1, c2, c3].toArray }) := u3.trans (Heap.UpToSlots.of_keeps kk5)
        refine codeAny_handlers_suite ?_
        refine HandSPX.lands_againZ y5 fun g4 y4 u4 => ?_
        have Jj4 : Inv X pins σ' H' { s' with heap := g4 } := J.landed nb y4.1 ((up0.trans u5).trans u4) os ag
        obtain ⟨o4, v4, e4, z4, d4⟩ := y4.there
        have Rr4 := Jj4.suite e4 d4 na nL nF
        refine wpAny_mono ((hsi a o4 cl d (X.pn ++ pins) z4 ⟨_, d4⟩).run [] _ _ H' _ Rr4 (qy a na)) (fun f s6 qp => ?_) (fun _ _ z => False.elim z)
        cases f with
        | next =>
          obtain ⟨σ6, G6, R6, w6⟩ := qp
          exact ⟨_, _, R6.unsuite ok, w6⟩
        | brk =>
          obtain ⟨σ6, G6, R6, w6⟩ := qp
          exact ⟨_, _, R6.unsuite ok, w6⟩
        | cont =>
          obtain ⟨σ6, G6, R6, w6⟩ := qp
          exact ⟨_, _, R6.unsuite ok, w6⟩
        | ret u =>
          obtain ⟨v6, σ6, G6, R6, r6, w6⟩ := qp
          exact ⟨_, _, _, R6.unsuite ok, r6, w6⟩
    exact run1 hh w
  · cases f with
    | next =>
      obtain ⟨σ', H', J', q⟩ := qp
      exact wpAny_execs_nil ⟨σ', H', J'.ofTry ok, q⟩
    | brk =>
      obtain ⟨σ', H', J', q⟩ := qp
      exact ⟨σ', H', J'.ofTry ok, q⟩
    | cont =>
      obtain ⟨σ', H', J', q⟩ := qp
      exact ⟨σ', H', J'.ofTry ok, q⟩
    | ret u =>
      obtain ⟨v, σ', H', J', r, q⟩ := qp
      exact ⟨v, σ', H', J'.ofTry ok, r, q⟩
end
end L2

set_option Elab.async false
set_option linter.all false
set_option maxRecDepth 100000
set_option maxHeartbeats 4000000
namespace DI
open PySem PySem.Spec L2 PyProof.Rows
open Sem (wp)
open AutoSeq1 (wpAny_loadPart')
/-! ## enumerate(tuple) -/
theorem meets_enumT (l : Addr) (items : Array Value) (n : Nat) (dct : Option Addr) (sl : Array (Option Value)) :
    Meets (Builtin.«enumerate.__new__» ⟨[.type "enumerate", .ref l], []⟩) (fun _ R s => s.heap.get? l = some { cls := .type "tuple", dict := dct, data := .seq items n, slots := sl } ∧
      R (.ok (.ret (.ref (s.heap.push { cls := .type "tuple_iterator", data := .fields #[.ref l, .int 0 0] }).objs.size)))
        { s with heap := (s.heap.push { cls := .type "tuple_iterator", data := .fields #[.ref l, .int 0 0] }).push { cls := .type "enumerate", data := .fields #[.none, .bool false, .ref s.heap.objs.size, rawInt 0, .none, .none] } }) :=
  .of_wp fun prog w A R s h => by
    obtain ⟨hp, g, d, tk, os⟩ := s; obtain ⟨hl, h⟩ := h
    have hsub := sub_enumerate
    have hL : Heap.IsTuple (Shared.heap ⟨hp, g, d, tk, os⟩) l items := ⟨_, hl, rfl, n, rfl⟩
    wp_walk using wpAny_loadPart' hl
    refine wpAny_stack_any fun st => wpAny_pure ?_
    split
    · rename_i c _ _ _ _ _
      cases (c == Value.type "enumerate")
      · wp_walk using wpAny_loadPart' hl, wpAny_pyIter_tuple hL
        exact ⟨_, rfl, h⟩
      · wp_walk using wpAny_loadPart' hl, wpAny_pyIter_tuple hL
        exact ⟨_, rfl, h⟩
    · wp_walk using wpAny_loadPart' hl, wpAny_pyIter_tuple hL
      exact ⟨_, rfl, h⟩
section
variable {prog : Program} {w : World} {A : Around} {E : Value → Shared → Prop} {s : Shared}
theorem call_enumT {l : Addr} {items : Array Value} {Q : Value → Shared → Prop} (hL : s.heap.IsTuple l items)
    (h : ∀ h', IsEnum h' (s.heap.objs.size + 1) s.heap.objs.size 0 .none → h'.IsTupleIter s.heap.objs.size l 0 → h'.objs.size = s.heap.objs.size + 2 →
      (∀ b o, s.heap.get? b = some o → h'.get? b = some o) → Q (.ref (s.heap.objs.size + 1)) { s with heap := h' }) :
    wpAny (model prog w) A (call (.type "enumerate") [.ref l]) Q E s := by
  obtain ⟨⟨c, dct, dt, sl⟩, hl, hc, n, hd⟩ := hL
  replace hc : c = .type "tuple" := hc
  replace hd : dt = .seq items n := hd
  subst hc hd
  refine callType_new F.called_enumerate (by decide) (F.typeCall_enumerate_1 _) (F.newCall_enumerate_1 _) (fun obj => F.args_object_init_2 obj _) F.entry_enumerate_new
    (meets_enumT l items n dct sl) ⟨hl, ?_⟩
  have hz : (s.heap.push { cls := .type "tuple_iterator", data := .fields #[.ref l, .int 0 0] }).objs.size = s.heap.objs.size + 1 := Heap.size_push ..
  show _ ∧ _
  rw [hz]
  have he : IsEnum ((s.heap.push { cls := .type "tuple_iterator", data := .fields #[.ref l, .int 0 0] }).push
      { cls := .type "enumerate", data := .fields #[.none, .bool false, .ref s.heap.objs.size, rawInt 0, .none, .none] }) (s.heap.objs.size + 1) s.heap.objs.size 0 .none := by
    have := Heap.get?_push_size (s.heap.push { cls := .type "tuple_iterator", data := .fields #[.ref l, .int 0 0] })
      (o := { cls := .type "enumerate", data := .fields #[.none, .bool false, .ref s.heap.objs.size, rawInt 0, .none, .none] }) rfl
    rw [hz] at this; exact this
  refine ⟨⟨_, he, rfl⟩, h _ he ⟨_, Heap.get?_push_of_some _ (Heap.get?_push_size _ rfl), rfl, rfl⟩ (by rw [Heap.size_push, hz]) fun b o x => Heap.get?_push_of_some _ (Heap.get?_push_of_some _ x)⟩
theorem pyNext_enumT_end {e it l : Addr} {i : Nat} {items : Array Value} {old : Value} {Q : Option Value → Shared → Prop} (hh : A.handled = none)
    (he : IsEnum s.heap e it i old) (hit : s.heap.IsTupleIter it l i) (hl : s.heap.IsTuple l items) (hx : items[i]? = none)
    (hQ : ∀ h', Heap.ExtBut it s.heap h' → Q none { s with heap := h' }) : wpAny (model prog w) A (pyNext (.ref e)) Q E s := by
  have hT : s.TypeIs (.ref e) "enumerate" := ⟨_, he, rfl⟩
  unfold pyNext
  refine wpAny_bind (wpAny_attempt (wpAny_callSpecial?_slot (name := PySem.Str.ofString "__next__") hT F.slot_enumerate_next
    (wpAny_call_entry F.slot_enumerate_next hT F.entry_enumerate_next ?_ (F.args_enumerate_next_1 _))))
  show wpAny _ _ (field (.ref e) 2 >>= _) _ _ _
  refine wpAny_bind (wpAny_field he rfl (x := .ref it) rfl ?_)
  refine wpAny_bind (wpAny_nextOf_tuple_end hh hit hl hx fun h' x he' hx' => ?_)
  obtain ⟨o, ho, hc⟩ := hx'
  refine wpAny_bind (wpAny_isInstance (T := "StopIteration") (b := true) ⟨o, ho, hc⟩ isSubtype_stop ?_)
  exact wpAny_pure (hQ _ he')
end
/-- the tuple at a, each item in a new pair -/
def IteT (K : PySem.W.Frag) (a : Addr) : It :=
  ⟨fun i H => ∃ (xs : List V) (x : V), SqT K H a xs ∧ xs[i]? = some x, fun i H v H' => ∃ T x, v = .ref T ∧ H T = none ∧ H' = upd H T (.tup [.int (i : Nat), x]) ∧ ∀ xs, SqT K H a xs → xs[i]? = some x, fun i H => ∃ xs : List V, SqT K H a xs ∧ xs.length ≤ i⟩
theorem turn_enumT {P : Program} {w : World} {K : PySem.W.Frag} {elts : List Expr} {kk : Nat} {tpos : Pos} (a e it : Addr) :
    Turn P w K (.Tuple elts kk tpos) (IteT K a) [e, it] e (fun i h => (∃ old, IsEnum h e it ((i : Nat) : Int) old) ∧ h.IsTupleIter it a i ∧ e ≠ it ∧ a ≠ it ∧ e ≠ a) where
  mem := by simp
  obj := fun i h st b hb => by
    obtain ⟨⟨old, he⟩, ⟨o, ho, hc, hd⟩, _⟩ := st
    have e' : b = e ∨ b = it := by simpa using hb
    rcases e' with z | z
    · rw [z]; exact ⟨_, he, fun v q => nomatch q⟩
    · rw [z]; exact ⟨o, ho, fun v q => by rw [hd] at q; cases q⟩
  keep := fun i h h' st k => let ⟨⟨old, he⟩, hi, hne⟩ := st; ⟨⟨old, k e (by simp) _ he⟩, hi.at fun o q => k it (by simp) o q, hne⟩
  item := by
    intro X hP hw hK hc i pins s σ H E I hf st hg
    subst hP hw hK
    obtain ⟨⟨old, he⟩, hit, hne, hna, hea⟩ := st
    obtain ⟨xs, x, hq, hx⟩ := hg
    obtain ⟨its, rv, p, hz⟩ := I.tuple hq
    have p' : s.heap.IsTuple a its.toArray := p
    obtain ⟨u, hu, ru⟩ := rv.get hx
    have hel : e < s.heap.objs.size := Heap.lt_size he
    have hil : it < s.heap.objs.size := by obtain ⟨_, q, _⟩ := hit; exact Heap.lt_size q
    have hlt : i < its.toArray.size := by
      have := (List.getElem?_eq_some_iff.mp hu).1
      simpa using this
    have Dr := Draws.tuple (prog := X.prog) (w := X.w) (A := X.A.in1) (I.ok.hd hc) it a hna its.toArray
    refine wpAny_pyNext_enum_itemD Dr he ⟨hit, p'⟩ hlt hne (by simp [hne, hea]) fun y h' tk hy ho hst' hT hsz hk => ?_
    obtain ⟨hit', _⟩ := hst'
    have ey : y = u := by
      have e1 : its.toArray[i]? = some u := by simpa using hu
      rw [e1] at hy; cases hy; rfl
    subst ey
    refine ⟨_, rfl, wpAny_letOwnedTupleGo_enum (s := { s with heap := h', toks := tk + 1 }) ho fun h'' he' sb => ?_⟩
    have hT2 : h''.get? s.heap.objs.size = some { cls := .type "tuple", data := .seq #[.int i tk, y] } := (sb.2 _ (Nat.ne_of_gt hel)).trans hT
    have new : ObjOk X.prog X.w (upd H s.heap.objs.size (.tup [.int (i : Nat), x])) h'' s.heap.objs.size (.tup [.int (i : Nat), x]) :=
      ⟨by show 2 ≤ sizeLine; decide, [.int i tk, y], .cons ⟨_, rfl⟩ (.cons ru .nil), ⟨_, hT2, rfl, _, rfl⟩⟩
    have I1 : Inv X pins σ (upd H s.heap.objs.size (.tup [.int (i : Nat), x])) { s with heap := h'', toks := tk + 1 } :=
      I.turnedNew (ch := [e, it]) (fun b ob hb q => (sb.2 b (fun z => hb (by simp [z]))).trans (hk b ob (fun z => hb (by simp [z])) (fun z => hb (by simp [z])) q)) hf (Nat.le_refl _) new
    refine ⟨.ref s.heap.objs.size, _, I1, rfl, ⟨_, x, rfl, I.hok.fresh (Nat.le_refl _), rfl, fun ys hy => by rw [I.tuple_inj hy hq]; exact hx⟩, ⟨⟨y, ?_⟩, hit'.at fun o q => (sb.2 it (Ne.symm hne)).trans q, hne, hna, hea⟩, fun b hb => ?_⟩
    · have e1 : ((i + 1 : Nat) : Int) = (i : Int) + 1 := by omega
      rw [e1]; exact he'
    · have hb' : b < s.heap.objs.size := by
        have e' : b = e ∨ b = it := by simpa using hb
        rcases e' with z | z
        · rw [z]; exact hel
        · rw [z]; exact hil
      rw [upd_ne (Nat.ne_of_lt hb')]
      exact (hf b hb).1
  done := by
    intro X hP hw hK hc i pins s σ H E I hf st hg
    subst hP hw hK
    obtain ⟨⟨old, he⟩, hit, hne, hna, hea⟩ := st
    obtain ⟨xs, hq, hx⟩ := hg
    obtain ⟨its, rv, p, hz⟩ := I.tuple hq
    obtain ⟨f0, f1, f2, f3, f4, f5⟩ := hf it (by simp)
    have hl := rv.length
    exact pyNext_enumT_end (I.ok.hd hc) he hit (show s.heap.IsTuple a its.toArray from p) (by simp; omega) fun h' eb => ⟨rfl, I.turned (t' := s.toks) (fun b o hb q => eb b o hb q) f0 f1 f3 f4 f5⟩
  self := fun A i s Q E st h => let ⟨⟨_, he⟩, _⟩ := st; wpAny_pyIter_enum he h
def iEnumA (K : PySem.W.Frag) (ta : TA) : TI := fun σ H R => ta σ H fun vs H1 => ∃ a xs, vs = [.ref a] ∧ ((SqL K H1 a xs ∧ R (Ite K a) H1) ∨ (SqT K H1 a xs ∧ R (IteT K a) H1))
theorem pi_enumA {X : Cx} {e : Expr} {ta : TA} {p pos tpos : Pos} {elts : List Expr} {kk : Nat} (hg : Gl X "enumerate") (hm : X.mg "enumerate" = none) (ha : PA X [e] ta) (hs : starEach [e] X.env = [(false, eval e X.env)]) :
    PI X (.Tuple elts kk tpos) (.Call (.Name "enumerate" p) [e] [] pos) (iEnumA X.K ta) := by
  refine ⟨fun pins s σ H R I h => ?_⟩
  refine Call_ (ld_blt I hg hm boot_enumerate (PyProof.Rows.callWith_type1 (thn (ha.run pos pins s σ H _ I h) fun us s1 ⟨vs, H1, I1, r1, q1⟩ => ?_) hs rfl))
  obtain ⟨a, xs, ex, q1⟩ := q1
  subst ex
  cases r1 with
  | cons r rr =>
    cases rr
    cases r
    have fp : ∀ {H1 : Hp} (I1 : Inv X pins σ H1 s1), ∀ b ∈ [s1.heap.objs.size + 1, s1.heap.objs.size], FpOk X pins H1 b := fun {H1} I1 b hb => by
      have e' : b = s1.heap.objs.size + 1 ∨ b = s1.heap.objs.size := by simpa using hb
      have hle : s1.heap.objs.size ≤ b := by
        rcases e' with z | z
        · rw [z]; exact Nat.le_add_right _ _
        · rw [z]; exact Nat.le_refl _
      exact I1.fpOk hle (I1.hok.fresh hle)
    rcases q1 with ⟨hq, q⟩ | ⟨hq, q⟩
    · obtain ⟨its, rv, p', hz⟩ := I1.list hq
      refine call_enumerate_list p'.isList fun h' he hit hsz hk => wpAny_pyIter_enum he ?_
      have I2 : Inv X pins σ H1 { s1 with heap := h' } := I1.kept (t' := s1.toks) hk
      exact ⟨s1.heap.objs.size + 1, [s1.heap.objs.size + 1, s1.heap.objs.size], _, _, H1, rfl, I2, turn_enum a (s1.heap.objs.size + 1) s1.heap.objs.size, ⟨⟨.none, he⟩, hit, Nat.succ_ne_self _⟩, fp I1, q⟩
    · obtain ⟨its, rv, p', hz⟩ := I1.tuple hq
      have hal : a < s1.heap.objs.size := by obtain ⟨o, q, _⟩ := p'; exact Heap.lt_size q
      refine call_enumT (show s1.heap.IsTuple a its.toArray from p') fun h' he hit hsz hk => wpAny_pyIter_enum he ?_
      have I2 : Inv X pins σ H1 { s1 with heap := h' } := I1.kept (t' := s1.toks) hk
      exact ⟨s1.heap.objs.size + 1, [s1.heap.objs.size + 1, s1.heap.objs.size], _, _, H1, rfl, I2, turn_enumT a (s1.heap.objs.size + 1) s1.heap.objs.size,
        ⟨⟨.none, he⟩, hit, Nat.succ_ne_self _, Nat.ne_of_lt hal, Nat.ne_of_gt (Nat.lt_succ_of_lt hal)⟩, fp I1, q⟩
end DI

set_option Elab.async false
set_option linter.all false
set_option maxRecDepth 100000
set_option maxHeartbeats 4000000
namespace DI
open PySem L2

/-! ## Values -/
inductive D where
  | non | bl (b : Bool) | int (i : Int) | str (x : Str) | ty (n : String)
  | tup (ds : List D) | lst (ds : List D) | dct (kvs : List (D × D))
  | obj (c : Nat) (fs : List (Str × D)) | exc (c : Nat) (fs : List (Str × D)) | cls (c : Nat) | fn (f : Nat) | fz (ds : List D) | odc
  deriving Inhabited

abbrev FS := Addr → Prop
/-- what is fixed of the text: where its classes and defs stand -/
structure Gx where
  cls : Nat → Option Addr
  fn : Nat → Option Addr

/-- a key that is an int or a text; a tuple of such -/
def keyD : D → Option Key
  | .int i => some (.inl i)
  | .str x => some (.inr x)
  | _ => none
def keysD : List D → Option (List Key)
  | [] => some []
  | d :: r => (keyD d).bind fun k => (keysD r).map fun ks => k :: ks
def keyT : D → Option (List Key)
  | .tup ds => keysD ds
  | _ => none

/-- some dict stands there -/
def IsDct (a : Addr) : Heap → Prop := fun h => ∃ o, h.get? a = some o ∧ o.cls = .type "dict"
section
variable (K : PySem.W.Frag) (G : Gx)
mutual
/-- d lies at v; all that may change lies within F -/
inductive Rep (F : FS) (H : Hp) : V → D → Prop where
  | non : Rep F H .non .non
  | bl (b : Bool) : Rep F H (.bl b) (.bl b)
  | int (i : Int) : Rep F H (.int i) (.int i)
  | str (x : Str) : Rep F H (.str x) (.str x)
  | ty (n : String) : Rep F H (.ty n) (.ty n)
  | tup {a : Addr} {vs : List V} {ds : List D} (h : SqT K H a vs) (r : Reps F H vs ds) : Rep F H (.ref a) (.tup ds)
  | cell {a : Addr} {d : D} (f : F a) (c : Cell F H a d) : Rep F H (.ref a) d
  | frz {a : Addr} {o : Obj} {vs : List V} {ds : List D} (f : F a) (h : H a = some (.frz o (.lst vs))) (r : Reps F H vs ds) : Rep F H (.ref a) (.fz ds)
  | dfz {a : Addr} {o : Obj} {es : List (Key × V)} {kvs : List (D × D)} (f : F a) (h : H a = some (.frz o (.dK es))) (r : RepKs F H es kvs) : Rep F H (.ref a) (.dct kvs)
  | fzk {a : Addr} {vs : List V} {ds : List D} (h : SqL K (fun _ => none) a vs) (r : Reps F H vs ds) : Rep F H (.ref a) (.fz ds)
  | exn {c : Nat} {a C : Addr} (f : F a) (g : G.cls c = some C) (h : H a = some (ExO (.ref C) a)) : Rep F H (.ref a) (.exc c [])
  | exf {c : Nat} {a C dx : Addr} {fs : List (Str × V)} {ds : List (Str × D)} (f : F a) (f2 : F dx) (g : G.cls c = some C) (h : H a = some (exo a C (some dx))) (h2 : H dx = some (exd dx fs)) (r : RepFs F H fs ds) : Rep F H (.ref a) (.exc c ds)
  | cls {c : Nat} {a : Addr} (h : G.cls c = some a) : Rep F H (.ref a) (.cls c)
  | fn {c : Nat} {a : Addr} (h : G.fn c = some a) : Rep F H (.ref a) (.fn c)
inductive Reps (F : FS) (H : Hp) : List V → List D → Prop where
  | nil : Reps F H [] []
  | cons {v : V} {d : D} {vs : List V} {ds : List D} (r : Rep F H v d) (t : Reps F H vs ds) : Reps F H (v :: vs) (d :: ds)
inductive RepKs (F : FS) (H : Hp) : List (Key × V) → List (D × D) → Prop where
  | nil : RepKs F H [] []
  | cons {k : Key} {kd : D} {v : V} {d : D} {es : List (Key × V)} {ds : List (D × D)} (lk : keyD kd = some k) (r : Rep F H v d) (t : RepKs F H es ds) : RepKs F H ((k, v) :: es) ((kd, d) :: ds)
inductive RepTs (F : FS) (H : Hp) : List (List Key × V) → List (D × D) → Prop where
  | nil : RepTs F H [] []
  | cons {k : List Key} {kd : D} {v : V} {d : D} {es : List (List Key × V)} {ds : List (D × D)} (lk : keyT kd = some k) (r : Rep F H v d) (t : RepTs F H es ds) : RepTs F H ((k, v) :: es) ((kd, d) :: ds)
inductive RepFs (F : FS) (H : Hp) : List (Str × V) → List (Str × D) → Prop where
  | nil : RepFs F H [] []
  | cons {n : Str} {v : V} {d : D} {vs : List (Str × V)} {ds : List (Str × D)} (r : Rep F H v d) (t : RepFs F H vs ds) : RepFs F H ((n, v) :: vs) ((n, d) :: ds)
/-- the content of an object that may change -/
inductive Cell (F : FS) (H : Hp) : Addr → D → Prop where
  | lst {a : Addr} {vs : List V} {ds : List D} (h : H a = some (.lst vs)) (r : Reps F H vs ds) : Cell F H a (.lst ds)
  | dct {a : Addr} {es : List (Key × V)} {kvs : List (D × D)} (h : H a = some (.dK es)) (r : RepKs F H es kvs) : Cell F H a (.dct kvs)
  | dtp {a : Addr} {es : List (List Key × V)} {kvs : List (D × D)} (h : H a = some (.dT es)) (r : RepTs F H es kvs) : Cell F H a (.dct kvs)
  | obj {a C dx : Addr} {c : Nat} {fs : List (Str × V)} {ds : List (Str × D)} (h : H a = some (.ins C dx fs)) (g : G.cls c = some C) (r : RepFs F H fs ds) : Cell F H a (.obj c ds)
  | odc {a : Addr} (h : H a = some (.ext (IsDct a))) : Cell F H a .odc
end
end

/-- a dict that is shared may be locked -/
def KD (H : Hp) (a : Addr) (es : List (Key × V)) : Prop := H a = some (.dK es) ∨ ∃ ob, H a = some (.frz ob (.dK es))
def Nd (o : HO) : Prop := ∀ es, o ≠ .dK es
theorem nd_ext {φ : Heap → Prop} : Nd (.ext φ) := fun _ z => by cases z
/-- the frozen part grows, what is frozen stays -/
structure Ext (F : FS) (H : Hp) (F' : FS) (H' : Hp) : Prop where
  fr : ∀ a, F a → F' a
  kp : ∀ a o, F a → H a = some o → Nd o → H' a = some o
  kd : ∀ a es, F a → H a = some (.dK es) → KD H' a es
  tp : ∀ a xs, H a = some (.tup xs) → H' a = some (.tup xs)
  tf : ∀ a o xs, H a = some (.frz o (.tup xs)) → H' a = some (.frz o (.tup xs))
theorem Ext.refl {F : FS} {H : Hp} : Ext F H F H := ⟨fun _ x => x, fun _ _ _ x _ => x, fun _ _ _ x => .inl x, fun _ _ x => x, fun _ _ _ x => x⟩
theorem Ext.trans {F F' F'' : FS} {H H' H'' : Hp} (a : Ext F H F' H') (b : Ext F' H' F'' H'') : Ext F H F'' H'' :=
  ⟨fun x h => b.fr x (a.fr x h), fun x o f h n => b.kp x o (a.fr x f) (a.kp x o f h n) n, fun x es f h => (a.kd x es f h).elim (b.kd x es (a.fr x f)) fun z => by obtain ⟨ob, z⟩ := z; exact .inr ⟨ob, b.kp x _ (a.fr x f) z (fun _ y => nomatch y)⟩, fun x xs h => b.tp x xs (a.tp x xs h), fun x o xs h => b.tf x o xs (a.tf x o xs h)⟩
theorem SqTx {K : PySem.W.Frag} {F F' : FS} {H H' : Hp} {a : Addr} {xs : List V} (e : Ext F H F' H') (h : SqT K H a xs) : SqT K H' a xs := by
  rcases h with (h | ⟨o, h⟩) | h
  · exact .inl (.inl (e.tp _ _ h))
  · exact .inl (.inr ⟨o, e.tf _ _ _ h⟩)
  · exact .inr h

/-- a list of the written part stands whatever is tracked -/
theorem SqL0 {K : PySem.W.Frag} {H : Hp} {a : Addr} {xs : List V} (h : SqL K (fun _ => none) a xs) : SqL K H a xs := by
  rcases h with (h | ⟨o, h⟩) | h
  · cases h
  · cases h
  · exact .inr h
section
variable {K : PySem.W.Frag} {G : Gx} {F F' : FS} {H H' : Hp}
mutual
theorem Rep.ext (x : Ext F H F' H') : ∀ {v : V} {d : D}, Rep K G F H v d → Rep K G F' H' v d
  | _, _, .non => .non
  | _, _, .bl b => .bl b
  | _, _, .int b => .int b
  | _, _, .str b => .str b
  | _, _, .ty b => .ty b
  | _, _, .tup h r => .tup (SqTx x h) (r.ext x)
  | _, _, .cell f (.lst h r) => .cell (x.fr _ f) (.lst (x.kp _ _ f h fun _ y => nomatch y) (r.ext x))
  | _, _, .cell f (.dct h r) => (x.kd _ _ f h).elim (fun z => .cell (x.fr _ f) (.dct z (r.ext x))) fun z => z.elim fun _ z => .dfz (x.fr _ f) z (r.ext x)
  | _, _, .cell f (.dtp h r) => .cell (x.fr _ f) (.dtp (x.kp _ _ f h fun _ y => nomatch y) (r.ext x))
  | _, _, .cell f (.obj h g r) => .cell (x.fr _ f) (.obj (x.kp _ _ f h fun _ y => nomatch y) g (r.ext x))
  | _, _, .cell f (.odc h) => .cell (x.fr _ f) (.odc (x.kp _ _ f h fun _ y => nomatch y))
  | _, _, .dfz f h r => .dfz (x.fr _ f) (x.kp _ _ f h fun _ y => nomatch y) (r.ext x)
  | _, _, .exn f g h => .exn (x.fr _ f) g (x.kp _ _ f h nd_ext)
  | _, _, .exf f f2 g h h2 r => .exf (x.fr _ f) (x.fr _ f2) g (x.kp _ _ f h nd_ext) (x.kp _ _ f2 h2 nd_ext) (r.ext x)
  | _, _, .frz f h r => .frz (x.fr _ f) (x.kp _ _ f h fun _ y => nomatch y) (r.ext x)
  | _, _, .fzk h r => .fzk h (r.ext x)
  | _, _, .cls h => .cls h
  | _, _, .fn h => .fn h
theorem Reps.ext (x : Ext F H F' H') : ∀ {v : List V} {d : List D}, Reps K G F H v d → Reps K G F' H' v d
  | _, _, .nil => .nil
  | _, _, .cons r t => .cons (r.ext x) (t.ext x)
theorem RepKs.ext (x : Ext F H F' H') : ∀ {v : List (Key × V)} {d : List (D × D)}, RepKs K G F H v d → RepKs K G F' H' v d
  | _, _, .nil => .nil
  | _, _, .cons lk r t => .cons lk (r.ext x) (t.ext x)
theorem RepTs.ext (x : Ext F H F' H') : ∀ {v : List (List Key × V)} {d : List (D × D)}, RepTs K G F H v d → RepTs K G F' H' v d
  | _, _, .nil => .nil
  | _, _, .cons lk r t => .cons lk (r.ext x) (t.ext x)
theorem RepFs.ext (x : Ext F H F' H') : ∀ {v : List (Str × V)} {d : List (Str × D)}, RepFs K G F H v d → RepFs K G F' H' v d
  | _, _, .nil => .nil
  | _, _, .cons r t => .cons (r.ext x) (t.ext x)
end
/-- .. a cell that is not frozen, but stands -/
theorem Cell.ext' (x : Ext F H F' H') {a : Addr} {d : D} (c : Cell K G F H a d) (k : ∀ o, H a = some o → H' a = some o) : Cell K G F' H' a d := by
  cases c with
  | lst h r => exact .lst (k _ h) (r.ext x)
  | dct h r => exact .dct (k _ h) (r.ext x)
  | dtp h r => exact .dtp (k _ h) (r.ext x)
  | obj h g r => exact .obj (k _ h) g (r.ext x)
  | odc h => exact .odc (k _ h)
theorem Cell.there {a : Addr} {d : D} (c : Cell K G F H a d) : ∃ o, H a = some o ∧ Mut (some o) ∧ (∀ xs, o ≠ .tup xs) ∧ (∀ ob u, o ≠ .frz ob u) := by
  cases c with
  | lst h r => exact ⟨_, h, trivial, (fun _ z => nomatch z), (fun _ _ z => nomatch z)⟩
  | dct h r => exact ⟨_, h, trivial, (fun _ z => nomatch z), (fun _ _ z => nomatch z)⟩
  | dtp h r => exact ⟨_, h, trivial, (fun _ z => nomatch z), (fun _ _ z => nomatch z)⟩
  | obj h g r => exact ⟨_, h, trivial, (fun _ z => nomatch z), (fun _ _ z => nomatch z)⟩
  | odc h => exact ⟨_, h, trivial, (fun _ z => nomatch z), (fun _ _ z => nomatch z)⟩
theorem Reps.length : ∀ {vs : List V} {ds : List D}, Reps K G F H vs ds → vs.length = ds.length
  | _, _, .nil => rfl
  | _, _, .cons _ t => congrArg (· + 1) t.length
theorem Reps.get : ∀ {vs : List V} {ds : List D} {i : Nat} {d : D}, Reps K G F H vs ds → ds[i]? = some d → ∃ v, vs[i]? = some v ∧ Rep K G F H v d
  | _, _, _, _, .nil, e => by simp at e
  | _, _, 0, _, .cons r _, e => by simp at e; subst e; exact ⟨_, rfl, r⟩
  | _, _, i + 1, d, .cons _ t, e => by
    obtain ⟨v, h1, h2⟩ := Reps.get (i := i) (d := d) t (by simpa using e)
    exact ⟨v, by simpa using h1, h2⟩
theorem Reps.get' : ∀ {vs : List V} {ds : List D} {i : Nat} {v : V}, Reps K G F H vs ds → vs[i]? = some v → ∃ d, ds[i]? = some d ∧ Rep K G F H v d
  | _, _, _, _, .nil, e => by simp at e
  | _, _, 0, _, .cons r _, e => by simp at e; subst e; exact ⟨_, rfl, r⟩
  | _, _, i + 1, d, .cons _ t, e => by
    obtain ⟨v, h1, h2⟩ := Reps.get' (i := i) (v := d) t (by simpa using e)
    exact ⟨v, by simpa using h1, h2⟩
theorem Reps.append : ∀ {vs us : List V} {ds es : List D}, Reps K G F H vs ds → Reps K G F H us es → Reps K G F H (vs ++ us) (ds ++ es)
  | _, _, _, _, .nil, s => s
  | _, _, _, _, .cons r t, s => .cons r (Reps.append t s)
theorem Reps.take : ∀ {vs : List V} {ds : List D} (n : Nat), Reps K G F H vs ds → Reps K G F H (vs.take n) (ds.take n)
  | _, _, 0, _ => .nil
  | _, _, _ + 1, .nil => .nil
  | _, _, n + 1, .cons r t => .cons r (Reps.take n t)
theorem Reps.drop : ∀ {vs : List V} {ds : List D} (n : Nat), Reps K G F H vs ds → Reps K G F H (vs.drop n) (ds.drop n)
  | _, _, 0, r => r
  | _, _, _ + 1, .nil => .nil
  | _, _, n + 1, .cons _ t => Reps.drop n t
theorem Reps.set {v : V} {d : D} (r : Rep K G F H v d) : ∀ {vs : List V} {ds : List D} (i : Nat), Reps K G F H vs ds → Reps K G F H (vs.set i v) (ds.set i d)
  | _, _, _, .nil => .nil
  | _, _, 0, .cons _ t => .cons r t
  | _, _, i + 1, .cons q t => .cons q (Reps.set r i t)
theorem Reps.eraseIdx : ∀ {vs : List V} {ds : List D} (i : Nat), Reps K G F H vs ds → Reps K G F H (vs.eraseIdx i) (ds.eraseIdx i)
  | _, _, _, .nil => .nil
  | _, _, 0, .cons _ t => t
  | _, _, i + 1, .cons q t => .cons q (Reps.eraseIdx i t)
theorem Reps.rep {vs : List V} {ds : List D} (h : Reps K G F H vs ds) : ∀ k : Nat, Reps K G F H (List.replicate k vs).flatten (List.replicate k ds).flatten
  | 0 => .nil
  | k + 1 => by rw [List.replicate_succ, List.replicate_succ, List.flatten_cons, List.flatten_cons]; exact h.append (h.rep k)
theorem Reps.reverse : ∀ {vs : List V} {ds : List D}, Reps K G F H vs ds → Reps K G F H vs.reverse ds.reverse
  | _, _, .nil => .nil
  | _, _, .cons r t => by rw [List.reverse_cons, List.reverse_cons]; exact t.reverse.append (.cons r .nil)
end

/-! ## States -/
/-- how a slot holds its value: shared; owned by the slot; owned by a caller's slot, to be changed (io) or only read (bo) -/
inductive Mo | sh | ow | io | bo
  deriving DecidableEq
structure Sl where
  m : Mo
  d : D
abbrev Env := List (Option Sl)
abbrev Sg := List (Option V)

section
variable (K : PySem.W.Frag) (G : Gx)
def SlotOk (F : FS) (H : Hp) (s : Sl) (v : V) : Prop :=
  match s.m with
  | .sh => Rep K G F H v s.d
  | _ => ∃ a, v = .ref a ∧ ¬ F a ∧ Cell K G F H a s.d
/-- a slot that holds an address of its own -/
def Held (ρ : Env) (σ : Sg) (a : Addr) : Prop := ∃ (i : Nat) (s : Sl), ρ[i]? = some (some s) ∧ s.m ≠ .sh ∧ σ[i]? = some (some (.ref a))
/-- .. that this frame may change -/
def Own (ρ : Env) (σ : Sg) (a : Addr) : Prop := ∃ (i : Nat) (s : Sl), ρ[i]? = some (some s) ∧ (s.m = .ow ∨ s.m = .io) ∧ σ[i]? = some (some (.ref a))
theorem Own.held {ρ : Env} {σ : Sg} {a : Addr} (h : Own ρ σ a) : Held ρ σ a := by
  obtain ⟨i, s, h1, h2, h3⟩ := h
  exact ⟨i, s, h1, (by rcases h2 with e | e <;> rw [e] <;> decide), h3⟩
structure StOk (ρ : Env) (F : FS) (σ : Sg) (H : Hp) : Prop where
  len : ρ.length = σ.length
  val : ∀ (i : Nat) (s : Sl), ρ[i]? = some (some s) → ∃ v, σ[i]? = some (some v) ∧ SlotOk K G F H s v
  sep : ∀ (i j : Nat) (s t : Sl) (a : Addr), i ≠ j → ρ[i]? = some (some s) → ρ[j]? = some (some t) → s.m ≠ .sh → t.m ≠ .sh → σ[i]? = some (some (.ref a)) → σ[j]? ≠ some (some (.ref a))
  dom : ∀ a, F a → H a ≠ none
end
/-- from one state of a frame to a later one -/
structure Stp (ρ : Env) (F : FS) (σ : Sg) (H : Hp) (ρ' : Env) (F' : FS) (σ' : Sg) (H' : Hp) : Prop where
  fr : ∀ a, F a → F' a
  keep : ∀ a o, H a = some o → ¬ Own ρ σ a → (F a → Nd o) → H' a = some o
  kd : ∀ a es, F a → ¬ Own ρ σ a → H a = some (.dK es) → KD H' a es
  fnew : ∀ a, F' a → F a ∨ H a = none ∨ Own ρ σ a
  hnew : ∀ a, Held ρ' σ' a → Held ρ σ a ∨ H a = none
  onew : ∀ a, Own ρ' σ' a → Own ρ σ a ∨ H a = none
  io : ∀ (i : Nat) (s : Sl), ρ[i]? = some (some s) → (s.m = .io ∨ s.m = .bo) → σ'[i]? = σ[i]? ∧ ∃ s' : Sl, ρ'[i]? = some (some s') ∧ (s'.m = .bo ∨ (s.m = .io ∧ s'.m = .io))
theorem Stp.refl {ρ : Env} {F : FS} {σ : Sg} {H : Hp} : Stp ρ F σ H ρ F σ H :=
  ⟨fun _ x => x, fun _ _ x _ _ => x, fun _ _ _ _ x => .inl x, fun _ x => .inl x, fun _ x => .inl x, fun _ x => .inl x, fun _ s h e => ⟨rfl, s, h, e.elim (fun z => .inr ⟨z, z⟩) .inl⟩⟩
theorem Stp.gone {ρ ρ' : Env} {F F' : FS} {σ σ' : Sg} {H H' : Hp} (x : Stp ρ F σ H ρ' F' σ' H') {a : Addr} {o : HO} (e : H a = some o) (q : ¬ Own ρ σ a) (h : H' a = none) : False := by
  by_cases f : F a
  · by_cases n : Nd o
    · rw [x.keep a o e q fun _ => n] at h; cases h
    · have : ∃ es, o = .dK es := by
        by_cases c : ∃ es, o = .dK es
        · exact c
        · exact (n fun es z => c ⟨es, z⟩).elim
      obtain ⟨es, rfl⟩ := this
      rcases x.kd a es f q e with z | ⟨ob, z⟩ <;> rw [z] at h <;> cases h
  · rw [x.keep a o e q fun z => (f z).elim] at h; cases h
theorem Stp.trans {ρ ρ' ρ'' : Env} {F F' F'' : FS} {σ σ' σ'' : Sg} {H H' H'' : Hp} (x : Stp ρ F σ H ρ' F' σ' H') (y : Stp ρ' F' σ' H' ρ'' F'' σ'' H'') : Stp ρ F σ H ρ'' F'' σ'' H'' := by
  have new : ∀ a, H' a = none → H a = none ∨ Own ρ σ a := fun a h => by
    cases e : H a with
    | none => exact .inl rfl
    | some o =>
      by_cases q : Own ρ σ a
      · exact .inr q
      · exact (x.gone e q h).elim
  have own : ∀ a o, H a = some o → ¬ Own ρ σ a → ¬ Own ρ' σ' a := fun a o h q z => by
    rcases x.onew a z with z | z
    · exact q z
    · rw [h] at z; cases z
  refine ⟨fun a h => y.fr a (x.fr a h), fun a o h q n => ?_, fun a es f q h => ?_, fun a h => ?_, fun a h => ?_, fun a h => ?_, fun i s h e => ?_⟩
  · refine y.keep a o (x.keep a o h q n) (own a o h q) fun f => ?_
    rcases x.fnew a f with z | z | z
    · exact n z
    · rw [h] at z; cases z
    · exact (q z).elim
  · rcases x.kd a es f q h with z | ⟨ob, z⟩
    · exact y.kd a es (x.fr a f) (own a _ h q) z
    · exact .inr ⟨ob, y.keep a _ z (own a _ h q) fun _ _ y => nomatch y⟩
  · rcases y.fnew a h with z | z | z
    · exact x.fnew a z
    · rcases new a z with z | z
      · exact .inr (.inl z)
      · exact .inr (.inr z)
    · rcases x.onew a z with z | z
      · exact .inr (.inr z)
      · exact .inr (.inl z)
  · rcases y.hnew a h with z | z
    · exact x.hnew a z
    · rcases new a z with z | z
      · exact .inr z
      · exact .inl z.held
  · rcases y.onew a h with z | z
    · exact x.onew a z
    · rcases new a z with z | z
      · exact .inr z
      · exact .inl z
  · obtain ⟨e1, s', h1, m1⟩ := x.io i s h e
    obtain ⟨e2, s2, h2, m2⟩ := y.io i s' h1 (m1.elim .inr fun z => .inl z.2)
    refine ⟨e2.trans e1, s2, h2, ?_⟩
    rcases m2 with m2 | m2
    · exact .inl m2
    · rcases m1 with m1 | m1
      · rw [m1] at m2; cases m2.1
      · exact .inr ⟨m1.1, m2.2⟩

section
variable {K : PySem.W.Frag} {G : Gx} {ρ ρ' : Env} {F F' : FS} {σ σ' : Sg} {H H' : Hp}
theorem StOk.notF (s : StOk K G ρ F σ H) {a : Addr} (h : Held ρ σ a) : ¬ F a := by
  obtain ⟨i, sl, h1, h2, h3⟩ := h
  obtain ⟨v, h4, h5⟩ := s.val i sl h1
  rw [h3] at h4; cases h4
  unfold SlotOk at h5
  split at h5
  · rename_i e; exact absurd e h2
  · obtain ⟨b, e, nf, _⟩ := h5
    cases e; exact nf
theorem StOk.heldCell (s : StOk K G ρ F σ H) {a : Addr} (h : Held ρ σ a) : ∃ d, Cell K G F H a d := by
  obtain ⟨i, sl, h1, h2, h3⟩ := h
  obtain ⟨v, h4, h5⟩ := s.val i sl h1
  rw [h3] at h4; cases h4
  unfold SlotOk at h5
  split at h5
  · rename_i e; exact absurd e h2
  · obtain ⟨b, e, nf, c⟩ := h5
    cases e; exact ⟨_, c⟩
theorem Stp.ext (x : Stp ρ F σ H ρ' F' σ' H') (s : StOk K G ρ F σ H) : Ext F H F' H' := by
  have nt : ∀ a o, Own ρ σ a → H a = some o → (∀ xs, o ≠ .tup xs) ∧ ∀ ob u, o ≠ .frz ob u := fun a o h e => by
    obtain ⟨d, c⟩ := s.heldCell h.held
    obtain ⟨o', e', _, h1, h2⟩ := c.there
    rw [e] at e'; cases e'
    exact ⟨h1, h2⟩
  refine ⟨x.fr, fun a o f h n => x.keep a o h (fun z => s.notF z.held f) fun _ => n, fun a es f h => x.kd a es f (fun z => s.notF z.held f) h, fun a xs h => x.keep a _ h (fun z => (nt a _ z h).1 xs rfl) fun _ _ y => (nomatch y), fun a o xs h => x.keep a _ h (fun z => (nt a _ z h).2 o _ rfl) fun _ _ y => nomatch y⟩
end

/-! ## Results -/
inductive Vm | sh | fr
  deriving DecidableEq
structure Exn where
  c : Nat
  fs : List (Str × D)
inductive R (α : Type) where
  | ok (a : α) (ρ : Env)
  | ex (e : Exn) (ρ : Env)
  | no
def R.bind {α β : Type} (r : R α) (f : α → Env → R β) : R β :=
  match r with
  | .ok a ρ => f a ρ
  | .ex e ρ => .ex e ρ
  | .no => .no
inductive SR where
  | nx (ρ : Env) | rt (d : D) (m : Vm) (ρ : Env) | bk (ρ : Env) | ct (ρ : Env) | ex (e : Exn) (ρ : Env) | no
def R.thenS {α : Type} (r : R α) (f : α → Env → SR) : SR :=
  match r with
  | .ok a ρ => f a ρ
  | .ex e ρ => .ex e ρ
  | .no => .no
def SR.seq (r : SR) (f : Env → SR) : SR :=
  match r with
  | .nx ρ => f ρ
  | r => r

/-- a place that was not there, or was this frame's own -/
def Fresh (ρ : Env) (σ : Sg) (H : Hp) (b : Addr) : Prop := H b = none ∨ Own ρ σ b
theorem Stp.fresh {ρ ρ' : Env} {F F' : FS} {σ σ' : Sg} {H H' : Hp} (x : Stp ρ F σ H ρ' F' σ' H') {b : Addr} (h : Fresh ρ' σ' H' b) : Fresh ρ σ H b := by
  rcases h with h | h
  · by_cases o : Own ρ σ b
    · exact .inr o
    · cases q : H b with
      | none => exact .inl q
      | some u => exact (x.gone q o h).elim
  · rcases x.onew b h with z | z
    · exact .inr z
    · exact .inl z
section
variable (K : PySem.W.Frag) (G : Gx)
def ValOk (ρ : Env) (F : FS) (σ : Sg) (H : Hp) (v : V) (d : D) : Vm → Prop
  | .sh => Rep K G F H v d
  | .fr => ∃ a, v = .ref a ∧ ¬ F a ∧ ¬ Held ρ σ a ∧ Cell K G F H a d
/-- an exception as it lies: its class, its own dict -/
def ExOk (F : FS) (H : Hp) (cls : Value) (dx : Option Addr) (e : Exn) : Prop :=
  ∃ C, G.cls e.c = some C ∧ cls = .ref C ∧ (e.fs = [] ∨ ∃ x vs, dx = some x ∧ H x = some (.xd vs) ∧ RepFs K G F H vs e.fs)
def PostX (W : WX) (ρ : Env) (F : FS) (σ : Sg) (H : Hp) (e : Exn) (ρ' : Env) : Prop :=
  ∀ cls dx F' σ' H', Stp ρ F σ H ρ' F' σ' H' → StOk K G ρ' F' σ' H' → ExOk K G F' H' cls dx e → W cls dx σ' H'
def Post (W : WX) (ρ : Env) (F : FS) (σ : Sg) (H : Hp) (r : R (D × Vm)) (Q : VK) : Prop :=
  match r with
  | .ok (d, m) ρ' => ∀ v F' H', Stp ρ F σ H ρ' F' σ H' → StOk K G ρ' F' σ H' → ValOk K G ρ' F' σ H' v d m → Q v H'
  | .ex e ρ' => PostX K G W ρ F σ H e ρ'
  | .no => False
def PostS (W : WX) (D : Ends) (ρ : Env) (F : FS) (σ : Sg) (H : Hp) (r : SR) : Prop :=
  match r with
  | .nx ρ' => ∀ F' σ' H', Stp ρ F σ H ρ' F' σ' H' → StOk K G ρ' F' σ' H' → D.nx σ' H'
  | .bk ρ' => ∀ F' σ' H', Stp ρ F σ H ρ' F' σ' H' → StOk K G ρ' F' σ' H' → D.bk σ' H'
  | .ct ρ' => ∀ F' σ' H', Stp ρ F σ H ρ' F' σ' H' → StOk K G ρ' F' σ' H' → D.ct σ' H'
  | .rt d m ρ' => ∀ v F' σ' H', Stp ρ F σ H ρ' F' σ' H' → StOk K G ρ' F' σ' H' → ValOk K G ρ' F' σ' H' v d m → (m = .fr → ∀ b, v = .ref b → Fresh ρ σ H b) → D.rt v H'
  | .ex e ρ' => PostX K G W ρ F σ H e ρ'
  | .no => False
def tE (W : WX) (f : Env → R (D × Vm)) : TE := fun σ H Q => ∃ ρ F, StOk K G ρ F σ H ∧ Post K G W ρ F σ H (f ρ) Q
def tS (W : WX) (f : Env → SR) : TS := fun D σ H => ∃ ρ F, StOk K G ρ F σ H ∧ PostS K G W D ρ F σ H (f ρ)
/-- a test's -/
def PostT (W : WX) (ρ : Env) (F : FS) (σ : Sg) (H : Hp) (r : R Bool) (Q : Bool → Hp → Prop) : Prop :=
  match r with
  | .ok b ρ' => ∀ F' H', Stp ρ F σ H ρ' F' σ H' → StOk K G ρ' F' σ H' → Q b H'
  | .ex e ρ' => PostX K G W ρ F σ H e ρ'
  | .no => False
def tT (W : WX) (f : Env → R Bool) : TT := fun σ H Q => ∃ ρ F, StOk K G ρ F σ H ∧ PostT K G W ρ F σ H (f ρ) Q
end
section
variable {K : PySem.W.Frag} {G : Gx} {W : WX} {ρ ρ' : Env} {F F' : FS} {σ σ' : Sg} {H H' : Hp}
theorem PostX.step {e : Exn} {ρ'' : Env} (x : Stp ρ F σ H ρ' F' σ' H') (p : PostX K G W ρ F σ H e ρ'') : PostX K G W ρ' F' σ' H' e ρ'' :=
  fun cls dx F2 σ2 H2 y s o => p cls dx F2 σ2 H2 (x.trans y) s o
theorem Post.step {r : R (D × Vm)} {Q : VK} (x : Stp ρ F σ H ρ' F' σ H') (p : Post K G W ρ F σ H r Q) : Post K G W ρ' F' σ H' r Q := by
  cases r with
  | ok a ρ2 => exact fun v F2 H2 y s o => p v F2 H2 (x.trans y) s o
  | ex e ρ2 => exact PostX.step x p
  | no => exact p
theorem PostT.step {r : R Bool} {Q : Bool → Hp → Prop} (x : Stp ρ F σ H ρ' F' σ H') (p : PostT K G W ρ F σ H r Q) : PostT K G W ρ' F' σ H' r Q := by
  cases r with
  | ok a ρ2 => exact fun F2 H2 y s => p F2 H2 (x.trans y) s
  | ex e ρ2 => exact PostX.step x p
  | no => exact p
theorem PostS.step {r : SR} {D : Ends} (x : Stp ρ F σ H ρ' F' σ' H') (p : PostS K G W D ρ F σ H r) : PostS K G W D ρ' F' σ' H' r := by
  cases r with
  | nx ρ2 => exact fun F2 σ2 H2 y s => p F2 σ2 H2 (x.trans y) s
  | bk ρ2 => exact fun F2 σ2 H2 y s => p F2 σ2 H2 (x.trans y) s
  | ct ρ2 => exact fun F2 σ2 H2 y s => p F2 σ2 H2 (x.trans y) s
  | rt d m ρ2 => exact fun v F2 σ2 H2 y s o f => p v F2 σ2 H2 (x.trans y) s o fun e b eb => x.fresh (f e b eb)
  | ex e ρ2 => exact PostX.step x p
  | no => exact p
end
end DI

set_option Elab.async false
set_option linter.all false
set_option maxRecDepth 100000
set_option maxHeartbeats 4000000
namespace DI
open PySem L2

/-! ## Values looked at -/
section
variable (K : PySem.W.Frag) (G : Gx)
/-- d lies at v, frozen or not -/
def Lk (F : FS) (H : Hp) (v : V) (d : D) : Prop := Rep K G F H v d ∨ ∃ a, v = .ref a ∧ Cell K G F H a d
/-- what an operation hands back: nothing else is changed -/
def RV (F : FS) (H H' : Hp) (z : V) (d : D) : Vm → Prop
  | .sh => Rep K G F H' z d
  | .fr => ∃ p, z = .ref p ∧ H p = none ∧ Cell K G F H' p d
/-- the old objects stand -/
def Grow (H H' : Hp) : Prop := ∀ a o, H a = some o → H' a = some o
end
theorem Grow.refl {H : Hp} : Grow H H := fun _ _ e => e
theorem Grow.trans {H H1 H2 : Hp} (a : Grow H H1) (b : Grow H1 H2) : Grow H H2 := fun x o e => b x o (a x o e)
theorem Grow.new {H : Hp} {p : Addr} {o : HO} (h : H p = none) : Grow H (upd H p o) := fun b u e => by rw [upd_ne (ne_of_none e h)]; exact e
theorem Grow.ext {F : FS} {H H' : Hp} (g : Grow H H') : Ext F H F H' := ⟨fun _ x => x, fun a o _ e _ => g a o e, fun a es _ e => .inl (g a _ e), fun a xs e => g a _ e, fun a o xs e => g a _ e⟩

section
variable {K : PySem.W.Frag} {G : Gx} {F : FS} {H H' : Hp} {v : V}
theorem Lk.rep {d : D} (r : Rep K G F H v d) : Lk K G F H v d := .inl r
theorem Lk.grow (g : Grow H H') {d : D} (h : Lk K G F H v d) : Lk K G F H' v d := by
  rcases h with h | ⟨a, e, c⟩
  · exact .inl (h.ext g.ext)
  · exact .inr ⟨a, e, c.ext' g.ext fun o q => g a o q⟩
theorem Lk.int {i : Int} (h : Lk K G F H v (.int i)) : v = .int i := by
  rcases h with h | ⟨a, e, c⟩
  · cases h with
    | int => rfl
    | cell f c => cases c
  · cases c
theorem Lk.bl {i : Bool} (h : Lk K G F H v (.bl i)) : v = .bl i := by
  rcases h with h | ⟨a, e, c⟩
  · cases h with
    | bl => rfl
    | cell f c => cases c
  · cases c
theorem Lk.non (h : Lk K G F H v .non) : v = .non := by
  rcases h with h | ⟨a, e, c⟩
  · cases h with
    | non => rfl
    | cell f c => cases c
  · cases c
theorem Lk.str {i : Str} (h : Lk K G F H v (.str i)) : v = .str i := by
  rcases h with h | ⟨a, e, c⟩
  · cases h with
    | str => rfl
    | cell f c => cases c
  · cases c
theorem Lk.ty {i : String} (h : Lk K G F H v (.ty i)) : v = .ty i := by
  rcases h with h | ⟨a, e, c⟩
  · cases h with
    | ty => rfl
    | cell f c => cases c
  · cases c
theorem Lk.tup {ds : List D} (h : Lk K G F H v (.tup ds)) : ∃ a vs, v = .ref a ∧ SqT K H a vs ∧ Reps K G F H vs ds := by
  rcases h with h | ⟨a, e, c⟩
  · cases h with
    | tup h r => exact ⟨_, _, rfl, h, r⟩
    | cell f c => cases c
  · cases c
theorem Lk.lst {ds : List D} (h : Lk K G F H v (.lst ds)) : ∃ a vs, v = .ref a ∧ H a = some (.lst vs) ∧ Reps K G F H vs ds := by
  rcases h with h | ⟨a, e, c⟩
  · cases h with
    | cell f c =>
      cases c with
      | lst h r => exact ⟨_, _, rfl, h, r⟩
  · cases c with
    | lst h r => exact ⟨_, _, e, h, r⟩
theorem Lk.fz {ds : List D} (h : Lk K G F H v (.fz ds)) : ∃ a vs, v = .ref a ∧ SqL K H a vs ∧ Reps K G F H vs ds := by
  rcases h with h | ⟨a, e, c⟩
  · cases h with
    | cell f c => cases c
    | frz f h r => exact ⟨_, _, rfl, .inl (.inr ⟨_, h⟩), r⟩
    | fzk h r => exact ⟨_, _, rfl, SqL0 h, r⟩
  · cases c
/-- a dict, locked or not -/
inductive CellD (K : PySem.W.Frag) (G : Gx) (F : FS) (H : Hp) (a : Addr) (kvs : List (D × D)) : Prop where
  | dct {es : List (Key × V)} (h : Rd H a (.dK es)) (r : RepKs K G F H es kvs)
  | dtp {es : List (List Key × V)} (h : H a = some (.dT es)) (r : RepTs K G F H es kvs)
theorem Cell.cd {a : Addr} {kvs : List (D × D)} (c : Cell K G F H a (.dct kvs)) : CellD K G F H a kvs := by
  cases c with
  | dct h r => exact .dct (.inl h) r
  | dtp h r => exact .dtp h r
theorem Lk.dct {kvs : List (D × D)} (h : Lk K G F H v (.dct kvs)) : ∃ a, v = .ref a ∧ CellD K G F H a kvs := by
  rcases h with h | ⟨a, e, c⟩
  · cases h with
    | cell f c => exact ⟨_, rfl, c.cd⟩
    | dfz f h r => exact ⟨_, rfl, .dct (.inr ⟨_, h⟩) r⟩
  · exact ⟨a, e, c.cd⟩
theorem Lk.obj {c : Nat} {fs : List (Str × D)} (h : Lk K G F H v (.obj c fs)) : ∃ a, v = .ref a ∧ Cell K G F H a (.obj c fs) := by
  rcases h with h | ⟨a, e, c⟩
  · cases h with
    | cell f c => exact ⟨_, rfl, c⟩
  · exact ⟨a, e, c⟩
theorem Lk.exc {c : Nat} {fs : List (Str × D)} (h : Lk K G F H v (.exc c fs)) : ∃ a C, v = .ref a ∧ G.cls c = some C ∧ ((fs = [] ∧ H a = some (ExO (.ref C) a)) ∨ ∃ dx vs, H a = some (exo a C (some dx)) ∧ H dx = some (exd dx vs) ∧ RepFs K G F H vs fs) := by
  rcases h with h | ⟨a, e, c⟩
  · cases h with
    | cell f c => cases c
    | exn f g h => exact ⟨_, _, rfl, g, .inl ⟨rfl, h⟩⟩
    | exf f f2 g h h2 r => exact ⟨_, _, rfl, g, .inr ⟨_, _, h, h2, r⟩⟩
  · cases c
theorem RepFs.look : ∀ {vs : List (Str × V)} {fs : List (Str × D)} {n : Str} {d : D}, RepFs K G F H vs fs → fs.lookup n = some d → ∃ v, vs.lookup n = some v ∧ Rep K G F H v d
  | _, _, n, d, .nil, e => by cases e
  | _, _, n, d, .cons (n := m) r t, e => by
    rw [List.lookup] at e ⊢
    split at e
    · cases e; exact ⟨_, rfl, r⟩
    · exact t.look e
/-- a tuple is frozen by itself -/
theorem Lk.tup_rep {ds : List D} (h : Lk K G F H v (.tup ds)) : Rep K G F H v (.tup ds) := by
  obtain ⟨a, vs, rfl, h1, h2⟩ := h.tup
  exact .tup h1 h2
end

/-! ## Data as the library's -/
mutual
def toP : D → Option PyData
  | .non => some .none
  | .bl b => some (.bool b)
  | .int i => some (.int i)
  | .str x => some (.str x)
  | .tup ds => (toPs ds).map .tuple
  | .lst ds => (toPs ds).map .list
  | _ => none
def toPs : List D → Option (List PyData)
  | [] => some []
  | d :: ds => (toP d).bind fun p => (toPs ds).map fun ps => p :: ps
end
section
variable {K : PySem.W.Frag} {G : Gx} {F : FS} {H H' : Hp}
mutual
theorem Rep.dp : ∀ {v : V} {d : D} {p : PyData}, Rep K G F H v d → toP d = some p → Dp K H v p
  | _, _, _, .non, e => by cases e; exact .non
  | _, _, _, .bl b, e => by cases e; exact .bl b
  | _, _, _, .int i, e => by cases e; exact .int i
  | _, _, _, .str x, e => by cases e; exact .str x
  | _, _, _, .ty n, e => nomatch e
  | _, _, _, .tup (ds := ds) h r, e => by
    cases q : toPs ds with
    | none => rw [toP, q] at e; cases e
    | some ps => rw [toP, q] at e; cases e; exact .tup h (r.dp q)
  | _, _, _, .cell f c, e => c.dp e
  | _, _, _, .frz f h r, e => nomatch e
  | _, _, _, .dfz f h r, e => nomatch e
  | _, _, _, .exn .., e => nomatch e
  | _, _, _, .exf .., e => nomatch e
  | _, _, _, .fzk h r, e => nomatch e
  | _, _, _, .cls h, e => nomatch e
  | _, _, _, .fn h, e => nomatch e
theorem Reps.dp : ∀ {v : List V} {d : List D} {p : List PyData}, Reps K G F H v d → toPs d = some p → DpAll K H v p
  | _, _, _, .nil, e => by cases e; exact .nil
  | _, _, _, .cons (d := d) (ds := ds) r t, e => by
    rw [toPs] at e
    cases q : toP d with
    | none => rw [q] at e; cases e
    | some p =>
      cases q2 : toPs ds with
      | none => rw [q, q2] at e; cases e
      | some ps => rw [q, q2] at e; cases e; exact .cons (r.dp q) (t.dp q2)
theorem Cell.dp : ∀ {v : Addr} {d : D} {p : PyData}, Cell K G F H v d → toP d = some p → Dp K H (.ref v) p
  | _, _, _, .lst (ds := ds) h r, e => by
    cases q : toPs ds with
    | none => rw [toP, q] at e; cases e
    | some ps => rw [toP, q] at e; cases e; exact .lst (.inl (.inl h)) (r.dp q)
  | _, _, _, .dct .., e => nomatch e
  | _, _, _, .dtp .., e => nomatch e
  | _, _, _, .obj .., e => nomatch e
end
theorem Lk.dp {v : V} {d : D} {p : PyData} (h : Lk K G F H v d) (e : toP d = some p) : Dp K H v p := by
  rcases h with h | ⟨a, rfl, c⟩
  · exact h.dp e
  · exact c.dp e
end

/-! ## Operators on values -/
abbrev Res := Option (D × Vm)
def shv (d : D) : Res := some (d, .sh)
/-- a length that is served -/
def okLen (n : Nat) : Bool := decide (n ≤ 16777216)
theorem okLen_le {n : Nat} (h : okLen n = true) : n ≤ sizeLine := by rw [sizeLine_eq]; exact of_decide_eq_true h

def addD : D → D → Res
  | .int i, .int j => shv (.int (i + j))
  | .str x, .str y => if okLen (x.length + y.length) = true then shv (.str (x ++ y)) else none
  | .tup x, .tup y => if okLen (x.length + y.length) = true then shv (.tup (x ++ y)) else none
  | .lst x, .lst y => if okLen (x.length + y.length) = true then some (.lst (x ++ y), .fr) else none
  | _, _ => none
def subD : D → D → Res
  | .int i, .int j => shv (.int (i - j))
  | _, _ => none
def mulOk (i j : Int) : Bool := decide (i.natAbs.log2 + j.natAbs.log2 < 1000000)
/-- an index's bound -/
def fits63 (k : Int) : Bool := decide (k.natAbs.log2 < 63)
theorem nat_lt_of_log2 {n k : Nat} (h : n.log2 < k) : n < 2 ^ k := by
  by_cases z : n = 0
  · subst z; exact Nat.two_pow_pos k
  · exact (Nat.log2_lt z).mp h
theorem fits63_le {k : Int} (h : fits63 k = true) : -(2 ^ 63) ≤ k ∧ k < 2 ^ 63 := by
  unfold fits63 at h
  have := nat_lt_of_log2 (of_decide_eq_true h)
  omega
def mulD : D → D → Res
  | .int i, .int j => if mulOk i j = true then shv (.int (i * j)) else none
  | .lst x, .int k => if fits63 k && okLen (x.length * k.toNat) = true then some (.lst (List.replicate k.toNat x).flatten, .fr) else none
  | .tup x, .int k => if decide (-1000 ≤ k) && decide (k ≤ 1000) && decide (x.length ≤ 1000) then shv (.tup (List.replicate k.toNat x).flatten) else none
  | _, _ => none
def divOk (j : Int) : Bool := decide (j ≠ 0) && decide (j.natAbs.log2 < 9000)
def fdivD : D → D → Res
  | .int i, .int j => if divOk j = true then shv (.int (i.fdiv j)) else none
  | _, _ => none
def modD : D → D → Res
  | .int i, .int j => if j ≠ 0 then shv (.int (i.fmod j)) else none
  | _, _ => none
def powD : D → D → Res
  | .int i, .int j => if 0 ≤ j ∧ (Builtin.Int.intBits i : Int) * j ≤ 2 ^ 27 then shv (.int (i ^ j.toNat)) else none
  | _, _ => none
def eqB (a b : D) : Option Bool := (toP a).bind fun p => (toP b).bind fun q => if SeqAt.shaped p && SeqAt.shaped q then some (PyData.eqv p q) else none
/-- texts, whatever their signs -/
def strEq : D → D → Option Bool
  | .str x, .str y => some (decide (x = y))
  | _, _ => none
def eqB2 (a b : D) : Option Bool := match strEq a b with | some k => some k | none => eqB a b
def eqD (a b : D) : Res := (eqB2 a b).map fun k => (.bl k, .sh)
def neD (a b : D) : Res := (eqB2 a b).map fun k => (.bl (!k), .sh)
def cmpD (f : Int → Int → Bool) (a b : D) : Res :=
  match a, b with
  | .int i, .int j => shv (.bl (f i j))
  | _, _ => none
def intsD : List D → Option (List Int)
  | [] => some []
  | .int i :: r => (intsD r).map (i :: ·)
  | _ => none
def isNonP : PyData → Bool
  | .none => true
  | _ => false
/-- data that are alike -/
def ltP (a b : D) : Res := (toP a).bind fun p => (toP b).bind fun q => if W.alike p q && SeqAt.shaped p && SeqAt.shaped q && !isNonP p then shv (.bl (W.dataLt p q)) else none
def ltD (a b : D) : Res :=
  match a, b with
  | .int i, .int j => shv (.bl (decide (i < j)))
  | .str x, .str y => shv (.bl (decide (x.cps.toList < y.cps.toList)))
  | .tup x, .tup y => match intsD x, intsD y with
    | some ns, some ms => shv (.bl (HT.lexLt ns ms))
    | _, _ => ltP (.tup x) (.tup y)
  | _, _ => none
def inB (a b : D) : Option Bool :=
  match b with
  | .lst ds => (toP a).bind fun p => (toPs ds).bind fun q => if SeqAt.shaped p && SeqAt.shaped (.list q) then some (q.any fun z => PyData.eqv z p) else none
  | .tup ds => (toP a).bind fun p => (toPs ds).bind fun q => if SeqAt.shaped p && SeqAt.shaped (.list q) then some (q.any fun z => PyData.eqv z p) else none
  | .str z => match a with
    | .str y => match y.cps.toList with
      | [c] => some (decide (c ∈ z.cps.toList))
      | _ => none
    | _ => none
  | .dct kvs => match keyD a with
    | some k => if kvs.all fun e => (keyD e.1).isSome then some (kvs.any fun e => decide (keyD e.1 = some k)) else none
    | none => none
  | _ => none
def isNoneB (a b : D) : Option Bool :=
  match b with
  | .non => some (match a with | .non => true | _ => false)
  | .bl k => match a with
    | .bl j => some (decide (j = k))
    | _ => none
  | _ => none

inductive O2 where
  | add | sub | mul | fdiv | mod | pow | eq | ne | lt | le | gt | ge | in_ | nin | is_ | isn
  deriving DecidableEq
def sem2 : O2 → D → D → Res
  | .add => addD | .sub => subD | .mul => mulD | .fdiv => fdivD | .mod => modD | .pow => powD
  | .eq => eqD | .ne => neD | .lt => ltD
  | .le => cmpD fun i j => decide (i ≤ j)
  | .gt => cmpD fun i j => decide (j < i)
  | .ge => cmpD fun i j => decide (j ≤ i)
  | .in_ => fun a b => (inB a b).map fun k => (.bl k, .sh)
  | .nin => fun a b => (inB a b).map fun k => (.bl (!k), .sh)
  | .is_ => fun a b => (isNoneB a b).map fun k => (.bl k, .sh)
  | .isn => fun a b => (isNoneB a b).map fun k => (.bl (!k), .sh)

section
variable (G : Gx)
/-- the reading of an operation of two values that is told by s -/
def rSp (K : PySem.W.Frag) (s : D → D → Res) : R2 := fun x y H Q => ∃ F dx dy d m, Lk K G F H x dx ∧ Lk K G F H y dy ∧ s dx dy = some (d, m) ∧ ∀ z H', Grow H H' → RV K G F H H' z d m → Q z H'
def rSpU (K : PySem.W.Frag) (s : D → Res) : V → Hp → VK → Prop := fun x H Q => ∃ F dx d m, Lk K G F H x dx ∧ s dx = some (d, m) ∧ ∀ z H', Grow H H' → RV K G F H H' z d m → Q z H'
end
/-- one's own use of an operator's rule -/
theorem opImp {X : Cx} {f : Value → Value → Sem Value} {r r' : R2} (h : OpR X f r) (i : ∀ x y H Q, r' x y H Q → r x y H Q) : OpR X f r' :=
  fun pins s σ H x y v u Q I rx ry q => h pins s σ H x y v u Q I rx ry (i x y H Q q)
theorem opAlt {X : Cx} {f : Value → Value → Sem Value} {r r' : R2} (h : OpR X f r) (h' : OpR X f r') : OpR X f (fun x y H Q => r x y H Q ∨ r' x y H Q) :=
  fun pins s σ H x y v u Q I rx ry q => by
    rcases q with q | q
    · exact h pins s σ H x y v u Q I rx ry q
    · exact h' pins s σ H x y v u Q I rx ry q

section
variable {X : Cx} {G : Gx} {K : PySem.W.Frag} {F : FS} {H : Hp}
theorem shRV {z : V} {d : D} {H' : Hp} (r : Rep K G F H' z d) : RV K G F H H' z d .sh := r
theorem opw_mul : OpR X (binaryOp .Mult) (rI CMulW fun i j => .int (i * j)) := op_mulW
theorem opw_fdiv : OpR X (binaryOp .FloorDiv) (rI (fun _ j => j ≠ 0 ∧ j.natAbs.log2 < 9000) fun i j => .int (i.fdiv j)) := opI fun i j _ _ _ _ _ hc q =>
  PyProof.Rows.floordiv_int hc.1 q (.inl (PyProof.noPylong_of_log2 hc.2))
theorem opw_pow : OpR X (binaryOp .Pow) (rI (fun i j => 0 ≤ j ∧ (Builtin.Int.intBits i : Int) * j ≤ 2 ^ 27) fun i j => .int (i ^ j.toNat)) :=
  opI fun _ _ _ _ _ _ _ hc q => PyProof.Rows.pow_int hc.1 hc.2 q


/-- a new tuple, a new list -/
theorem newT {H : Hp} {p : Addr} {vs : List V} {ds : List D} (np : H p = none) (r : Reps K G F H vs ds) : Rep K G F (upd H p (.tup vs)) (.ref p) (.tup ds) :=
  .tup (.inl (.inl upd_same)) (r.ext (Grow.new np).ext)
theorem newL {H : Hp} {p : Addr} {vs : List V} {ds : List D} (np : H p = none) (r : Reps K G F H vs ds) : RV K G F H (upd H p (.lst vs)) (.ref p) (.lst ds) .fr :=
  ⟨p, rfl, np, .lst upd_same (r.ext (Grow.new np).ext)⟩
theorem add_sp : OpR X (binaryOp .Add) (rSp G X.K addD) := by
  refine opImp (opAlt op_add (opAlt op_add_str (opAlt op_catA op_cat))) ?_
  rintro x y H Q ⟨F, dx, dy, d, m, lx, ly, e, q⟩
  unfold addD at e
  split at e
  · cases e; exact .inl ⟨_, _, lx.int, ly.int, q _ H .refl (.int _)⟩
  · split at e
    · rename_i c
      cases e
      exact .inr (.inl ⟨_, _, lx.str, ly.str, okLen_le c, q _ H .refl (.str _)⟩)
    · cases e
  · split at e
    · rename_i c
      cases e
      obtain ⟨a, vs, rfl, h1, r1⟩ := lx.tup
      obtain ⟨b, us, rfl, h2, r2⟩ := ly.tup
      refine .inr (.inr (.inl ⟨a, b, vs, us, rfl, rfl, h1, h2, by rw [r1.length, r2.length]; exact okLen_le c, fun e1 => ?_, fun _ e1 => ?_, fun _ _ p np => ?_⟩))
      · subst e1; cases r1
        exact q _ _ .refl (.tup h2 r2)
      · subst e1; cases r2
        rw [List.append_nil] at q
        exact q _ _ .refl (.tup h1 r1)
      · exact q _ _ (.new np) (newT np (r1.append r2))
    · cases e
  · split at e
    · rename_i c
      cases e
      obtain ⟨a, vs, rfl, h1, r1⟩ := lx.lst
      obtain ⟨b, us, rfl, h2, r2⟩ := ly.lst
      exact .inr (.inr (.inr ⟨a, b, vs, us, rfl, rfl, h1, h2, by rw [r1.length, r2.length]; exact okLen_le c, fun p np => q _ _ (.new np) (newL np (r1.append r2))⟩))
    · cases e
  · cases e
theorem sub_sp : OpR X (binaryOp .Sub) (rSp G X.K subD) := by
  refine opImp op_sub ?_
  rintro x y H Q ⟨F, dx, dy, d, m, lx, ly, e, q⟩
  unfold subD at e
  split at e
  · cases e; exact ⟨_, _, lx.int, ly.int, q _ H .refl (.int _)⟩
  · cases e
theorem fdiv_sp : OpR X (binaryOp .FloorDiv) (rSp G X.K fdivD) := by
  refine opImp opw_fdiv ?_
  rintro x y H Q ⟨F, dx, dy, d, m, lx, ly, e, q⟩
  unfold fdivD at e
  split at e
  · split at e
    · rename_i c
      cases e
      unfold divOk at c
      rw [Bool.and_eq_true, decide_eq_true_eq, decide_eq_true_eq] at c
      exact ⟨_, _, lx.int, ly.int, c, q _ H .refl (.int _)⟩
    · cases e
  · cases e
theorem mod_sp : OpR X (binaryOp .Mod) (rSp G X.K modD) := by
  refine opImp op_modN ?_
  rintro x y H Q ⟨F, dx, dy, d, m, lx, ly, e, q⟩
  unfold modD at e
  split at e
  · split at e
    · rename_i c
      cases e
      exact ⟨_, _, lx.int, ly.int, c, q _ H .refl (.int _)⟩
    · cases e
  · cases e
theorem pow_sp : OpR X (binaryOp .Pow) (rSp G X.K powD) := by
  refine opImp opw_pow ?_
  rintro x y H Q ⟨F, dx, dy, d, m, lx, ly, e, q⟩
  unfold powD at e
  split at e
  · split at e
    · rename_i c
      cases e
      exact ⟨_, _, lx.int, ly.int, c, q _ H .refl (.int _)⟩
    · cases e
  · cases e
theorem eqB_dp {x y : V} {dx dy : D} {k : Bool} {H : Hp} (lx : Lk K G F H x dx) (ly : Lk K G F H y dy) (e : eqB dx dy = some k) :
    ∃ p q, Dp K H x p ∧ Dp K H y q ∧ SeqAt.shaped p = true ∧ SeqAt.shaped q = true ∧ PyData.eqv p q = k := by
  unfold eqB at e
  cases e1 : toP dx with
  | none => rw [e1] at e; cases e
  | some p =>
    cases e2 : toP dy with
    | none => rw [e1, e2] at e; cases e
    | some q =>
      rw [e1, e2] at e
      simp only [Option.bind_some] at e
      split at e
      · rename_i c
        rw [Bool.and_eq_true] at c
        exact ⟨p, q, lx.dp e1, ly.dp e2, c.1, c.2, Option.some.inj e⟩
      · cases e
theorem eqB2_dp {x y : V} {dx dy : D} {k : Bool} {H : Hp} (lx : Lk K G F H x dx) (ly : Lk K G F H y dy) (e : eqB2 dx dy = some k) :
    (∃ p q, Dp K H x p ∧ Dp K H y q ∧ SeqAt.shaped p = true ∧ SeqAt.shaped q = true ∧ PyData.eqv p q = k) ∨ (scal x y = true ∧ decide (x = y) = k) := by
  unfold eqB2 at e
  split at e
  · rename_i k' h
    cases e
    unfold strEq at h
    split at h
    · cases h
      rw [lx.str, ly.str]
      exact .inr ⟨rfl, by simp⟩
    · cases h
  · exact .inl (eqB_dp lx ly e)
theorem eq_sp (hu : X.A.units + 64 < cLine) : OpR X (compareOp .Eq) (rSp G X.K eqD) := by
  refine opImp (opAlt (op_eqD hu) L2.op_eq) ?_
  rintro x y H Q ⟨F, dx, dy, d, m, lx, ly, e, q⟩
  unfold eqD at e
  obtain ⟨k, e1, e2⟩ := Option.map_eq_some_iff.mp e
  cases e2
  rcases eqB2_dp lx ly e1 with ⟨p, p', h1, h2, h3, h4, h5⟩ | ⟨h1, h2⟩
  · exact .inl ⟨p, p', h1, h2, h3, h4, by rw [h5]; exact q _ H .refl (.bl _)⟩
  · exact .inr ⟨h1, by rw [h2]; exact q _ H .refl (.bl _)⟩
theorem ne_sp (hu : X.A.units + 64 < cLine) : OpR X (compareOp .NotEq) (rSp G X.K neD) := by
  refine opImp (opAlt (op_neD hu) L2.op_ne) ?_
  rintro x y H Q ⟨F, dx, dy, d, m, lx, ly, e, q⟩
  unfold neD at e
  obtain ⟨k, e1, e2⟩ := Option.map_eq_some_iff.mp e
  cases e2
  rcases eqB2_dp lx ly e1 with ⟨p, p', h1, h2, h3, h4, h5⟩ | ⟨h1, h2⟩
  · exact .inl ⟨p, p', h1, h2, h3, h4, by rw [h5]; exact q _ H .refl (.bl _)⟩
  · exact .inr ⟨h1, by rw [h2]; exact q _ H .refl (.bl _)⟩
theorem cmp_sp {op : CmpOp} {f : Int → Int → Bool} (h : OpR X (compareOp op) (rI0 fun i j => .bl (f i j))) : OpR X (compareOp op) (rSp G X.K (cmpD f)) := by
  refine opImp h ?_
  rintro x y H Q ⟨F, dx, dy, d, m, lx, ly, e, q⟩
  unfold cmpD at e
  split at e
  · cases e; exact ⟨_, _, lx.int, ly.int, q _ H .refl (.bl _)⟩
  · cases e
theorem intsD_reps : ∀ {ds : List D} {ns : List Int} {vs : List V}, intsD ds = some ns → Reps K G F H vs ds → vs = ns.map V.int
  | [], ns, vs, e, r => by cases e; cases r; rfl
  | .int i :: ds, ns, vs, e, r => by
    rw [intsD] at e
    obtain ⟨ms, e1, rfl⟩ := Option.map_eq_some_iff.mp e
    cases r with
    | cons r t => rw [intsD_reps e1 t, Lk.int (.inl r)]; rfl
  | .non :: ds, ns, vs, e, r => nomatch e
  | .bl _ :: ds, ns, vs, e, r => nomatch e
  | .str _ :: ds, ns, vs, e, r => nomatch e
  | .ty _ :: ds, ns, vs, e, r => nomatch e
  | .tup _ :: ds, ns, vs, e, r => nomatch e
  | .lst _ :: ds, ns, vs, e, r => nomatch e
  | .dct _ :: ds, ns, vs, e, r => nomatch e
  | .obj .. :: ds, ns, vs, e, r => nomatch e
  | .cls _ :: ds, ns, vs, e, r => nomatch e
  | .fn _ :: ds, ns, vs, e, r => nomatch e
  | .fz _ :: ds, ns, vs, e, r => nomatch e
/-- a < b of data that are alike -/
def rLtP (K : PySem.W.Frag) : R2 := fun x y H Q => ∃ p q, Dp K H x p ∧ Dp K H y q ∧ W.alike p q = true ∧ SeqAt.shaped p = true ∧ p ≠ .none ∧ Q (.bl (W.dataLt p q)) H
theorem op_ltP (hu : X.A.units + 64 < cLine) : OpR X (compareOp .Lt) (rLtP X.K) := by
  intro pins s σ H x y v u Q I rx ry h
  obtain ⟨p, q, hp, hq, ha, hs, hn, hQ⟩ := h
  obtain ⟨as, r1⟩ := Dp.reads I p x v hp rx
  obtain ⟨bs, r2⟩ := Dp.reads I q y u hq ry
  have hr : X.A.units + min p.depth q.depth < cLine := SeqAt.room_of_shaped hs hu
  exact W.rcLt_alike p q X.A s v u as bs r1 r2 ha hn hr _ _ _ _ ⟨.bl _, H, I, rfl, hQ⟩
theorem lt_sp (hu : X.A.units + 64 < cLine) : OpR X (compareOp .Lt) (rSp G X.K ltD) := by
  refine opImp (opAlt op_lt (opAlt op_lt_str (opAlt (op_ltT (by omega)) (op_ltP hu)))) ?_
  rintro x y H Q ⟨F, dx, dy, d, m, lx, ly, e, q⟩
  unfold ltD at e
  split at e
  · cases e; exact .inl ⟨_, _, lx.int, ly.int, q _ H .refl (.bl _)⟩
  · cases e; exact .inr (.inl ⟨_, _, lx.str, ly.str, q _ H .refl (.bl _)⟩)
  · rename_i xs ys
    split at e
    · rename_i ns ms e1 e2
      cases e
      obtain ⟨a, vs, rfl, h1, r1⟩ := lx.tup
      obtain ⟨b, us, rfl, h2, r2⟩ := ly.tup
      rw [intsD_reps e1 r1] at h1
      rw [intsD_reps e2 r2] at h2
      exact .inr (.inr (.inl ⟨a, b, ns, ms, rfl, rfl, h1, h2, q _ H .refl (.bl _)⟩))
    · unfold ltP at e
      obtain ⟨p, e1, e⟩ := Option.bind_eq_some_iff.mp e
      obtain ⟨p', e2, e⟩ := Option.bind_eq_some_iff.mp e
      split at e
      · rename_i c
        cases e
        simp only [Bool.and_eq_true, Bool.not_eq_true'] at c
        obtain ⟨⟨⟨c1, c2⟩, c3⟩, c4⟩ := c
        exact .inr (.inr (.inr ⟨p, p', lx.dp e1, ly.dp e2, c1, c2, (by rintro rfl; cases c4), q _ H .refl (.bl _)⟩))
      · cases e
  · cases e
theorem isB_or {x y : V} {dx dy : D} {k : Bool} (lx : Lk K G F H x dx) (ly : Lk K G F H y dy) (e : isNoneB dx dy = some k) : (y = .non ∧ decide (x = V.non) = k) ∨ ∃ a b, x = .bl a ∧ y = .bl b ∧ decide (a = b) = k := by
  unfold isNoneB at e
  split at e
  · refine .inl ⟨ly.non, ?_⟩
    split at e
    · rw [lx.non]; exact Option.some.inj e
    · rename_i hn
      rw [← Option.some.inj e]
      refine decide_eq_false fun z => hn ?_
      subst z
      rcases lx with r | ⟨a, z, c⟩
      · cases r; rfl
      · cases z
  · split at e
    · exact .inr ⟨_, _, lx.bl, ly.bl, Option.some.inj e⟩
    · cases e
  · cases e
theorem is_sp : OpR X (compareOp .Is) (rSp G X.K fun a b => (isNoneB a b).map fun k => (.bl k, .sh)) := by
  refine opImp (opAlt op_isN op_isBl) ?_
  rintro x y H Q ⟨F, dx, dy, d, m, lx, ly, e, q⟩
  obtain ⟨k, e1, e2⟩ := Option.map_eq_some_iff.mp e
  cases e2
  rcases isB_or lx ly e1 with ⟨h1, h2⟩ | ⟨a, b, h1, h2, h3⟩
  · exact .inl ⟨h1, by rw [h2]; exact q _ H .refl (.bl _)⟩
  · exact .inr ⟨a, b, h1, h2, by rw [h3]; exact q _ H .refl (.bl _)⟩
theorem isn_sp : OpR X (compareOp .IsNot) (rSp G X.K fun a b => (isNoneB a b).map fun k => (.bl (!k), .sh)) := by
  refine opImp (opAlt op_notN op_notBl) ?_
  rintro x y H Q ⟨F, dx, dy, d, m, lx, ly, e, q⟩
  obtain ⟨k, e1, e2⟩ := Option.map_eq_some_iff.mp e
  cases e2
  rcases isB_or lx ly e1 with ⟨h1, h2⟩ | ⟨a, b, h1, h2, h3⟩
  · exact .inl ⟨h1, by rw [h2]; exact q _ H .refl (.bl _)⟩
  · exact .inr ⟨a, b, h1, h2, by rw [h3]; exact q _ H .refl (.bl _)⟩
end
end DI

set_option Elab.async false
set_option linter.all false
set_option maxRecDepth 100000
set_option maxHeartbeats 4000000
namespace DI
open PySem L2
theorem tupMul1 (l : Addr) (items : Array Value) (n : Nat) (dd : Option Addr) (sl : Array (Option Value)) (x : Int) (u : Tok) (g0 : (decide (x < -(2 ^ 63)) || decide (x ≥ 2 ^ 63)) = false) (g1 : (items.isEmpty || x == 1) = true) :
    Meets (Builtin.«tuple.__mul__» ⟨[.ref l, .int x u], []⟩) (fun _ R s => s.heap.get? l = some { cls := .type "tuple", dict := dd, data := .seq items n, slots := sl } ∧ R (.ok (.ret (.ref l))) s) :=
  .of_wp fun prog w A R s hh => by
    obtain ⟨hp, g, d, tk, os⟩ := s
    obtain ⟨hl, hh⟩ := hh
    have f1 := AutoSeq1.idx_int
    wp_walk using wpAny_loadPart' hl
    repeat (first
      | (refine wpAny_ite_false (decide_eq_false (by rw [g0]; decide)) ?_; wp_walk using wpAny_loadPart' hl)
      | (refine wpAny_ite_true (decide_eq_true g1) ?_; wp_walk using wpAny_loadPart' hl))
    exact ⟨_, rfl, hh⟩
theorem tupMul0 (l : Addr) (items : Array Value) (n : Nat) (dd : Option Addr) (sl : Array (Option Value)) (x : Int) (u : Tok) (g0 : (decide (x < -(2 ^ 63)) || decide (x ≥ 2 ^ 63)) = false) (g1 : (items.isEmpty || x == 1) = false) (g2 : x ≤ 0) :
    Meets (Builtin.«tuple.__mul__» ⟨[.ref l, .int x u], []⟩) (fun _ R s => s.heap.get? l = some { cls := .type "tuple", dict := dd, data := .seq items n, slots := sl } ∧
      R (.ok (.ret (Value.ref s.heap.objs.size))) { s with heap := s.heap.push { cls := Value.type "tuple", data := Data.seq #[] }, toks := s.toks }) :=
  .of_wp fun prog w A R s hh => by
    obtain ⟨hp, g, d, tk, os⟩ := s
    obtain ⟨hl, hh⟩ := hh
    have f1 := AutoSeq1.idx_int
    wp_walk using wpAny_loadPart' hl
    repeat (first
      | (refine wpAny_ite_false (decide_eq_false (by rw [g0]; decide)) ?_; wp_walk using wpAny_loadPart' hl)
      | (refine wpAny_ite_false (decide_eq_false (by rw [g1]; decide)) ?_; wp_walk using wpAny_loadPart' hl)
      | (refine wpAny_ite_true (decide_eq_true (by rw [decide_eq_true g2]; rfl)) ?_; wp_walk using wpAny_loadPart' hl))
    exact ⟨_, rfl, hh⟩

section
variable {X : Cx} {G : Gx} {K : PySem.W.Frag} {F : FS} {H : Hp}
theorem fill0 {x : Int} (h1 : -1000 ≤ x) (h2 : x ≤ 1000) : (decide (x < -(2 ^ 63)) || decide (x ≥ 2 ^ 63)) = false := by
  rw [decide_eq_false (by omega), decide_eq_false (by omega)] <;> rfl
/-- a tuple times an int that is at most 1, or an empty tuple -/
def rMulT (K : PySem.W.Frag) : R2 := fun x y H Q => ∃ l k xs, x = .ref l ∧ y = .int k ∧ SqT K H l xs ∧ -1000 ≤ k ∧ k ≤ 1000 ∧ (xs = [] ∨ k ≤ 1) ∧
  ((xs = [] ∨ k = 1) → Q (.ref l) H) ∧ (¬ (xs = [] ∨ k = 1) → ∀ p, H p = none → Q (.ref p) (upd H p (.tup [])))
theorem mulT_ok : OpR X (binaryOp .Mult) (rMulT X.K) := by
  intro pins s σ H x y v u Q I rx ry h
  obtain ⟨l, k, xs, rfl, rfl, hT, h1, h2, h3, q1, q2⟩ := h
  cases rx
  obtain ⟨t, rfl⟩ := ry
  obtain ⟨its, r, ⟨⟨cls, dd, data, sl⟩, ho, hc, n, hd⟩, hs⟩ := I.tuple hT
  simp only at hc hd
  subst hc hd
  have hemp : its.toArray.isEmpty = xs.isEmpty := by cases r <;> rfl
  by_cases c : xs = [] ∨ k = 1
  · have g1 : (its.toArray.isEmpty || k == 1) = true := by
      rw [hemp]
      rcases c with c | c
      · subst c; rfl
      · subst c; simp
    refine wpAny_binaryOp_repeat_ref (T := "tuple") (U := "int") (by decide) ⟨_, ho, rfl⟩ (fun s' => typeIs_int s' k t) noFill_tuple_mul F.fills_int_mul F.slot_int_rmul repeat_tuple F.slot_int_index.lookup
      (call_meets F.slot_int_rmul (typeIs_int s k t) F.entry_int_rmul (F.args_int_rmul_2 _ _) (int_rmul_tuple k t l its.toArray n dd sl)
        ⟨ho, rfl, ⟨_, ho, rfl⟩, call_meets F.slot_tuple_mul ⟨_, ho, rfl⟩ F.entry_tuple_mul (F.args_tuple_mul_2 _ _) (tupMul1 l its.toArray n dd sl k t (fill0 h1 h2) g1) ⟨ho, ?_⟩⟩)
    exact ⟨.ref l, H, I, rfl, q1 c⟩
  · have g1 : (its.toArray.isEmpty || k == 1) = false := by
      rw [hemp]
      simp only [not_or] at c
      cases xs with
      | nil => exact absurd rfl c.1
      | cons a b => simp [c.2]
    have hk : k ≤ 0 := by
      simp only [not_or] at c
      rcases h3 with h3 | h3
      · exact absurd h3 c.1
      · omega
    refine wpAny_binaryOp_repeat_ref (T := "tuple") (U := "int") (by decide) ⟨_, ho, rfl⟩ (fun s' => typeIs_int s' k t) noFill_tuple_mul F.fills_int_mul F.slot_int_rmul repeat_tuple F.slot_int_index.lookup
      (call_meets F.slot_int_rmul (typeIs_int s k t) F.entry_int_rmul (F.args_int_rmul_2 _ _) (int_rmul_tuple k t l its.toArray n dd sl)
        ⟨ho, rfl, ⟨_, ho, rfl⟩, call_meets F.slot_tuple_mul ⟨_, ho, rfl⟩ F.entry_tuple_mul (F.args_tuple_mul_2 _ _) (tupMul0 l its.toArray n dd sl k t (fill0 h1 h2) g1 hk) ⟨ho, ?_⟩⟩)
    refine ⟨.ref s.heap.objs.size, _, I.laid (t' := s.toks) (o := .tup []) (fun b ob q => Heap.get?_push_of_some _ q) (Nat.le_refl _) ?_, rfl, q2 c _ (I.hok.fresh (Nat.le_refl _))⟩
    exact ⟨Nat.zero_le _, [], .nil, PyProof.Rows.IsTup.new _ _⟩
theorem mul_sp : OpR X (binaryOp .Mult) (rSp G X.K mulD) := by
  refine opImp (opAlt opw_mul (opAlt op_rep (opAlt op_repT mulT_ok))) ?_
  rintro x y H Q ⟨F, dx, dy, d, m, lx, ly, e, q⟩
  unfold mulD at e
  split at e
  · split at e
    · rename_i c
      cases e
      exact .inl ⟨_, _, lx.int, ly.int, (by unfold mulOk at c; have c2 := of_decide_eq_true c; exact c2), q _ H .refl (.int _)⟩
    · cases e
  · split at e
    · rename_i c
      cases e
      simp only [Bool.and_eq_true, decide_eq_true_eq] at c
      obtain ⟨a, vs, rfl, h1, r1⟩ := lx.lst
      exact .inr (.inl ⟨a, _, vs, rfl, ly.int, h1, (fits63_le c.1).1, (fits63_le c.1).2, by rw [r1.length]; exact okLen_le c.2, fun p np => q _ _ (.new np) (newL np (r1.rep _))⟩)
    · cases e
  · rename_i ds k
    split at e
    · rename_i c
      cases e
      simp only [Bool.and_eq_true, decide_eq_true_eq] at c
      obtain ⟨⟨c1, c2⟩, c3⟩ := c
      obtain ⟨a, vs, rfl, h1, r1⟩ := lx.tup
      by_cases z : vs = [] ∨ k ≤ 1
      · refine .inr (.inr (.inr ⟨a, _, vs, rfl, ly.int, h1, c1, c2, z, fun z1 => ?_, fun z1 p np => ?_⟩))
        · refine q _ H .refl (.tup h1 ?_)
          rcases z1 with z1 | z1
          · subst z1; cases r1
            have : (List.replicate k.toNat ([] : List D)).flatten = [] := by simp
            rw [this]; exact .nil
          · subst z1
            have : (List.replicate (1 : Int).toNat ds).flatten = ds := by simp
            rw [this]; exact r1
        · have hk : k.toNat = 0 := by
            simp only [not_or] at z1
            rcases z with z | z
            · exact absurd z z1.1
            · omega
          rw [hk] at q
          exact q _ _ (.new np) (newT np .nil)
      · simp only [not_or] at z
        exact .inr (.inr (.inl ⟨a, _, vs, rfl, ly.int, h1, z.1, by omega, c2, by rw [r1.length]; exact c3, fun p np => q _ _ (.new np) (newT np (r1.rep _))⟩))
    · cases e
  · cases e
/-! ### in -/
theorem keyD_rep {v : V} {d : D} {k : Key} {H : Hp} (h : Lk K G F H v d) (e : keyD d = some k) : v = kV k := by
  unfold keyD at e
  split at e
  · cases e; exact h.int
  · cases e; exact h.str
  · cases e
theorem kz_any {k : Key} {H : Hp} : ∀ {es : List (Key × V)} {kvs : List (D × D)}, RepKs K G F H es kvs → (valV es k).isSome = kvs.any fun e => decide (keyD e.1 = some k)
  | _, _, .nil => rfl
  | _, _, .cons (k := k') (kd := kd) (v := v) (d := d) (es := es) (ds := ds) lk r t => by
    rw [List.any_cons, ← kz_any t]
    by_cases e : k' = k
    · rw [valV_pos (p := (k', v)) e]
      subst e
      simp [lk]
    · rw [valV_neg (p := (k', v)) e]
      have : ¬ some k' = some k := fun z => e (Option.some.inj z)
      rw [lk, decide_eq_false this, Bool.false_or]
theorem tz_keys {H : Hp} : ∀ {es : List (List Key × V)} {kvs : List (D × D)}, RepTs K G F H es kvs → (kvs.all fun e => (keyD e.1).isSome) = true → es = [] ∧ kvs = []
  | _, _, .nil, _ => ⟨rfl, rfl⟩
  | _, _, .cons (kd := kd) lk r t, h => by
    rw [List.all_cons, Bool.and_eq_true] at h
    unfold keyT at lk
    split at lk
    · exact absurd h.1 (by simp [keyD])
    · cases lk
def rInD2 (neg : Bool) : R2 := fun x y H Q => ∃ a o, y = .ref a ∧ DGet H a x o ∧ Q (.bl (if neg then !o.isSome else o.isSome)) H
theorem inD_ok (hu : X.A.units + 1 < cLine) : OpR X (compareOp .In) (rInD2 false) := by
  intro pins s σ H x y v u Q I rx ry h
  obtain ⟨a, o, rfl, g, q⟩ := h
  cases ry
  exact d_in hu I g rx fun s' I' => ⟨.bl _, H, I', rfl, q⟩
theorem ninD_ok (hu : X.A.units + 1 < cLine) : OpR X (compareOp .NotIn) (rInD2 true) := by
  intro pins s σ H x y v u Q I rx ry h
  obtain ⟨a, o, rfl, g, q⟩ := h
  cases ry
  exact d_notIn hu I g rx fun s' I' => ⟨.bl _, H, I', rfl, q⟩
/-- an empty dict, told otherwise -/
theorem dTK {pins : List (Addr × Obj)} {s : Shared} {σ : Sg} {a : Addr} (I : Inv X pins σ H s) (h : H a = some (.dT [])) : Inv X pins σ (upd H a (.dK [])) s := by
  obtain ⟨z, y, xs, r, o, es, ep, e, x, d, l, nd⟩ := (show ObjOk X.prog X.w H s.heap a (.dT []) from I.hok a _ h)
  cases r
  have hes : es.toList = [] := l
  refine I.write (t' := s.toks) (x := a) (e := a) (by rw [h]; trivial) (.inl rfl) (fun _ _ _ q => q) ⟨_, e⟩ ?_
  refine ⟨Nat.zero_le _, y, [], .nil, o, es, ep, e, x, d, fun en hen => ?_, by rw [hes]; exact .nil, .nil⟩
  exact absurd (Array.mem_toList_iff.mpr hen) (by rw [hes]; simp)
theorem dKT {pins : List (Addr × Obj)} {s : Shared} {σ : Sg} {a : Addr} (I : Inv X pins σ H s) (h : H a = some (.dK [])) : Inv X pins σ (upd H a (.dT [])) s := by
  obtain ⟨z, y, vs, r, o, es, ep, e, x, d, ks, l, nd⟩ := (show ObjOk X.prog X.w H s.heap a (.dK []) from I.hok a _ h)
  cases r
  have hes : es.toList = [] := by cases hq : es.toList with
    | nil => rfl
    | cons a b => rw [hq] at l; cases l
  refine I.write (t' := s.toks) (x := a) (e := a) (by rw [h]; trivial) (.inl rfl) (fun _ _ _ q => q) ⟨_, e⟩ ?_
  exact ⟨Nat.zero_le _, y, [], .nil, o, es, ep, e, x, d, hes, .nil⟩
theorem upd_back {H : Hp} {a : Addr} {o u : HO} (h : H a = some o) : upd (upd H a u) a o = H := by
  funext b
  unfold upd
  split
  · rename_i e; rw [e, h]
  · rfl
def rInE (neg : Bool) : R2 := fun x y H Q => ∃ a kk, y = .ref a ∧ H a = some (.dT []) ∧ x = kV kk ∧ Q (.bl neg) H
theorem inE_ok (hu : X.A.units + 1 < cLine) : OpR X (compareOp .In) (rInE false) := by
  intro pins s σ H x y v u Q I rx ry h
  obtain ⟨a, o, rfl, g, rfl, q⟩ := h
  cases ry
  refine d_in hu (dTK I g) (.k upd_same) rx fun s' I' => ⟨.bl _, H, ?_, rfl, q⟩
  have := dKT I' upd_same
  rwa [upd_back g] at this
theorem ninE_ok (hu : X.A.units + 1 < cLine) : OpR X (compareOp .NotIn) (rInE true) := by
  intro pins s σ H x y v u Q I rx ry h
  obtain ⟨a, o, rfl, g, rfl, q⟩ := h
  cases ry
  refine d_notIn hu (dTK I g) (.k upd_same) rx fun s' I' => ⟨.bl _, H, ?_, rfl, q⟩
  have := dKT I' upd_same
  rwa [upd_back g] at this
def rInT (neg : Bool) (K : PySem.W.Frag) : R2 := fun x y H Q => ∃ d ds, Dp K H x d ∧ Dp K H y (.tuple ds) ∧ SeqAt.shaped d = true ∧ SeqAt.shaped (.list ds) = true ∧ Q (.bl (if neg then !(ds.any fun z => PyData.eqv z d) else ds.any fun z => PyData.eqv z d)) H
theorem inT_ok (hu : X.A.units + 65 < cLine) : OpR X (compareOp .In) (rInT false X.K) := by
  intro pins s σ H x y v u Q I rx ry h
  obtain ⟨d, ds, hd, he, sd, se, q⟩ := h
  obtain ⟨as, r1⟩ := Dp.reads I d x v hd rx
  obtain ⟨bs, r2⟩ := Dp.reads I (.tuple ds) y u he ry
  exact SeqAt.in_tuple_reads r2 r1 (SeqAt.canLay_of_shaped se) (SeqAt.canLay_of_shaped sd) (PyProof.Rows.room_in_shaped sd hu) ⟨.bl _, H, I, rfl, q⟩
theorem ninT_ok (hu : X.A.units + 65 < cLine) : OpR X (compareOp .NotIn) (rInT true X.K) := by
  intro pins s σ H x y v u Q I rx ry h
  obtain ⟨d, ds, hd, he, sd, se, q⟩ := h
  obtain ⟨as, r1⟩ := Dp.reads I d x v hd rx
  obtain ⟨bs, r2⟩ := Dp.reads I (.tuple ds) y u he ry
  exact SeqAt.notIn_tuple_reads r2 r1 (SeqAt.canLay_of_shaped se) (SeqAt.canLay_of_shaped sd) (PyProof.Rows.room_in_shaped sd hu) ⟨.bl _, H, I, rfl, q⟩
theorem inB_or {x y : V} {dx dy : D} {k : Bool} {H : Hp} (lx : Lk K G F H x dx) (ly : Lk K G F H y dy) (e : inB dx dy = some k) :
    (∃ d ds, Dp K H x d ∧ Dp K H y (.list ds) ∧ SeqAt.shaped d = true ∧ SeqAt.shaped (.list ds) = true ∧ (ds.any fun z => PyData.eqv z d) = k) ∨ (∃ a o, y = .ref a ∧ DGet H a x o ∧ o.isSome = k) ∨ (∃ a kk, y = .ref a ∧ H a = some (.dT []) ∧ x = kV kk ∧ false = k) ∨
    (∃ d ds, Dp K H x d ∧ Dp K H y (.tuple ds) ∧ SeqAt.shaped d = true ∧ SeqAt.shaped (.list ds) = true ∧ (ds.any fun z => PyData.eqv z d) = k) ∨ ∃ (c : Nat) (z : Str), x = .str ⟨#[c]⟩ ∧ y = .str z ∧ decide (c ∈ z.cps.toList) = k := by
  unfold inB at e
  split at e
  · rename_i ds
    cases e1 : toP dx with
    | none => rw [e1] at e; cases e
    | some p =>
      cases e2 : toPs ds with
      | none => rw [e1, e2] at e; cases e
      | some q =>
        rw [e1, e2] at e
        simp only [Option.bind_some] at e
        split at e
        · rename_i c
          rw [Bool.and_eq_true] at c
          exact .inl ⟨p, q, lx.dp e1, ly.dp (by rw [toP, e2]; rfl), c.1, c.2, Option.some.inj e⟩
        · cases e
  · rename_i ds
    cases e1 : toP dx with
    | none => rw [e1] at e; cases e
    | some p =>
      cases e2 : toPs ds with
      | none => rw [e1, e2] at e; cases e
      | some q =>
        rw [e1, e2] at e
        simp only [Option.bind_some] at e
        split at e
        · rename_i c
          rw [Bool.and_eq_true] at c
          exact .inr (.inr (.inr (.inl ⟨p, q, lx.dp e1, ly.dp (by rw [toP, e2]; rfl), c.1, c.2, Option.some.inj e⟩)))
        · cases e
  · rename_i z
    split at e
    · rename_i y
      split at e
      · rename_i c hc
        have hy : y = ⟨#[c]⟩ := by
          obtain ⟨⟨l⟩⟩ := y
          have : l = [c] := hc
          subst this; rfl
        exact .inr (.inr (.inr (.inr ⟨c, z, by rw [lx.str, hy], ly.str, Option.some.inj e⟩)))
      · cases e
    · cases e
  · rename_i kvs
    split at e
    · rename_i kk hk
      split at e
      · rename_i hall
        obtain ⟨a, rfl, c⟩ := ly.dct
        have ex := keyD_rep lx hk
        subst ex
        cases c with
        | dct h r => exact .inr (.inl ⟨a, _, rfl, .inl ⟨_, _, h, rfl, rfl⟩, by rw [kz_any r]; exact Option.some.inj e⟩)
        | dtp h r =>
          obtain ⟨z1, z2⟩ := tz_keys r hall
          subst z1 z2
          exact .inr (.inr (.inl ⟨a, _, rfl, h, rfl, Option.some.inj e⟩))
      · cases e
    · cases e
  · cases e
theorem in_sp (hu : X.A.units + 65 < cLine) : OpR X (compareOp .In) (rSp G X.K fun a b => (inB a b).map fun k => (.bl k, .sh)) := by
  refine opImp (opAlt (op_inD hu) (opAlt (inD_ok (by omega)) (opAlt (inE_ok (by omega)) (opAlt (inT_ok hu) op_in_sign)))) ?_
  rintro x y H Q ⟨F, dx, dy, d, m, lx, ly, e, q⟩
  obtain ⟨k, e1, e2⟩ := Option.map_eq_some_iff.mp e
  cases e2
  rcases inB_or lx ly e1 with ⟨p, ps, h1, h2, h3, h4, h5⟩ | ⟨a, o, h1, h2, h3⟩ | ⟨a, kk, h1, h2, h3, h4⟩ | ⟨p, ps, h1, h2, h3, h4, h5⟩ | ⟨c, z, h1, h2, h3⟩
  · exact .inl ⟨p, ps, h1, h2, h3, h4, by rw [h5]; exact q _ H .refl (.bl _)⟩
  · exact .inr (.inl ⟨a, o, h1, h2, by rw [h3]; exact q _ H .refl (.bl _)⟩)
  · exact .inr (.inr (.inl ⟨a, kk, h1, h2, h3, by rw [h4]; exact q _ H .refl (.bl _)⟩))
  · exact .inr (.inr (.inr (.inl ⟨p, ps, h1, h2, h3, h4, by rw [h5]; exact q _ H .refl (.bl _)⟩)))
  · exact .inr (.inr (.inr (.inr ⟨c, z, h1, h2, by rw [h3]; exact q _ H .refl (.bl _)⟩)))
theorem nin_sp (hu : X.A.units + 65 < cLine) : OpR X (compareOp .NotIn) (rSp G X.K fun a b => (inB a b).map fun k => (.bl (!k), .sh)) := by
  refine opImp (opAlt (op_notInD hu) (opAlt (ninD_ok (by omega)) (opAlt (ninE_ok (by omega)) (opAlt (ninT_ok hu) op_notIn_sign)))) ?_
  rintro x y H Q ⟨F, dx, dy, d, m, lx, ly, e, q⟩
  obtain ⟨k, e1, e2⟩ := Option.map_eq_some_iff.mp e
  cases e2
  rcases inB_or lx ly e1 with ⟨p, ps, h1, h2, h3, h4, h5⟩ | ⟨a, o, h1, h2, h3⟩ | ⟨a, kk, h1, h2, h3, h4⟩ | ⟨p, ps, h1, h2, h3, h4, h5⟩ | ⟨c, z, h1, h2, h3⟩
  · exact .inl ⟨p, ps, h1, h2, h3, h4, by rw [h5]; exact q _ H .refl (.bl _)⟩
  · exact .inr (.inl ⟨a, o, h1, h2, by rw [h3]; exact q _ H .refl (.bl _)⟩)
  · exact .inr (.inr (.inl ⟨a, kk, h1, h2, h3, by rw [show true = !k by rw [← h4]; rfl]; exact q _ H .refl (.bl _)⟩))
  · exact .inr (.inr (.inr (.inl ⟨p, ps, h1, h2, h3, h4, by rw [h5]; exact q _ H .refl (.bl _)⟩)))
  · exact .inr (.inr (.inr (.inr ⟨c, z, h1, h2, by rw [h3]; exact q _ H .refl (.bl _)⟩)))
end
end DI

set_option Elab.async false
set_option linter.all false
set_option maxRecDepth 100000
set_option maxHeartbeats 4000000
namespace DI
open PySem L2

/-! ## Built-in functions of values -/
def blsD : List D → Option (List Bool)
  | [] => some []
  | .bl b :: r => (blsD r).map (b :: ·)
  | _ => none
def lenD : D → Option Nat
  | .str x => if okLen x.length = true then some x.length else none
  | .tup ds => some ds.length
  | .lst ds => some ds.length
  | .fz ds => some ds.length
  | .dct kvs => if kvs.all fun e => (keyD e.1).isSome then some kvs.length else none
  | _ => none
def tyD : D → Option String
  | .non => some "NoneType" | .bl _ => some "bool" | .int _ => some "int" | .str _ => some "str"
  | .tup _ => some "tuple" | .lst _ => some "list" | .dct _ => some "dict" | .fz _ => some "list"
  | _ => none
def tyO : D → Option String
  | .odc => some "dict"
  | d => tyD d
def minL : List Int → Option Int
  | [] => none
  | [a] => some a
  | a :: r => (minL r).map fun m => if m < a then m else a
theorem minL_mem : ∀ {ns : List Int} {m : Int}, minL ns = some m → m ∈ ns ∧ ∀ y ∈ ns, m ≤ y
  | [], m, e => nomatch e
  | [a], m, e => by cases e; simp
  | a :: b :: r, m, e => by
    rw [minL] at e
    · obtain ⟨k, e1, rfl⟩ := Option.map_eq_some_iff.mp e
      obtain ⟨h1, h2⟩ := minL_mem e1
      split
      · rename_i c
        exact ⟨List.mem_cons_of_mem _ h1, fun y hy => by
          rcases List.mem_cons.mp hy with rfl | hy
          · omega
          · exact h2 y hy⟩
      · rename_i c
        exact ⟨List.mem_cons_self, fun y hy => by
          rcases List.mem_cons.mp hy with rfl | hy
          · exact Int.le_refl _
          · have := h2 y hy; omega⟩
    · simp
def maxL : List Int → Option Int
  | [] => none
  | [a] => some a
  | a :: r => (maxL r).map fun m => if a < m then m else a
theorem maxL_mem : ∀ {ns : List Int} {m : Int}, maxL ns = some m → m ∈ ns ∧ ∀ y ∈ ns, y ≤ m
  | [], m, e => nomatch e
  | [a], m, e => by cases e; simp
  | a :: b :: r, m, e => by
    rw [maxL] at e
    · obtain ⟨k, e1, rfl⟩ := Option.map_eq_some_iff.mp e
      obtain ⟨h1, h2⟩ := maxL_mem e1
      split
      · rename_i c
        exact ⟨List.mem_cons_of_mem _ h1, fun y hy => by
          rcases List.mem_cons.mp hy with rfl | hy
          · omega
          · exact h2 y hy⟩
      · rename_i c
        exact ⟨List.mem_cons_self, fun y hy => by
          rcases List.mem_cons.mp hy with rfl | hy
          · exact Int.le_refl _
          · have := h2 y hy; omega⟩
    · simp
def reprB (d : D) : Option Str := (toP d).bind fun p => if p.showable && decide (p.depth ≤ 60) && okLen p.shown.length then some p.shown else none
/-- a dict of ints and texts -/
def kP : Key → PyData
  | .inl i => .int i
  | .inr x => .str x
def kvP : List (D × D) → Option (List (PyData × PyData))
  | [] => some []
  | (k, v) :: r => (keyD k).bind fun kk => (keyD v).bind fun vv => (kvP r).map fun l => (kP kk, kP vv) :: l
def reprD (kvs : List (D × D)) : Option Str := if kvs.isEmpty then none else (kvP kvs).bind fun l => if (PyData.dict l).showable && decide ((PyData.dict l).depth ≤ 60) && okLen (PyData.dict l).shown.length then some (PyData.dict l).shown else none
inductive Bi where
  | len | abs | int | list | tuple | sorted | all | any | min1 | max1 | min2 | max2 | sum | repr | dict | isi
  deriving DecidableEq
def Bi.nm : Bi → String
  | .len => "len" | .abs => "abs" | .int => "int" | .list => "list" | .tuple => "tuple" | .sorted => "sorted" | .all => "all" | .any => "any"
  | .min1 => "min" | .max1 => "max" | .min2 => "min" | .max2 => "max" | .sum => "sum" | .repr => "repr" | .dict => "dict" | .isi => "isinstance"
/-- the value called -/
def Bi.val : Bi → Value
  | .int => .type "int" | .list => .type "list" | .tuple => .type "tuple" | .dict => .type "dict"
  | b => .builtin b.nm
def semB : Bi → List D → Res
  | .len, [d] => (lenD d).map fun n => (.int n, .sh)
  | .abs, [.int i] => shv (.int (if i < 0 then -i else i))
  | .int, [.int i] => shv (.int i)
  | .int, [.bl k] => shv (.int (if k then 1 else 0))
  | .list, [.lst ds] => some (.lst ds, .fr)
  | .list, [.fz ds] => some (.lst ds, .fr)
  | .list, [.tup ds] => some (.lst ds, .fr)
  | .list, [.dct kvs] => if kvs.all fun e => (keyD e.1).isSome then some (.lst (kvs.map (·.1)), .fr) else none
  | .tuple, [.lst ds] => shv (.tup ds)
  | .tuple, [.fz ds] => shv (.tup ds)
  | .tuple, [.tup ds] => shv (.tup ds)
  | .sorted, [.lst ds] => (intsD ds).map fun ns => (.lst ((ns.mergeSort (fun a b => decide (a ≤ b))).map .int), .fr)
  | .all, [.lst ds] => (blsD ds).map fun bs => (.bl (bs.all id), .sh)
  | .any, [.lst ds] => (blsD ds).map fun bs => (.bl (bs.any id), .sh)
  | .min1, [.lst ds] => (intsD ds).bind fun ns => (minL ns).map fun m => (.int m, .sh)
  | .max1, [.lst ds] => (intsD ds).bind fun ns => (maxL ns).map fun m => (.int m, .sh)
  | .min2, [.int i, .int j] => shv (.int (if j < i then j else i))
  | .max2, [.int i, .int j] => shv (.int (if j > i then j else i))
  | .sum, [.lst ds] => (intsD ds).map fun ns => (.int ns.sum, .sh)
  | .repr, [.dct kvs] => (reprD kvs).map fun x => (.str x, .sh)
  | .repr, [d] => (reprB d).map fun x => (.str x, .sh)
  | .dict, [.dct kvs] => if kvs.all fun e => (keyD e.1).isSome then some (.dct kvs, .fr) else none
  | .isi, [d, .ty T] => (tyO d).bind fun t => (kitB t T).map fun b => (.bl b, .sh)
  | _, _ => none

abbrev Lks (K : PySem.W.Frag) (G : Gx) (F : FS) (H : Hp) : List V → List D → Prop := Paired (Lk K G F H)
def rSpL (G : Gx) (K : PySem.W.Frag) (s : List D → Res) : List V → Hp → VK → Prop := fun vs H Q => ∃ F ds d m, Lks K G F H vs ds ∧ s ds = some (d, m) ∧ ∀ z H', Grow H H' → RV K G F H H' z d m → Q z H'
theorem clImp {X : Cx} {f : Value} {r r' : List V → Hp → VK → Prop} (h : CallR X f r) (i : ∀ x H Q, r' x H Q → r x H Q) : CallR X f r' :=
  fun pins s σ H xs us Q I rx q => h pins s σ H xs us Q I rx (i xs H Q q)
theorem clAlt {X : Cx} {f : Value} {r r' : List V → Hp → VK → Prop} (h : CallR X f r) (h' : CallR X f r') : CallR X f (fun x H Q => r x H Q ∨ r' x H Q) :=
  fun pins s σ H xs us Q I rx q => by
    rcases q with q | q
    · exact h pins s σ H xs us Q I rx q
    · exact h' pins s σ H xs us Q I rx q

section
variable {K : PySem.W.Frag} {G : Gx} {F : FS} {H : Hp}
theorem lks1 {vs : List V} {d : D} (h : Lks K G F H vs [d]) : ∃ v, vs = [v] ∧ Lk K G F H v d := by
  cases h with
  | cons a t => cases t; exact ⟨_, rfl, a⟩
theorem lks2 {vs : List V} {d e : D} (h : Lks K G F H vs [d, e]) : ∃ v u, vs = [v, u] ∧ Lk K G F H v d ∧ Lk K G F H u e := by
  cases h with
  | cons a t => cases t with
    | cons b t => cases t; exact ⟨_, _, rfl, a, b⟩
theorem blsD_reps : ∀ {ds : List D} {ns : List Bool} {vs : List V}, blsD ds = some ns → Reps K G F H vs ds → vs = ns.map V.bl
  | [], ns, vs, e, r => by cases e; cases r; rfl
  | .bl i :: ds, ns, vs, e, r => by
    rw [blsD] at e
    obtain ⟨ms, e1, rfl⟩ := Option.map_eq_some_iff.mp e
    cases r with
    | cons r t => rw [blsD_reps e1 t, Lk.bl (.inl r)]; rfl
  | .non :: ds, ns, vs, e, r => nomatch e
  | .int _ :: ds, ns, vs, e, r => nomatch e
  | .str _ :: ds, ns, vs, e, r => nomatch e
  | .ty _ :: ds, ns, vs, e, r => nomatch e
  | .tup _ :: ds, ns, vs, e, r => nomatch e
  | .lst _ :: ds, ns, vs, e, r => nomatch e
  | .dct _ :: ds, ns, vs, e, r => nomatch e
  | .obj .. :: ds, ns, vs, e, r => nomatch e
  | .cls _ :: ds, ns, vs, e, r => nomatch e
  | .fn _ :: ds, ns, vs, e, r => nomatch e
  | .fz _ :: ds, ns, vs, e, r => nomatch e
theorem reps_ints : ∀ (ns : List Int), Reps K G F H (ns.map V.int) (ns.map D.int)
  | [] => .nil
  | n :: ns => .cons (.int n) (reps_ints ns)
/-- a dict with int and text keys, as a cell -/
theorem dct_k {a : Addr} {kvs : List (D × D)} (c : CellD K G F H a kvs) (h : (kvs.all fun e => (keyD e.1).isSome) = true) (ne : kvs.isEmpty = false) : ∃ es, Rd H a (.dK es) ∧ RepKs K G F H es kvs := by
  cases c with
  | dct h r => exact ⟨_, h, r⟩
  | dtp h' r =>
    obtain ⟨z1, z2⟩ := tz_keys r h
    subst z2
    cases ne
theorem ks_len : ∀ {es : List (Key × V)} {kvs : List (D × D)}, RepKs K G F H es kvs → es.length = kvs.length
  | _, _, .nil => rfl
  | _, _, .cons _ _ t => congrArg (· + 1) (ks_len t)
theorem ks_keys : ∀ {es : List (Key × V)} {kvs : List (D × D)}, RepKs K G F H es kvs → Reps K G F H (es.map fun kv => kV kv.1) (kvs.map (·.1))
  | _, _, .nil => .nil
  | _, _, .cons (k := k) (kd := kd) lk r t => by
    refine .cons ?_ (ks_keys t)
    show Rep K G F H (kV k) kd
    unfold keyD at lk
    split at lk
    · cases lk; exact .int _
    · cases lk; exact .str _
    · cases lk
theorem tyD_ty {K : PySem.W.Frag} {v : V} {d : D} {t : String} (l : Lk K G F H v d) (e : tyD d = some t) : TyX K H v (.type t) := by
  unfold tyD at e
  split at e
  · cases e; rw [l.non]; exact .base .non
  · cases e; rw [l.bl]; exact .base (.bl _)
  · cases e; rw [l.int]; exact .base (.int _)
  · cases e; rw [l.str]; exact .base (.str _)
  · cases e
    obtain ⟨a, vs, rfl, h, r⟩ := l.tup
    rcases h with (h | ⟨o, h⟩) | ⟨o, its, n, h1, h2, _⟩
    · exact .base (.tup h)
    · exact .fTuple h
    · exact .kTuple h1 h2
  · cases e
    obtain ⟨a, vs, rfl, h, r⟩ := l.lst
    exact .base (.lst h)
  · cases e
    obtain ⟨a, rfl, c⟩ := l.dct
    cases c with
    | dct h r =>
      rcases h with h | ⟨o, h⟩
      · exact .base (.dK h)
      · exact .fDict h
    | dtp h r => exact .base (.dT h)
  · cases e
    obtain ⟨a, vs, rfl, h, r⟩ := l.fz
    rcases h with (h | ⟨o, h⟩) | ⟨o, its, n, h1, h2, _⟩
    · exact .base (.lst h)
    · exact .base (.frz h)
    · exact .kList h1 h2
  · cases e
theorem Lk.odc {K : PySem.W.Frag} {v : V} (l : Lk K G F H v .odc) : ∃ a, v = .ref a ∧ H a = some (.ext (IsDct a)) := by
  rcases l with l | ⟨a, rfl, c⟩
  · cases l with
    | cell f c => cases c with
      | odc h => exact ⟨_, rfl, h⟩
  · cases c with
    | odc h => exact ⟨_, rfl, h⟩
end
mutual
theorem toP_plain : ∀ {d : D} {p : PyData}, toP d = some p → p.hasDict = false
  | .non, _, e => by cases e; rfl
  | .bl _, _, e => by cases e; rfl
  | .int _, _, e => by cases e; rfl
  | .str _, _, e => by cases e; rfl
  | .tup ds, p, e => by
    rw [toP] at e
    obtain ⟨q, h, rfl⟩ := Option.map_eq_some_iff.mp e
    exact toPs_plain h
  | .lst ds, p, e => by
    rw [toP] at e
    obtain ⟨q, h, rfl⟩ := Option.map_eq_some_iff.mp e
    exact toPs_plain h
  | .ty _, _, e => nomatch e
  | .dct _, _, e => nomatch e
  | .obj .., _, e => nomatch e
  | .exc .., _, e => nomatch e
  | .cls _, _, e => nomatch e
  | .fn _, _, e => nomatch e
  | .fz _, _, e => nomatch e
theorem toPs_plain : ∀ {d : List D} {p : List PyData}, toPs d = some p → PyData.hasDictAll p = false
  | [], _, e => by cases e; rfl
  | d :: ds, p, e => by
    rw [toPs] at e
    cases q : toP d with
    | none => rw [q] at e; cases e
    | some a =>
      cases q2 : toPs ds with
      | none => rw [q, q2] at e; cases e
      | some b =>
        rw [q, q2] at e; cases e
        show (a.hasDict || PyData.hasDictAll b) = false
        rw [toP_plain q, toPs_plain q2]; rfl
end
section
variable {X : Cx} {G : Gx}
/-- len(d) -/
theorem lenK_ok : CallR X (.builtin "len") (fun xs H Q => ∃ a es, xs = [.ref a] ∧ Rd H a (.dK es) ∧ Q (.int es.length) H) := by
  intro pins s σ H xs us Q I r h
  obtain ⟨a, es, rfl, e, q⟩ := h
  rw [Vals.ref1 r]
  exact d_len I e fun t s' I' => ⟨.int es.length, H, I', ⟨_, rfl⟩, q⟩
/-- an empty dict of the other kind, to a call that makes something new of it -/
theorem call_emptyT {f : Value} {o : HO} {r : List V → Hp → VK → Prop} (h : CallR X f r) (hr : ∀ (a : Addr) (H : Hp) (Q : VK), H a = some (.dK []) → (∀ p, H p = none → Q (.ref p) (upd H p o)) → r [.ref a] H Q) :
    CallR X f (fun xs H Q => ∃ a, xs = [.ref a] ∧ H a = some (.dT []) ∧ ∀ p, H p = none → Q (.ref p) (upd H p o)) := by
  intro pins s σ H xs us Q I rv q
  obtain ⟨a, rfl, e, q⟩ := q
  refine wpAny_mono (h pins s σ (upd H a (.dK [])) [.ref a] us (fun v H' => ∃ p, v = .ref p ∧ p ≠ a ∧ H p = none ∧ H' = upd (upd H a (.dK [])) p o) (dTK I e) rv
    (hr a _ _ upd_same fun p np => ?_)) (fun u s' hu => ?_) fun _ _ z => z
  · have npa : p ≠ a := fun z => by rw [z, upd_same] at np; cases np
    exact ⟨p, rfl, npa, by rw [upd_ne npa] at np; exact np, rfl⟩
  obtain ⟨v, H', I', r', p, rfl, npa, np, rfl⟩ := hu
  have hb : upd (upd H a (.dK [])) p o a = some (.dK []) := by rw [upd_ne (Ne.symm npa)]; exact upd_same
  have I2 := dKT I' hb
  have eh : upd (upd (upd H a (.dK [])) p o) a (.dT []) = upd H p o := by
    funext b
    by_cases c : b = a
    · subst c; rw [upd_same, upd_ne (Ne.symm npa), e]
    · rw [upd_ne c]
      by_cases c2 : b = p
      · subst c2; rw [upd_same, upd_same]
      · rw [upd_ne c2, upd_ne c2, upd_ne c]
  rw [eh] at I2
  exact ⟨.ref p, _, I2, r', q p np⟩
theorem cell_empty {K : PySem.W.Frag} {G : Gx} {F : FS} {H : Hp} {a : Addr} (c : CellD K G F H a []) : Rd H a (.dK []) ∨ H a = some (.dT []) := by
  cases c with
  | dct h r => cases r; exact .inl h
  | dtp h r => cases r; exact .inr h
theorem lenT_ok : CallR X (.builtin "len") (fun xs H Q => ∃ a, xs = [.ref a] ∧ H a = some (.dT []) ∧ Q (.int 0) H) := by
  intro pins s σ H xs us Q I r h
  obtain ⟨a, rfl, e, q⟩ := h
  rw [Vals.ref1 r]
  refine d_len (dTK I e) (.inl upd_same) fun t s' I' => ⟨.int 0, H, ?_, ⟨_, rfl⟩, q⟩
  have := dKT I' upd_same
  rwa [upd_back e] at this
theorem reprR_ok (hg : X.A.guards = some []) (hu : X.A.units + 64 < cLine) : CallR X (.builtin "repr") (fun xs H Q => ∃ x p, xs = [x] ∧ Dp X.K H x p ∧ p.showable = true ∧ p.hasDict = false ∧ p.depth ≤ 60 ∧ p.shown.length ≤ sizeLine ∧ Q (.str p.shown) H) := by
  intro pins s σ H xs us Q I r h
  obtain ⟨x, p, rfl, dp, hs, hd, hdep, hz, q⟩ := h
  obtain ⟨u, rfl, rx⟩ := Vals.one r
  obtain ⟨as, rd⟩ := Dp.reads I p x u dp rx
  cases dp with
  | non =>
    cases rx
    exact PySem.P.repr_of_none ⟨.str _, H, I.tok _, ⟨_, rfl⟩, q⟩
  | bl b =>
    cases rx
    have q' : Q (.str (if b then "True" else "False")) H := q
    exact PySem.P.repr_of_bool ⟨.str _, H, I.tok _, ⟨_, rfl⟩, q'⟩
  | int i =>
    obtain ⟨t, rfl⟩ := rx
    exact PySem.P.repr_of_int (of_decide_eq_true hs) ⟨.str _, H, I.tok _, ⟨_, rfl⟩, q⟩
  | str y =>
    obtain ⟨t, rfl⟩ := rx
    exact PySem.P.repr_of_str ⟨.str _, H, I.tok _, ⟨_, rfl⟩, q⟩ hz
  | lst h1 h2 =>
    cases rx
    refine PySem.repr_of_reads' rd hs (fun e => by rw [hd] at e; cases e) hg (by omega) (fun _ _ e => e) (fun h' u tk hk => ?_) hz
    exact ⟨.str _, H, I.kept hk, ⟨_, rfl⟩, q⟩
  | tup h1 h2 =>
    cases rx
    refine PySem.repr_of_reads' rd hs (fun e => by rw [hd] at e; cases e) hg (by omega) (fun _ _ e => e) (fun h' u tk hk => ?_) hz
    exact ⟨.str _, H, I.kept hk, ⟨_, rfl⟩, q⟩
/-- a dict that is told whole -/
def Flat : List (Key × V) → List (PyData × PyData) → Prop := Paired fun p q => kP p.1 = q.1 ∧ ∃ k : Key, p.2 = kV k ∧ q.2 = kP k
theorem flat_of {F : FS} {H : Hp} {K : PySem.W.Frag} : ∀ {es : List (Key × V)} {kvs : List (D × D)} {l : List (PyData × PyData)}, RepKs K G F H es kvs → kvP kvs = some l → Flat es l
  | _, _, l, .nil, e => by cases e; exact .nil
  | _, _, l, .cons (k := k) lk r t, e => by
    rw [kvP] at e
    obtain ⟨kk, e1, e2⟩ := Option.bind_eq_some_iff.mp e
    obtain ⟨vv, e3, e4⟩ := Option.bind_eq_some_iff.mp e2
    obtain ⟨m, e5, rfl⟩ := Option.map_eq_some_iff.mp e4
    rw [lk] at e1
    cases e1
    exact .cons ⟨rfl, vv, keyD_rep (.inl r) e3, rfl⟩ (flat_of t e5)
theorem reads_key {h : Heap} {k : Key} {u : Value} (e : RelV (kV k) u) : Reads h u (kP k) [] := by
  cases k with
  | inl i => obtain ⟨t, rfl⟩ := e; exact .int _ _
  | inr x => obtain ⟨t, rfl⟩ := e; exact .str _ _
theorem flat_reads {h : Heap} {P : Program} {w : World} : ∀ {es : List (Key × V)} {l : List (PyData × PyData)} {vs : List (Key × Value)} {ds : List DictEntry}, Flat es l → KV es vs → Pairs (mixKind P w) ds vs →
    ReadsAll h (ds.map (·.key)) (l.map (·.1)) [] ∧ ReadsAll h (ds.map (·.val)) (l.map (·.2)) []
  | _, _, _, _, .nil, .nil, .nil => ⟨.nil, .nil⟩
  | _, _, _, _, .cons (a := p) (b := q) ⟨h1, k, h2, h3⟩ t, .cons (b := r) ⟨g1, g2⟩ u, .cons (e := en) i j v => by
    obtain ⟨a1, a2⟩ := flat_reads (h := h) t u v
    refine ⟨?_, ?_⟩
    · have e1 : Reads h en.key q.1 [] := by
        rw [← h1, g1]
        exact reads_key (relV_key i)
      exact ReadsAll.cons (as := []) (bs := []) e1 a1
    · have e2 : Reads h en.val q.2 [] := by
        rw [h3, j]
        rw [h2] at g2
        exact reads_key g2
      exact ReadsAll.cons (as := []) (bs := []) e2 a2
theorem reprK_ok (hg : X.A.guards = some []) (hu : X.A.units + 64 < cLine) : CallR X (.builtin "repr") (fun xs H Q => ∃ a es l, xs = [.ref a] ∧ Rd H a (.dK es) ∧ Flat es l ∧ (PyData.dict l).showable = true ∧ (PyData.dict l).depth ≤ 60 ∧ (PyData.dict l).shown.length ≤ sizeLine ∧ Q (.str (PyData.dict l).shown) H) := by
  intro pins s σ H xs us Q I r h
  obtain ⟨a, es, l, rfl, e, fl, hs, hdep, hz, q⟩ := h
  obtain ⟨u, rfl, rx⟩ := Vals.one r
  cases (show u = Value.ref a from rx)
  obtain ⟨_, hm, vs, kv, o, en, ep, h1, h2, h3, h4, h5, h6⟩ := dk_rd I.hok e
  obtain ⟨r1, r2⟩ := flat_reads (h := s.heap) fl kv h5
  have rd : Reads s.heap (.ref a) (.dict l) (a :: [] ++ []) := .dict h1 h2.1 h3 r1 r2
  refine PySem.repr_of_reads' rd hs (fun _ z => ?_) hg (by omega) (fun _ _ e => e) (fun h' u tk hk => ?_) hz
  · have z' : sysModules = a := by simpa using z
    rw [z'] at hm
    simp at hm
  · exact ⟨.str _, H, I.kept hk, ⟨_, rfl⟩, q⟩
def rIsiO : List V → Hp → VK → Prop := fun xs H Q => ∃ (a : Addr) (T : String) (b : Bool), xs = [.ref a, .ty T] ∧ H a = some (.ext (IsDct a)) ∧ PySem.W.kitOne X.K (.type "dict") (.type T) = some b ∧ Q (.bl b) H
theorem call_isiO : CallR X (.builtin "isinstance") (rIsiO (X := X)) := by
  intro pins s σ H xs us Q I r h
  obtain ⟨a, T, b, rfl, ha, e, q⟩ := h
  obtain ⟨u1, u2, rfl, r1, r2⟩ := vals2 r
  cases (show u1 = Value.ref a from r1)
  cases (show u2 = Value.type T from r2)
  obtain ⟨φ, ho, _⟩ := (show ObjOk X.prog X.w H s.heap a (.ext (IsDct a)) from I.hok a _ ha)
  exact PySem.W.kia_one PySem.W.kitx_dict I.kIn φ e (fun z => nomatch z) fun tk => ⟨.bl b, H, I.tok tk, rfl, q⟩
/-- list(d) of a dict's keys needs the outermost frame's calm -/
theorem bi_sp (hc : X.calm = true) (hg : X.A.guards = some []) (hu : X.A.units + 64 < cLine) (b : Bi) : CallR X b.val (rSpL G X.K (semB b)) := by
  cases b with
  | len =>
    refine clImp (clAlt call_len (clAlt lenK_ok lenT_ok)) ?_
    rintro vs H Q ⟨F, ds, d, m, l, e, q⟩
    unfold semB at e
    split at e <;> try (first | (rename_i hb; cases hb; done) | (cases e; done))
    · rename_i d0
      obtain ⟨n, e1, e2⟩ := Option.map_eq_some_iff.mp e
      cases e2
      obtain ⟨v, rfl, lv⟩ := lks1 l
      unfold lenD at e1
      split at e1
      · split at e1
        · rename_i c
          cases e1
          rw [lv.str]
          exact .inl ⟨_, _, rfl, ⟨okLen_le c, rfl⟩, q _ H .refl (.int _)⟩
        · cases e1
      · cases e1
        obtain ⟨a, us, rfl, h, r⟩ := lv.tup
        exact .inl ⟨_, _, rfl, .inr ⟨us, h, r.length.symm⟩, q _ H .refl (.int _)⟩
      · cases e1
        obtain ⟨a, us, rfl, h, r⟩ := lv.lst
        exact .inl ⟨_, _, rfl, .inl ⟨us, .of h, r.length.symm⟩, q _ H .refl (.int _)⟩
      · cases e1
        obtain ⟨a, us, rfl, h, r⟩ := lv.fz
        exact .inl ⟨_, _, rfl, .inl ⟨us, h, r.length.symm⟩, q _ H .refl (.int _)⟩
      · split at e1
        · rename_i c
          cases e1
          obtain ⟨a, rfl, cl⟩ := lv.dct
          cases cl with
          | dct h r => exact .inr (.inl ⟨a, _, rfl, h, by rw [ks_len r]; exact q _ H .refl (.int _)⟩)
          | dtp h r =>
            obtain ⟨z1, z2⟩ := tz_keys r c
            subst z1 z2
            exact .inr (.inr ⟨a, rfl, h, q _ H .refl (.int _)⟩)
        · cases e1
      · cases e1
  | abs =>
    refine clImp call_abs ?_
    rintro vs H Q ⟨F, ds, d, m, l, e, q⟩
    unfold semB at e
    split at e <;> try (first | (rename_i hb; cases hb; done) | (cases e; done))
    cases e
    obtain ⟨v, rfl, lv⟩ := lks1 l
    rw [lv.int]
    exact ⟨_, rfl, q _ H .refl (.int _)⟩
  | int =>
    refine clImp call_int1 ?_
    rintro vs H Q ⟨F, ds, d, m, l, e, q⟩
    unfold semB at e
    split at e <;> try (first | (rename_i hb; cases hb; done) | (cases e; done))
    · cases e
      obtain ⟨v, rfl, lv⟩ := lks1 l
      rw [lv.int]
      exact .inl ⟨_, rfl, q _ H .refl (.int _)⟩
    · cases e
      obtain ⟨v, rfl, lv⟩ := lks1 l
      rw [lv.bl]
      exact .inr ⟨_, rfl, q _ H .refl (.int _)⟩
  | list =>
    refine clImp (clAlt call_list_of (clAlt (call_listD hc) (call_emptyT (o := .lst []) (call_listD hc) fun a H Q e q => ⟨a, [], rfl, .inl e, q⟩))) ?_
    rintro vs H Q ⟨F, ds, d, m, l, e, q⟩
    unfold semB at e
    split at e <;> try (first | (rename_i hb; cases hb; done) | (cases e; done))
    · cases e
      obtain ⟨v, rfl, lv⟩ := lks1 l
      obtain ⟨a, us, rfl, h, r⟩ := lv.lst
      exact .inl ⟨a, us, rfl, .inl (.of h), fun p np => q _ _ (.new np) (newL np r)⟩
    · cases e
      obtain ⟨v, rfl, lv⟩ := lks1 l
      obtain ⟨a, us, rfl, h, r⟩ := lv.fz
      exact .inl ⟨a, us, rfl, .inl h, fun p np => q _ _ (.new np) (newL np r)⟩
    · cases e
      obtain ⟨v, rfl, lv⟩ := lks1 l
      obtain ⟨a, us, rfl, h, r⟩ := lv.tup
      exact .inl ⟨a, us, rfl, .inr h, fun p np => q _ _ (.new np) (newL np r)⟩
    · split at e
      · rename_i c1
        cases e
        obtain ⟨v, rfl, lv⟩ := lks1 l
        obtain ⟨a, rfl, cl⟩ := lv.dct
        rename_i kvs _
        cases kvs with
        | nil =>
          rcases cell_empty cl with h | h
          · exact .inr (.inl ⟨a, [], rfl, h, fun p np => q _ _ (.new np) (newL np .nil)⟩)
          · exact .inr (.inr ⟨a, rfl, h, fun p np => q _ _ (.new np) (newL np .nil)⟩)
        | cons kv kvs =>
          obtain ⟨es, h, r⟩ := dct_k cl c1 rfl
          exact .inr (.inl ⟨a, es, rfl, h, fun p np => q _ _ (.new np) (newL np (ks_keys r))⟩)
      · cases e
  | tuple =>
    refine clImp call_tuple_of ?_
    rintro vs H Q ⟨F, ds, d, m, l, e, q⟩
    unfold semB at e
    split at e <;> try (first | (rename_i hb; cases hb; done) | (cases e; done))
    · cases e
      obtain ⟨v, rfl, lv⟩ := lks1 l
      obtain ⟨a, us, rfl, h, r⟩ := lv.lst
      exact ⟨a, us, rfl, .inl ⟨.of h, fun p np => q _ _ (.new np) (newT np r)⟩⟩
    · cases e
      obtain ⟨v, rfl, lv⟩ := lks1 l
      obtain ⟨a, us, rfl, h, r⟩ := lv.fz
      exact ⟨a, us, rfl, .inl ⟨h, fun p np => q _ _ (.new np) (newT np r)⟩⟩
    · cases e
      obtain ⟨v, rfl, lv⟩ := lks1 l
      obtain ⟨a, us, rfl, h, r⟩ := lv.tup
      exact ⟨a, us, rfl, .inr ⟨h, q _ _ .refl (.tup h r)⟩⟩
  | sorted =>
    refine clImp cr_sortedI ?_
    rintro vs H Q ⟨F, ds, d, m, l, e, q⟩
    unfold semB at e
    split at e <;> try (first | (rename_i hb; cases hb; done) | (cases e; done))
    obtain ⟨ns, e1, e2⟩ := Option.map_eq_some_iff.mp e
    cases e2
    obtain ⟨v, rfl, lv⟩ := lks1 l
    obtain ⟨a, us, rfl, h, r⟩ := lv.lst
    rw [intsD_reps e1 r] at h
    refine ⟨a, ns, rfl, .of h, fun ns' p perm srt np => ?_⟩
    have es : ns' = ns.mergeSort (fun a b => decide (a ≤ b)) := by
      refine PySem.W.ksm_same (perm.trans (List.mergeSort_perm _ _).symm) srt ?_
      have := List.pairwise_mergeSort (le := fun a b : Int => decide (a ≤ b)) (fun a b c h1 h2 => by simp at *; omega) (fun a b => by simp; omega) ns
      exact this.imp fun h => by simpa using h
    rw [es]
    exact q _ _ (.new np) (newL np (reps_ints _))
  | all =>
    refine clImp (cr_all hc) ?_
    rintro vs H Q ⟨F, ds, d, m, l, e, q⟩
    unfold semB at e
    split at e <;> try (first | (rename_i hb; cases hb; done) | (cases e; done))
    obtain ⟨bs, e1, e2⟩ := Option.map_eq_some_iff.mp e
    cases e2
    obtain ⟨v, rfl, lv⟩ := lks1 l
    obtain ⟨a, us, rfl, h, r⟩ := lv.lst
    rw [blsD_reps e1 r] at h
    exact ⟨a, bs, rfl, .of h, q _ H .refl (.bl _)⟩
  | any =>
    refine clImp (cr_any hc) ?_
    rintro vs H Q ⟨F, ds, d, m, l, e, q⟩
    unfold semB at e
    split at e <;> try (first | (rename_i hb; cases hb; done) | (cases e; done))
    obtain ⟨bs, e1, e2⟩ := Option.map_eq_some_iff.mp e
    cases e2
    obtain ⟨v, rfl, lv⟩ := lks1 l
    obtain ⟨a, us, rfl, h, r⟩ := lv.lst
    rw [blsD_reps e1 r] at h
    exact ⟨a, bs, rfl, .of h, q _ H .refl (.bl _)⟩
  | sum =>
    refine clImp (cr_sum hc) ?_
    rintro vs H Q ⟨F, ds, d, m, l, e, q⟩
    unfold semB at e
    split at e <;> try (first | (rename_i hb; cases hb; done) | (cases e; done))
    obtain ⟨bs, e1, e2⟩ := Option.map_eq_some_iff.mp e
    cases e2
    obtain ⟨v, rfl, lv⟩ := lks1 l
    obtain ⟨a, us, rfl, h, r⟩ := lv.lst
    rw [intsD_reps e1 r] at h
    exact ⟨a, bs, rfl, .of h, q _ H .refl (.int _)⟩
  | min1 =>
    refine clImp (cr_min hc) ?_
    rintro vs H Q ⟨F, ds, d, m, l, e, q⟩
    unfold semB at e
    split at e <;> try (first | (rename_i hb; cases hb; done) | (cases e; done))
    obtain ⟨ns, e1, e2⟩ := Option.bind_eq_some_iff.mp e
    obtain ⟨k, e3, e4⟩ := Option.map_eq_some_iff.mp e2
    cases e4
    obtain ⟨v, rfl, lv⟩ := lks1 l
    obtain ⟨a, us, rfl, h, r⟩ := lv.lst
    rw [intsD_reps e1 r] at h
    obtain ⟨h1, h2⟩ := minL_mem e3
    refine ⟨a, ns, rfl, .of h, List.length_pos_of_mem h1, fun k' hk hl => ?_⟩
    have : k' = k := Int.le_antisymm (hl _ h1) (h2 _ hk)
    rw [this]
    exact q _ H .refl (.int _)
  | max1 =>
    refine clImp (cr_max hc) ?_
    rintro vs H Q ⟨F, ds, d, m, l, e, q⟩
    unfold semB at e
    split at e <;> try (first | (rename_i hb; cases hb; done) | (cases e; done))
    obtain ⟨ns, e1, e2⟩ := Option.bind_eq_some_iff.mp e
    obtain ⟨k, e3, e4⟩ := Option.map_eq_some_iff.mp e2
    cases e4
    obtain ⟨v, rfl, lv⟩ := lks1 l
    obtain ⟨a, us, rfl, h, r⟩ := lv.lst
    rw [intsD_reps e1 r] at h
    obtain ⟨h1, h2⟩ := maxL_mem e3
    refine ⟨a, ns, rfl, .of h, List.length_pos_of_mem h1, fun k' hk hl => ?_⟩
    have : k' = k := Int.le_antisymm (h2 _ hk) (hl _ h1)
    rw [this]
    exact q _ H .refl (.int _)
  | min2 =>
    refine clImp (call_min2 hc) ?_
    rintro vs H Q ⟨F, ds, d, m, l, e, q⟩
    unfold semB at e
    split at e <;> try (first | (rename_i hb; cases hb; done) | (cases e; done))
    cases e
    obtain ⟨v, u, rfl, lv, lu⟩ := lks2 l
    rw [lv.int, lu.int]
    exact ⟨_, _, rfl, q _ H .refl (.int _)⟩
  | max2 =>
    refine clImp (call_max2 hc) ?_
    rintro vs H Q ⟨F, ds, d, m, l, e, q⟩
    unfold semB at e
    split at e <;> try (first | (rename_i hb; cases hb; done) | (cases e; done))
    cases e
    obtain ⟨v, u, rfl, lv, lu⟩ := lks2 l
    rw [lv.int, lu.int]
    exact ⟨_, _, rfl, q _ H .refl (.int _)⟩
  | repr =>
    refine clImp (clAlt (reprR_ok hg hu) (reprK_ok hg hu)) ?_
    rintro vs H Q ⟨F, ds, d, m, l, e, q⟩
    unfold semB at e
    split at e <;> try (first | (rename_i hb; cases hb; done) | (cases e; done))
    · obtain ⟨x, e1, e2⟩ := Option.map_eq_some_iff.mp e
      cases e2
      obtain ⟨v, rfl, lv⟩ := lks1 l
      obtain ⟨a, rfl, cl⟩ := lv.dct
      unfold reprD at e1
      split at e1
      · cases e1
      rename_i hne
      obtain ⟨p, e3, e4⟩ := Option.bind_eq_some_iff.mp e1
      split at e4
      · rename_i c
        cases e4
        simp only [Bool.and_eq_true, decide_eq_true_eq] at c
        cases cl with
        | dct h r => exact .inr ⟨a, _, p, rfl, h, flat_of r e3, c.1.1, c.1.2, okLen_le c.2, q _ H .refl (.str _)⟩
        | dtp h r =>
          cases r with
          | nil => exact (hne rfl).elim
          | cons lk r t =>
            rw [kvP] at e3
            obtain ⟨kk, e5, _⟩ := Option.bind_eq_some_iff.mp e3
            rename_i kd _ _ _ _ _
            cases kd <;> first | (cases lk; done) | (cases e5; done)
      · cases e4
    obtain ⟨x, e1, e2⟩ := Option.map_eq_some_iff.mp e
    cases e2
    obtain ⟨v, rfl, lv⟩ := lks1 l
    unfold reprB at e1
    obtain ⟨p, e3, e4⟩ := Option.bind_eq_some_iff.mp e1
    split at e4
    · rename_i c
      cases e4
      simp only [Bool.and_eq_true, decide_eq_true_eq] at c
      exact .inl ⟨v, p, rfl, lv.dp e3, c.1.1, toP_plain e3, c.1.2, okLen_le c.2, q _ H .refl (.str _)⟩
    · cases e4
  | dict =>
    refine clImp (clAlt call_dictD (call_emptyT (o := .dK []) call_dictD fun a H Q e q => ⟨a, [], rfl, .inl e, q⟩)) ?_
    rintro vs H Q ⟨F, ds, d, m, l, e, q⟩
    unfold semB at e
    split at e <;> try (first | (rename_i hb; cases hb; done) | (cases e; done))
    split at e
    · rename_i c
      cases e
      obtain ⟨v, rfl, lv⟩ := lks1 l
      obtain ⟨a, rfl, cl⟩ := lv.dct
      rename_i kvs _
      cases kvs with
      | nil =>
        rcases cell_empty cl with h | h
        · exact .inl ⟨a, [], rfl, h, fun p np => q _ _ (.new np) ⟨p, rfl, np, .dct upd_same .nil⟩⟩
        · exact .inr ⟨a, rfl, h, fun p np => q _ _ (.new np) ⟨p, rfl, np, .dct upd_same .nil⟩⟩
      | cons kv kvs =>
        obtain ⟨es, h, r⟩ := dct_k cl c rfl
        exact .inl ⟨a, es, rfl, h, fun p np => q _ _ (.new np) ⟨p, rfl, np, .dct upd_same (r.ext (Grow.new np).ext)⟩⟩
    · cases e
  | isi =>
    refine clImp (clAlt (call_isi (X := X)) call_isiO) ?_
    rintro vs H Q ⟨F, ds, d, m, l, e, q⟩
    unfold semB at e
    split at e <;> try (first | (rename_i hb; cases hb; done) | (cases e; done))
    rename_i d0 T0
    obtain ⟨t, e1, e2⟩ := Option.bind_eq_some_iff.mp e
    obtain ⟨b, e3, e4⟩ := Option.map_eq_some_iff.mp e2
    cases e4
    obtain ⟨v, u, rfl, lv, lu⟩ := lks2 l
    rw [lu.ty]
    unfold tyO at e1
    split at e1
    · cases e1
      obtain ⟨a, rfl, ha⟩ := lv.odc
      exact .inr ⟨a, _, b, rfl, ha, kit_ty e3, q _ H .refl (.bl _)⟩
    · exact .inl ⟨v, _, _, _, b, rfl, .ty _, tyD_ty lv e1, kit_ty e3, q _ H .refl (.bl _)⟩
end
end DI

set_option Elab.async false
set_option linter.all false
set_option maxRecDepth 100000
set_option maxHeartbeats 4000000
namespace DI
open PySem L2

/-! ## The text, as it is run -/
/-- what a for target names -/
inductive Tg where | nm (i : Nat) | tp (is : List Nat)
/-- what is walked -/
inductive Ik where | val | rng1 | rng2 | enum | zip
/-- methods that change a list (at a slot) -/
inductive Mt where | append | pop | popAt
/-- methods that change nothing -/
inductive Pm where | index
mutual
inductive E where
  | int (i : Int) | str (x : Str) | bl (b : Bool) | non
  | bty (x : String)
  | gc (g : Nat)
  | var (i : Nat) | mov (i : Nat)
  | tup (as : As) | lst (as : As) | dct (as : As) | odc (k v : A)
  | op2 (o : O2) (a b : A)
  | ch (o1 o2 : O2) (a b c : A)
  | neg (a : A)
  | not (a : E) | and (as : As) | or (as : As)
  | ife (t a b : E)
  | sub (a b : A)
  | sl (a : A) (lo hi : As)
  | bi (b : Bi) (as : As)
  | call (f : Nat) (as : As) (ds : List D)
  | mth (m : Mt) (i : Nat) (as : As)
  | pm (m : Pm) (a : A) (as : As)
  | lc (own : List (Str × Nat)) (tg : Tg) (k : Ik) (as : As) (ifs : As) (elt : E)
  | dget (a k d : A)
  | mk (c : Nat) (a : A) | mkx (c : Nat) (n : Str) (a : A) | fld (cs : List Nat) (n : Str) (a : A) | isx (h : Nat) (tab : List Nat) (a : A) | join (z : Str) (a : A)
  | dead
inductive A where | e (x : E) | s (i : Nat) | io (i : Nat)
inductive As where | nil | cons (a : A) (r : As)
end
/-- what an assignment names -/
inductive Tt where | nm (i : Nat) | sub (o : Nat) (i : E)
mutual
inductive S where
  | set (i : Nat) (e : E)
  | tgt (ts : List Tt) (e : E)
  | par (i j : Nat) (a b : E)
  | sub (o : Nat) (i : E) (e : E)
  | ex (e : E)
  | ifs (t : E) (a b : Ss)
  | for_ (tg : Tg) (k : Ik) (as : As) (body : Ss)
  | whl (n : Nat) (t : E) (body : Ss)
  | whw (n : Nat) (i : Nat) (e : E) (o : O2) (b : E) (body : Ss)
  | ret (e : E) | retN
  | raise (c : Nat) (as : As) | raisex (c : Nat) (a : A)
  | try_ (body : Ss) (hs : Hs)
  | pass | brk | ctn
  | doc
  | dead
inductive Ss where | nil | cons (s : S) (r : Ss)
inductive Hs where | nil | cons (c : Nat) (suite : Ss) (r : Hs) | tup (c1 c2 c3 : Nat) (suite : Ss)
end

/-! ## Running -/
inductive Ar where | val (d : D) (m : Vm) | slot (i : Nat) | io (i : Nat)
inductive CR where | ok (d : D) (m : Vm) (outs : Env) | ex (e : Exn) (outs : Env) | no
def gS (ρ : Env) (i : Nat) : Option Sl := match ρ[i]? with | some s => s | none => none
/-- a slot takes another value -/
def setS (ρ : Env) (i : Nat) (s : Sl) : Option Env :=
  match ρ[i]? with
  | none => none
  | some none => some (ρ.set i (some s))
  | some (some t) => match t.m with
    | .io => none
    | .bo => none
    | _ => some (ρ.set i (some s))
def Ar.get (ρ : Env) : Ar → Option D
  | .val d _ => some d
  | .slot i => (gS ρ i).map (·.d)
  | .io i => (gS ρ i).map (·.d)
def gets (ρ : Env) : List Ar → Option (List D)
  | [] => some []
  | a :: r => (a.get ρ).bind fun d => (gets ρ r).map fun ds => d :: ds
/-- what is handed on for good -/
def valsOf : List Ar → Option (List D)
  | [] => some []
  | .val d _ :: r => (valsOf r).map fun ds => d :: ds
  | _ => none
def ofRes (r : Res) (ρ : Env) : R (D × Vm) := match r with | some a => .ok a ρ | none => .no
/-- a value for a slot of one's own -/
def mkSl (d : D) : Vm → Sl
  | .sh => ⟨.sh, d⟩
  | .fr => ⟨.ow, d⟩
def readVar (ρ : Env) (i : Nat) : R (D × Vm) :=
  match gS ρ i with
  | some ⟨.sh, d⟩ => .ok (d, .sh) ρ
  | some ⟨.ow, d⟩ => .ok (d, .sh) (ρ.set i (some ⟨.sh, d⟩))
  | _ => .no
def moveVar (ρ : Env) (i : Nat) : R (D × Vm) :=
  match gS ρ i with
  | some ⟨.sh, d⟩ => .ok (d, .sh) ρ
  | some ⟨.ow, d⟩ => .ok (d, .fr) (ρ.set i none)
  | _ => .no
def assignT (ρ : Env) (d : D) : Tg → Option Env
  | .nm i => setS ρ i ⟨.sh, d⟩
  | .tp is => match d with
    | .tup ds => assignN ρ is ds
    | _ => none
where assignN (ρ : Env) : List Nat → List D → Option Env
  | [], [] => some ρ
  | i :: is, d :: ds => (setS ρ i ⟨.sh, d⟩).bind fun ρ' => assignN ρ' is ds
  | _, _ => none
def ixD (a i : D) : Option D :=
  match a, i with
  | .lst ds, .int k => atI ds k
  | .fz ds, .int k => atI ds k
  | .tup ds, .int k => atI ds k
  | .str x, .int k => if okLen x.length then (atI x.cps.toList k).map fun c => .str ⟨#[c]⟩ else none
  | .dct kvs, k => match keyD k with
    | some kk => if kvs.all fun e => (keyD e.1).isSome then (kvs.find? fun e => decide (keyD e.1 = some kk)).map (·.2) else none
    | none => none
  | _, _ => none
def cutD (ds : List D) (lo hi : Option Int) : List D := (ds.drop (HT.sIx ds.length 0 lo)).take (HT.sIx ds.length ds.length hi - HT.sIx ds.length 0 lo)
def sliceD (a : D) (lo hi : Option Int) : Res :=
  match a with
  | .lst ds => some (.lst (cutD ds lo hi), .fr)
  | .fz ds => some (.lst (cutD ds lo hi), .fr)
  | .tup ds => shv (.tup (cutD ds lo hi))
  | _ => none
def boundD : List Ar → Env → Option (Option Int)
  | [], _ => some none
  | [a], ρ => match a.get ρ with | some (.int k) => some (some k) | _ => none
  | _, _ => none
def negD : D → Res
  | .int i => shv (.int (-i))
  | _ => none
/-- d with its method done: the new content, what is handed back -/
def semM : Mt → D → List D → Option (D × D)
  | .append, .lst ds, [d] => if okLen (ds.length + 1) then some (.lst (ds ++ [d]), .non) else none
  | .pop, .lst ds, [] => (ds[ds.length - 1]?).map fun d => (.lst ds.dropLast, d)
  | .popAt, .lst ds, [.int i] => if fits63 i then (ixN ds.length i).bind fun k => (ds[k]?).map fun d => (.lst (ds.eraseIdx k), d) else none
  | _, _, _ => none
def semP : Pm → D → List D → Option D
  | .index, .lst ds, [d] => (toP d).bind fun p => (toPs ds).bind fun ps =>
      if SeqAt.shaped p && SeqAt.shaped (.list ps) && (ps.findIdx fun z => PyData.eqv z p) < ps.length then some (.int ((ps.findIdx fun z => PyData.eqv z p : Nat) : Int)) else none
  | _, _, _ => none
def putD (kvs : List (D × D)) (k : D) (kk : Key) (d : D) : List (D × D) :=
  if kvs.any fun e => decide (keyD e.1 = some kk) then kvs.map (fun e => if decide (keyD e.1 = some kk) then (e.1, d) else e) else kvs ++ [(k, d)]
def setSub (a i d : D) : Option D :=
  match a, i with
  | .lst ds, .int k => (ixN ds.length k).map fun j => .lst (ds.set j d)
  | .dct kvs, k => match keyD k with
    | some kk => if (kvs.all fun e => (keyD e.1).isSome) && okLen (kvs.length + 1) then
        some (.dct (putD kvs k kk d)) else none
    | none => none
  | _, _ => none
def truthD : D → Option Bool
  | .non => some false
  | .bl b => some b
  | .int i => some (i != 0)
  | .str x => if okLen x.length then some ((x.length : Int) != 0) else none
  | .lst ds => some (!ds.isEmpty)
  | .fz ds => some (!ds.isEmpty)
  | .tup ds => some (!ds.isEmpty)
  | .dct kvs => if kvs.all fun e => (keyD e.1).isSome then some (!kvs.isEmpty) else none
  | _ => none
def small (i : Int) : Bool := decide (i.natAbs.log2 < 62)
/-- a sequence: whether a tuple, its items -/
def seqD : D → Option (Bool × List D)
  | .lst ds => some (false, ds)
  | .fz ds => some (false, ds)
  | .tup ds => some (true, ds)
  | _ => none
structure Src where
  t : Bool
  ds : List D
  lk : List (Nat × Mo)
  ρ : Env
/-- what is walked, the slot that is only read meanwhile -/
def srcOf (a : Ar) (ρ : Env) : Option Src :=
  (a.get ρ).bind fun d => (seqD d).bind fun x => match a with
    | .val _ _ => some ⟨x.1, x.2, [], ρ⟩
    | .slot i => match gS ρ i with
      | some s => match s.m with
        | .sh => some ⟨x.1, x.2, [], ρ⟩
        | .bo => some ⟨x.1, x.2, [], ρ⟩
        | .ow => some ⟨x.1, x.2, [(i, .ow)], ρ.set i (some ⟨.bo, s.d⟩)⟩
        | .io => some ⟨x.1, x.2, [(i, .io)], ρ.set i (some ⟨.bo, s.d⟩)⟩
      | none => none
    | .io _ => none
structure Its where
  ds : List D
  lk : List (Nat × Mo)
  ρ : Env
def rngD (lo : Int) (n : Nat) : List D := (List.range n).map fun (k : Nat) => D.int (lo + (k : Int))
def itemsOf (k : Ik) (ars : List Ar) (ρ : Env) : Option Its :=
  match k, ars with
  | .val, [a] => (srcOf a ρ).map fun x => ⟨x.ds, x.lk, x.ρ⟩
  | .rng1, [a] => match a.get ρ with
    | some (.int j) => if small j then some ⟨rngD 0 j.toNat, [], ρ⟩ else none
    | _ => none
  | .rng2, [a, b] => match a.get ρ, b.get ρ with
    | some (.int i), some (.int j) => if small i && small j then some ⟨rngD i (j - i).toNat, [], ρ⟩ else none
    | _, _ => none
  | .enum, [a] => (srcOf a ρ).bind fun x => some ⟨x.ds.zipIdx.map fun p => .tup [.int (p.2 : Int), p.1], x.lk, x.ρ⟩
  | .zip, [a, b] => (srcOf a ρ).bind fun x => (srcOf b x.ρ).bind fun y => if x.t = y.t then some ⟨(x.ds.zip y.ds).map fun p => .tup [p.1, p.2], y.lk ++ x.lk, y.ρ⟩ else none
  | _, _ => none
def unlock : List (Nat × Mo) → Env → Env
  | [], ρ => ρ
  | p :: r, ρ => unlock r (match gS ρ p.1 with | some s => (match s.m with | .bo => ρ.set p.1 (some ⟨p.2, s.d⟩) | _ => ρ) | none => ρ)
/-- no slot of these holds a place of its own -/
def ownSh (ρ : Env) : List Nat → Bool
  | [] => true
  | i :: r => (match gS ρ i with | some s => (match s.m with | .sh => true | _ => false) | none => true) && ownSh ρ r
def wipeE (ρ : Env) : List Nat → Env
  | [] => ρ
  | v :: vs => (wipeE ρ vs).set v none
/-- own slots as they were -/
def putBack (ρ₀ : Env) (own : List Nat) (ρ : Env) : Env :=
  match own with
  | [] => ρ
  | v :: vs => match ρ₀[v]? with | some s => (putBack ρ₀ vs ρ).set v s | none => putBack ρ₀ vs ρ
def ioArg (ρ : Env) : Ar → Option Sl
  | .val d _ => some ⟨.sh, d⟩
  | .slot i => (gS ρ i).map fun s => match s.m with | .sh => s | _ => ⟨.bo, s.d⟩
  | .io i => (gS ρ i).bind fun s => match s.m with | .ow => some ⟨.io, s.d⟩ | .io => some ⟨.io, s.d⟩ | _ => none
def ioArgs (ρ : Env) : List Ar → Option (List Sl)
  | [] => some []
  | a :: r => (ioArg ρ a).bind fun s => (ioArgs ρ r).map fun ss => s :: ss
/-- the slots that a call holds -/
def hold1 (ρ : Env) : Ar → Option Nat
  | .val _ _ => none
  | .slot i => match gS ρ i with | some ⟨.sh, _⟩ => none | _ => some i
  | .io i => some i
def holds (ρ : Env) : List Ar → List Nat
  | [] => []
  | a :: r => match hold1 ρ a with | some i => i :: holds ρ r | none => holds ρ r
def nodupN : List Nat → Bool
  | [] => true
  | a :: r => !r.contains a && nodupN r
def back (ρ : Env) : List Ar → Env → Env
  | .io i :: r, o :: os => match gS ρ i, o with
    | some ⟨m, _⟩, some s => (back ρ r os).set i (some ⟨m, s.d⟩)
    | _, _ => back ρ r os
  | _ :: r, _ :: os => back ρ r os
  | _, _ => ρ
def callF (cl : Nat → List Sl → CR) (f : Nat) (ars : List Ar) (ds : List D) (ρ : Env) : R (D × Vm) :=
  match ioArgs ρ ars with
  | some ss => if nodupN (holds ρ ars) then
      match cl f (ss ++ ds.map fun d => ⟨.sh, d⟩) with
      | .ok d m outs => .ok (d, m) (back ρ ars outs)
      | .ex e outs => .ex e (back ρ ars outs)
      | .no => .no
    else .no
  | none => .no
/-- a comprehension's turns -/
def lcLoop (own : List Nat) (tg : Tg) (tt te : Env → R (D × Vm)) : List D → List D → Env → R (List D)
  | [], acc, ρ => .ok acc ρ
  | d :: r, acc, ρ => match assignT ρ d tg with
    | none => .no
    | some ρ1 => match tt ρ1 with
      | .ok v ρ2 => match v.1 with
        | .bl true => match te ρ2 with
          | .ok w ρ3 => if okLen (acc.length + 1) && ownSh ρ3 own then lcLoop own tg tt te r (acc ++ [w.1]) (wipeE ρ3 own) else .no
          | _ => .no
        | .bl false => if ownSh ρ2 own then lcLoop own tg tt te r acc (wipeE ρ2 own) else .no
        | _ => .no
      | _ => .no
def tgIs : Tg → List Nat
  | .nm i => [i]
  | .tp is => is

/-- a value, or (t) its truth -/
def fin (t : Bool) (r : R (D × Vm)) : R (D × Vm) :=
  match t with
  | false => r
  | true => r.bind fun v ρ => match truthD v.1 with | some k => .ok (.bl k, .sh) ρ | none => .no
/-- by the truth that was found -/
def onBl (r : R (D × Vm)) (f : Bool → Env → R (D × Vm)) : R (D × Vm) :=
  r.bind fun v ρ => match v.1 with | .bl k => f k ρ | _ => .no
def R.blOf (r : R (D × Vm)) : R Bool := r.bind fun v ρ => match v.1 with | .bl k => .ok k ρ | _ => .no

/-! what each form does, its parts given -/
def slotF (i : Nat) : Env → R Ar := fun ρ => match gS ρ i with | some _ => .ok (.slot i) ρ | none => .no
def ioF (i : Nat) : Env → R Ar := fun ρ => match gS ρ i with | some _ => .ok (.io i) ρ | none => .no
def argF (f : Env → R (D × Vm)) : Env → R Ar := fun ρ => (f ρ).bind fun v ρ1 => .ok (.val v.1 v.2) ρ1
def consF (f : Env → R Ar) (g : Env → R (List Ar)) : Env → R (List Ar) := fun ρ => (f ρ).bind fun x ρ1 => (g ρ1).bind fun xs ρ2 => .ok (x :: xs) ρ2
def varT (i : Nat) : Env → R (D × Vm) := fun ρ => match gS ρ i with | some s => (match truthD s.d with | some k => .ok (.bl k, .sh) ρ | none => .no) | none => .no
def tupF (g : Env → R (List Ar)) : Env → R (D × Vm) := fun ρ => (g ρ).bind fun ars ρ1 => match valsOf ars with | some ds => if okLen ds.length then .ok (.tup ds, .sh) ρ1 else .no | none => .no
def lstF (g : Env → R (List Ar)) : Env → R (D × Vm) := fun ρ => (g ρ).bind fun ars ρ1 => match valsOf ars with | some ds => if okLen ds.length then .ok (.lst ds, .fr) ρ1 else .no | none => .no
/-- k, v, k, v, .. -/
def pairsD : List D → Option (List (D × D))
  | [] => some []
  | k :: v :: r => (pairsD r).map fun l => (k, v) :: l
  | _ => none
def putsD : List (D × D) → List (D × D) → Option (List (D × D))
  | acc, [] => some acc
  | acc, (k, v) :: r => (keyD k).bind fun kk => putsD (putD acc k kk v) r
/-- a display: its keys ints or texts -/
def dispD (ps : List (D × D)) : Option (List (D × D)) := if decide (ps.length ≤ 15) then putsD [] ps else none
def dctF (g : Env → R (List Ar)) : Env → R (D × Vm) := fun ρ => (g ρ).bind fun ars ρ1 => match valsOf ars with | some ds => (match (pairsD ds).bind dispD with | some kvs => .ok (.dct kvs, .fr) ρ1 | none => .no) | none => .no
/-- {k: v}, k a tuple of ints and texts: some dict -/
def odcR (k _v : D) : Res := match keyT k with | some _ => some (.odc, .fr) | none => none
def twoF (s : D → D → Res) (f g : Env → R Ar) : Env → R (D × Vm) := fun ρ => (f ρ).bind fun x ρ1 => (g ρ1).bind fun y ρ2 => match x.get ρ2, y.get ρ2 with
    | some dx, some dy => ofRes (s dx dy) ρ2
    | _, _ => .no
def oneF (s : D → Res) (f : Env → R Ar) : Env → R (D × Vm) := fun ρ => (f ρ).bind fun x ρ1 => match x.get ρ1 with | some d => ofRes (s d) ρ1 | none => .no
def chainF (f g h : Env → R Ar) (s1 s2 : D → D → Res) : Env → R (D × Vm) := fun ρ => (f ρ).bind fun x ρ1 => (g ρ1).bind fun y ρ2 => match x.get ρ2, y.get ρ2 with
    | some dx, some dy => match s1 dx dy with
      | some (.bl true, .sh) => (h ρ2).bind fun z ρ3 => match y.get ρ3, z.get ρ3 with
        | some dy, some dz => ofRes (s2 dy dz) ρ3
        | _, _ => .no
      | some (.bl false, .sh) => .ok (.bl false, .sh) ρ2
      | _ => .no
    | _, _ => .no
def notF (f : Env → R (D × Vm)) : Env → R (D × Vm) := fun ρ => onBl (f ρ) fun b ρ1 => .ok (.bl (!b), .sh) ρ1
def ifF (t f g : Env → R (D × Vm)) : Env → R (D × Vm) := fun ρ => onBl (t ρ) fun k ρ1 => if k then f ρ1 else g ρ1
def andF (f g : Env → R (D × Vm)) : Env → R (D × Vm) := fun ρ => onBl (f ρ) fun k ρ1 => if k then g ρ1 else .ok (.bl false, .sh) ρ1
def orF (f g : Env → R (D × Vm)) : Env → R (D × Vm) := fun ρ => onBl (f ρ) fun k ρ1 => if k then .ok (.bl true, .sh) ρ1 else g ρ1
def ixR (a i : D) : Res := (ixD a i).map fun d => (d, .sh)
def slF (f : Env → R Ar) (g h : Env → R (List Ar)) : Env → R (D × Vm) := fun ρ => (f ρ).bind fun x ρ1 => (g ρ1).bind fun l ρ2 => match boundD l ρ2 with
    | some lo => (h ρ2).bind fun u ρ3 => match x.get ρ3, boundD u ρ3 with
      | some d, some hi => ofRes (sliceD d lo hi) ρ3
      | _, _ => .no
    | none => .no
def biF (b : Bi) (g : Env → R (List Ar)) : Env → R (D × Vm) := fun ρ => (g ρ).bind fun ars ρ1 => match gets ρ1 ars with | some ds => ofRes (semB b ds) ρ1 | none => .no
def callG (cl : Nat → List Sl → CR) (f : Nat) (ds : List D) (g : Env → R (List Ar)) : Env → R (D × Vm) := fun ρ => (g ρ).bind fun ars ρ1 => callF cl f ars ds ρ1
def isLst : Option D → Bool | some (.lst _) => true | _ => false
def mthF (m : Mt) (i : Nat) (g : Env → R (List Ar)) : Env → R (D × Vm) := fun ρ => if isLst ((gS ρ i).map (·.d)) then (g ρ).bind fun ars ρ1 => match gS ρ1 i, valsOf ars with
    | some s, some ds => match s.m with
      | .ow => match semM m s.d ds with | some (d', r) => .ok (r, .sh) (ρ1.set i (some ⟨.ow, d'⟩)) | none => .no
      | .io => match semM m s.d ds with | some (d', r) => .ok (r, .sh) (ρ1.set i (some ⟨.io, d'⟩)) | none => .no
      | _ => .no
    | _, _ => .no
  else .no
def pmF (m : Pm) (f : Env → R Ar) (g : Env → R (List Ar)) : Env → R (D × Vm) := fun ρ => (f ρ).bind fun x ρ1 => if isLst (x.get ρ1) then (g ρ1).bind fun ars ρ2 => match x.get ρ2, gets ρ2 ars with
    | some d, some ds => ofRes ((semP m d ds).map fun r => (r, .sh)) ρ2
    | _, _ => .no
  else .no
def lcF (own : List Nat) (tg : Tg) (k : Ik) (g : Env → R (List Ar)) (tt te : Env → R (D × Vm)) : Env → R (D × Vm) := fun ρ => (g ρ).bind fun ars ρ1 => match itemsOf k ars ρ1 with
    | some x => if ownSh x.ρ own then match lcLoop own tg tt te x.ds [] (wipeE x.ρ own) with
      | .ok ds ρ3 => .ok (.lst ds, .fr) (unlock x.lk (putBack x.ρ own ρ3))
      | _ => .no
      else .no
    | none => .no
/-- a.get(k, z) -/
def dgetD (a k z : D) : Option D :=
  match a with
  | .dct kvs => match keyD k with
    | some kk => if kvs.all fun e => (keyD e.1).isSome then some (((kvs.find? fun e => decide (keyD e.1 = some kk)).map (·.2)).getD z) else none
    | none => none
  | _ => none
def isDc : Option D → Bool | some (.dct _) => true | _ => false
def dgetF (f g h : Env → R Ar) : Env → R (D × Vm) := fun ρ => (f ρ).bind fun x ρ1 => if isDc (x.get ρ1) then (g ρ1).bind fun y ρ2 => (h ρ2).bind fun z ρ3 => match x.get ρ3, y.get ρ3, valsOf [z] with
    | some a, some k, some [d] => ofRes ((dgetD a k d).map fun r => (r, .sh)) ρ3
    | _, _, _ => .no
  else .no
/-- an exception of a class that keeps nothing -/
def mkF (c : Nat) (f : Env → R Ar) : Env → R (D × Vm) := fun ρ => (f ρ).bind fun _ ρ1 => .ok (.exc c [], .sh) ρ1
/-- .. that keeps a value -/
def mkxF (c : Nat) (n : Str) (f : Env → R Ar) : Env → R (D × Vm) := fun ρ => (f ρ).bind fun x ρ1 => match valsOf [x] with | some [d] => .ok (.exc c [(n, d)], .sh) ρ1 | _ => .no
def fldD (cs : List Nat) (n : Str) : D → Res
  | .exc c fs => if cs.contains c then (fs.lookup n).map fun d => (d, .sh) else none
  | _ => none
def isxD (tab : List Nat) : D → Res
  | .exc c _ => shv (.bl (tab.contains c))
  | _ => none
def strsD : List D → Option (List Str)
  | [] => some []
  | .str x :: r => (strsD r).map (x :: ·)
  | _ => none
def joinD (z : Str) : D → Res
  | .lst ds => (strsD ds).bind fun ys => if decide ((ys.map (·.length)).sum + ys.length * z.length ≤ 16777216) then shv (.str (Txt.join z ys)) else none
  | _ => none
def yesF : Env → R (D × Vm) := fun ρ => .ok (.bl true, .sh) ρ

section
variable (gcs : List D) (cl : Nat → List Sl → CR)
mutual
def evE (t : Bool) : E → Env → R (D × Vm)
  | .int i, ρ => fin t (.ok (.int i, .sh) ρ)
  | .str x, ρ => fin t (.ok (.str x, .sh) ρ)
  | .bl b, ρ => fin t (.ok (.bl b, .sh) ρ)
  | .non, ρ => fin t (.ok (.non, .sh) ρ)
  | .bty x, ρ => fin t (.ok (.ty x, .sh) ρ)
  | .gc g, ρ => fin t (match gcs[g]? with | some d => .ok (d, .sh) ρ | none => .no)
  | .var i, ρ => match t with
    | false => readVar ρ i
    | true => varT i ρ
  | .mov i, ρ => fin t (moveVar ρ i)
  | .tup as, ρ => fin t (tupF (evAs as) ρ)
  | .lst as, ρ => fin t (lstF (evAs as) ρ)
  | .dct as, ρ => fin t (dctF (evAs as) ρ)
  | .odc k v, ρ => fin t (twoF odcR (evA k) (evA v) ρ)
  | .op2 o a b, ρ => fin t (twoF (sem2 o) (evA a) (evA b) ρ)
  | .ch o1 o2 a b c, ρ => fin t (chainF (evA a) (evA b) (evA c) (sem2 o1) (sem2 o2) ρ)
  | .neg a, ρ => fin t (oneF negD (evA a) ρ)
  | .not x, ρ => match t with
    | true => notF (evE true x) ρ
    | false => notF (fun ρ => fin true (evE false x ρ)) ρ
  | .and as, ρ => evAnd t as ρ
  | .or as, ρ => evOr t as ρ
  | .ife c a b, ρ => ifF (evE true c) (evE t a) (evE t b) ρ
  | .sub a b, ρ => fin t (twoF ixR (evA a) (evA b) ρ)
  | .sl a lo hi, ρ => fin t (slF (evA a) (evAs lo) (evAs hi) ρ)
  | .bi b as, ρ => fin t (biF b (evAs as) ρ)
  | .call f as ds, ρ => fin t (callG cl f ds (evAs as) ρ)
  | .mth m i as, ρ => fin t (mthF m i (evAs as) ρ)
  | .pm m a as, ρ => fin t (pmF m (evA a) (evAs as) ρ)
  | .lc own tg k as ifs elt, ρ => fin t (lcF (own.map (·.2)) tg k (evAs as) (evIfs ifs) (evE false elt) ρ)
  | .dget a k d, ρ => fin t (dgetF (evA a) (evA k) (evA d) ρ)
  | .mk c a, ρ => fin t (mkF c (evA a) ρ)
  | .mkx c n a, ρ => fin t (mkxF c n (evA a) ρ)
  | .fld cs n a, ρ => fin t (oneF (fldD cs n) (evA a) ρ)
  | .isx _ tab a, ρ => fin t (oneF (isxD tab) (evA a) ρ)
  | .join z a, ρ => fin t (oneF (joinD z) (evA a) ρ)
  | .dead, _ => .no
def evA : A → Env → R Ar
  | .e x, ρ => argF (evE false x) ρ
  | .s i, ρ => slotF i ρ
  | .io i, ρ => ioF i ρ
def evAs : As → Env → R (List Ar)
  | .nil, ρ => .ok [] ρ
  | .cons a r, ρ => consF (evA a) (evAs r) ρ
def evAnd (t : Bool) : As → Env → R (D × Vm)
  | .nil, ρ => .no
  | .cons (.e x) .nil, ρ => evE t x ρ
  | .cons (.e x) (.cons b r), ρ => andF (evE t x) (evAnd t (.cons b r)) ρ
  | _, _ => .no
def evOr (t : Bool) : As → Env → R (D × Vm)
  | .nil, ρ => .no
  | .cons (.e x) .nil, ρ => evE t x ρ
  | .cons (.e x) (.cons b r), ρ => orF (evE t x) (evOr t (.cons b r)) ρ
  | _, _ => .no
def evIfs : As → Env → R (D × Vm)
  | .nil, ρ => yesF ρ
  | .cons (.e x) .nil, ρ => evE true x ρ
  | _, _ => .no
end
/-- a loop's turns -/
def forLoop (tg : Tg) (body : Env → SR) : List D → Env → SR
  | [], ρ => .nx ρ
  | d :: r, ρ => match assignT ρ d tg with
    | none => .no
    | some ρ1 => match body ρ1 with
      | .nx ρ2 => forLoop tg body r ρ2
      | .ct ρ2 => forLoop tg body r ρ2
      | .bk ρ2 => .nx ρ2
      | x => x
def whileLoop (test : Env → R (D × Vm)) (body : Env → SR) : Nat → Env → SR
  | 0, _ => .no
  | n + 1, ρ => (test ρ).thenS fun v ρ1 => match v.1 with
    | .bl false => .nx ρ1
    | .bl true => match body ρ1 with
      | .nx ρ2 => whileLoop test body n ρ2
      | .ct ρ2 => whileLoop test body n ρ2
      | .bk ρ2 => .nx ρ2
      | x => x
    | _ => .no
def SR.onEnv (f : Env → Env) : SR → SR
  | .nx ρ => .nx (f ρ)
  | .rt d m ρ => .rt d m (f ρ)
  | .bk ρ => .bk (f ρ)
  | .ct ρ => .ct (f ρ)
  | .ex e ρ => .ex e (f ρ)
  | .no => .no
def subF (o : Nat) (d : D) (f : Env → R (D × Vm)) : Env → R Unit := fun ρ => if (gS ρ o).isSome then (f ρ).bind fun k ρ2 => match gS ρ2 o with
  | some s => match s.m with
    | .ow => match setSub s.d k.1 d with | some d' => .ok () (ρ2.set o (some ⟨.ow, d'⟩)) | none => .no
    | .io => match setSub s.d k.1 d with | some d' => .ok () (ρ2.set o (some ⟨.io, d'⟩)) | none => .no
    | _ => .no
  | none => .no
  else .no
def nmF (i : Nat) (d : D) : Env → R Unit := fun ρ => match setS ρ i ⟨.sh, d⟩ with | some ρ' => .ok () ρ' | none => .no
/-- (x := e) o b -/
def walF (i : Nat) (f : Env → R (D × Vm)) (s : D → D → Res) (g : Env → R (D × Vm)) : Env → R (D × Vm) := fun ρ => (f ρ).bind fun v ρ1 => match setS ρ1 i (mkSl v.1 v.2) with
  | some ρ2 => (g ρ2).bind fun y ρ3 => match gS ρ3 i with | some x => ofRes (s x.d y.1) ρ3 | none => .no
  | none => .no
def setFs (i : Nat) (f : Env → R (D × Vm)) : Env → SR := fun ρ => (f ρ).thenS fun v ρ1 => match setS ρ1 i (mkSl v.1 v.2) with | some ρ2 => .nx ρ2 | none => .no
def parFs (i j : Nat) (f g : Env → R (D × Vm)) : Env → SR := fun ρ => (f ρ).thenS fun x ρ1 => (g ρ1).thenS fun y ρ2 => match (setS ρ2 i (mkSl x.1 x.2)).bind fun ρ3 => setS ρ3 j (mkSl y.1 y.2) with | some ρ4 => .nx ρ4 | none => .no
def unpF (n : Nat) (g : List D → Env → R Unit) : D → Env → R Unit := fun d ρ => match d with | .tup ds => (if ds.length = n then g ds ρ else .no) | _ => .no
def subFs (f : Env → R (D × Vm)) (g : D → Env → R Unit) : Env → SR := fun ρ => (f ρ).thenS fun v ρ1 => (g v.1 ρ1).thenS fun _ ρ2 => .nx ρ2
def dropFs (f : Env → R (D × Vm)) : Env → SR := fun ρ => (f ρ).thenS fun _ ρ1 => .nx ρ1
def ifFs (t : Env → R (D × Vm)) (f g : Env → SR) : Env → SR := fun ρ => (t ρ).thenS fun v ρ1 => match v.1 with | .bl k => (if k then f ρ1 else g ρ1) | _ => .no
def forFs (tg : Tg) (k : Ik) (g : Env → R (List Ar)) (body : Env → SR) : Env → SR := fun ρ => (g ρ).thenS fun ars ρ1 => match itemsOf k ars ρ1 with
  | some x => (forLoop tg body x.ds x.ρ).onEnv (unlock x.lk)
  | none => .no
def retFs (f : Env → R (D × Vm)) : Env → SR := fun ρ => (f ρ).thenS fun v ρ1 => .rt v.1 v.2 ρ1
def raiseFs (c : Nat) (g : Env → R (List Ar)) : Env → SR := fun ρ => (g ρ).thenS fun ars ρ1 => if okLen ars.length then .ex ⟨c, []⟩ ρ1 else .no
def raisexFs (c : Nat) (f : Env → R Ar) : Env → SR := fun ρ => (f ρ).thenS fun _ ρ1 => .ex ⟨c, []⟩ ρ1
/-- a suite lets nothing out -/
def SR.calm : SR → SR
  | .ex _ _ => .no
  | r => r
def tryFs (body : Env → SR) (hs : Exn → Env → SR) : Env → SR := fun ρ => match body ρ with
  | .ex e ρ1 => hs e ρ1
  | r => r
def hdFs (isa : Nat → Nat → Bool) (c : Nat) (suite : Env → SR) (r : Exn → Env → SR) : Exn → Env → SR := fun e ρ => if isa e.c c then (suite ρ).calm else r e ρ
/-- a last clause of three classes -/
def htFs (isa : Nat → Nat → Bool) (c1 c2 c3 : Nat) (suite : Env → SR) : Exn → Env → SR := fun e ρ => if isa e.c c1 || isa e.c c2 || isa e.c c3 then (suite ρ).calm else .no
def seqFs (f g : Env → SR) : Env → SR := fun ρ => (f ρ).seq g
def putT : Tt → D → Env → R Unit
  | .nm i, d => nmF i d
  | .sub o i, d => subF o d (evE gcs cl false i)
def putTs : List Tt → List D → Env → R Unit
  | [], [], ρ => .ok () ρ
  | t :: ts, d :: ds, ρ => (putT gcs cl t d ρ).bind fun _ ρ1 => putTs ts ds ρ1
  | _, _, _ => .no
mutual
def exS (isa : Nat → Nat → Bool) : S → Env → SR
  | .set i e, ρ => setFs i (evE gcs cl false e) ρ
  | .tgt ts e, ρ => subFs (evE gcs cl false e) (unpF ts.length (putTs gcs cl ts)) ρ
  | .par i j a b, ρ => parFs i j (evE gcs cl false a) (evE gcs cl false b) ρ
  | .sub o i e, ρ => subFs (evE gcs cl false e) (putT gcs cl (.sub o i)) ρ
  | .ex e, ρ => dropFs (evE gcs cl false e) ρ
  | .ifs t a b, ρ => ifFs (evE gcs cl true t) (exSs isa a) (exSs isa b) ρ
  | .for_ tg k as body, ρ => forFs tg k (evAs gcs cl as) (exSs isa body) ρ
  | .whl n t body, ρ => whileLoop (evE gcs cl true t) (exSs isa body) n ρ
  | .whw n i e o b body, ρ => whileLoop (walF i (evE gcs cl false e) (sem2 o) (evE gcs cl false b)) (exSs isa body) n ρ
  | .ret e, ρ => retFs (evE gcs cl false e) ρ
  | .retN, ρ => .rt .non .sh ρ
  | .raise c as, ρ => raiseFs c (evAs gcs cl as) ρ
  | .raisex c a, ρ => raisexFs c (evA gcs cl a) ρ
  | .try_ body hs, ρ => tryFs (exSs isa body) (exHs isa hs) ρ
  | .pass, ρ => .nx ρ
  | .brk, ρ => .bk ρ
  | .ctn, ρ => .ct ρ
  | .doc, ρ => .nx ρ
  | .dead, _ => .no
def exSs (isa : Nat → Nat → Bool) : Ss → Env → SR
  | .nil, ρ => .nx ρ
  | .cons s r, ρ => seqFs (exS isa s) (exSs isa r) ρ
def exHs (isa : Nat → Nat → Bool) : Hs → Exn → Env → SR
  | .nil, e, ρ => .ex e ρ
  | .cons c s r, e, ρ => hdFs isa c (exSs isa s) (exHs isa r) e ρ
  | .tup c1 c2 c3 s, e, ρ => htFs isa c1 c2 c3 (exSs isa s) e ρ
end
end
/-- a def of the text -/
structure Fd where
  np : Nat
  nv : Nat
  body : Ss
def outsOf : List Sl → Env → Env
  | [], _ => []
  | _ :: r, [] => none :: outsOf r []
  | s :: r, o :: os => (match s.m with | .io => o | .bo => o | _ => none) :: outsOf r os
def asCall (args : List Sl) : SR → CR
  | .nx ρ => .ok .non .sh (outsOf args ρ)
  | .rt d m ρ => .ok d m (outsOf args ρ)
  | .ex e ρ => .ex e (outsOf args ρ)
  | _ => .no
structure Prog where
  gcs : List D
  isa : Nat → Nat → Bool
  fns : List Fd
/-- calls n deep -/
def run (P : Prog) : Nat → Nat → List Sl → CR
  | 0, _, _ => .no
  | n + 1, f, args => match P.fns[f]? with
    | some fd => if args.length = fd.np then asCall args (exSs P.gcs (run P n) P.isa fd.body (args.map some ++ List.replicate (fd.nv - fd.np) none)) else .no
    | none => .no
end DI

set_option Elab.async false
set_option linter.all false
set_option maxRecDepth 100000
set_option maxHeartbeats 4000000
namespace DI
open PySem L2

/-! ## States: growing, freezing, storing -/
section
variable {K : PySem.W.Frag} {G : Gx} {ρ : Env} {F : FS} {σ : Sg} {H H' : Hp}
theorem gS_some {i : Nat} {s : Sl} (h : gS ρ i = some s) : ρ[i]? = some (some s) := by
  unfold gS at h
  split at h
  · rename_i q; rw [q, h]
  · cases h
theorem gS_of {i : Nat} {s : Sl} (h : ρ[i]? = some (some s)) : gS ρ i = some s := by unfold gS; rw [h]
theorem SlotOk.ext {F' : FS} (x : Ext F H F' H') {s : Sl} {v : V} (h : SlotOk K G F H s v) (nf : ∀ a, v = .ref a → s.m ≠ .sh → ¬ F' a) (k : ∀ a o, v = .ref a → s.m ≠ .sh → H a = some o → H' a = some o) : SlotOk K G F' H' s v := by
  obtain ⟨m, d⟩ := s
  cases m with
  | sh => exact Rep.ext x h
  | ow => obtain ⟨a, e, n, c⟩ := h; exact ⟨a, e, nf a e (by simp), c.ext' x fun o q => k a o e (by simp) q⟩
  | io => obtain ⟨a, e, n, c⟩ := h; exact ⟨a, e, nf a e (by simp), c.ext' x fun o q => k a o e (by simp) q⟩
  | bo => obtain ⟨a, e, n, c⟩ := h; exact ⟨a, e, nf a e (by simp), c.ext' x fun o q => k a o e (by simp) q⟩
/-- the heap grows -/
theorem StOk.grow (s : StOk K G ρ F σ H) (g : Grow H H') : StOk K G ρ F σ H' := by
  refine ⟨s.len, fun i sl h => ?_, s.sep, fun a f => ?_⟩
  · obtain ⟨v, h1, h2⟩ := s.val i sl h
    exact ⟨v, h1, h2.ext g.ext (fun a e n => s.notF ⟨i, sl, h, n, by rw [h1, e]⟩) fun a o _ _ q => g a o q⟩
  · obtain ⟨o, e⟩ := Option.ne_none_iff_exists'.mp (s.dom a f)
    rw [g a o e]; simp
theorem Stp.grow (g : Grow H H') : Stp ρ F σ H ρ F σ H' :=
  ⟨fun _ x => x, fun a o h _ _ => g a o h, fun a es _ _ h => .inl (g a _ h), fun _ x => .inl x, fun _ x => .inl x, fun _ x => .inl x, fun _ s h e => ⟨rfl, s, h, e.elim (fun z => .inr ⟨z, z⟩) .inl⟩⟩
theorem valOk_of {z : V} {d : D} {m : Vm} (s : StOk K G ρ F σ H) (g : Grow H H') (r : RV K G F H H' z d m) : ValOk K G ρ F σ H' z d m := by
  cases m with
  | sh => exact r
  | fr =>
    obtain ⟨p, e, np, c⟩ := r
    refine ⟨p, e, fun f => s.dom p f np, fun hd => ?_, c⟩
    obtain ⟨d', c'⟩ := s.heldCell hd
    obtain ⟨o, q, _⟩ := c'.there
    rw [np] at q; cases q
/-- what a value shows -/
theorem ValOk.lk {z : V} {d : D} {m : Vm} (r : ValOk K G ρ F σ H z d m) : Lk K G F H z d := by
  cases m with
  | sh => exact .inl r
  | fr => obtain ⟨a, e, _, _, c⟩ := r; exact .inr ⟨a, e, c⟩
theorem StOk.lk (s : StOk K G ρ F σ H) {i : Nat} {sl : Sl} (h : ρ[i]? = some (some sl)) : ∃ v, σ[i]? = some (some v) ∧ Lk K G F H v sl.d := by
  obtain ⟨v, h1, h2⟩ := s.val i sl h
  refine ⟨v, h1, ?_⟩
  obtain ⟨m, d⟩ := sl
  cases m with
  | sh => exact .inl h2
  | ow => obtain ⟨a, e, _, c⟩ := h2; exact .inr ⟨a, e, c⟩
  | io => obtain ⟨a, e, _, c⟩ := h2; exact .inr ⟨a, e, c⟩
  | bo => obtain ⟨a, e, _, c⟩ := h2; exact .inr ⟨a, e, c⟩
/-- a value stays while its state goes on -/
theorem ValOk.step {ρ' : Env} {F' : FS} {σ' : Sg} {z : V} {d : D} {m : Vm} (s : StOk K G ρ F σ H) (x : Stp ρ F σ H ρ' F' σ' H') (r : ValOk K G ρ F σ H z d m) : ValOk K G ρ' F' σ' H' z d m := by
  cases m with
  | sh => exact Rep.ext (x.ext s) r
  | fr =>
    obtain ⟨a, e, nf, nh, c⟩ := r
    obtain ⟨o, q, _⟩ := c.there
    refine ⟨a, e, fun f => ?_, fun h => ?_, c.ext' (x.ext s) fun o' q' => x.keep a o' q' (fun z => nh z.held) fun z => (nf z).elim⟩
    · rcases x.fnew a f with z | z | z
      · exact nf z
      · rw [q] at z; cases z
      · exact nh z.held
    · rcases x.hnew a h with z | z
      · exact nh z
      · rw [q] at z; cases z

/-- a new object is frozen -/
theorem StOk.freeze (s : StOk K G ρ F σ H) {a : Addr} {d : D} (nh : ¬ Held ρ σ a) (c : Cell K G F H a d) : StOk K G ρ (fun b => F b ∨ b = a) σ H ∧ Rep K G (fun b => F b ∨ b = a) H (.ref a) d := by
  have x : Ext F H (fun b => F b ∨ b = a) H := ⟨fun _ z => .inl z, fun _ _ _ z _ => z, fun _ _ _ z => .inl z, fun _ _ z => z, fun _ _ _ z => z⟩
  refine ⟨⟨s.len, fun i sl h => ?_, s.sep, fun b f => ?_⟩, .cell (.inr rfl) (c.ext' x fun o q => q)⟩
  · obtain ⟨v, h1, h2⟩ := s.val i sl h
    refine ⟨v, h1, h2.ext x (fun b e n f => ?_) fun b o _ _ q => q⟩
    have hb : Held ρ σ b := ⟨i, sl, h, n, by rw [h1, e]⟩
    rcases f with f | f
    · exact s.notF hb f
    · subst f; exact nh hb
  · rcases f with f | f
    · exact s.dom b f
    · subst f
      obtain ⟨o, q, _⟩ := c.there
      rw [q]; simp
/-- .. seen from a state ahead in which it was not there -/
theorem Stp.freeze {ρ₀ : Env} {F₀ : FS} {σ₀ : Sg} {H₀ : Hp} (x : Stp ρ₀ F₀ σ₀ H₀ ρ F σ H) {a : Addr} (n : H₀ a = none ∨ Own ρ₀ σ₀ a) : Stp ρ₀ F₀ σ₀ H₀ ρ (fun b => F b ∨ b = a) σ H :=
  ⟨fun b z => .inl (x.fr b z), x.keep, x.kd, fun b f => by
    rcases f with f | f
    · exact x.fnew b f
    · subst f; exact .inr n, x.hnew, x.onew, x.io⟩

/-! ### a slot is stored -/
theorem setS_spec {i : Nat} {s : Sl} {ρ' : Env} (h : setS ρ i s = some ρ') : ρ' = ρ.set i (some s) ∧ i < ρ.length ∧ ∀ t, ρ[i]? = some (some t) → t.m = .sh ∨ t.m = .ow := by
  unfold setS at h
  split at h
  · cases h
  · rename_i q
    refine ⟨(Option.some.inj h).symm, (List.getElem?_eq_some_iff.mp q).1, fun t e => by rw [q] at e; cases e⟩
  · rename_i t q
    have hl := (List.getElem?_eq_some_iff.mp q).1
    split at h
    · cases h
    · cases h
    · rename_i n1 n2
      refine ⟨(Option.some.inj h).symm, hl, fun t' e => ?_⟩
      rw [q] at e; cases e
      cases hm : t.m with
      | sh => exact .inl rfl
      | ow => exact .inr rfl
      | io => exact absurd hm n1
      | bo => exact absurd hm n2
theorem held_set {i : Nat} {s : Sl} {v : V} {a : Addr} (h : Held (ρ.set i (some s)) (σ.set i (some v)) a) : (s.m ≠ .sh ∧ v = .ref a) ∨ Held ρ σ a := by
  obtain ⟨j, t, h1, h2, h3⟩ := h
  by_cases e : i = j
  · subst e
    have hl : i < ρ.length := by have := (List.getElem?_eq_some_iff.mp h1).1; simpa using this
    have hs : i < σ.length := by have := (List.getElem?_eq_some_iff.mp h3).1; simpa using this
    rw [List.getElem?_set_self hl] at h1
    rw [List.getElem?_set_self hs] at h3
    cases h1; cases h3
    exact .inl ⟨h2, rfl⟩
  · rw [List.getElem?_set_ne e] at h1 h3
    exact .inr ⟨j, t, h1, h2, h3⟩
theorem own_set {i : Nat} {s : Sl} {v : V} {a : Addr} (h : Own (ρ.set i (some s)) (σ.set i (some v)) a) : ((s.m = .ow ∨ s.m = .io) ∧ v = .ref a) ∨ Own ρ σ a := by
  obtain ⟨j, t, h1, h2, h3⟩ := h
  by_cases e : i = j
  · subst e
    have hl : i < ρ.length := by have := (List.getElem?_eq_some_iff.mp h1).1; simpa using this
    have hs : i < σ.length := by have := (List.getElem?_eq_some_iff.mp h3).1; simpa using this
    rw [List.getElem?_set_self hl] at h1
    rw [List.getElem?_set_self hs] at h3
    cases h1; cases h3
    exact .inl ⟨h2, rfl⟩
  · rw [List.getElem?_set_ne e] at h1 h3
    exact .inr ⟨j, t, h1, h2, h3⟩
/-- name = value -/
theorem StOk.put {i : Nat} {v : V} {d : D} {m : Vm} {ρ' : Env} (s : StOk K G ρ F σ H) (r : ValOk K G ρ F σ H v d m) (h : setS ρ i (mkSl d m) = some ρ') : StOk K G ρ' F (σ.set i (some v)) H := by
  obtain ⟨rfl, hl, _⟩ := setS_spec h
  have hs : i < σ.length := by rw [← s.len]; exact hl
  refine ⟨by simp [s.len], fun j t h1 => ?_, fun j k t u a ne h1 h2 m1 m2 h3 h4 => ?_, s.dom⟩
  · by_cases e : i = j
    · subst e
      rw [List.getElem?_set_self hl] at h1
      cases h1
      refine ⟨v, List.getElem?_set_self hs, ?_⟩
      cases m with
      | sh => exact r
      | fr => obtain ⟨a, e, nf, _, c⟩ := r; exact ⟨a, e, nf, c⟩
    · rw [List.getElem?_set_ne e] at h1
      obtain ⟨v', h2, h3⟩ := s.val j t h1
      exact ⟨v', by rw [List.getElem?_set_ne e]; exact h2, h3⟩
  · have key : ∀ (p q : Nat) (tp tq : Sl), p ≠ q → i = p → (ρ.set i (some (mkSl d m)))[p]? = some (some tp) → (ρ.set i (some (mkSl d m)))[q]? = some (some tq) → tp.m ≠ .sh → tq.m ≠ .sh → (σ.set i (some v))[p]? = some (some (.ref a)) → (σ.set i (some v))[q]? ≠ some (some (.ref a)) := by
      intro p q tp tq npq e g1 g2 n1 n2 g3 g4
      subst e
      rw [List.getElem?_set_self hl] at g1
      rw [List.getElem?_set_self hs] at g3
      rw [List.getElem?_set_ne npq] at g2 g4
      cases g1; cases g3
      cases m with
      | sh => exact n1 rfl
      | fr => obtain ⟨b, e, _, nh, _⟩ := r; cases e; exact nh ⟨q, tq, g2, n2, g4⟩
    by_cases e1 : i = j
    · exact key j k t u ne e1 h1 h2 m1 m2 h3 h4
    · by_cases e2 : i = k
      · exact key k j u t (Ne.symm ne) e2 h2 h1 m2 m1 h4 h3
      · rw [List.getElem?_set_ne e1] at h1 h3
        rw [List.getElem?_set_ne e2] at h2 h4
        exact s.sep j k t u a ne h1 h2 m1 m2 h3 h4
theorem Stp.put {ρ₀ : Env} {F₀ : FS} {σ₀ : Sg} {H₀ : Hp} {i : Nat} {v : V} {d : D} {m : Vm} {ρ' : Env} (x : Stp ρ₀ F₀ σ₀ H₀ ρ F σ H) (n : m = .fr → ∀ a, v = .ref a → H₀ a = none ∨ Own ρ₀ σ₀ a) (h : setS ρ i (mkSl d m) = some ρ') :
    Stp ρ₀ F₀ σ₀ H₀ ρ' F (σ.set i (some v)) H := by
  obtain ⟨rfl, hl, hm⟩ := setS_spec h
  refine ⟨x.fr, x.keep, x.kd, x.fnew, fun a z => ?_, fun a z => ?_, fun j s h1 e => ?_⟩
  · rcases held_set z with ⟨z1, z2⟩ | z
    · cases m with
      | sh => exact absurd rfl z1
      | fr => rcases n rfl a z2 with y | y
              · exact .inr y
              · exact .inl y.held
    · exact x.hnew a z
  · rcases own_set z with ⟨z1, z2⟩ | z
    · cases m with
      | sh => rcases z1 with z1 | z1 <;> cases z1
      | fr => rcases n rfl a z2 with y | y
              · exact .inr y
              · exact .inl y
    · exact x.onew a z
  · obtain ⟨e1, s', h2, m2⟩ := x.io j s h1 e
    have ne : i ≠ j := fun q => by
      subst q
      rcases hm s' h2 with z | z <;> rcases m2 with m2 | ⟨_, m2⟩ <;> rw [m2] at z <;> cases z
    exact ⟨by rw [List.getElem?_set_ne ne]; exact e1, s', by rw [List.getElem?_set_ne ne]; exact h2, m2⟩
/-- the slot of a name is read for good: what it owned is frozen -/
theorem readVar_ok {i : Nat} {d : D} {m : Vm} {ρ' : Env} (s : StOk K G ρ F σ H) (h : readVar ρ i = .ok (d, m) ρ') :
    ∃ v F', σ[i]? = some (some v) ∧ m = .sh ∧ Stp ρ F σ H ρ' F' σ H ∧ StOk K G ρ' F' σ H ∧ Rep K G F' H v d := by
  unfold readVar at h
  split at h
  · rename_i d' q
    cases h
    obtain ⟨v, h1, h2⟩ := s.val i _ (gS_some q)
    exact ⟨v, F, h1, rfl, .refl, s, h2⟩
  · rename_i d' q
    cases h
    have q' := gS_some q
    obtain ⟨v, h1, a, e, nf, c⟩ := s.val i _ q'
    subst e
    have hl := (List.getElem?_eq_some_iff.mp q').1
    have hid : σ.set i (some (.ref a)) = σ := by
      apply List.ext_getElem?
      intro j
      by_cases e : i = j
      · subst e
        have hs : i < σ.length := by rw [← s.len]; exact hl
        rw [List.getElem?_set_self hs, h1]
      · rw [List.getElem?_set_ne e]
    -- first the slot lets go, then the object is frozen
    have ho : Own ρ σ a := ⟨i, _, q', .inl rfl, h1⟩
    have nh : ¬ Held (ρ.set i none) σ a := fun ⟨j, t, g1, g2, g3⟩ => by
      by_cases e : i = j
      · subst e; rw [List.getElem?_set_self hl] at g1; cases g1
      · rw [List.getElem?_set_ne e] at g1
        exact s.sep i j _ t a e q' g1 (by simp) g2 h1 g3
    have s0 : StOk K G (ρ.set i none) F σ H := by
      refine ⟨by simp [s.len], fun j t g => ?_, fun j k t u b ne g1 g2 m1 m2 g3 g4 => ?_, s.dom⟩
      · by_cases e : i = j
        · subst e; rw [List.getElem?_set_self hl] at g; cases g
        · rw [List.getElem?_set_ne e] at g; exact s.val j t g
      · have n1 : i ≠ j := fun e => by subst e; rw [List.getElem?_set_self hl] at g1; cases g1
        have n2 : i ≠ k := fun e => by subst e; rw [List.getElem?_set_self hl] at g2; cases g2
        rw [List.getElem?_set_ne n1] at g1
        rw [List.getElem?_set_ne n2] at g2
        exact s.sep j k t u b ne g1 g2 m1 m2 g3 g4
    obtain ⟨s1, r1⟩ := s0.freeze nh c
    have s2 := s1.put (i := i) (m := .sh) (v := .ref a) (d := d) r1 (ρ' := (ρ.set i none).set i (some ⟨.sh, d⟩)) (by unfold setS; rw [List.getElem?_set_self hl]; rfl)
    rw [List.set_set, hid] at s2
    refine ⟨_, _, h1, rfl, ?_, s2, r1⟩
    refine ⟨fun _ z => .inl z, fun _ _ z _ _ => z, fun _ _ _ _ z => .inl z, fun b f => ?_, fun b z => ?_, fun b z => ?_, fun j t g e => ?_⟩
    · rcases f with f | f
      · exact .inl f
      · subst f; exact .inr (.inr ho)
    · refine .inl ?_
      have z' : Held (ρ.set i (some ⟨.sh, d⟩)) (σ.set i (some (.ref a))) b := by rw [hid]; exact z
      rcases held_set z' with ⟨y, _⟩ | y
      · exact absurd rfl y
      · exact y
    · refine .inl ?_
      have z' : Own (ρ.set i (some ⟨.sh, d⟩)) (σ.set i (some (.ref a))) b := by rw [hid]; exact z
      rcases own_set z' with ⟨y, _⟩ | y
      · rcases y with y | y <;> cases y
      · exact y
    · have ne : i ≠ j := fun q2 => by subst q2; rw [q'] at g; cases g; rcases e with e | e <;> cases e
      exact ⟨rfl, t, by rw [List.getElem?_set_ne ne]; exact g, e.elim (fun z => .inr ⟨z, z⟩) .inl⟩
  · cases h
theorem moveVar_ok {i : Nat} {d : D} {m : Vm} {ρ' : Env} (s : StOk K G ρ F σ H) (h : moveVar ρ i = .ok (d, m) ρ') :
    ∃ v, σ[i]? = some (some v) ∧ Stp ρ F σ H ρ' F σ H ∧ StOk K G ρ' F σ H ∧ ValOk K G ρ' F σ H v d m ∧ (m = .fr → ∀ a, v = .ref a → Own ρ σ a) := by
  unfold moveVar at h
  split at h
  · rename_i d' q
    cases h
    obtain ⟨v, h1, h2⟩ := s.val i _ (gS_some q)
    exact ⟨v, h1, .refl, s, h2, fun e => nomatch e⟩
  · rename_i d' q
    cases h
    have q' := gS_some q
    obtain ⟨v, h1, a, e, nf, c⟩ := s.val i _ q'
    subst e
    have hl := (List.getElem?_eq_some_iff.mp q').1
    have ho : Own ρ σ a := ⟨i, _, q', .inl rfl, h1⟩
    have nh : ¬ Held (ρ.set i none) σ a := fun ⟨j, t, g1, g2, g3⟩ => by
      by_cases e : i = j
      · subst e; rw [List.getElem?_set_self hl] at g1; cases g1
      · rw [List.getElem?_set_ne e] at g1
        exact s.sep i j _ t a e q' g1 (by simp) g2 h1 g3
    have sub : ∀ (j : Nat) (t : Sl), (ρ.set i none)[j]? = some (some t) → i ≠ j ∧ ρ[j]? = some (some t) := fun j t g => by
      by_cases e : i = j
      · subst e; rw [List.getElem?_set_self hl] at g; cases g
      · rw [List.getElem?_set_ne e] at g; exact ⟨e, g⟩
    refine ⟨_, h1, ⟨fun _ z => z, fun _ _ z _ _ => z, fun _ _ _ _ z => .inl z, fun _ f => .inl f, fun b ⟨j, t, g1, g2, g3⟩ => .inl ⟨j, t, (sub j t g1).2, g2, g3⟩, fun b ⟨j, t, g1, g2, g3⟩ => .inl ⟨j, t, (sub j t g1).2, g2, g3⟩, fun j t g e => ?_⟩,
      ⟨by simp [s.len], fun j t g => s.val j t (sub j t g).2, fun j k t u b ne g1 g2 => s.sep j k t u b ne (sub j t g1).2 (sub k u g2).2, s.dom⟩, ⟨a, rfl, nf, nh, c⟩, fun _ b e => by cases e; exact ho⟩
    have ne : i ≠ j := fun q2 => by subst q2; rw [q'] at g; cases g; rcases e with e | e <;> cases e
    exact ⟨rfl, t, by rw [List.getElem?_set_ne ne]; exact g, e.elim (fun z => .inr ⟨z, z⟩) .inl⟩
  · cases h
end
end DI

set_option Elab.async false
set_option linter.all false
set_option maxRecDepth 100000
set_option maxHeartbeats 4000000
namespace DI
open PySem L2

/-! ## What is wanted of a run -/
theorem peImp {X : Cx} {e : Expr} {t t' : TE} (h : PE X e t) (i : ∀ σ H Q, t' σ H Q → t σ H Q) : PE X e t' := ⟨fun pins s σ H Q I q => h.run pins s σ H Q I (i σ H Q q)⟩
theorem ptImp {X : Cx} {e : Expr} {t t' : TT} (h : PT X e t) (i : ∀ σ H Q, t' σ H Q → t σ H Q) : PT X e t' := ⟨fun pins s σ H Q I q => h.run pins s σ H Q I (i σ H Q q)⟩
theorem pwImp {X : Cx} {e : Expr} {t t' : TT} (h : PW X e t) (i : ∀ σ H Q, t' σ H Q → t σ H Q) : PW X e t' := ⟨fun wh pins s σ H Q I q => h.run wh pins s σ H Q I (i σ H Q q)⟩
theorem paImp {X : Cx} {e : List Expr} {t t' : TA} (h : PA X e t) (i : ∀ σ H Q, t' σ H Q → t σ H Q) : PA X e t' := ⟨fun pos pins s σ H Q I q => h.run pos pins s σ H Q I (i σ H Q q)⟩
theorem psImp {X : Cx} {e : Stmt} {t t' : TS} (h : PS X e t) (i : ∀ D σ H, t' D σ H → t D σ H) : PS X e t' := ⟨fun pins s σ H D I q => h.run pins s σ H D I (i D σ H q)⟩
theorem pssImp {X : Cx} {e : List Stmt} {t t' : TS} (h : PSs X e t) (i : ∀ D σ H, t' D σ H → t D σ H) : PSs X e t' := ⟨fun pins s σ H D I q => h.run pins s σ H D I (i D σ H q)⟩

section
variable (K : PySem.W.Frag) (G : Gx)
def PostG {α : Type} (W : WX) (ρ : Env) (F : FS) (σ : Sg) (H : Hp) (r : R α) (C : α → Env → FS → Hp → Prop) : Prop :=
  match r with
  | .ok a ρ' => ∀ F' H', Stp ρ F σ H ρ' F' σ H' → StOk K G ρ' F' σ H' → C a ρ' F' H'
  | .ex e ρ' => PostX K G W ρ F σ H e ρ'
  | .no => False
def CV (ρ : Env) (σ : Sg) (H : Hp) (Q : VK) : D × Vm → Env → FS → Hp → Prop := fun a ρ' F' H' =>
  ∀ v, ValOk K G ρ' F' σ H' v a.1 a.2 → (a.2 = .fr → ∀ b, v = .ref b → Fresh ρ σ H b) → Q v H'
def PostV (W : WX) (ρ : Env) (F : FS) (σ : Sg) (H : Hp) (r : R (D × Vm)) (Q : VK) : Prop := PostG K G W ρ F σ H r (CV K G ρ σ H Q)
def tV (W : WX) (f : Env → R (D × Vm)) : TE := fun σ H Q => ∃ ρ F, StOk K G ρ F σ H ∧ PostV K G W ρ F σ H (f ρ) Q
def CT (Q : Bool → Hp → Prop) : D × Vm → Env → FS → Hp → Prop := fun a ρ' F' H' => match a.1 with | .bl k => Q k H' | _ => False
def tTs (W : WX) (f : Env → R (D × Vm)) : TT := fun σ H Q => ∃ ρ F, StOk K G ρ F σ H ∧ PostG K G W ρ F σ H (f ρ) (CT Q)
def ArOk (ρ : Env) (F : FS) (σ : Sg) (H : Hp) (v : V) : Ar → Prop
  | .val d m => ValOk K G ρ F σ H v d m
  | .slot i => σ[i]? = some (some v)
  | .io i => σ[i]? = some (some v)
def ArFr (ρ : Env) (σ : Sg) (H : Hp) (v : V) : Ar → Prop
  | .val d .fr => ∀ b, v = .ref b → Fresh ρ σ H b
  | _ => True
def CA (ρ : Env) (σ : Sg) (H : Hp) (Q : VK) : Ar → Env → FS → Hp → Prop := fun a ρ' F' H' =>
  ∀ v, ArOk K G ρ' F' σ H' v a → ArFr ρ σ H v a → Q v H'
def tA (W : WX) (f : Env → R Ar) : TE := fun σ H Q => ∃ ρ F, StOk K G ρ F σ H ∧ PostG K G W ρ F σ H (f ρ) (CA K G ρ σ H Q)
def CAs (ρ : Env) (σ : Sg) (H : Hp) (Q : List V → Hp → Prop) : List Ar → Env → FS → Hp → Prop := fun a ρ' F' H' =>
  ∀ vs, Paired (ArOk K G ρ' F' σ H') vs a → Paired (ArFr ρ σ H) vs a → Q vs H'
def tAs (W : WX) (f : Env → R (List Ar)) : TA := fun σ H Q => ∃ ρ F, StOk K G ρ F σ H ∧ PostG K G W ρ F σ H (f ρ) (CAs K G ρ σ H Q)
end
section
variable (G : Gx) (X : Cx)
def EOk (e : Expr) (f : Env → R (D × Vm)) : Prop := ∀ W, Takes X W → PE X e (tV X.K G W f)
def TOk (e : Expr) (f : Env → R (D × Vm)) : Prop := ∀ W, Takes X W → PT X e (tTs X.K G W f)
def AOk (e : Expr) (f : Env → R Ar) : Prop := ∀ W, Takes X W → PE X e (tA X.K G W f)
def AsOk (es : List Expr) (f : Env → R (List Ar)) : Prop := ∀ W, Takes X W → PA X es (tAs X.K G W f)
end
section
variable {K : PySem.W.Frag} {G : Gx} {W : WX} {ρ ρ' : Env} {F F' : FS} {σ : Sg} {H H' : Hp}
theorem PostG.mono {α : Type} {r : R α} {C C' : α → Env → FS → Hp → Prop} (p : PostG K G W ρ F σ H r C) (h : ∀ a ρ' F' H', Stp ρ F σ H ρ' F' σ H' → StOk K G ρ' F' σ H' → C a ρ' F' H' → C' a ρ' F' H') : PostG K G W ρ F σ H r C' := by
  cases r with
  | ok a ρ2 => exact fun F' H' x s => h a ρ2 F' H' x s (p F' H' x s)
  | ex e ρ2 => exact p
  | no => exact p
theorem PostG.step {α : Type} {r : R α} {C : α → Env → FS → Hp → Prop} (x : Stp ρ F σ H ρ' F' σ H') (p : PostG K G W ρ F σ H r C) : PostG K G W ρ' F' σ H' r C := by
  cases r with
  | ok a ρ2 => exact fun F2 H2 y s => p F2 H2 (x.trans y) s
  | ex e ρ2 => exact PostX.step x p
  | no => exact p
theorem PostG.bind {α β : Type} {r : R α} {k : α → Env → R β} {C : β → Env → FS → Hp → Prop} (p : PostG K G W ρ F σ H (r.bind k) C) :
    PostG K G W ρ F σ H r (fun a ρ1 F1 H1 => Stp ρ F σ H ρ1 F1 σ H1 ∧ StOk K G ρ1 F1 σ H1 ∧ PostG K G W ρ1 F1 σ H1 (k a ρ1) C ∧ PostG K G W ρ F σ H (k a ρ1) C) := by
  cases r with
  | ok a ρ2 => exact fun F2 H2 y s => ⟨y, s, p.step y, p⟩
  | ex e ρ2 => exact p
  | no => exact p
theorem PostV.from {r : R (D × Vm)} {Q : VK} (x : Stp ρ F σ H ρ' F' σ H') (p : PostG K G W ρ' F' σ H' r (CV K G ρ σ H Q)) : PostV K G W ρ' F' σ H' r Q :=
  p.mono fun a ρ2 F2 H2 y s c v ok fr => c v ok fun e b eb => x.fresh (fr e b eb)
theorem PostV.bind {α : Type} {r : R α} {k : α → Env → R (D × Vm)} {Q : VK} (p : PostV K G W ρ F σ H (r.bind k) Q) :
    PostG K G W ρ F σ H r (fun a ρ1 F1 H1 => Stp ρ F σ H ρ1 F1 σ H1 ∧ StOk K G ρ1 F1 σ H1 ∧ PostV K G W ρ1 F1 σ H1 (k a ρ1) Q ∧ PostV K G W ρ F σ H (k a ρ1) Q) :=
  (PostG.bind p).mono fun a ρ1 F1 H1 _ _ ⟨x, s, q, q0⟩ => ⟨x, s, .from x q, q0⟩
/-- an operation's result -/
theorem PostV.res {r : Res} {Q : VK} {d : D} {m : Vm} (s : StOk K G ρ F σ H) (p : PostV K G W ρ F σ H (ofRes r ρ) Q) (e : r = some (d, m)) : ∀ z H', Grow H H' → RV K G F H H' z d m → Q z H' := by
  subst e
  intro z H' g rv
  refine p F H' (.grow g) (s.grow g) z (valOk_of s g rv) fun e b eb => ?_
  cases m with
  | sh => cases e
  | fr => obtain ⟨q, e1, np, _⟩ := rv; rw [e1] at eb; cases eb; exact .inl np
theorem PostV.some {r : Res} {Q : VK} (p : PostV K G W ρ F σ H (ofRes r ρ) Q) : ∃ d m, r = some (d, m) := by
  cases r with
  | none => exact p.elim
  | some a => exact ⟨a.1, a.2, rfl⟩
theorem ArOk.lk {v : V} {a : Ar} {d : D} (s : StOk K G ρ F σ H) (h : ArOk K G ρ F σ H v a) (e : a.get ρ = some d) : Lk K G F H v d := by
  have slot : ∀ i, σ[i]? = some (some v) → (gS ρ i).map (·.d) = some d → Lk K G F H v d := fun i h e => by
    obtain ⟨sl, e1, e2⟩ := Option.map_eq_some_iff.mp e
    obtain ⟨u, h1, l⟩ := s.lk (gS_some e1)
    rw [h] at h1; cases h1
    rw [← e2]; exact l
  cases a with
  | val d' m => cases e; exact ValOk.lk h
  | slot i => exact slot i h e
  | io i => exact slot i h e
theorem ArOk.step {F' : FS} {H' : Hp} {v : V} {a : Ar} (s : StOk K G ρ F σ H) (x : Stp ρ F σ H ρ' F' σ H') (h : ArOk K G ρ F σ H v a) : ArOk K G ρ' F' σ H' v a := by
  cases a with
  | val d m => exact ValOk.step s x h
  | slot i => exact h
  | io i => exact h
theorem arOk_steps (s : StOk K G ρ F σ H) (x : Stp ρ F σ H ρ' F' σ H') : ∀ {vs : List V} {as : List Ar}, Paired (ArOk K G ρ F σ H) vs as → Paired (ArOk K G ρ' F' σ H') vs as
  | _, _, .nil => .nil
  | _, _, .cons h t => .cons (h.step s x) (arOk_steps s x t)
theorem ArFr.from {ρ₀ : Env} {F₀ : FS} {σ₀ : Sg} {H₀ : Hp} (x : Stp ρ₀ F₀ σ₀ H₀ ρ F σ H) {v : V} {a : Ar} (h : ArFr ρ σ H v a) : ArFr ρ₀ σ₀ H₀ v a := by
  cases a with
  | val d m => cases m with
    | sh => trivial
    | fr => exact fun b e => x.fresh (h b e)
  | slot i => trivial
  | io i => trivial
theorem arFr_from {ρ₀ : Env} {F₀ : FS} {σ₀ : Sg} {H₀ : Hp} (x : Stp ρ₀ F₀ σ₀ H₀ ρ F σ H) : ∀ {vs : List V} {as : List Ar}, Paired (ArFr ρ σ H) vs as → Paired (ArFr ρ₀ σ₀ H₀) vs as
  | _, _, .nil => .nil
  | _, _, .cons h t => .cons (h.from x) (arFr_from x t)
theorem gets_lks (s : StOk K G ρ F σ H) : ∀ {as : List Ar} {vs : List V} {ds : List D}, Paired (ArOk K G ρ F σ H) vs as → gets ρ as = some ds → Lks K G F H vs ds
  | [], _, ds, .nil, e => by cases e; exact .nil
  | a :: as, _, ds, .cons h t, e => by
    rw [gets] at e
    obtain ⟨d, e1, e2⟩ := Option.bind_eq_some_iff.mp e
    obtain ⟨es, e3, rfl⟩ := Option.map_eq_some_iff.mp e2
    exact .cons (h.lk s e1) (gets_lks s t e3)

/-- values that are kept for good are frozen first -/
theorem valsOf_ok : ∀ {as : List Ar} {vs : List V} {ds : List D} {F : FS} {ρ₀ : Env} {F₀ : FS} {σ₀ : Sg} {H₀ : Hp}, StOk K G ρ F σ H → Stp ρ₀ F₀ σ₀ H₀ ρ F σ H → Paired (ArOk K G ρ F σ H) vs as → Paired (ArFr ρ₀ σ₀ H₀) vs as → valsOf as = some ds →
    ∃ F', StOk K G ρ F' σ H ∧ Stp ρ₀ F₀ σ₀ H₀ ρ F' σ H ∧ Ext F H F' H ∧ Reps K G F' H vs ds
  | [], _, ds, F, ρ₀, F₀, σ₀, H₀, s, x, .nil, _, e => by cases e; exact ⟨F, s, x, .refl, .nil⟩
  | .slot i :: as, _, ds, F, ρ₀, F₀, σ₀, H₀, s, x, .cons h t, _, e => nomatch e
  | .io i :: as, _, ds, F, ρ₀, F₀, σ₀, H₀, s, x, .cons h t, _, e => nomatch e
  | .val d m :: as, _, ds, F, ρ₀, F₀, σ₀, H₀, s, x, .cons (a := v) h t, .cons hf tf, e => by
    rw [valsOf] at e
    obtain ⟨es, e1, rfl⟩ := Option.map_eq_some_iff.mp e
    obtain ⟨F1, s1, x1, y1, r1⟩ := valsOf_ok s x t tf e1
    cases m with
    | sh => exact ⟨F1, s1, x1, y1, .cons (Rep.ext y1 h) r1⟩
    | fr =>
      obtain ⟨a, e2, nf, nh, c⟩ := h
      subst e2
      obtain ⟨s2, r2⟩ := s1.freeze nh (c.ext' y1 fun _ q => q)
      have y2 : Ext F1 H (fun b => F1 b ∨ b = a) H := ⟨fun _ z => .inl z, fun _ _ _ z _ => z, fun _ _ _ z => .inl z, fun _ _ z => z, fun _ _ _ z => z⟩
      exact ⟨_, s2, x1.freeze (hf a rfl), y1.trans y2, .cons r2 (r1.ext y2)⟩
end
end DI

set_option Elab.async false
set_option linter.all false
set_option maxRecDepth 100000
set_option maxHeartbeats 4000000
namespace DI
open PySem L2
section
variable {G : Gx} {X : Cx} {pos : Pos}
/-! ### names, constants -/
theorem con_ok {e : Expr} {v : V} {d : D} (h : PE X e (tC v)) (r : ∀ F H, Rep X.K G F H v d) : EOk G X e (fun ρ => .ok (d, .sh) ρ) := by
  intro W tk
  refine peImp h ?_
  rintro σ H Q ⟨ρ, F, s, p⟩
  dsimp only [slotF, ioF, argF, consF, tupF, lstF, varT, twoF] at p
  exact p F H .refl s v (r F H) fun z => nomatch z
theorem var_ok {i : Nat} {x : Str} (h : PE X (.Name x pos) (tVar i)) : EOk G X (.Name x pos) (fun ρ => readVar ρ i) := by
  intro W tk
  refine peImp h ?_
  rintro σ H Q ⟨ρ, F, s, p⟩
  dsimp only [slotF, ioF, argF, consF, tupF, lstF, varT, twoF] at p
  cases q : readVar ρ i with
  | ok a ρ' =>
    obtain ⟨d, m⟩ := a
    obtain ⟨v, F', h1, rfl, x1, s1, r⟩ := readVar_ok s q
    rw [q] at p
    exact ⟨v, h1, p F' H x1 s1 v r fun z => nomatch z⟩
  | ex e ρ' => unfold readVar at q; split at q <;> cases q
  | no => rw [q] at p; exact p.elim
theorem mov_ok {i : Nat} {x : Str} (h : PE X (.Name x pos) (tVar i)) : EOk G X (.Name x pos) (fun ρ => moveVar ρ i) := by
  intro W tk
  refine peImp h ?_
  rintro σ H Q ⟨ρ, F, s, p⟩
  dsimp only [slotF, ioF, argF, consF, tupF, lstF, varT, twoF] at p
  cases q : moveVar ρ i with
  | ok a ρ' =>
    obtain ⟨d, m⟩ := a
    obtain ⟨v, h1, x1, s1, r, fr⟩ := moveVar_ok s q
    rw [q] at p
    exact ⟨v, h1, p F H x1 s1 v r fun z b eb => .inr (fr z b eb)⟩
  | ex e ρ' => unfold moveVar at q; split at q <;> cases q
  | no => rw [q] at p; exact p.elim
theorem slot_ok {i : Nat} {x : Str} (h : PE X (.Name x pos) (tVar i)) : AOk G X (.Name x pos) (slotF i) := by
  intro W tk
  refine peImp h ?_
  rintro σ H Q ⟨ρ, F, s, p⟩
  dsimp only [slotF, ioF, argF, consF, tupF, lstF, varT, twoF] at p
  cases q : gS ρ i with
  | none => rw [q] at p; exact p.elim
  | some sl =>
    rw [q] at p
    obtain ⟨v, h1, _⟩ := s.val i sl (gS_some q)
    exact ⟨v, h1, p F H .refl s v h1 trivial⟩
theorem io_ok {i : Nat} {x : Str} (h : PE X (.Name x pos) (tVar i)) : AOk G X (.Name x pos) (ioF i) := by
  intro W tk
  refine peImp h ?_
  rintro σ H Q ⟨ρ, F, s, p⟩
  dsimp only [slotF, ioF, argF, consF, tupF, lstF, varT, twoF] at p
  cases q : gS ρ i with
  | none => rw [q] at p; exact p.elim
  | some sl =>
    rw [q] at p
    obtain ⟨v, h1, _⟩ := s.val i sl (gS_some q)
    exact ⟨v, h1, p F H .refl s v h1 trivial⟩
theorem arg_ok {e : Expr} {f : Env → R (D × Vm)} (h : EOk G X e f) : AOk G X e (argF f) := by
  intro W tk
  refine peImp (h W tk) ?_
  rintro σ H Q ⟨ρ, F, s, p⟩
  dsimp only [slotF, ioF, argF, consF, tupF, lstF, varT, twoF] at p
  refine ⟨ρ, F, s, (PostG.bind p).mono ?_⟩
  rintro ⟨d, m⟩ ρ1 F1 H1 _ _ ⟨x, s1, q, _⟩ v ok fr
  refine q F1 H1 .refl s1 v ok ?_
  cases m with
  | sh => trivial
  | fr => exact fun b eb => fr rfl b eb
/-! ### argument lists -/
theorem args_nil : AsOk G X [] (fun ρ => .ok [] ρ) := by
  intro W tk
  refine paImp pa_nil ?_
  rintro σ H Q ⟨ρ, F, s, p⟩
  dsimp only [slotF, ioF, argF, consF, tupF, lstF, varT, twoF] at p
  exact p F H .refl s [] .nil .nil
theorem args_cons {e : Expr} {es : List Expr} {f : Env → R Ar} {g : Env → R (List Ar)} (h : AOk G X e f) (t : AsOk G X es g) (hs : starEach (e :: es) X.env = (false, eval e X.env) :: starEach es X.env) :
    AsOk G X (e :: es) (consF f g) := by
  intro W tk
  refine paImp (pa_cons (h W tk) (t W tk) hs) ?_
  rintro σ H Q ⟨ρ, F, s, p⟩
  dsimp only [slotF, ioF, argF, consF, tupF, lstF, varT, twoF] at p
  refine ⟨ρ, F, s, (PostG.bind p).mono ?_⟩
  rintro a ρ1 F1 H1 _ _ ⟨x1, s1, q1, q0⟩ v ok1 fr1
  refine ⟨ρ1, F1, s1, (PostG.bind q1).mono ?_⟩
  rintro as ρ2 F2 H2 _ _ ⟨x2, s2, q2, _⟩ vs ok2 fr2
  exact q2 F2 H2 .refl s2 (v :: vs) (.cons (ok1.step s1 x2) ok2) (.cons fr1 (arFr_from x1 fr2))
/-! ### displays -/
theorem tup_ok {es : List Expr} {k : Nat} {g : Env → R (List Ar)} (t : AsOk G X es g) :
    EOk G X (.Tuple es k pos) (tupF g) := by
  intro W tk
  refine peImp (pe_tup (t W tk)) ?_
  rintro σ H Q ⟨ρ, F, s, p⟩
  dsimp only [slotF, ioF, argF, consF, tupF, lstF, varT, twoF] at p
  refine ⟨ρ, F, s, (PostV.bind p).mono ?_⟩
  rintro as ρ1 F1 H1 _ _ ⟨x1, s1, q1, q0⟩ vs ok fr
  cases e : valsOf as with
  | none => rw [e] at q1; exact q1.elim
  | some ds =>
    rw [e] at q0
    simp only at q0
    split at q0
    · rename_i hl
      obtain ⟨F2, s2, x2, y2, r2⟩ := valsOf_ok s1 x1 ok fr e
      refine ⟨by rw [r2.length]; exact okLen_le hl, fun p np => ?_⟩
      have g : Grow H1 (upd H1 p (.tup vs)) := .new np
      exact q0 F2 _ (x2.trans (.grow g)) (s2.grow g) _ (newT np r2) fun z => nomatch z
    · exact q0.elim
theorem lst_ok {es : List Expr} {g : Env → R (List Ar)} (t : AsOk G X es g) :
    EOk G X (.List es pos) (lstF g) := by
  intro W tk
  refine peImp (pe_lst (t W tk)) ?_
  rintro σ H Q ⟨ρ, F, s, p⟩
  dsimp only [slotF, ioF, argF, consF, tupF, lstF, varT, twoF] at p
  refine ⟨ρ, F, s, (PostV.bind p).mono ?_⟩
  rintro as ρ1 F1 H1 _ _ ⟨x1, s1, q1, q0⟩ vs ok fr
  cases e : valsOf as with
  | none => rw [e] at q1; exact q1.elim
  | some ds =>
    rw [e] at q0
    simp only at q0
    split at q0
    · rename_i hl
      obtain ⟨F2, s2, x2, y2, r2⟩ := valsOf_ok s1 x1 ok fr e
      refine ⟨by rw [r2.length]; exact okLen_le hl, fun p np => ?_⟩
      have g : Grow H1 (upd H1 p (.lst vs)) := .new np
      refine q0 F2 _ (x2.trans (.grow g)) (s2.grow g) _ (valOk_of (m := .fr) s2 g (newL np r2)) fun _ b eb => ?_
      cases eb
      exact x2.fresh (.inl np)
    · exact q0.elim
/-! ### operators -/
/-- both values are at hand -/
theorem two_ok {f : Env → R Ar} {g : Env → R Ar} {sem : D → D → Res} {W : WX} {σ : Sg} {H : Hp} {Q : VK} {ρ : Env} {F : FS} (s : StOk X.K G ρ F σ H)
    (p : PostV X.K G W ρ F σ H (twoF sem f g ρ) Q) :
    tA X.K G W f σ H fun x H1 => tA X.K G W g σ H1 fun y H2 => rSp G X.K sem x y H2 Q := by
  dsimp only [twoF] at p
  refine ⟨ρ, F, s, (PostV.bind p).mono ?_⟩
  rintro a ρ1 F1 H1 _ _ ⟨x1, s1, q1, _⟩ v ok1 _
  refine ⟨ρ1, F1, s1, (PostV.bind q1).mono ?_⟩
  rintro b ρ2 F2 H2 _ _ ⟨x2, s2, q2, _⟩ u ok2 _
  cases e1 : a.get ρ2 with
  | none => rw [e1] at q2; exact q2.elim
  | some dx =>
    cases e2 : b.get ρ2 with
    | none => rw [e1, e2] at q2; exact q2.elim
    | some dy =>
      rw [e1, e2] at q2
      obtain ⟨d, m, e⟩ := q2.some
      exact ⟨F2, dx, dy, d, m, (ok1.step s1 x2).lk s2 e1, ok2.lk s2 e2, e, q2.res s2 e⟩
theorem bin_ok {a b : Expr} {op : Operator} {f g : Env → R Ar} {sem : D → D → Res} (ha : AOk G X a f) (hb : AOk G X b g) (ho : OpR X (binaryOp op) (rSp G X.K sem)) :
    EOk G X (.BinOp a op b pos) (twoF sem f g) := by
  intro W tk
  refine peImp (pe_op ho (ha W tk) (hb W tk)) ?_
  rintro σ H Q ⟨ρ, F, s, p⟩
  exact two_ok s p
theorem cmp_ok {a b : Expr} {op : CmpOp} {f g : Env → R Ar} {sem : D → D → Res} (ha : AOk G X a f) (hb : AOk G X b g) (ho : OpR X (compareOp op) (rSp G X.K sem)) (hm : behindInMarks op b = false) :
    EOk G X (.Compare a [op] [b] pos) (twoF sem f g) := by
  intro W tk
  refine peImp (pe_cmpR ho (ha W tk) (hb W tk) hm) ?_
  rintro σ H Q ⟨ρ, F, s, p⟩
  exact two_ok s p
/-! ### truth -/
theorem truth_sp : TruR X (fun x H Q => ∃ F d k, Lk X.K G F H x d ∧ truthD d = some k ∧ Q k H) := by
  intro pins st σ H x v Q I rx h
  obtain ⟨F, d, k, l, e, q⟩ := h
  have viaT : TruV X.K x H k → wpAny (model X.prog X.w) X.A (truthy v) (TP X pins σ Q) X.xe st := fun t => tru_ok pins st σ H x v Q I rx ⟨k, t, q⟩
  unfold truthD at e
  split at e
  · cases e; rw [l.non] at viaT; exact viaT rfl
  · cases e; rw [l.bl] at viaT; exact viaT rfl
  · cases e; rw [l.int] at viaT; exact viaT rfl
  · split at e
    · rename_i c
      cases e
      rw [l.str] at viaT
      exact viaT ⟨okLen_le c, rfl⟩
    · cases e
  · cases e
    obtain ⟨a, vs, rfl, h, r⟩ := l.lst
    exact viaT (.inl ⟨vs, .of h, by cases r <;> rfl⟩)
  · cases e
    obtain ⟨a, vs, rfl, h, r⟩ := l.fz
    exact viaT (.inl ⟨vs, h, by cases r <;> rfl⟩)
  · cases e
    obtain ⟨a, vs, rfl, h, r⟩ := l.tup
    exact viaT (.inr (.inl ⟨vs, h, by cases r <;> rfl⟩))
  · split at e
    · rename_i c
      cases e
      obtain ⟨a, rfl, cl⟩ := l.dct
      cases cl with
      | dct h r =>
        cases rx
        refine d_truth I h fun s' I' => ⟨H, I', ?_⟩
        cases r <;> exact q
      | dtp h r =>
        obtain ⟨z1, z2⟩ := tz_keys r c
        subst z1 z2
        cases rx
        refine d_truth (dTK I h) (.inl upd_same) fun s' I' => ⟨H, ?_, q⟩
        have := dKT I' upd_same
        rwa [upd_back h] at this
    · cases e
  · cases e
/-- a test that is a value's truth -/
theorem ptTru {a : Expr} {ta : TE} {r : V → Hp → (Bool → Hp → Prop) → Prop} (ha : PE X a ta) (hr : TruR X r) (he : ∀ whole, isTrue a X.env whole = (do let v ← whole; standAt a.pos; holding [v] (truthy v))) :
    PT X a (fun σ H Q => ta σ H fun x H' => r x H' Q) :=
  ⟨fun pins s σ H Q I h => PyProof.Rows.isTrue_plain (thn (ha.run pins s σ H _ I h) fun v s1 ⟨x, H1, I1, r1, q1⟩ => hr pins s1 σ H1 x v Q I1 r1 q1) (he _)⟩
/-- a value's truth as a test -/
theorem truth_ok {e : Expr} {f : Env → R (D × Vm)} (h : EOk G X e f) (he : ∀ whole, isTrue e X.env whole = (do let v ← whole; standAt e.pos; holding [v] (truthy v))) : TOk G X e (fun ρ => fin true (f ρ)) := by
  intro W tk
  refine ptImp (ptTru (h W tk) (truth_sp (G := G)) he) ?_
  rintro σ H Q ⟨ρ, F, s, p⟩
  dsimp only [slotF, ioF, argF, consF, tupF, lstF, varT, twoF] at p
  refine ⟨ρ, F, s, (PostG.bind p).mono ?_⟩
  rintro ⟨d, m⟩ ρ1 F1 H1 _ _ ⟨x1, s1, q1, _⟩ v ok _
  simp only at q1
  cases e : truthD d with
  | none => rw [e] at q1; exact q1.elim
  | some k => rw [e] at q1; exact ⟨F1, d, k, ok.lk, e, q1 F1 H1 .refl s1⟩
/-- a name's truth: it is not frozen by that -/
theorem varT_ok {i : Nat} {x : Str} (h : PE X (.Name x pos) (tVar i)) : TOk G X (.Name x pos) (varT i) := by
  intro W tk
  refine ptImp (ptTru h (truth_sp (G := G)) fun _ => rfl) ?_
  rintro σ H Q ⟨ρ, F, s, p⟩
  dsimp only [slotF, ioF, argF, consF, tupF, lstF, varT, twoF] at p
  cases q : gS ρ i with
  | none => rw [q] at p; exact p.elim
  | some sl =>
    rw [q] at p
    simp only at p
    cases e : truthD sl.d with
    | none => rw [e] at p; exact p.elim
    | some k =>
      rw [e] at p
      obtain ⟨v, h1, l⟩ := s.lk (gS_some q)
      exact ⟨v, h1, F, sl.d, k, l, e, p F H .refl s⟩
theorem bind_assoc {α β γ : Type} (r : R α) (k : α → Env → R β) (t : β → Env → R γ) : (r.bind k).bind t = r.bind fun a ρ => (k a ρ).bind t := by cases r <;> rfl
theorem cmpT_ok {a b : Expr} {op : CmpOp} {f g : Env → R Ar} {sem : D → D → Res} (ha : AOk G X a f) (hb : AOk G X b g) (ho : OpR X (compareOp op) (rSp G X.K sem)) (hm : behindInMarks op b = false)
    (hbl : ∀ dx dy d m, sem dx dy = some (d, m) → ∃ k, d = .bl k) :
    TOk G X (.Compare a [op] [b] pos) (fun ρ => fin true (twoF sem f g ρ)) := by
  intro W tk
  refine ptImp (pt_cmpR ho (ha W tk) (hb W tk) hm) ?_
  rintro σ H Q ⟨ρ, F, s, p⟩
  dsimp only [slotF, ioF, argF, consF, tupF, lstF, varT, twoF] at p
  dsimp only [fin, twoF] at p
  rw [bind_assoc] at p
  refine ⟨ρ, F, s, (PostG.bind p).mono ?_⟩
  rintro a ρ1 F1 H1 _ _ ⟨x1, s1, q1, _⟩ v ok1 _
  rw [bind_assoc] at q1
  refine ⟨ρ1, F1, s1, (PostG.bind q1).mono ?_⟩
  rintro b ρ2 F2 H2 _ _ ⟨x2, s2, q2, _⟩ u ok2 _
  cases e1 : a.get ρ2 with
  | none => rw [e1] at q2; exact q2.elim
  | some dx =>
    cases e2 : b.get ρ2 with
    | none => rw [e1, e2] at q2; exact q2.elim
    | some dy =>
      rw [e1, e2] at q2
      cases e : sem dx dy with
      | none => simp only [e, ofRes] at q2; exact q2.elim
      | some dm =>
        obtain ⟨d, m⟩ := dm
        simp only [e, ofRes] at q2
        obtain ⟨k, rfl⟩ := hbl dx dy d m e
        refine ⟨F2, dx, dy, _, m, (ok1.step s1 x2).lk s2 e1, ok2.lk s2 e2, e, fun z H' g rv => ⟨k, ?_, q2 F2 H' (.grow g) (s2.grow g)⟩⟩
        cases m with
        | sh => exact Lk.bl (.inl rv)
        | fr => obtain ⟨p, _, _, c⟩ := rv; cases c
end
end DI

set_option Elab.async false
set_option linter.all false
set_option maxRecDepth 100000
set_option maxHeartbeats 4000000
namespace DI
open PySem L2
section
variable {G : Gx} {X : Cx} {pos : Pos}
/-! ### a o1 b o2 c -/
theorem chain_core {f g h : Env → R Ar} {s1 s2 : D → D → Res} {W : WX} {σ : Sg} {H : Hp} {Q : VK} {ρ : Env} {F : FS} (s : StOk X.K G ρ F σ H)
    (p : PostV X.K G W ρ F σ H (chainF f g h s1 s2 ρ) Q) : tChain (rSp G X.K s1) (rSp G X.K s2) (tA X.K G W f) (tA X.K G W g) (tA X.K G W h) σ H Q := by
  refine ⟨ρ, F, s, (PostV.bind p).mono ?_⟩
  rintro a ρ1 F1 H1 _ _ ⟨x1, s1', q1, _⟩ v ok1 _
  refine ⟨ρ1, F1, s1', (PostV.bind q1).mono ?_⟩
  rintro b ρ2 F2 H2 _ _ ⟨x2, s2', q2, _⟩ u ok2 _
  cases e1 : a.get ρ2 with
  | none => rw [e1] at q2; exact q2.elim
  | some dx =>
    cases e2 : b.get ρ2 with
    | none => rw [e1, e2] at q2; exact q2.elim
    | some dy =>
      rw [e1, e2] at q2
      dsimp only at q2
      split at q2
      · rename_i e
        refine ⟨F2, dx, dy, _, _, (ok1.step s1' x2).lk s2' e1, ok2.lk s2' e2, e, fun z H' gr rv => ⟨true, Lk.bl (.inl rv), ?_⟩⟩
        rw [if_pos rfl]
        have s3 := s2'.grow gr
        refine ⟨ρ2, F2, s3, (PostV.bind (.from (.grow gr) (q2.step (.grow gr)))).mono ?_⟩
        rintro c ρ3 F3 H3 _ _ ⟨x3, s4, q3, _⟩ w ok3 _
        cases e3 : b.get ρ3 with
        | none => rw [e3] at q3; exact q3.elim
        | some dy' =>
          cases e4 : c.get ρ3 with
          | none => rw [e3, e4] at q3; exact q3.elim
          | some dz =>
            rw [e3, e4] at q3
            obtain ⟨d, m, e⟩ := q3.some
            have ok2' : ArOk X.K G ρ2 F2 σ H' u b := ok2.step s2' (.grow gr)
            exact ⟨F3, dy', dz, d, m, (ok2'.step s3 x3).lk s4 e3, ok3.lk s4 e4, e, q3.res s4 e⟩
      · rename_i e
        refine ⟨F2, dx, dy, _, _, (ok1.step s1' x2).lk s2' e1, ok2.lk s2' e2, e, fun z H' gr rv => ⟨false, Lk.bl (.inl rv), ?_⟩⟩
        rw [if_neg (by simp)]
        exact q2 F2 H' (.grow gr) (s2'.grow gr) _ (Rep.bl false) fun z => nomatch z
      · exact q2.elim
theorem chain_ok {a b c : Expr} {o1 o2 : CmpOp} {f g h : Env → R Ar} {s1 s2 : D → D → Res} (ha : AOk G X a f) (hb : AOk G X b g) (hc : AOk G X c h) (h1 : OpR X (compareOp o1) (rSp G X.K s1)) (h2 : OpR X (compareOp o2) (rSp G X.K s2))
    (hm : lastMarks [o1, o2] [b, c] = false) : EOk G X (.Compare a [o1, o2] [b, c] pos) (chainF f g h s1 s2) := by
  intro W tk
  refine peImp (pe_chain h1 h2 (ha W tk) (hb W tk) (hc W tk) hm) ?_
  rintro σ H Q ⟨ρ, F, s, p⟩
  exact chain_core s p
theorem chainT_ok {a b c : Expr} {o1 o2 : CmpOp} {f g h : Env → R Ar} {s1 s2 : D → D → Res} (ha : AOk G X a f) (hb : AOk G X b g) (hc : AOk G X c h) (h1 : OpR X (compareOp o1) (rSp G X.K s1)) (h2 : OpR X (compareOp o2) (rSp G X.K s2))
    (hm : lastMarks [o1, o2] [b, c] = false) (hbl : ∀ dx dy d m, s2 dx dy = some (d, m) → ∃ k, d = .bl k) : TOk G X (.Compare a [o1, o2] [b, c] pos) (fun ρ => fin true (chainF f g h s1 s2 ρ)) := by
  intro W tk
  refine ptImp (pt_chain h1 h2 (ha W tk) (hb W tk) (hc W tk) hm) ?_
  rintro σ H Q ⟨ρ, F, s, p⟩
  show tChain _ _ _ _ _ σ H fun x H' => ∃ k, x = .bl k ∧ Q k H'
  unfold fin at p
  dsimp only at p
  unfold chainF at p
  rw [bind_assoc] at p
  refine ⟨ρ, F, s, (PostG.bind p).mono ?_⟩
  rintro a ρ1 F1 H1 _ _ ⟨x1, s1', q1, _⟩ v ok1 _
  rw [bind_assoc] at q1
  refine ⟨ρ1, F1, s1', (PostG.bind q1).mono ?_⟩
  rintro b ρ2 F2 H2 _ _ ⟨x2, s2', q2, _⟩ u ok2 _
  cases e1 : a.get ρ2 with
  | none => rw [e1] at q2; exact q2.elim
  | some dx =>
    cases e2 : b.get ρ2 with
    | none => rw [e1, e2] at q2; exact q2.elim
    | some dy =>
      rw [e1, e2] at q2
      dsimp only at q2
      split at q2
      · rename_i e
        refine ⟨F2, dx, dy, _, _, (ok1.step s1' x2).lk s2' e1, ok2.lk s2' e2, e, fun z H' gr rv => ⟨true, Lk.bl (.inl rv), ?_⟩⟩
        rw [if_pos rfl]
        have s3 := s2'.grow gr
        rw [bind_assoc] at q2
        refine ⟨ρ2, F2, s3, (PostG.bind (q2.step (.grow gr))).mono ?_⟩
        rintro c ρ3 F3 H3 _ _ ⟨x3, s4, q3, _⟩ w ok3 _
        cases e3 : b.get ρ3 with
        | none => rw [e3] at q3; exact q3.elim
        | some dy' =>
          cases e4 : c.get ρ3 with
          | none => rw [e3, e4] at q3; exact q3.elim
          | some dz =>
            rw [e3, e4] at q3
            cases e : s2 dy' dz with
            | none => simp only [e, ofRes] at q3; exact q3.elim
            | some dm =>
              obtain ⟨d, m⟩ := dm
              simp only [e, ofRes] at q3
              obtain ⟨k, rfl⟩ := hbl dy' dz d m e
              have ok2' : ArOk X.K G ρ2 F2 σ H' u b := ok2.step s2' (.grow gr)
              refine ⟨F3, dy', dz, _, m, (ok2'.step s3 x3).lk s4 e3, ok3.lk s4 e4, e, fun z H'' g rv => ⟨k, ?_, q3 F3 H'' (.grow g) (s4.grow g)⟩⟩
              cases m with
              | sh => exact Lk.bl (.inl rv)
              | fr => obtain ⟨p, _, _, c⟩ := rv; cases c
      · rename_i e
        refine ⟨F2, dx, dy, _, _, (ok1.step s1' x2).lk s2' e1, ok2.lk s2' e2, e, fun z H' gr rv => ⟨false, Lk.bl (.inl rv), ?_⟩⟩
        rw [if_neg (by simp)]
        exact ⟨false, rfl, q2 F2 H' (.grow gr) (s2'.grow gr)⟩
      · exact q2.elim
/-! ### one value -/
def rSp1 (G : Gx) (K : PySem.W.Frag) (s : D → Res) : V → Hp → VK → Prop := fun x H Q => ∃ F dx d m, Lk K G F H x dx ∧ s dx = some (d, m) ∧ ∀ z H', Grow H H' → RV K G F H H' z d m → Q z H'
theorem neg_sp : UnR X (unaryOp .USub) (rSp1 G X.K negD) := by
  intro pins st σ H x v Q I rx h
  obtain ⟨F, dx, d, m, l, e, q⟩ := h
  unfold negD at e
  split at e
  · cases e
    exact un_neg pins st σ H x v Q I rx ⟨_, l.int, q _ H .refl (.int _)⟩
  · cases e
theorem one_ok {f : Env → R Ar} {sem : D → Res} {W : WX} {σ : Sg} {H : Hp} {Q : VK} {ρ : Env} {F : FS} (s : StOk X.K G ρ F σ H)
    (p : PostV X.K G W ρ F σ H (oneF sem f ρ) Q) :
    tA X.K G W f σ H fun x H1 => rSp1 G X.K sem x H1 Q := by
  refine ⟨ρ, F, s, (PostV.bind p).mono ?_⟩
  rintro a ρ1 F1 H1 _ _ ⟨x1, s1, q1, _⟩ v ok1 _
  cases e1 : a.get ρ1 with
  | none => rw [e1] at q1; exact q1.elim
  | some dx =>
    rw [e1] at q1
    obtain ⟨d, m, e⟩ := q1.some
    exact ⟨F1, dx, d, m, ok1.lk s1 e1, e, q1.res s1 e⟩
theorem neg_ok {a : Expr} {f : Env → R Ar} (ha : AOk G X a f) : EOk G X (.UnaryOp .USub a pos) (oneF negD f) := by
  intro W tk
  refine peImp (pe_un (neg_sp (G := G)) (ha W tk)) ?_
  rintro σ H Q ⟨ρ, F, s, p⟩
  exact one_ok s p
/-! ### not, and, or, if -/
theorem onBl_bind {r : R (D × Vm)} {f : Bool → Env → R (D × Vm)} {W : WX} {ρ : Env} {F : FS} {σ : Sg} {H : Hp} {C : D × Vm → Env → FS → Hp → Prop} {K : PySem.W.Frag} (p : PostG K G W ρ F σ H (onBl r f) C) :
    PostG K G W ρ F σ H r (fun a ρ1 F1 H1 => ∃ k, a.1 = .bl k ∧ Stp ρ F σ H ρ1 F1 σ H1 ∧ StOk K G ρ1 F1 σ H1 ∧ PostG K G W ρ1 F1 σ H1 (f k ρ1) C) := by
  unfold onBl at p
  refine (PostG.bind p).mono ?_
  rintro ⟨d, m⟩ ρ1 F1 H1 _ _ ⟨x1, s1, q1, _⟩
  dsimp only at q1
  split at q1
  · exact ⟨_, rfl, x1, s1, q1⟩
  · exact q1.elim
/-- a not, by x's truth -/
theorem notV_ok {a : Expr} {f : Env → R (D × Vm)} (ha : EOk G X a f) : EOk G X (.UnaryOp .Not a pos) (notF fun ρ => fin true (f ρ)) := by
  intro W tk
  have h : PE X (.UnaryOp .Not a pos) (fun σ H Q => tV X.K G W f σ H fun x H1 => ∃ F d k, Lk X.K G F H1 x d ∧ truthD d = some k ∧ Q (.bl (!k)) H1) := by
    refine ⟨fun pins s σ H Q I h => ?_⟩
    refine PyProof.Rows.UnaryOp_ (thn ((ha W tk).run pins s σ H _ I h) fun v s1 ⟨x, H1, I1, r1, F, d, k, l, e, q⟩ => ?_)
    refine PyProof.Rows.not_of (thn (truth_sp (G := G) pins s1 σ H1 x v (fun b H2 => Q (.bl (!b)) H2) I1 r1 ⟨F, d, k, l, e, q⟩) fun b s2 ⟨H2, I2, q2⟩ => ⟨.bl (!b), H2, I2, rfl, q2⟩)
  refine peImp h ?_
  rintro σ H Q ⟨ρ, F, s, p⟩
  dsimp only [notF] at p
  have p1 := onBl_bind p
  unfold fin at p1
  dsimp only at p1
  refine ⟨ρ, F, s, (PostG.bind p1).mono ?_⟩
  rintro ⟨d, m⟩ ρ1 F1 H1 _ _ ⟨x1, s1, q1, _⟩ v ok _
  dsimp only at q1
  cases e : truthD d with
  | none => rw [e] at q1; exact q1.elim
  | some k =>
    rw [e] at q1
    obtain ⟨k', e', x2, s2, q2⟩ := q1 F1 H1 .refl s1
    cases e'
    exact ⟨F1, d, k, ok.lk, e, q2 F1 H1 .refl s1 _ (Rep.bl _) fun z => nomatch z⟩
theorem notT_ok {a : Expr} {f : Env → R (D × Vm)} (ha : TOk G X a f) : TOk G X (.UnaryOp .Not a pos) (notF f) := by
  intro W tk
  refine ptImp (pt_not (ha W tk)) ?_
  rintro σ H Q ⟨ρ, F, s, p⟩
  refine ⟨ρ, F, s, (onBl_bind p).mono ?_⟩
  rintro ⟨d, m⟩ ρ1 F1 H1 _ _ ⟨k, e, x1, s1, q1⟩
  dsimp only at e
  subst e
  exact q1 F1 H1 .refl s1
theorem ifV_ok {c a b : Expr} {t f g : Env → R (D × Vm)} (hc : TOk G X c t) (ha : EOk G X a f) (hb : EOk G X b g) : EOk G X (.IfExp c a b pos) (ifF t f g) := by
  intro W tk
  refine peImp (pe_ifExp (hc W tk) (ha W tk) (hb W tk)) ?_
  rintro σ H Q ⟨ρ, F, s, p⟩
  refine ⟨ρ, F, s, (onBl_bind p).mono ?_⟩
  rintro ⟨d, m⟩ ρ1 F1 H1 _ _ ⟨k, e, x1, s1, q1⟩
  dsimp only at e
  subst e
  show if k = true then _ else _
  cases k with
  | true => exact ⟨ρ1, F1, s1, .from x1 q1⟩
  | false => exact ⟨ρ1, F1, s1, .from x1 q1⟩
theorem ifT_ok {c a b : Expr} {t f g : Env → R (D × Vm)} (hc : TOk G X c t) (ha : TOk G X a f) (hb : TOk G X b g) : TOk G X (.IfExp c a b pos) (ifF t f g) := by
  intro W tk
  refine ⟨fun pins s σ H Q I h => ?_⟩
  obtain ⟨ρ, F, so, p⟩ := h
  refine PyProof.Rows.isTrue_IfExp ?_
  refine thn ((hc W tk).run pins s σ H (fun k H1 => if k = true then tTs X.K G W f σ H1 Q else tTs X.K G W g σ H1 Q) I ⟨ρ, F, so, (onBl_bind p).mono ?_⟩) fun k s1 ⟨H1, I1, q⟩ => ?_
  · rintro ⟨d, m⟩ ρ1 F1 H1 _ _ ⟨k, e, x1, s1, q1⟩
    dsimp only at e
    subst e
    show if k = true then _ else _
    cases k with
    | true => exact ⟨ρ1, F1, s1, q1⟩
    | false => exact ⟨ρ1, F1, s1, q1⟩
  · cases k with
    | true => exact (ha W tk).run pins s1 σ H1 Q I1 q
    | false => exact (hb W tk).run pins s1 σ H1 Q I1 q
end
end DI

set_option Elab.async false
set_option linter.all false
set_option maxRecDepth 100000
set_option maxHeartbeats 4000000
namespace DI
open PySem L2
section
variable {G : Gx} {X : Cx} {pos : Pos}
def WOk (G : Gx) (X : Cx) (e : Expr) (f : Env → R (D × Vm)) : Prop := ∀ W, Takes X W → PW X e (tTs X.K G W f)
theorem andV1 {a : Expr} {f : Env → R (D × Vm)} (ha : EOk G X a f) : EOk G X (.BoolOp .And [a] pos) f := fun W tk => pe_one (ha W tk)
theorem orV1 {a : Expr} {f : Env → R (D × Vm)} (ha : EOk G X a f) : EOk G X (.BoolOp .Or [a] pos) f := fun W tk => pe_one (ha W tk)
theorem bool_lk {a : D × Vm} {k : Bool} {ρ : Env} {F : FS} {σ : Sg} {H : Hp} {v : V} {K : PySem.W.Frag} (ok : ValOk K G ρ F σ H v a.1 a.2) (e : a.1 = .bl k) : v = .bl k := by
  have l := ok.lk
  rw [e] at l
  exact l.bl
theorem andV {a b : Expr} {r : List Expr} {f g : Env → R (D × Vm)} (ha : EOk G X a f) (hb : EOk G X (.BoolOp .And (b :: r) pos) g) :
    EOk G X (.BoolOp .And (a :: b :: r) pos) (andF f g) := by
  intro W tk
  refine peImp (pe_and (ha W tk) (hb W tk)) ?_
  rintro σ H Q ⟨ρ, F, s, p⟩
  refine ⟨ρ, F, s, (onBl_bind p).mono ?_⟩
  rintro a ρ1 F1 H1 _ _ ⟨k, e, x1, s1, q1⟩ v ok _
  refine ⟨k, bool_lk ok e, ?_⟩
  cases k with
  | true => rw [if_pos rfl]; exact ⟨ρ1, F1, s1, .from x1 q1⟩
  | false => rw [if_neg (by simp)]; exact q1 F1 H1 .refl s1 _ (Rep.bl false) fun z => nomatch z
theorem orV {a b : Expr} {r : List Expr} {f g : Env → R (D × Vm)} (ha : EOk G X a f) (hb : EOk G X (.BoolOp .Or (b :: r) pos) g) :
    EOk G X (.BoolOp .Or (a :: b :: r) pos) (orF f g) := by
  intro W tk
  refine peImp (pe_or (ha W tk) (hb W tk)) ?_
  rintro σ H Q ⟨ρ, F, s, p⟩
  refine ⟨ρ, F, s, (onBl_bind p).mono ?_⟩
  rintro a ρ1 F1 H1 _ _ ⟨k, e, x1, s1, q1⟩ v ok _
  refine ⟨k, bool_lk ok e, ?_⟩
  cases k with
  | true => rw [if_pos rfl]; exact q1 F1 H1 .refl s1 _ (Rep.bl true) fun z => nomatch z
  | false => rw [if_neg (by simp)]; exact ⟨ρ1, F1, s1, .from x1 q1⟩
theorem andT1 {a : Expr} {f : Env → R (D × Vm)} (ha : TOk G X a f) : WOk G X (.BoolOp .And [a] pos) f := fun W tk => pw_and1 (ha W tk)
theorem orT1 {a : Expr} {f : Env → R (D × Vm)} (ha : TOk G X a f) : WOk G X (.BoolOp .Or [a] pos) f := fun W tk => pw_or1 (ha W tk)
theorem andT {a b : Expr} {r : List Expr} {f g : Env → R (D × Vm)} (ha : TOk G X a f) (hb : WOk G X (.BoolOp .And (b :: r) pos) g) :
    WOk G X (.BoolOp .And (a :: b :: r) pos) (andF f g) := by
  intro W tk
  refine pwImp (pw_and (ha W tk) (hb W tk)) ?_
  rintro σ H Q ⟨ρ, F, s, p⟩
  refine ⟨ρ, F, s, (onBl_bind p).mono ?_⟩
  rintro ⟨d, m⟩ ρ1 F1 H1 _ _ ⟨k, e, x1, s1, q1⟩
  dsimp only at e
  subst e
  show if k = true then _ else _
  cases k with
  | true => exact ⟨ρ1, F1, s1, q1⟩
  | false => exact q1 F1 H1 .refl s1
theorem orT {a b : Expr} {r : List Expr} {f g : Env → R (D × Vm)} (ha : TOk G X a f) (hb : WOk G X (.BoolOp .Or (b :: r) pos) g) :
    WOk G X (.BoolOp .Or (a :: b :: r) pos) (orF f g) := by
  intro W tk
  refine pwImp (pw_or (ha W tk) (hb W tk)) ?_
  rintro σ H Q ⟨ρ, F, s, p⟩
  refine ⟨ρ, F, s, (onBl_bind p).mono ?_⟩
  rintro ⟨d, m⟩ ρ1 F1 H1 _ _ ⟨k, e, x1, s1, q1⟩
  dsimp only at e
  subst e
  show if k = true then _ else _
  cases k with
  | true => exact q1 F1 H1 .refl s1
  | false => exact ⟨ρ1, F1, s1, q1⟩
theorem boolT {e : Expr} {f : Env → R (D × Vm)} (h : WOk G X e f) : TOk G X e f := fun W tk => (h W tk).pt
/-! ### a[b] -/
theorem ix_dict (hu : X.A.units + 1 < cLine) : IxR X (fun x y H Q => ∃ a v, x = .ref a ∧ DGet H a y (some v) ∧ Q v H) := by
  intro value slice pins s σ H x y v u Q I rx ry h hs
  obtain ⟨a, w, rfl, g, q⟩ := h
  cases rx
  exact PyProof.Rows.tail_any (dict_typeIs I g) PySem.F.slot_dict_getitem.lookup (d_getItem hu I g ry fun w' s3 I3 rw' => ⟨w, H, I3, rw', q⟩) hs
theorem ixImp {r r' : R2} (h : IxR X r) (i : ∀ x y H Q, r' x y H Q → r x y H Q) : IxR X r' := fun value slice pins s σ H x y v u Q I rx ry q hs => h value slice pins s σ H x y v u Q I rx ry (i x y H Q q) hs
theorem reps_at {K : PySem.W.Frag} {F : FS} {H : Hp} {vs : List V} {ds : List D} {k : Int} {d : D} (r : Reps K G F H vs ds) (e : atI ds k = some d) : ∃ v, atI vs k = some v ∧ Rep K G F H v d := by
  unfold atI at e ⊢
  obtain ⟨j, e1, e2⟩ := Option.bind_eq_some_iff.mp e
  obtain ⟨v, h1, h2⟩ := r.get e2
  exact ⟨v, by rw [r.length, e1]; exact h1, h2⟩
theorem ks_find {K : PySem.W.Frag} {F : FS} {H : Hp} {k : Key} {d : D} : ∀ {es : List (Key × V)} {kvs : List (D × D)}, RepKs K G F H es kvs → (kvs.find? fun e => decide (keyD e.1 = some k)).map (·.2) = some d → ∃ v, valV es k = some v ∧ Rep K G F H v d
  | _, _, .nil, e => nomatch e
  | _, _, .cons (k := k') (kd := kd) (v := v) (d := d') (es := es) (ds := ds) lk r t, e => by
    by_cases c : k' = k
    · subst c
      rw [List.find?_cons_of_pos (by simp [lk])] at e
      cases e
      exact ⟨v, valV_pos (p := (k', v)) rfl, r⟩
    · rw [List.find?_cons_of_neg (by simp [lk, c])] at e
      obtain ⟨u, h1, h2⟩ := ks_find t e
      exact ⟨u, by rw [valV_neg (p := (k', v)) c]; exact h1, h2⟩
theorem ks_none {K : PySem.W.Frag} {F : FS} {H : Hp} {k : Key} : ∀ {es : List (Key × V)} {kvs : List (D × D)}, RepKs K G F H es kvs → (kvs.find? fun e => decide (keyD e.1 = some k)).map (·.2) = none → valV es k = none
  | _, _, .nil, e => rfl
  | _, _, .cons (k := k') (kd := kd) (v := v) (d := d') (es := es) (ds := ds) lk r t, e => by
    by_cases c : k' = k
    · subst c
      rw [List.find?_cons_of_pos (by simp [lk])] at e
      cases e
    · rw [List.find?_cons_of_neg (by simp [lk, c])] at e
      rw [valV_neg (p := (k', v)) c]
      exact ks_none t e
theorem ix_sp (hu : X.A.units + 1 < cLine) : IxR X (rSp G X.K ixR) := by
  refine ixImp (ix_seq.or (ix_dict hu)) ?_
  rintro x y H Q ⟨F, dx, dy, d, m, lx, ly, e, q⟩
  obtain ⟨d', e1, e2⟩ := Option.map_eq_some_iff.mp e
  cases e2
  unfold ixD at e1
  split at e1
  · obtain ⟨a, vs, rfl, h, r⟩ := lx.lst
    obtain ⟨v, h1, h2⟩ := reps_at r e1
    exact .inl (.inl ⟨a, vs, _, v, rfl, ly.int, .of h, h1, q _ H .refl h2⟩)
  · obtain ⟨a, vs, rfl, h, r⟩ := lx.fz
    obtain ⟨v, h1, h2⟩ := reps_at r e1
    exact .inl (.inl ⟨a, vs, _, v, rfl, ly.int, h, h1, q _ H .refl h2⟩)
  · obtain ⟨a, vs, rfl, h, r⟩ := lx.tup
    obtain ⟨v, h1, h2⟩ := reps_at r e1
    exact .inl (.inr (.inl ⟨a, vs, _, v, rfl, ly.int, h, h1, q _ H .refl h2⟩))
  · split at e1
    · rename_i c
      obtain ⟨c', e3, e4⟩ := Option.map_eq_some_iff.mp e1
      subst e4
      exact .inl (.inr (.inr ⟨_, _, c', lx.str, ly.int, okLen_le c, e3, q _ H .refl (.str _)⟩))
    · cases e1
  · split at e1
    · rename_i kk hk
      split at e1
      · rename_i hall
        obtain ⟨a, rfl, cl⟩ := lx.dct
        have ey := keyD_rep ly hk
        subst ey
        cases cl with
        | dct h r =>
          obtain ⟨v, h1, h2⟩ := ks_find r e1
          exact .inr ⟨a, v, rfl, by rw [← h1]; exact .inl ⟨_, _, h, rfl, rfl⟩, q _ H .refl h2⟩
        | dtp h r =>
          obtain ⟨z1, z2⟩ := tz_keys r hall
          subst z1 z2
          cases e1
      · cases e1
    · cases e1
  · cases e1
theorem sub_ok {a b : Expr} {f g : Env → R Ar} (hu : X.A.units + 1 < cLine) (ha : AOk G X a f) (hb : AOk G X b g) (hs : PlainIx b) : EOk G X (.Subscript a b pos) (twoF ixR f g) := by
  intro W tk
  refine peImp (pe_ix (ix_sp (G := G) hu) (ha W tk) (hb W tk) hs) ?_
  rintro σ H Q ⟨ρ, F, s, p⟩
  exact two_ok s p
end
end DI

set_option Elab.async false
set_option linter.all false
set_option maxRecDepth 100000
set_option maxHeartbeats 4000000
namespace DI
open PySem L2
/-! ## Calls of defs: the caller's and the callee's states -/
section
variable {K : PySem.W.Frag} {G : Gx} {ρ : Env} {F F' : FS} {σ : Sg} {H H' : Hp}
/-- an argument whose value is frozen, or a slot's -/
def ArZ (K : PySem.W.Frag) (G : Gx) (F : FS) (σ : Sg) (H : Hp) (v : V) : Ar → Prop
  | .val d _ => Rep K G F H v d
  | .slot i => σ[i]? = some (some v)
  | .io i => σ[i]? = some (some v)
theorem arZ_ext (x : Ext F H F' H) : ∀ {vs : List V} {as : List Ar}, Paired (ArZ K G F σ H) vs as → Paired (ArZ K G F' σ H) vs as
  | _, _, .nil => .nil
  | _, _, .cons (b := a) h t => .cons (by cases a <;> first | exact Rep.ext x h | exact h) (arZ_ext x t)
theorem freeze_args : ∀ {as : List Ar} {vs : List V} {F : FS} {ρ₀ : Env} {F₀ : FS} {σ₀ : Sg} {H₀ : Hp}, StOk K G ρ F σ H → Stp ρ₀ F₀ σ₀ H₀ ρ F σ H → Paired (ArOk K G ρ F σ H) vs as → Paired (ArFr ρ₀ σ₀ H₀) vs as →
    ∃ F', StOk K G ρ F' σ H ∧ Stp ρ₀ F₀ σ₀ H₀ ρ F' σ H ∧ Ext F H F' H ∧ Paired (ArZ K G F' σ H) vs as
  | [], _, F, ρ₀, F₀, σ₀, H₀, s, x, .nil, _ => ⟨F, s, x, .refl, .nil⟩
  | .slot i :: as, _, F, ρ₀, F₀, σ₀, H₀, s, x, .cons h t, .cons _ tf => by
    obtain ⟨F1, s1, x1, y1, r1⟩ := freeze_args s x t tf
    exact ⟨F1, s1, x1, y1, .cons h r1⟩
  | .io i :: as, _, F, ρ₀, F₀, σ₀, H₀, s, x, .cons h t, .cons _ tf => by
    obtain ⟨F1, s1, x1, y1, r1⟩ := freeze_args s x t tf
    exact ⟨F1, s1, x1, y1, .cons h r1⟩
  | .val d m :: as, _, F, ρ₀, F₀, σ₀, H₀, s, x, .cons (a := v) h t, .cons hf tf => by
    obtain ⟨F1, s1, x1, y1, r1⟩ := freeze_args s x t tf
    cases m with
    | sh => exact ⟨F1, s1, x1, y1, .cons (Rep.ext y1 h) r1⟩
    | fr =>
      obtain ⟨a, e2, nf, nh, c⟩ := h
      subst e2
      obtain ⟨s2, r2⟩ := s1.freeze nh (c.ext' y1 fun _ q => q)
      have y2 : Ext F1 H (fun b => F1 b ∨ b = a) H := ⟨fun _ z => .inl z, fun _ _ _ z _ => z, fun _ _ _ z => .inl z, fun _ _ z => z, fun _ _ _ z => z⟩
      exact ⟨_, s2, x1.freeze (hf a rfl), y1.trans y2, .cons r2 (arZ_ext y2 r1)⟩
theorem paired_get {α β : Type} {R : α → β → Prop} : ∀ {l₁ : List α} {l₂ : List β}, Paired R l₁ l₂ → ∀ {j : Nat} {b : β}, l₂[j]? = some b → ∃ a, l₁[j]? = some a ∧ R a b
  | _, _, .nil, j, b, e => by simp at e
  | _, _, .cons h t, 0, b, e => by simp at e; subst e; exact ⟨_, rfl, h⟩
  | _, _, .cons h t, j + 1, b, e => by
    obtain ⟨a, h1, h2⟩ := paired_get t (j := j) (b := b) (by simpa using e)
    exact ⟨a, by simpa using h1, h2⟩
theorem ioArgs_get : ∀ {ars : List Ar} {ss : List Sl}, ioArgs ρ ars = some ss → ss.length = ars.length ∧ ∀ {j : Nat} {s : Sl}, ss[j]? = some s → ∃ a, ars[j]? = some a ∧ ioArg ρ a = some s
  | [], ss, e => by cases e; exact ⟨rfl, fun h => by simp at h⟩
  | a :: r, ss, e => by
    rw [ioArgs] at e
    obtain ⟨s, e1, e2⟩ := Option.bind_eq_some_iff.mp e
    obtain ⟨ts, e3, rfl⟩ := Option.map_eq_some_iff.mp e2
    obtain ⟨h1, h2⟩ := ioArgs_get e3
    refine ⟨by simp [h1], fun {j t} h => ?_⟩
    cases j with
    | zero => simp at h; subst h; exact ⟨a, rfl, e1⟩
    | succ j =>
      obtain ⟨b, h3, h4⟩ := h2 (j := j) (s := t) (by simpa using h)
      exact ⟨b, by simpa using h3, h4⟩
/-- a slot that is handed on otherwise than shared is held -/
theorem ioArg_held {a : Ar} {s : Sl} (e : ioArg ρ a = some s) (n : s.m ≠ .sh) : ∃ i t, hold1 ρ a = some i ∧ ρ[i]? = some (some t) ∧ t.m ≠ .sh ∧ t.d = s.d ∧ (a = .slot i ∨ a = .io i) ∧ (s.m = .io → a = .io i ∧ (t.m = .ow ∨ t.m = .io)) := by
  cases a with
  | val d m => cases e; exact absurd rfl n
  | slot i =>
    obtain ⟨t, e1, e2⟩ := Option.map_eq_some_iff.mp e
    have e3 := gS_some e1
    obtain ⟨m, d⟩ := t
    cases m with
    | sh => dsimp only at e2; subst e2; exact absurd rfl n
    | ow => dsimp only at e2; subst e2; exact ⟨i, _, by simp [hold1, e1], e3, by simp, rfl, .inl rfl, fun z => by cases z⟩
    | io => dsimp only at e2; subst e2; exact ⟨i, _, by simp [hold1, e1], e3, by simp, rfl, .inl rfl, fun z => by cases z⟩
    | bo => dsimp only at e2; subst e2; exact ⟨i, _, by simp [hold1, e1], e3, by simp, rfl, .inl rfl, fun z => by cases z⟩
  | io i =>
    obtain ⟨t, e1, e2⟩ := Option.bind_eq_some_iff.mp e
    have e3 := gS_some e1
    obtain ⟨m, d⟩ := t
    cases m with
    | sh => cases e2
    | ow => cases e2; exact ⟨i, _, rfl, e3, by simp, rfl, .inr rfl, fun _ => ⟨rfl, .inl rfl⟩⟩
    | io => cases e2; exact ⟨i, _, rfl, e3, by simp, rfl, .inr rfl, fun _ => ⟨rfl, .inr rfl⟩⟩
    | bo => cases e2
theorem holds_mem {i : Nat} : ∀ {ars : List Ar} {k : Nat} {b : Ar}, ars[k]? = some b → hold1 ρ b = some i → i ∈ holds ρ ars
  | [], k, b, e, _ => by simp at e
  | a :: r, 0, b, e, h => by
    simp at e; subst e
    rw [holds, h]; exact List.mem_cons_self
  | a :: r, k + 1, b, e, h => by
    have := holds_mem (ars := r) (k := k) (by simpa using e) h
    rw [holds]
    split
    · exact List.mem_cons_of_mem _ this
    · exact this
theorem holds_apart : ∀ {ars : List Ar}, nodupN (holds ρ ars) = true → ∀ {j k : Nat} {a b : Ar} {i : Nat}, j < k → ars[j]? = some a → ars[k]? = some b → hold1 ρ a = some i → hold1 ρ b = some i → False
  | [], _, j, k, a, b, i, _, e, _, _, _ => by simp at e
  | c :: r, nd, 0, k + 1, a, b, i, _, e1, e2, h1, h2 => by
    simp at e1; subst e1
    rw [holds, h1] at nd
    dsimp only at nd
    rw [nodupN, Bool.and_eq_true] at nd
    have := holds_mem (ars := r) (k := k) (by simpa using e2) h2
    simp [this] at nd
  | c :: r, nd, j + 1, k + 1, a, b, i, lt, e1, e2, h1, h2 => by
    have nd' : nodupN (holds ρ r) = true := by
      rw [holds] at nd
      split at nd
      · rw [nodupN, Bool.and_eq_true] at nd; exact nd.2
      · exact nd
    exact holds_apart nd' (j := j) (k := k) (by omega) (by simpa using e1) (by simpa using e2) h1 h2

theorem vs_at {vs : List V} {j : Nat} {v : V} : (vs.map some)[j]? = some (some v) ↔ vs[j]? = some v := by
  rw [List.getElem?_map]
  cases vs[j]? <;> simp
theorem args_st {ars : List Ar} {ss : List Sl} {vs : List V} (s : StOk K G ρ F σ H) (z : Paired (ArZ K G F σ H) vs ars) (e : ioArgs ρ ars = some ss) (nd : nodupN (holds ρ ars) = true) :
    StOk K G (ss.map some) F (vs.map some) H ∧ ∀ a, Own (ss.map some) (vs.map some) a → ∃ (j i : Nat) (t : Sl), ars[j]? = some (.io i) ∧ vs[j]? = some (.ref a) ∧ ρ[i]? = some (some t) ∧ (t.m = .ow ∨ t.m = .io) ∧ σ[i]? = some (some (.ref a)) := by
  obtain ⟨hl, hg⟩ := ioArgs_get e
  have at_ : ∀ {j : Nat} {sl : Sl}, (ss.map some)[j]? = some (some sl) → ∃ a v, ars[j]? = some a ∧ vs[j]? = some v ∧ ioArg ρ a = some sl ∧ ArZ K G F σ H v a := by
    intro j sl h
    have h' : ss[j]? = some sl := by rw [List.getElem?_map] at h; cases q : ss[j]? with
      | none => rw [q] at h; cases h
      | some x => rw [q] at h; cases h; rfl
    obtain ⟨a, h1, h2⟩ := hg h'
    obtain ⟨v, h3, h4⟩ := paired_get z h1
    exact ⟨a, v, h1, h3, h2, h4⟩
  have held : ∀ {j : Nat} {sl : Sl} {b : Addr}, (ss.map some)[j]? = some (some sl) → sl.m ≠ .sh → (vs.map some)[j]? = some (some (.ref b)) → ∃ (a : Ar) (i : Nat) (t : Sl), ars[j]? = some a ∧ hold1 ρ a = some i ∧ ρ[i]? = some (some t) ∧ t.m ≠ .sh ∧ σ[i]? = some (some (.ref b)) ∧ (sl.m = .io → a = .io i ∧ (t.m = .ow ∨ t.m = .io)) := by
    intro j sl b h n hv
    obtain ⟨a, v, h1, h2, h3, h4⟩ := at_ h
    rw [vs_at, h2] at hv
    cases hv
    obtain ⟨i, t, e1, e2, e3, e4, e5, e6⟩ := ioArg_held h3 n
    refine ⟨a, i, t, h1, e1, e2, e3, ?_, e6⟩
    rcases e5 with e5 | e5 <;> subst e5 <;> exact h4
  refine ⟨⟨by simp [hl, z.length], fun j sl h => ?_, fun j k sl tl b ne h1 h2 n1 n2 g1 g2 => ?_, s.dom⟩, fun b ⟨j, sl, h1, h2, h3⟩ => ?_⟩
  · obtain ⟨a, v, h1, h2, h3, h4⟩ := at_ h
    refine ⟨v, vs_at.mpr h2, ?_⟩
    by_cases n : sl.m = .sh
    · obtain ⟨m, d⟩ := sl
      dsimp only at n
      subst n
      show Rep K G F H v d
      cases a with
      | val d' m => cases h3; exact h4
      | slot i =>
        obtain ⟨t, e1, e2⟩ := Option.map_eq_some_iff.mp h3
        obtain ⟨m, d''⟩ := t
        cases m <;> dsimp only at e2 <;> cases e2
        obtain ⟨u, g1, g2⟩ := s.val i _ (gS_some e1)
        have h4' : σ[i]? = some (some v) := h4
        rw [h4'] at g1; cases g1
        exact g2
      | io i =>
        obtain ⟨t, e1, e2⟩ := Option.bind_eq_some_iff.mp h3
        obtain ⟨m, d''⟩ := t
        cases m <;> cases e2
    · obtain ⟨i, t, e1, e2, e3, e4, e5, e6⟩ := ioArg_held h3 n
      have h4' : σ[i]? = some (some v) := by rcases e5 with e5 | e5 <;> subst e5 <;> exact h4
      obtain ⟨u, g1, g2⟩ := s.val i t e2
      rw [h4'] at g1; cases g1
      obtain ⟨m, d⟩ := sl
      obtain ⟨m', d'⟩ := t
      dsimp only at n e3 e4
      subst e4
      have c : ∃ a, v = .ref a ∧ ¬ F a ∧ Cell K G F H a d' := by cases m' <;> first | exact absurd rfl e3 | exact g2
      cases m <;> first | exact absurd rfl n | exact c
  · obtain ⟨a, i, t, q1, q2, q3, q4, q5, _⟩ := held h1 n1 g1
    obtain ⟨a', i', t', r1, r2, r3, r4, r5, _⟩ := held h2 n2 g2
    by_cases ei : i = i'
    · subst ei
      rcases Nat.lt_or_gt_of_ne ne with lt | lt
      · exact holds_apart nd lt q1 r1 q2 r2
      · exact holds_apart nd lt r1 q1 r2 q2
    · exact s.sep i i' t t' b ei q3 r3 q4 r4 q5 r5
  · have n : sl.m ≠ .sh := by rcases h2 with h2 | h2 <;> rw [h2] <;> decide
    obtain ⟨a, i, t, q1, q2, q3, q4, q5, q6⟩ := held h1 n h3
    obtain ⟨a', v, p1, p2, p3, p4⟩ := at_ h1
    rw [q1] at p1; cases p1
    have hv := vs_at.mp h3
    rw [p2] at hv
    have io : sl.m = .io := by
      rcases h2 with h2 | h2
      · exfalso
        cases a with
        | val d m => cases p3; cases h2
        | slot i =>
          obtain ⟨t, e1, e2⟩ := Option.map_eq_some_iff.mp p3
          obtain ⟨m, d''⟩ := t
          cases m <;> dsimp only at e2 <;> subst e2 <;> cases h2
        | io i =>
          obtain ⟨t, e1, e2⟩ := Option.bind_eq_some_iff.mp p3
          obtain ⟨m, d''⟩ := t
          cases m <;> cases e2 <;> cases h2
      · exact h2
    obtain ⟨rfl, q7⟩ := q6 io
    refine ⟨j, i, t, q1, ?_, q3, q7, q5⟩
    rw [p2]; exact hv
/-- what the caller's slots are behind the call -/
theorem back_spec : ∀ {ars : List Ar} {outs : Env} {i : Nat} {s' : Sl}, outs.length = ars.length → (∀ {j k : Nat}, ars[j]? = some (.io k) → (∃ t : Sl, ρ[k]? = some (some t)) ∧ ∃ so : Sl, outs[j]? = some (some so)) → (back ρ ars outs)[i]? = some (some s') →
    (ρ[i]? = some (some s') ∧ ∀ j : Nat, ars[j]? ≠ some (.io i)) ∨ ∃ (j : Nat) (t so : Sl), ars[j]? = some (.io i) ∧ ρ[i]? = some (some t) ∧ outs[j]? = some (some so) ∧ s' = ⟨t.m, so.d⟩
  | [], outs, i, s', hl, _, h => by
    have : back ρ [] outs = ρ := by cases outs <;> rfl
    rw [this] at h
    exact .inl ⟨h, fun j => by simp⟩
  | a :: r, [], i, s', hl, _, h => by simp at hl
  | a :: r, o :: os, i, s', hl, hs, h => by
    have hl' : os.length = r.length := by simpa using hl
    have hs' : ∀ {j k : Nat}, r[j]? = some (.io k) → (∃ t : Sl, ρ[k]? = some (some t)) ∧ ∃ so : Sl, os[j]? = some (some so) := fun {j k} e => by
      have := hs (j := j + 1) (k := k) (by simpa using e)
      simpa using this
    have lift : (back ρ r os)[i]? = some (some s') → (∀ k, a = .io k → k ≠ i) → (ρ[i]? = some (some s') ∧ ∀ j : Nat, (a :: r)[j]? ≠ some (.io i)) ∨ ∃ (j : Nat) (t so : Sl), (a :: r)[j]? = some (.io i) ∧ ρ[i]? = some (some t) ∧ (o :: os)[j]? = some (some so) ∧ s' = ⟨t.m, so.d⟩ := fun h ne => by
      rcases back_spec hl' hs' h with ⟨h1, h2⟩ | ⟨j, t, so, h1, h2, h3, h4⟩
      · refine .inl ⟨h1, fun j => ?_⟩
        cases j with
        | zero => intro e; simp at e; exact ne i e rfl
        | succ j => simpa using h2 j
      · exact .inr ⟨j + 1, t, so, by simpa using h1, h2, by simpa using h3, h4⟩
    cases a with
    | val d m => exact lift h fun k e => nomatch e
    | slot k => exact lift h fun k e => nomatch e
    | io k =>
      obtain ⟨⟨t, ht⟩, so, hso⟩ := hs (j := 0) (k := k) rfl
      simp at hso
      subst hso
      have e : back ρ (.io k :: r) (some so :: os) = (back ρ r os).set k (some ⟨t.m, so.d⟩) := by
        show (match gS ρ k, (some so : Option Sl) with | some ⟨m, _⟩, some s => (back ρ r os).set k (some ⟨m, s.d⟩) | _, _ => back ρ r os) = _
        rw [gS_of ht]
      rw [e] at h
      by_cases c : k = i
      · subst c
        by_cases hk : k < (back ρ r os).length
        · rw [List.getElem?_set_self hk] at h
          cases h
          exact .inr ⟨0, t, so, rfl, ht, rfl, rfl⟩
        · rw [List.getElem?_eq_none (by simpa using hk)] at h; cases h
      · rw [List.getElem?_set_ne c] at h
        exact lift h fun k' e' => by cases e'; exact c
theorem back_len : ∀ {ars : List Ar} {outs : Env}, (back ρ ars outs).length = ρ.length
  | [], outs => by cases outs <;> rfl
  | .val _ _ :: r, [] => rfl
  | .slot _ :: r, [] => rfl
  | .io _ :: r, [] => rfl
  | .val _ _ :: r, o :: os => back_len (ars := r) (outs := os)
  | .slot _ :: r, o :: os => back_len (ars := r) (outs := os)
  | .io i :: r, o :: os => by
    show (match gS ρ i, o with | some ⟨m, _⟩, some s => (back ρ r os).set i (some ⟨m, s.d⟩) | _, _ => back ρ r os).length = _
    split
    · rw [List.length_set]; exact back_len
    · exact back_len
theorem back_take : ∀ (ars : List Ar) (outs : Env), back ρ ars (outs.take ars.length) = back ρ ars outs
  | [], outs => by cases outs <;> rfl
  | .val _ _ :: r, [] => rfl
  | .slot _ :: r, [] => rfl
  | .io _ :: r, [] => rfl
  | .val _ _ :: r, o :: os => back_take r os
  | .slot _ :: r, o :: os => back_take r os
  | .io i :: r, o :: os => by
    show (match gS ρ i, o with | some ⟨m, _⟩, some s => (back ρ r (os.take r.length)).set i (some ⟨m, s.d⟩) | _, _ => back ρ r (os.take r.length)) = (match gS ρ i, o with | some ⟨m, _⟩, some s => (back ρ r os).set i (some ⟨m, s.d⟩) | _, _ => back ρ r os)
    rw [back_take r os]
/-- a slot that was held before the call is held behind it -/
theorem back_get : ∀ {ars : List Ar} {outs : Env} {i : Nat} {t : Sl}, ρ[i]? = some (some t) → ∃ t', (back ρ ars outs)[i]? = some (some t') ∧ t'.m = t.m
  | [], outs, i, t, h => ⟨t, by cases outs <;> exact h, rfl⟩
  | .val _ _ :: r, [], i, t, h => ⟨t, h, rfl⟩
  | .slot _ :: r, [], i, t, h => ⟨t, h, rfl⟩
  | .io _ :: r, [], i, t, h => ⟨t, h, rfl⟩
  | .val _ _ :: r, o :: os, i, t, h => back_get (ars := r) (outs := os) h
  | .slot _ :: r, o :: os, i, t, h => back_get (ars := r) (outs := os) h
  | .io k :: r, o :: os, i, t, h => by
    obtain ⟨t1, h1, e1⟩ := back_get (ars := r) (outs := os) h
    show ∃ t' : Sl, (match gS ρ k, o with | some ⟨m, _⟩, some s => (back ρ r os).set k (some ⟨m, s.d⟩) | _, _ => back ρ r os)[i]? = some (some t') ∧ t'.m = t.m
    split
    · rename_i m d s hk
      by_cases c : k = i
      · subst c
        have hl := (List.getElem?_eq_some_iff.mp h1).1
        rw [gS_of h] at hk
        cases hk
        exact ⟨_, List.getElem?_set_self hl, rfl⟩
      · exact ⟨t1, by rw [List.getElem?_set_ne c]; exact h1, e1⟩
    · exact ⟨t1, h1, e1⟩
theorem behind {ars : List Ar} {ss : List Sl} {vs : List V} {outs : Env} (s : StOk K G ρ F σ H) (z : Paired (ArZ K G F σ H) vs ars) (e : ioArgs ρ ars = some ss) (nd : nodupN (holds ρ ars) = true) {es : List Sl} {us : List V}
    (sa : StOk K G ((ss ++ es).map some) F ((vs ++ us).map some) H) (hes : ∀ t ∈ es, t.m = .sh) (x : Stp ((ss ++ es).map some) F ((vs ++ us).map some) H outs F' ((vs ++ us).map some) H') (so : StOk K G outs F' ((vs ++ us).map some) H') :
    StOk K G (back ρ ars (outs.take ars.length)) F' σ H' ∧ Stp ρ F σ H (back ρ ars (outs.take ars.length)) F' σ H' ∧
      ∀ v d m, ValOk K G outs F' ((vs ++ us).map some) H' v d m → (m = .fr → ∀ b, v = .ref b → Fresh ((ss ++ es).map some) ((vs ++ us).map some) H b) → ValOk K G (back ρ ars (outs.take ars.length)) F' σ H' v d m ∧ (m = .fr → ∀ b, v = .ref b → Fresh ρ σ H b) := by
  obtain ⟨hl, hg⟩ := ioArgs_get e
  have hvl : vs.length = ars.length := z.length
  have hol : (outs.take ars.length).length = ars.length := by
    have h1 : outs.length = (vs ++ us).length := by have := so.len; simpa using this
    rw [List.length_take, h1, List.length_append, hvl]; omega
  obtain ⟨_, hown⟩ := args_st s z e nd
  -- an owned place of the callee's is an argument that may be changed
  have own' : ∀ a, Own ((ss ++ es).map some) ((vs ++ us).map some) a → Own (ss.map some) (vs.map some) a := fun a ⟨j, sl, h1, h2, h3⟩ => by
    by_cases hj : j < ss.length
    · refine ⟨j, sl, ?_, h2, ?_⟩
      · rw [List.map_append, List.getElem?_append_left (by simpa using hj)] at h1; exact h1
      · rw [List.map_append, List.getElem?_append_left (by simp; omega)] at h3; exact h3
    · rw [List.map_append, List.getElem?_append_right (by simpa using hj), List.getElem?_map] at h1
      cases q : es[j - (ss.map some).length]? with
      | none => rw [q] at h1; cases h1
      | some t =>
        rw [q] at h1; cases h1
        have := hes _ (List.mem_of_getElem? q)
        rw [this] at h2; rcases h2 with h2 | h2 <;> cases h2
  have hio : ∀ a, Own ((ss ++ es).map some) ((vs ++ us).map some) a → ∃ (j i : Nat) (t : Sl), ars[j]? = some (.io i) ∧ vs[j]? = some (.ref a) ∧ ρ[i]? = some (some t) ∧ (t.m = .ow ∨ t.m = .io) ∧ σ[i]? = some (some (.ref a)) := fun a h => hown a (own' a h)
  -- the outs of such arguments
  have houts : ∀ {j k : Nat}, ars[j]? = some (.io k) → (∃ t : Sl, ρ[k]? = some (some t)) ∧ ∃ so : Sl, (outs.take ars.length)[j]? = some (some so) := fun {j k} h => by
    have hj : j < ars.length := (List.getElem?_eq_some_iff.mp h).1
    have hjs : j < ss.length := by omega
    obtain ⟨sj, hsj⟩ : ∃ sj : Sl, ss[j]? = some sj := ⟨_, List.getElem?_eq_getElem hjs⟩
    obtain ⟨a, h1, h2⟩ := hg hsj
    rw [h] at h1; cases h1
    obtain ⟨t, e1, e2⟩ := Option.bind_eq_some_iff.mp h2
    have m : sj.m = .io := by
      obtain ⟨m, d⟩ := t
      cases m <;> cases e2 <;> rfl
    have hk : ((ss ++ es).map some)[j]? = some (some sj) := by
      rw [List.map_append, List.getElem?_append_left (by simpa using hjs), List.getElem?_map, hsj]; rfl
    obtain ⟨_, s', h3, _⟩ := x.io j _ hk (.inl m)
    exact ⟨⟨t, gS_some e1⟩, s', by rw [List.getElem?_take_of_lt hj]; exact h3⟩
  have spec := fun {i : Nat} {s' : Sl} (h : (back ρ ars (outs.take ars.length))[i]? = some (some s')) => back_spec hol houts h
  have ex := x.ext sa
  -- the argument's place
  have place : ∀ {j i : Nat}, ars[j]? = some (.io i) → ∃ v, vs[j]? = some v ∧ σ[i]? = some (some v) := fun {j i} h => by
    obtain ⟨v, h1, h2⟩ := paired_get z h
    exact ⟨v, h1, h2⟩
  have heldOld : ∀ a, Held (back ρ ars (outs.take ars.length)) σ a → Held ρ σ a := fun a ⟨i, s', h1, h2, h3⟩ => by
    rcases spec h1 with ⟨h4, _⟩ | ⟨j, t, so', h4, h5, h6, h7⟩
    · exact ⟨i, s', h4, h2, h3⟩
    · subst h7; exact ⟨i, t, h5, h2, h3⟩
  have notIn : ∀ a, Held ρ σ a → ¬ Own ((ss ++ es).map some) ((vs ++ us).map some) a → ¬ F' a := fun a h no f => by
    rcases x.fnew a f with q | q | q
    · exact s.notF h q
    · obtain ⟨d, c⟩ := s.heldCell h
      obtain ⟨o, q', _⟩ := c.there
      rw [q] at q'; cases q'
    · exact no q
  refine ⟨⟨by rw [back_len]; exact s.len, fun i s' h => ?_, fun i k s1 s2 a ne h1 h2 n1 n2 h3 h4 => ?_, so.dom⟩, ⟨x.fr, fun a o h no n => x.keep a o h (fun q => ?_) n, fun a es f no h => x.kd a es f (fun q => by obtain ⟨j, i', t, p1, p2, p3, p4, p5⟩ := hio a q; exact no ⟨i', t, p3, p4, p5⟩) h, fun a f => ?_, fun a h => .inl (heldOld a h), fun a ⟨i, s', h1, h2, h3⟩ => ?_, fun i t h m => ?_⟩, fun v d m ok fr => ?_⟩
  · rcases spec h with ⟨h1, h2⟩ | ⟨j, t, so', h1, h2, h3, h4⟩
    · obtain ⟨v, g1, g2⟩ := s.val i s' h1
      refine ⟨v, g1, g2.ext ex (fun a ev n => ?_) fun a o ev n q => x.keep a o q (fun ow => ?_) fun f => (s.notF ⟨i, s', h1, n, by rw [g1, ev]⟩ f).elim⟩
      · refine notIn a ⟨i, s', h1, n, by rw [g1, ev]⟩ fun ow => ?_
        obtain ⟨j, i', t, p1, p2, p3, p4, p5⟩ := hio a ow
        by_cases c : i = i'
        · subst c; exact h2 j p1
        · exact s.sep i i' s' t a c h1 p3 n (by rcases p4 with p4 | p4 <;> rw [p4] <;> decide) (by rw [g1, ev]) p5
      · obtain ⟨j, i', t, p1, p2, p3, p4, p5⟩ := hio a ow
        by_cases c : i = i'
        · subst c; exact h2 j p1
        · exact s.sep i i' s' t a c h1 p3 n (by rcases p4 with p4 | p4 <;> rw [p4] <;> decide) (by rw [g1, ev]) p5
    · subst h4
      have hj : j < ars.length := (List.getElem?_eq_some_iff.mp h1).1
      rw [List.getElem?_take_of_lt hj] at h3
      obtain ⟨v, g1, g2⟩ := place h1
      have hjs : j < ss.length := by omega
      obtain ⟨sj, hsj⟩ : ∃ sj : Sl, ss[j]? = some sj := ⟨_, List.getElem?_eq_getElem hjs⟩
      obtain ⟨a, q1, q2⟩ := hg hsj
      rw [h1] at q1; cases q1
      obtain ⟨t', e1, e2⟩ := Option.bind_eq_some_iff.mp q2
      have et : t' = t := by have := gS_some e1; rw [h2] at this; cases this; rfl
      subst et
      have m : sj.m = .io ∧ (t'.m = .ow ∨ t'.m = .io) := by
        obtain ⟨m, d⟩ := t'
        cases m <;> cases e2 <;> simp
      have hk : ((ss ++ es).map some)[j]? = some (some sj) := by
        rw [List.map_append, List.getElem?_append_left (by simpa using hjs), List.getElem?_map, hsj]; rfl
      obtain ⟨_, s2, h5, m2⟩ := x.io j _ hk (.inl m.1)
      rw [h3] at h5; cases h5
      obtain ⟨u, g3, g4⟩ := so.val j _ h3
      have hvj : ((vs ++ us).map some)[j]? = some (some v) := by
        rw [List.map_append, List.getElem?_append_left (by simp; omega)]; exact vs_at.mpr g1
      rw [hvj] at g3; cases g3
      refine ⟨v, g2, ?_⟩
      obtain ⟨sm, sd⟩ := so'
      dsimp only at m2
      obtain ⟨tm, td⟩ := t'
      have cc : ∃ a, v = .ref a ∧ ¬ F' a ∧ Cell K G F' H' a sd := by
        rcases m2 with m2 | ⟨_, m2⟩ <;> (subst m2; exact g4)
      rcases m.2 with m3 | m3 <;> (dsimp only at m3; subst m3; exact cc)
  · have old : ∀ {i : Nat} {s1 : Sl}, (back ρ ars (outs.take ars.length))[i]? = some (some s1) → s1.m ≠ .sh → ∃ t, ρ[i]? = some (some t) ∧ t.m ≠ .sh := fun {i s1} h n => by
      rcases spec h with ⟨h4, _⟩ | ⟨j, t, so', h4, h5, h6, h7⟩
      · exact ⟨s1, h4, n⟩
      · subst h7; exact ⟨t, h5, n⟩
    obtain ⟨t1, q1, r1⟩ := old h1 n1
    obtain ⟨t2, q2, r2⟩ := old h2 n2
    exact s.sep i k t1 t2 a ne q1 q2 r1 r2 h3 h4
  · obtain ⟨j, i', t, p1, p2, p3, p4, p5⟩ := hio a q
    exact no ⟨i', t, p3, p4, p5⟩
  · rcases x.fnew a f with q | q | q
    · exact .inl q
    · exact .inr (.inl q)
    · obtain ⟨j, i', t, p1, p2, p3, p4, p5⟩ := hio a q
      exact .inr (.inr ⟨i', t, p3, p4, p5⟩)
  · refine .inl ?_
    rcases spec h1 with ⟨h4, _⟩ | ⟨j, t, so', h4, h5, h6, h7⟩
    · exact ⟨i, s', h4, h2, h3⟩
    · subst h7; exact ⟨i, t, h5, h2, h3⟩
  · obtain ⟨t', h1, h2⟩ := back_get (ars := ars) (outs := outs.take ars.length) h
    exact ⟨rfl, t', h1, m.elim (fun z => .inr ⟨z, h2.trans z⟩) fun z => .inl (h2.trans z)⟩
  · cases m with
    | sh => exact ⟨ok, fun z => nomatch z⟩
    | fr =>
      obtain ⟨a, ev, nf, nh, c⟩ := ok
      subst ev
      have fa := fr rfl a rfl
      have notOwn : ¬ Own ((ss ++ es).map some) ((vs ++ us).map some) a := fun ow => by
        obtain ⟨j, sl, h1, h2, h3⟩ := own' a ow
        have hj : j < ss.length := by have := (List.getElem?_eq_some_iff.mp h1).1; simpa using this
        have hk : ((ss ++ es).map some)[j]? = some (some sl) := by rw [List.map_append, List.getElem?_append_left (by simpa using hj)]; exact h1
        have hv : ((vs ++ us).map some)[j]? = some (some (.ref a)) := by rw [List.map_append, List.getElem?_append_left (by simp; omega)]; exact h3
        have io : sl.m = .io := by
          have h1' : ss[j]? = some sl := by rw [List.getElem?_map] at h1; cases q : ss[j]? with
            | none => rw [q] at h1; cases h1
            | some y => rw [q] at h1; cases h1; rfl
          obtain ⟨b, p1, p2⟩ := hg h1'
          rcases h2 with h2 | h2
          · exfalso
            cases b with
            | val d m => cases p2; cases h2
            | slot i =>
              obtain ⟨t, e1, e2⟩ := Option.map_eq_some_iff.mp p2
              obtain ⟨m, d''⟩ := t
              cases m <;> dsimp only at e2 <;> subst e2 <;> cases h2
            | io i =>
              obtain ⟨t, e1, e2⟩ := Option.bind_eq_some_iff.mp p2
              obtain ⟨m, d''⟩ := t
              cases m <;> cases e2 <;> cases h2
          · exact h2
        obtain ⟨_, s', h4, h5⟩ := x.io j sl hk (.inl io)
        exact nh ⟨j, s', h4, by rcases h5 with h5 | ⟨_, h5⟩ <;> rw [h5] <;> exact (fun z => nomatch z), hv⟩
      have na : H a = none := by
        rcases fa with q | q
        · exact q
        · exact absurd q notOwn
      refine ⟨⟨a, rfl, nf, fun h => ?_, c⟩, fun _ b eb => by cases eb; exact .inl na⟩
      obtain ⟨d', c'⟩ := s.heldCell (heldOld a h)
      obtain ⟨o, q, _⟩ := c'.there
      rw [na] at q; cases q
end
end DI

set_option Elab.async false
set_option linter.all false
set_option maxRecDepth 100000
set_option maxHeartbeats 4000000
namespace DI
open PySem PySem.Spec L2 PyProof.Rows
/-! ## What a def promises; calls -/
section
variable (K : PySem.W.Frag) (G : Gx)
/-- a call's end, seen from the callee's frame of arguments -/
def PostC (ss : Env) (F : FS) (vs : Sg) (H : Hp) (r : CR) (Q : VK) (E : XK) : Prop :=
  match r with
  | .ok d m outs => ∀ v F' H', Stp ss F vs H outs F' vs H' → StOk K G outs F' vs H' → ValOk K G outs F' vs H' v d m → (m = .fr → ∀ b, v = .ref b → Fresh ss vs H b) → Q v H'
  | .ex e outs => ∀ cls dx F' H', Stp ss F vs H outs F' vs H' → StOk K G outs F' vs H' → ExOk K G F' H' cls dx e → E cls dx H'
  | .no => False
def spR (cl : List Sl → CR) : Sp := fun vs H Q E => ∃ ss F, StOk K G (ss.map some) F (vs.map some) H ∧ PostC K G (ss.map some) F (vs.map some) H (cl ss) Q E
end
structure FnR (P : Program) (w : World) (K : PySem.W.Frag) (mg : Str → Option Value) (base : Heap) (G : Gx) (k : Nat) (a : Addr) (fd : FuncData) (ps : List Str) (cl : List Sl → CR) : Prop where
  len : ∀ ss, ss.length ≠ ps.length → cl ss = .no
  run : ∀ (A : Around) (outer : List PySem.Env) (s : Shared) (H : Hp) (args : Args) (us : List Value) (vs : List V) (Q : VK) (E : XK), Room k A → A.guards = some [] → Env0 P w K mg base A outer s H → BindsTo s fd args (ps.zip us) → Vals vs us → spR K G cl vs H Q E →
    codeAny (model P w) A (.call (.ref a) args) (L2.CR (L2.CX P w) outer P w H s Q E) s
section
variable {K : PySem.W.Frag} {G : Gx}
theorem PostC.some {ss : Env} {F : FS} {vs : Sg} {H : Hp} {Q : VK} {E : XK} (h : PostC K G ss F vs H .no Q E) : False := h
theorem spR.len {ps : List Str} {cl : List Sl → CR} (hl : ∀ ss, ss.length ≠ ps.length → cl ss = .no) {vs : List V} {H : Hp} {Q : VK} {E : XK} (h : spR K G cl vs H Q E) : vs.length = ps.length := by
  obtain ⟨ss, F, s, p⟩ := h
  have e := s.len
  rw [List.length_map, List.length_map] at e
  rw [← e]
  by_cases c : ss.length = ps.length
  · exact c
  · rw [hl ss c] at p; exact p.elim
theorem args_more {ρ : Env} {σ : Sg} {F : FS} {H : Hp} {ds : List D} {dvs : List V} (s : StOk K G ρ F σ H) (r : Reps K G F H dvs ds) : StOk K G (ρ ++ (ds.map fun d => (⟨.sh, d⟩ : Sl)).map some) F (σ ++ dvs.map some) H := by
  have hl := s.len
  have sh : ∀ {i : Nat} {t : Sl}, (ρ ++ (ds.map fun d => (⟨.sh, d⟩ : Sl)).map some)[i]? = some (some t) → t.m ≠ .sh → i < ρ.length ∧ ρ[i]? = some (some t) := fun {i t} h n => by
    by_cases c : i < ρ.length
    · rw [List.getElem?_append_left c] at h; exact ⟨c, h⟩
    · rw [List.getElem?_append_right (by omega), List.getElem?_map, List.getElem?_map] at h
      cases q : ds[i - ρ.length]? with
      | none => rw [q] at h; cases h
      | some d => rw [q] at h; cases h; exact absurd rfl n
  have at_ : ∀ {i : Nat}, i < ρ.length → (σ ++ dvs.map some)[i]? = σ[i]? := fun {i} h => List.getElem?_append_left (by omega)
  refine ⟨by simp [hl, r.length], fun i t h => ?_, fun i j t u a ne h1 h2 n1 n2 g1 g2 => ?_, s.dom⟩
  · by_cases c : i < ρ.length
    · rw [List.getElem?_append_left c] at h
      obtain ⟨v, h1, h2⟩ := s.val i t h
      exact ⟨v, by rw [at_ c]; exact h1, h2⟩
    · rw [List.getElem?_append_right (by omega), List.getElem?_map, List.getElem?_map] at h
      cases q : ds[i - ρ.length]? with
      | none => rw [q] at h; cases h
      | some d =>
        rw [q] at h; cases h
        obtain ⟨v, h1, h2⟩ := r.get q
        refine ⟨v, ?_, h2⟩
        rw [List.getElem?_append_right (by omega), ← hl, List.getElem?_map, h1]; rfl
  · obtain ⟨c1, k1⟩ := sh h1 n1
    obtain ⟨c2, k2⟩ := sh h2 n2
    rw [at_ c1] at g1
    rw [at_ c2] at g2
    exact s.sep i j t u a ne k1 k2 n1 n2 g1 g2
end
section
variable {X : Cx} {G : Gx} {k : Nat} {a : Addr} {fd : FuncData} {ps : List Str} {cls : Nat → List Sl → CR} {f : Nat} {ds : List D} {dvs : List V} {dws : List Value} {x : Str} {p pos : Pos}
theorem run_fnG {pins : List (Addr × Obj)} {σ : L2.St} {H : Hp} {s : Shared} {Q : VK} {us : List Value} {vs : List V} {W : WX} (F : FnR X.prog X.w X.K X.mg X.base G k a fd ps (cls f)) (hr : Room k X.A) (hgd : X.A.guards = some []) (hb : Binds X.K fd ps dws) (hd : Vals dvs dws) (tk : Takes X W)
    (I : Inv X pins σ H s) (r : Vals vs us) (h : spR X.K G (cls f) (vs ++ dvs) H Q (WE W σ)) : wpAny (model X.prog X.w) X.A (call (.ref a) us) (EP X pins σ Q) X.xe s := by
  have r2 : Vals (vs ++ dvs) (us ++ dws) := r.append hd
  have hl : (us ++ dws).length = ps.length := by rw [← r2.length]; exact spR.len F.len h
  refine wpAny_call (codeAny_mono (F.run X.A X.stack s H ⟨us, []⟩ (us ++ dws) (vs ++ dvs) Q (WE W σ) hr hgd I.env0 (hb s us I.kIn hl) r2 h) fun r s' hq => ?_)
  cases r with
  | error e => exact passAt tk σ pins H s e s' I hq
  | ok fl =>
    cases fl with
    | ret u => exact I.after hq
    | next => exact False.elim hq
    | brk => exact False.elim hq
    | cont => exact False.elim hq
/-- what the caller has, for what the callee wants -/
theorem callF_sp {ars : List Ar} {W : WX} {ρ₀ ρ : Env} {F₀ F : FS} {σ : Sg} {H₀ H : Hp} {Q : VK} {vs : List V} {K : PySem.W.Frag} {cl : Nat → List Sl → CR} (s : StOk K G ρ F σ H) (x : Stp ρ₀ F₀ σ H₀ ρ F σ H) (ok : Paired (ArOk K G ρ F σ H) vs ars) (fr : Paired (ArFr ρ₀ σ H₀) vs ars)
    (hd : ∀ F H, Reps K G F H dvs ds) (p : PostG K G W ρ₀ F₀ σ H₀ (callF cl f ars ds ρ) (CV K G ρ₀ σ H₀ Q)) : spR K G (cl f) (vs ++ dvs) H Q (WE W σ) := by
  unfold callF at p
  split at p
  · rename_i ss hss
    split at p
    · rename_i nd
      obtain ⟨F1, s1, x1, y1, z1⟩ := freeze_args s x ok fr
      have sa := args_more (args_st s1 z1 hss nd).1 (hd F1 H)
      rw [← List.map_append, ← List.map_append] at sa
      refine ⟨_, F1, sa, ?_⟩
      have all : ∀ t ∈ ds.map (fun d => (⟨.sh, d⟩ : Sl)), t.m = .sh := fun t ht => by
        obtain ⟨d, _, rfl⟩ := List.mem_map.mp ht; rfl
      have hl := (ioArgs_get hss).1
      have cut : ∀ {outs : Env} {F' : FS} {H' : Hp}, StOk K G outs F' ((vs ++ dvs).map some) H' → back ρ ars (outs.take ars.length) = back ρ ars outs := fun {outs F' H'} so => back_take ars outs
      cases hr : cl f (ss ++ ds.map fun d => (⟨.sh, d⟩ : Sl)) with
      | ok d m outs =>
        rw [hr] at p
        intro v F' H' xc so vo fo
        obtain ⟨b1, b2, b3⟩ := behind s1 z1 hss nd sa all xc so
        obtain ⟨b4, b5⟩ := b3 v d m vo fo
        rw [cut so] at b1 b2 b4
        exact p F' H' (x1.trans b2) b1 v b4 fun e b eb => x1.fresh (b5 e b eb)
      | ex e outs =>
        rw [hr] at p
        intro cls dx F' H' xc so eo
        obtain ⟨b1, b2, b3⟩ := behind s1 z1 hss nd sa all xc so
        rw [cut so] at b1 b2
        exact p cls dx F' σ H' (x1.trans b2) b1 eo
      | no => rw [hr] at p; exact p.elim
    · exact p.elim
  · exact p.elim
theorem call_ok {e : Expr} {es : List Expr} {g : Env → R (List Ar)} (F : FnR X.prog X.w X.K X.mg X.base G k a fd ps (cls f)) (hr : Room k X.A) (hgd : X.A.guards = some []) (hg : Gl X x) (hm : X.mg x = some (.ref a)) (hk : PySem.W.keepIn X.K (.ref a) = true)
    (hb : Binds X.K fd ps dws) (hd : Vals dvs dws) (hds : ∀ F H, Reps X.K G F H dvs ds) (ha : AsOk G X (e :: es) g) (hdb : (x == ("__debug__" : Str)) = false)
    (he : starEach (e :: es) X.env = (false, eval e X.env) :: starEach es X.env) (hpl : (backTo pos (starEach es X.env)).any (·.1) = false) : EOk G X (.Call (.Name x p) (e :: es) [] pos) (callG cls f ds g) := by
  intro W tk
  have h : PE X (.Call (.Name x p) (e :: es) [] pos) (fun σ H Q => tAs X.K G W g σ H fun vs H1 => spR X.K G (cls f) (vs ++ dvs) H1 Q (WE W σ)) := by
    refine ⟨fun pins s σ H Q I h => ?_⟩
    refine wpAny_Call_Name_kw (ld_glob I hg hm ?_ hdb)
    refine PySem.W.callWith_K (h₀ := X.base) I.ok.mod.kin hk (thn ((ha W tk).run pos pins s σ H _ I h) fun us s1 ⟨vs, H1, I1, r, q⟩ => ⟨I1.kIn, ?_⟩) he hpl
    exact run_fnG F hr hgd hb hd tk I1 r q
  refine peImp h ?_
  rintro σ H Q ⟨ρ, F0, s, p⟩
  refine ⟨ρ, F0, s, (PostV.bind p).mono ?_⟩
  rintro ars ρ1 F1 H1 _ _ ⟨x1, s1, _, q⟩ vs ok fr
  exact callF_sp s1 x1 ok fr hds q
theorem call_ok0 (F : FnR X.prog X.w X.K X.mg X.base G k a fd ps (cls f)) (hr : Room k X.A) (hgd : X.A.guards = some []) (hg : Gl X x) (hm : X.mg x = some (.ref a)) (hk : PySem.W.keepIn X.K (.ref a) = true)
    (hb : Binds X.K fd ps dws) (hd : Vals dvs dws) (hds : ∀ F H, Reps X.K G F H dvs ds) (hdb : (x == ("__debug__" : Str)) = false) : EOk G X (.Call (.Name x p) [] [] pos) (callG cls f ds fun ρ => .ok [] ρ) := by
  intro W tk
  have h : PE X (.Call (.Name x p) [] [] pos) (fun σ H Q => spR X.K G (cls f) ([] ++ dvs) H Q (WE W σ)) := by
    refine ⟨fun pins s σ H Q I h => ?_⟩
    refine wpAny_Call_Name_kw (ld_glob I hg hm ?_ hdb)
    exact PySem.W.callWith_K0 I.kIn hk (run_fnG (us := []) F hr hgd hb hd tk I .nil h)
  refine peImp h ?_
  rintro σ H Q ⟨ρ, F0, s, p⟩
  exact callF_sp s .refl .nil .nil hds p
end
end DI

set_option Elab.async false
set_option linter.all false
set_option maxRecDepth 100000
set_option maxHeartbeats 4000000
namespace DI
open PySem PySem.Spec L2 PyProof.Rows
section
variable {G : Gx} {X : Cx} {pos : Pos}
/-! ### slices -/
def CB (K : PySem.W.Frag) (Q : Option Int → Hp → Prop) : List Ar → Env → FS → Hp → Prop := fun a ρ' F' H' => ∃ o, boundD a ρ' = some o ∧ Q o H'
def tOs (K : PySem.W.Frag) (G : Gx) (W : WX) (f : Env → R (List Ar)) : TO := fun σ H Q => ∃ ρ F, StOk K G ρ F σ H ∧ PostG K G W ρ F σ H (f ρ) (CB K Q)
def OOk (G : Gx) (X : Cx) (e : Option Expr) (f : Env → R (List Ar)) : Prop := ∀ W, Takes X W → PO X e (tOs X.K G W f)
theorem poImp {e : Option Expr} {t t' : TO} (h : PO X e t) (i : ∀ σ H Q, t' σ H Q → t σ H Q) : PO X e t' := ⟨fun pins s σ H Q I q => h.run pins s σ H Q I (i σ H Q q)⟩
theorem part_none : OOk G X none (fun ρ => .ok [] ρ) := by
  intro W tk
  refine poImp po_none ?_
  rintro σ H Q ⟨ρ, F, s, p⟩
  obtain ⟨o, e, q⟩ := p F H .refl s
  cases e
  exact q
theorem part_some {e : Expr} {f : Env → R Ar} (h : AOk G X e f) : OOk G X (some e) (consF f fun ρ => .ok [] ρ) := by
  intro W tk
  refine poImp (po_some (h W tk)) ?_
  rintro σ H Q ⟨ρ, F, s, p⟩
  refine ⟨ρ, F, s, (PostG.bind p).mono ?_⟩
  rintro a ρ1 F1 H1 _ _ ⟨x1, s1, q1, _⟩ v ok1 _
  obtain ⟨o, e1, q⟩ := q1 F1 H1 .refl s1
  have e3 : (match a.get ρ1 with | some (.int k) => some (some k) | _ => none) = some o := e1
  split at e3
  · rename_i k e2
    cases e3
    exact ⟨k, (ok1.lk s1 e2).int, q⟩
  · cases e3
def rSpS (G : Gx) (K : PySem.W.Frag) : V → Option Int → Option Int → Hp → VK → Prop := fun x lo hi H Q => ∃ F dx d m, Lk K G F H x dx ∧ sliceD dx lo hi = some (d, m) ∧ ∀ z H', Grow H H' → RV K G F H H' z d m → Q z H'
theorem slImp {r r' : V → Option Int → Option Int → Hp → VK → Prop} (h : SlR X r) (i : ∀ x lo hi H Q, r' x lo hi H Q → r x lo hi H Q) : SlR X r' :=
  fun pins s σ H x v vl vu lo hi sl Q I rx hs pl pu q => h pins s σ H x v vl vu lo hi sl Q I rx hs pl pu (i _ _ _ _ _ q)
theorem cut_reps {K : PySem.W.Frag} {F : FS} {H : Hp} {vs : List V} {ds : List D} (r : Reps K G F H vs ds) (lo hi : Option Int) : Reps K G F H (cutV vs lo hi) (cutD ds lo hi) := by
  unfold cutV cutD
  rw [r.length]
  exact (r.drop _).take _
theorem cut_all {ds : List D} {lo hi : Option Int} (h : HT.sIx ds.length 0 lo = 0 ∧ HT.sIx ds.length ds.length hi = ds.length) : cutD ds lo hi = ds := by
  unfold cutD
  rw [h.1, h.2, List.drop_zero, Nat.sub_zero, List.take_length]
theorem sl_sp : SlR X (rSpS G X.K) := by
  refine slImp (sl_list.or sl_tupA) ?_
  rintro x lo hi H Q ⟨F, dx, d, m, l, e, q⟩
  unfold sliceD at e
  split at e
  · cases e
    obtain ⟨a, vs, rfl, h, r⟩ := l.lst
    exact .inl ⟨a, vs, rfl, .of h, fun p np => q _ _ (.new np) (newL np (cut_reps r lo hi))⟩
  · cases e
    obtain ⟨a, vs, rfl, h, r⟩ := l.fz
    exact .inl ⟨a, vs, rfl, h, fun p np => q _ _ (.new np) (newL np (cut_reps r lo hi))⟩
  · cases e
    obtain ⟨a, vs, rfl, h, r⟩ := l.tup
    refine .inr ⟨a, vs, rfl, h, fun c => ?_, fun _ p np => q _ _ (.new np) (shRV (newT np (cut_reps r lo hi)))⟩
    rw [r.length] at c
    refine q _ H .refl ?_
    rw [cut_all c]
    exact l.tup_rep
  · cases e
theorem sl_ok {a : Expr} {lo hi : Option Expr} {f : Env → R Ar} {g h : Env → R (List Ar)} {p2 : Pos} (ha : AOk G X a f) (hl : OOk G X lo g) (hh : OOk G X hi h) : EOk G X (.Subscript a (.Slice lo hi none p2) pos) (slF f g h) := by
  intro W tk
  refine peImp (pe_slice (sl_sp (G := G)) (ha W tk) (hl W tk) (hh W tk)) ?_
  rintro σ H Q ⟨ρ, F, s, p⟩
  refine ⟨ρ, F, s, (PostV.bind p).mono ?_⟩
  rintro a ρ1 F1 H1 _ _ ⟨x1, s1, q1, _⟩ v ok1 _
  refine ⟨ρ1, F1, s1, (PostV.bind q1).mono ?_⟩
  rintro l ρ2 F2 H2 _ _ ⟨x2, s2, q2, _⟩
  cases e1 : boundD l ρ2 with
  | none => rw [e1] at q2; exact q2.elim
  | some lo =>
    rw [e1] at q2
    refine ⟨lo, e1, ρ2, F2, s2, (PostV.bind q2).mono ?_⟩
    rintro u ρ3 F3 H3 _ _ ⟨x3, s3, q3, _⟩
    cases e2 : a.get ρ3 with
    | none => rw [e2] at q3; exact q3.elim
    | some dx =>
      cases e3 : boundD u ρ3 with
      | none => rw [e2, e3] at q3; exact q3.elim
      | some hi =>
        rw [e2, e3] at q3
        dsimp only at q3
        obtain ⟨d, m, e⟩ := q3.some
        exact ⟨hi, e3, F3, dx, d, m, ((ok1.step s1 x2).step s2 x3).lk s3 e2, e, q3.res s3 e⟩
/-! ### builtins -/
theorem bi_core {b : Bi} {g : Env → R (List Ar)} {W : WX} {σ : Sg} {H : Hp} {Q : VK} {ρ : Env} {F : FS} (s : StOk X.K G ρ F σ H) (p : PostV X.K G W ρ F σ H (biF b g ρ) Q) : tCB (rSpL G X.K (semB b)) (tAs X.K G W g) σ H Q := by
  refine ⟨ρ, F, s, (PostV.bind p).mono ?_⟩
  rintro ars ρ1 F1 H1 _ _ ⟨x1, s1, q1, _⟩ vs ok1 _
  cases e1 : gets ρ1 ars with
  | none => rw [e1] at q1; exact q1.elim
  | some ds =>
    rw [e1] at q1
    obtain ⟨d, m, e⟩ := q1.some
    exact ⟨F1, ds, d, m, gets_lks s1 ok1 e1, e, q1.res s1 e⟩
theorem Bi.boot (b : Bi) : bootBuiltins (b.nm : Str) = some b.val := by cases b <;> decide +kernel
theorem Bi.nn (b : Bi) : (b.nm : Str) ≠ "__name__" := by cases b <;> decide
theorem Bi.nd (b : Bi) : ((b.nm : Str) == ("__debug__" : Str)) = false := by cases b <;> decide
theorem bi_ok {b : Bi} {e : Expr} {es : List Expr} {g : Env → R (List Ar)} {x : Str} {p : Pos} (hx : x = (b.nm : Str)) (hc : X.calm = true) (hgd : X.A.guards = some []) (hu : X.A.units + 64 < cLine) (hg : Gl X x) (hm : X.mg x = none) (ha : AsOk G X (e :: es) g)
    (he : starEach (e :: es) X.env = (false, eval e X.env) :: starEach es X.env) (hpl : (backTo pos (starEach es X.env)).any (·.1) = false) : EOk G X (.Call (.Name x p) (e :: es) [] pos) (biF b g) := by
  subst hx
  intro W tk
  have hs := bi_sp (G := G) hc hgd hu b
  have hb := b.boot
  have h : PE X (.Call (.Name (b.nm : Str) p) (e :: es) [] pos) (tCB (rSpL G X.K (semB b)) (tAs X.K G W g)) := by
    cases b <;> first
      | exact pe_callB hs hg hm hb (ha W tk) (by decide) (by decide) he hpl
      | exact pe_callTy hs hg hm hb (ha W tk) (by decide) (by decide) he hpl
  refine peImp h ?_
  rintro σ H Q ⟨ρ, F, s, p⟩
  exact bi_core s p
/-! ### methods -/
theorem upcell {ρ : Env} {F : FS} {σ : Sg} {H : Hp} {K : PySem.W.Frag} {i : Nat} {m : Mo} {d d' : D} {a : Addr} {o' : HO} (s : StOk K G ρ F σ H) (h : ρ[i]? = some (some ⟨m, d⟩)) (hm : m = .ow ∨ m = .io) (hv : σ[i]? = some (some (.ref a))) (c : Cell K G F (upd H a o') a d') :
    StOk K G (ρ.set i (some ⟨m, d'⟩)) F σ (upd H a o') ∧ Stp ρ F σ H (ρ.set i (some ⟨m, d'⟩)) F σ (upd H a o') := by
  have ow : Own ρ σ a := ⟨i, _, h, hm, hv⟩
  have nf : ¬ F a := s.notF ow.held
  have ns : m ≠ .sh := by rcases hm with e | e <;> rw [e] <;> decide
  obtain ⟨d0, c0⟩ := s.heldCell ow.held
  obtain ⟨o0, e0, _, t0, z0⟩ := c0.there
  have keep : ∀ b o, b ≠ a → H b = some o → upd H a o' b = some o := fun b o n e => by rw [upd_ne n]; exact e
  have ex : Ext F H F (upd H a o') := ⟨fun _ x => x, fun b o f e _ => keep b o (fun z => nf (z ▸ f)) e, fun b es f e => .inl (keep b _ (fun z => nf (z ▸ f)) e), fun b xs e => keep b _ (fun z => t0 xs (by rw [z, e0] at e; cases e; rfl)) e, fun b o xs e => keep b _ (fun z => z0 o (.tup xs) (by rw [z, e0] at e; cases e; rfl)) e⟩
  have old : ∀ {j : Nat} {t : Sl}, (ρ.set i (some ⟨m, d'⟩))[j]? = some (some t) → ∃ t0 : Sl, ρ[j]? = some (some t0) ∧ t0.m = t.m := fun {j t} e => by
    by_cases c : i = j
    · subst c
      rw [List.getElem?_set_self (List.getElem?_eq_some_iff.mp h).1] at e
      cases e; exact ⟨_, h, rfl⟩
    · rw [List.getElem?_set_ne c] at e; exact ⟨t, e, rfl⟩
  refine ⟨⟨by rw [List.length_set]; exact s.len, fun j t e => ?_, fun j k t u b ne h1 h2 n1 n2 g1 g2 => ?_, fun b f => ?_⟩, ⟨fun _ x => x, fun b o e no _ => ?_, fun b es f no e => .inl (keep b _ (fun z => nf (z ▸ f)) e), fun b f => .inl f, fun b hb => ?_, fun b hb => ?_, fun j t e em => ?_⟩⟩
  · by_cases c' : i = j
    · subst c'
      rw [List.getElem?_set_self (List.getElem?_eq_some_iff.mp h).1] at e
      cases e
      refine ⟨_, hv, ?_⟩
      unfold SlotOk
      split
      · rename_i e; exact absurd e ns
      · exact ⟨a, rfl, nf, c⟩
    · rw [List.getElem?_set_ne c'] at e
      obtain ⟨v, h1, h2⟩ := s.val j t e
      refine ⟨v, h1, h2.ext ex (fun b ev n => s.notF ⟨j, t, e, n, by rw [h1, ev]⟩) fun b o ev n q => keep b o (fun z => ?_) q⟩
      subst z
      exact s.sep i j _ t b c' h e ns n hv (by rw [h1, ev])
  · obtain ⟨t0, k1, l1⟩ := old h1
    obtain ⟨u0, k2, l2⟩ := old h2
    exact s.sep j k t0 u0 b ne k1 k2 (by rw [l1]; exact n1) (by rw [l2]; exact n2) g1 g2
  · by_cases c' : b = a
    · subst c'; exact absurd f nf
    · rw [upd_ne c']; exact s.dom b f
  · exact keep b o (fun z => no (z ▸ ow)) e
  · obtain ⟨j, t, e, n, g⟩ := hb
    obtain ⟨t0, k, l⟩ := old e
    exact .inl ⟨j, t0, k, by rw [l]; exact n, g⟩
  · obtain ⟨j, t, e, n, g⟩ := hb
    obtain ⟨t0, k, l⟩ := old e
    exact .inl ⟨j, t0, k, by rw [l]; exact n, g⟩
  · refine ⟨rfl, ?_⟩
    by_cases c' : i = j
    · subst c'
      rw [h] at e; cases e
      exact ⟨_, List.getElem?_set_self (List.getElem?_eq_some_iff.mp h).1, em.elim (fun z => .inr ⟨z, z⟩) .inl⟩
    · exact ⟨t, by rw [List.getElem?_set_ne c']; exact e, em.elim (fun z => .inr ⟨z, z⟩) .inl⟩
def Mt.nm : Mt → String | .append => "append" | _ => "pop"
def rMt : Mt → V → List V → Hp → VK → Prop | .append => rAppend | .pop => rPop | .popAt => rPopAt
theorem reps_one {K : PySem.W.Frag} {F : FS} {H : Hp} {vs : List V} {d : D} (r : Reps K G F H vs [d]) : ∃ v, vs = [v] ∧ Rep K G F H v d := by
  cases r with
  | cons r t => cases t; exact ⟨_, rfl, r⟩
theorem cell_lst {K : PySem.W.Frag} {F : FS} {H : Hp} {a : Addr} {ds : List D} (c : Cell K G F H a (.lst ds)) : ∃ us, H a = some (.lst us) ∧ Reps K G F H us ds := by
  cases c with
  | lst h r => exact ⟨_, h, r⟩
theorem semM_ok {m : Mt} {K : PySem.W.Frag} {F : FS} {H : Hp} {a : Addr} {d d' r : D} {ds : List D} {vs : List V} {Q : VK} (nf : ¬ F a) (c : Cell K G F H a d) (hv : Reps K G F H vs ds) (e : semM m d ds = some (d', r))
    (q : ∀ z o', Cell K G F (upd H a o') a d' → Rep K G F (upd H a o') z r → Q z (upd H a o')) : rMt m (.ref a) vs H Q := by
  have ex : ∀ {o : HO} (o' : HO), H a = some o → (∀ xs, o ≠ .tup xs) → (∀ ob u, o ≠ .frz ob u) → Ext F H F (upd H a o') := fun {o} o' e0 t0 z0 => by
    have keep : ∀ b o, b ≠ a → H b = some o → upd H a o' b = some o := fun b o n e => by rw [upd_ne n]; exact e
    exact ⟨fun _ x => x, fun b o f e _ => keep b o (fun z => nf (z ▸ f)) e, fun b es f e => .inl (keep b _ (fun z => nf (z ▸ f)) e), fun b xs e => keep b _ (fun z => t0 xs (by rw [z, e0] at e; cases e; rfl)) e, fun b o xs e => keep b _ (fun z => z0 o (.tup xs) (by rw [z, e0] at e; cases e; rfl)) e⟩
  have exl : ∀ {us : List V} (ys : List V), H a = some (.lst us) → Ext F H F (upd H a (.lst ys)) := fun ys h => ex (.lst ys) h (fun _ z => nomatch z) (fun _ _ z => nomatch z)
  unfold semM at e
  split at e
  · split at e
    · rename_i ok
      cases e
      obtain ⟨us, h, rr⟩ := cell_lst c
      obtain ⟨v, rfl, rv⟩ := reps_one hv
      refine ⟨a, us, v, rfl, rfl, h, ?_, q _ _ (.lst upd_same ((rr.append (.cons rv .nil)).ext (exl _ h))) .non⟩
      have := okLen_le ok
      rw [rr.length]; omega
    · cases e
  · obtain ⟨d1, e1, e2⟩ := Option.map_eq_some_iff.mp e
    cases e2
    obtain ⟨us, h, rr⟩ := cell_lst c
    cases hv
    obtain ⟨v, h1, h2⟩ := rr.get e1
    refine ⟨a, us, v, rfl, rfl, h, by rw [rr.length]; exact h1, q _ _ (.lst upd_same ?_) (h2.ext (exl _ h))⟩
    rw [List.dropLast_eq_take, List.dropLast_eq_take, rr.length]
    exact (rr.take _).ext (exl _ h)
  · split at e
    · rename_i ok
      obtain ⟨k, e1, e2⟩ := Option.bind_eq_some_iff.mp e
      obtain ⟨d1, e3, e4⟩ := Option.map_eq_some_iff.mp e2
      cases e4
      obtain ⟨us, h, rr⟩ := cell_lst c
      obtain ⟨v, rfl, rv⟩ := reps_one hv
      cases (Lk.int (.inl rv))
      obtain ⟨w, h1, h2⟩ := rr.get e3
      replace ok := fits63_le ok
      exact ⟨a, us, _, k, w, rfl, rfl, h, ok.1, ok.2, by rw [rr.length]; exact (ixN_seq e1).1, h1, q _ _ (.lst upd_same ((rr.eraseIdx k).ext (exl _ h))) (h2.ext (exl _ h))⟩
    · cases e
  · cases e
/-- o.m(..), o a slot of the frame's -/
theorem mth_core {m : Mt} {i : Nat} {g : Env → R (List Ar)} {W : WX} {σ : Sg} {H : Hp} {Q : VK} {ρ : Env} {F : FS} (s : StOk X.K G ρ F σ H) (p : PostV X.K G W ρ F σ H (mthF m i g ρ) Q) :
    ∃ a us, σ[i]? = some (some (.ref a)) ∧ H a = some (.lst us) ∧ tAs X.K G W g σ H fun xs H2 => rMt m (.ref a) xs H2 Q := by
  unfold mthF at p
  split at p
  · rename_i il
    cases e0 : gS ρ i with
    | none => rw [e0] at il; cases il
    | some sl =>
      rw [e0] at il
      obtain ⟨sm, sd⟩ := sl
      obtain ⟨v, hv, l⟩ := s.lk (gS_some e0)
      have il' : isLst (some sd) = true := il
      have : ∃ ds, sd = .lst ds := by
        unfold isLst at il'
        split at il'
        · rename_i e; cases e; exact ⟨_, rfl⟩
        · cases il'
      obtain ⟨ds, rfl⟩ := this
      obtain ⟨a, us, rfl, h, _⟩ := l.lst
      refine ⟨a, us, hv, h, ρ, F, s, (PostV.bind p).mono ?_⟩
      rintro ars ρ1 F1 H1 _ _ ⟨x1, s1, _, q1⟩ vs ok1 fr1
      cases e1 : gS ρ1 i with
      | none => rw [e1] at q1; exact q1.elim
      | some sl1 =>
        cases e2 : valsOf ars with
        | none => rw [e1, e2] at q1; exact q1.elim
        | some ds1 =>
          rw [e1, e2] at q1
          obtain ⟨F2, s2, x2, y2, r2⟩ := valsOf_ok s1 x1 ok1 fr1 e2
          obtain ⟨m1, d1⟩ := sl1
          have h1 := gS_some e1
          have go : ∀ {m2 : Mo}, m1 = m2 → (m2 = .ow ∨ m2 = .io) → PostV X.K G W ρ F σ H (match semM m d1 ds1 with | some (d', r) => .ok (r, .sh) (ρ1.set i (some ⟨m2, d'⟩)) | none => .no) Q → rMt m (.ref a) vs H1 Q := by
            intro m2 em hm q
            subst em
            split at q
            · rename_i d' r e3
              have hd : Held ρ1 σ a := ⟨i, _, h1, by rcases hm with e | e <;> rw [e] <;> exact (fun z => nomatch z), hv⟩
              have nf := s2.notF hd
              obtain ⟨w, g1, g2⟩ := s2.val i _ h1
              rw [hv] at g1; cases g1
              have c : Cell X.K G F2 H1 a d1 := by
                unfold SlotOk at g2
                split at g2
                · rename_i e; dsimp only at e; rw [e] at hm; rcases hm with z | z <;> cases z
                · obtain ⟨b, eb, _, c⟩ := g2; cases eb; exact c
              refine semM_ok nf c r2 e3 fun z o' c' rz => ?_
              obtain ⟨s3, x3⟩ := upcell s2 h1 hm hv c'
              exact q F2 _ (x2.trans x3) s3 z rz fun e => nomatch e
            · exact q.elim
          dsimp only at q1
          cases m1 with
          | sh => exact q1.elim
          | bo => exact q1.elim
          | ow => exact go rfl (.inl rfl) q1
          | io => exact go rfl (.inr rfl) q1
  · exact p.elim
theorem mth_ok {m : Mt} {i : Nat} {x : Str} {px apos : Pos} {e : Expr} {es : List Expr} {g : Env → R (List Ar)} (hm : m ≠ .pop) (hv : PE X (.Name x px) (tVar i)) (ha : AsOk G X (e :: es) g)
    (hbase : attributeBase (.Name x px) (m.nm : Str) X.env (eval (.Name x px) X.env) = eval (.Name x px) X.env)
    (hfew : ((backTo pos (starEach (e :: es) X.env)).all (fun x => !x.1) && (backToKw pos (keywordEach [] X.env)).all (fun x => x.1.isSome)
      && decide ((e :: es).length + ([] : List Keyword).length + (if ([] : List Keyword).isEmpty then 0 else 1) < 30)) = true)
    (hline : (apos.endLine == pos.line) = true) (hs : starEach (e :: es) X.env = (false, eval e X.env) :: starEach es X.env) (hpl : (backTo pos (starEach es X.env)).any (·.1) = false) :
    EOk G X (.Call (.Attribute (.Name x px) (m.nm : Str) apos) (e :: es) [] pos) (mthF m i g) := by
  intro W tk
  have h : PE X (.Call (.Attribute (.Name x px) (m.nm : Str) apos) (e :: es) [] pos) (tBM X.K "list" (rMt m) (tVar i) (tAs X.K G W g)) := by
    cases m with
    | append => exact pe_bm PySem.F.plainAttrs_list PySem.F.slot_list_append PySem.F.type_list_append mt_append hv (ha W tk) hbase hfew hline hs hpl
    | pop => exact absurd rfl hm
    | popAt => exact pe_bm PySem.F.plainAttrs_list PySem.F.slot_list_pop PySem.F.type_list_pop mt_popAt hv (ha W tk) hbase hfew hline hs hpl
  refine peImp h ?_
  rintro σ H Q ⟨ρ, F, s, p⟩
  obtain ⟨a, us, hv, hh, t⟩ := mth_core s p
  exact ⟨_, hv, .inl ⟨rfl, us, .of hh⟩, t⟩
theorem mth_ok0 {i : Nat} {x : Str} {px apos : Pos} (hv : PE X (.Name x px) (tVar i))
    (hbase : attributeBase (.Name x px) "pop" X.env (eval (.Name x px) X.env) = eval (.Name x px) X.env) (hline : (apos.endLine == pos.line) = true) :
    EOk G X (.Call (.Attribute (.Name x px) "pop" apos) [] [] pos) (mthF .pop i fun ρ => .ok [] ρ) := by
  intro W tk
  refine peImp (pe_bm0 PySem.F.plainAttrs_list PySem.F.slot_list_pop PySem.F.type_list_pop mt_pop hv hbase hline) ?_
  rintro σ H Q ⟨ρ, F, s, p⟩
  obtain ⟨a, us, hv, hh, ρ', F', s', t⟩ := mth_core s p
  exact ⟨_, hv, .inl ⟨rfl, us, .of hh⟩, t F' H .refl s' [] .nil .nil⟩
/-! ### l.index(x) -/
theorem toPs_len : ∀ {ds : List D} {ps : List PyData}, toPs ds = some ps → ps.length = ds.length
  | [], ps, e => by simp [toPs] at e; subst e; rfl
  | d :: r, ps, e => by
    simp only [toPs] at e
    obtain ⟨p, e1, e2⟩ := Option.bind_eq_some_iff.mp e
    obtain ⟨qs, e3, rfl⟩ := Option.map_eq_some_iff.mp e2
    simp [toPs_len e3]
theorem pm_ok {x : Str} {o : Expr} {apos : Pos} {e : Expr} {es : List Expr} {f : Env → R Ar} {g : Env → R (List Ar)} (hu : X.A.units + 65 < cLine) (ho : AOk G X o f) (ha : AsOk G X (e :: es) g)
    (hbase : attributeBase o "index" X.env (eval o X.env) = eval o X.env)
    (hfew : ((backTo pos (starEach (e :: es) X.env)).all (fun x => !x.1) && (backToKw pos (keywordEach [] X.env)).all (fun x => x.1.isSome)
      && decide ((e :: es).length + ([] : List Keyword).length + (if ([] : List Keyword).isEmpty then 0 else 1) < 30)) = true)
    (hline : (apos.endLine == pos.line) = true) (hs : starEach (e :: es) X.env = (false, eval e X.env) :: starEach es X.env) (hpl : (backTo pos (starEach es X.env)).any (·.1) = false) :
    EOk G X (.Call (.Attribute o "index" apos) (e :: es) [] pos) (pmF .index f g) := by
  intro W tk
  refine peImp (pe_bm PySem.F.plainAttrs_list PySem.F.slot_list_index PySem.F.type_list_index (mt_indexD hu) (ho W tk) (ha W tk) hbase hfew hline hs hpl) ?_
  rintro σ H Q ⟨ρ, F, s, p⟩
  refine ⟨ρ, F, s, (PostV.bind p).mono ?_⟩
  rintro a ρ1 F1 H1 _ _ ⟨x1, s1, q1, _⟩ v ok1 _
  split at q1
  · rename_i il
    cases e0 : a.get ρ1 with
    | none => rw [e0] at il; cases il
    | some d0 =>
      have l0 := ok1.lk s1 e0
      rw [e0] at il
      unfold isLst at il
      split at il
      · rename_i ds ed
        cases ed
        obtain ⟨b, us, rfl, h, _⟩ := l0.lst
        refine ⟨.inl ⟨rfl, us, .of h⟩, ρ1, F1, s1, (PostV.bind q1).mono ?_⟩
        rintro ars ρ2 F2 H2 _ _ ⟨x2, s2, q2, _⟩ vs ok2 _
        cases e1 : a.get ρ2 with
        | none => rw [e1] at q2; exact q2.elim
        | some d1 =>
          cases e2 : gets ρ2 ars with
          | none => rw [e1, e2] at q2; exact q2.elim
          | some ds2 =>
            rw [e1, e2] at q2
            dsimp only at q2
            obtain ⟨d, m, e⟩ := q2.some
            obtain ⟨r, e3, e4⟩ := Option.map_eq_some_iff.mp e
            cases e4
            have l1 := (ok1.step s1 x2).lk s2 e1
            have l2 := gets_lks s2 ok2 e2
            unfold semP at e3
            split at e3
            · rename_i zs z
              obtain ⟨pz, g1, g2⟩ := Option.bind_eq_some_iff.mp e3
              obtain ⟨ps, g3, g4⟩ := Option.bind_eq_some_iff.mp g2
              split at g4
              · rename_i ok
                cases g4
                simp only [Bool.and_eq_true, decide_eq_true_eq] at ok
                obtain ⟨y, rfl, ly⟩ := lks1 l2
                have hlt := ok.2
                have d1 : Dp X.K H2 (.ref b) (.list ps) := l1.dp (by simp [toP, g3])
                refine ⟨b, y, pz, ps, ps.findIdx fun z => PyData.eqv z pz, ps[ps.findIdx fun z => PyData.eqv z pz], rfl, rfl, d1, ly.dp g1, ok.1.2, ok.1.1, List.getElem?_eq_getElem hlt, List.findIdx_getElem (w := hlt), ?_, q2.res s2 e _ H2 .refl (shRV (.int _))⟩
                intro k z' hk hz
                obtain ⟨hkl, rfl⟩ := List.getElem?_eq_some_iff.mp hz
                exact List.not_of_lt_findIdx hk
              · cases g4
            · cases e3
      · cases il
  · exact q1.elim
end
end DI

set_option Elab.async false
set_option linter.all false
set_option maxRecDepth 100000
set_option maxHeartbeats 4000000
namespace DI
open PySem PySem.Spec L2 PyProof.Rows
/-! ## What is walked -/
section
variable (K : PySem.W.Frag) (G : Gx)
def Keep (as : List Addr) (H H' : Hp) : Prop := ∀ b ∈ as, ∀ o, Nd o → H b = some o → H' b = some o
def Safe (as : List Addr) (ρ : Env) (σ : Sg) (H : Hp) : Prop := ∀ b ∈ as, H b ≠ none ∧ ¬ Own ρ σ b
def SrcOk (F : FS) (H : Hp) (as : List Addr) (t : Bool) (v : V) (ds : List D) : Prop :=
  ∃ a xs, v = .ref a ∧ ∀ F' H', Ext F H F' H' → Keep as H H' → (match t with | true => SqT K H' a xs | false => SqL K H' a xs) ∧ Reps K G F' H' xs ds
def Wlk (J : It) (ds : List D) (F : FS) (H : Hp) : Prop := ∀ i, (ds.length ≤ i → J.stop i H) ∧ ∀ d, ds[i]? = some d → J.go i H ∧ ∀ x H', J.yld i H x H' → Grow H H' ∧ Rep K G F H' x d
def Walk (J : It) (ds : List D) (as : List Addr) (F : FS) (H : Hp) : Prop := ∀ F' H', Ext F H F' H' → Keep as H H' → Wlk K G J ds F' H'
/-- what a slot that is only read meanwhile was -/
def LkP (ρ₀ : Env) (σ₀ : Sg) (H₀ : Hp) (σ : Sg) (p : Nat × Mo) : Prop :=
  ∃ a, σ[p.1]? = some (some (.ref a)) ∧ (p.2 = .ow ∨ p.2 = .io) ∧ (Own ρ₀ σ₀ a ∨ H₀ a = none) ∧ ∀ s : Sl, ρ₀[p.1]? = some (some s) → (s.m = .io → p.2 = .io) ∧ s.m ≠ .bo
def Bos (ρ : Env) (lk : List (Nat × Mo)) : Prop := ∀ p ∈ lk, ∃ d, ρ[p.1]? = some (some ⟨.bo, d⟩)
def CI (k : Ik) (ρ : Env) (F : FS) (σ : Sg) (H : Hp) (R : It → Hp → Prop) : List Ar → Env → FS → Hp → Prop := fun ars ρ1 F1 H1 =>
  match itemsOf k ars ρ1 with
  | some x => ∀ J as F2 H2, Stp ρ F σ H x.ρ F2 σ H2 → StOk K G x.ρ F2 σ H2 → Walk K G J x.ds as F2 H2 → Safe as x.ρ σ H2 → (∀ p ∈ x.lk, LkP ρ σ H σ p) → Bos x.ρ x.lk → R J H2
  | none => False
def tI (W : WX) (k : Ik) (g : Env → R (List Ar)) : TI := fun σ H R => ∃ ρ F, StOk K G ρ F σ H ∧ PostG K G W ρ F σ H (g ρ) (CI K G k ρ F σ H R)
end
def IOk (G : Gx) (X : Cx) (tg iter : Expr) (k : Ik) (g : Env → R (List Ar)) : Prop := ∀ W, Takes X W → PI X tg iter (tI X.K G W k g)
section
variable {K : PySem.W.Frag} {G : Gx} {ρ ρ' : Env} {F F' : FS} {σ : Sg} {H H' : Hp}
theorem Keep.trans {as : List Addr} {H'' : Hp} (a : Keep as H H') (b : Keep as H' H'') : Keep as H H'' := fun x m o n e => b x m o n (a x m o n e)
theorem Keep.left {as bs : List Addr} (a : Keep (as ++ bs) H H') : Keep as H H' := fun x m => a x (List.mem_append_left _ m)
theorem Keep.right {as bs : List Addr} (a : Keep (as ++ bs) H H') : Keep bs H H' := fun x m => a x (List.mem_append_right _ m)
theorem Safe.append {as bs : List Addr} (a : Safe as ρ σ H) (b : Safe bs ρ σ H) : Safe (as ++ bs) ρ σ H := fun x m => (List.mem_append.mp m).elim (a x) (b x)
theorem Safe.step {as : List Addr} {σ' : Sg} (a : Safe as ρ σ H) (x : Stp ρ F σ H ρ' F' σ' H') : Safe as ρ' σ' H' ∧ Keep as H H' := by
  have k : Keep as H H' := fun b m o n e => x.keep b o e (a b m).2 fun _ => n
  refine ⟨fun b m => ⟨?_, fun o => ?_⟩, k⟩
  · obtain ⟨o, e⟩ := Option.ne_none_iff_exists'.mp (a b m).1
    exact fun z => x.gone e (a b m).2 z
  · rcases x.onew b o with z | z
    · exact (a b m).2 z
    · exact (a b m).1 z
theorem SrcOk.later {as : List Addr} {t : Bool} {v : V} {ds : List D} (h : SrcOk K G F H as t v ds) (e : Ext F H F' H') (k : Keep as H H') (bs : List Addr) (sub : ∀ b ∈ as, b ∈ bs) : SrcOk K G F' H' bs t v ds := by
  obtain ⟨a, xs, ev, h⟩ := h
  exact ⟨a, xs, ev, fun F2 H2 e2 k2 => h F2 H2 (e.trans e2) (k.trans fun b m => k2 b (sub b m))⟩
theorem seqD_some {d : D} {x : Bool × List D} (e : seqD d = some x) : (x.1 = true ∧ d = .tup x.2) ∨ (x.1 = false ∧ (d = .lst x.2 ∨ d = .fz x.2)) := by
  unfold seqD at e
  split at e <;> cases e
  · exact .inr ⟨rfl, .inl rfl⟩
  · exact .inr ⟨rfl, .inr rfl⟩
  · exact .inl ⟨rfl, rfl⟩
theorem src_rep {v : V} {d : D} {x : Bool × List D} (r : Rep K G F H v d) (e : seqD d = some x) : SrcOk K G F H [] x.1 v x.2 := by
  obtain ⟨t, ds⟩ := x
  rcases seqD_some e with ⟨e1, e2⟩ | ⟨e1, e2 | e2⟩ <;> (dsimp only at e1 e2; subst e1 e2)
  · cases r with
    | tup h rr => exact ⟨_, _, rfl, fun F' H' x _ => ⟨SqTx x h, rr.ext x⟩⟩
    | cell f c => cases c
  · cases r with
    | cell f c => cases c with
      | lst h rr => exact ⟨_, _, rfl, fun F' H' x _ => ⟨.of (x.kp _ _ f h fun _ y => nomatch y), rr.ext x⟩⟩
  · cases r with
    | cell f c => cases c
    | frz f h rr => exact ⟨_, _, rfl, fun F' H' x _ => ⟨.inl (.inr ⟨_, x.kp _ _ f h fun _ y => nomatch y⟩), rr.ext x⟩⟩
    | fzk h rr => exact ⟨_, _, rfl, fun F' H' x _ => ⟨SqL0 h, rr.ext x⟩⟩
theorem src_cell {a : Addr} {d : D} {x : Bool × List D} (c : Cell K G F H a d) (e : seqD d = some x) : SrcOk K G F H [a] x.1 (.ref a) x.2 := by
  obtain ⟨t, ds⟩ := x
  rcases seqD_some e with ⟨e1, e2⟩ | ⟨e1, e2 | e2⟩ <;> (dsimp only at e1 e2; subst e1 e2)
  · cases c
  · cases c with
    | lst h rr => exact ⟨_, _, rfl, fun F' H' x k => ⟨.of (k a (by simp) _ (fun _ y => nomatch y) h), rr.ext x⟩⟩
  · cases c
/-- the slot that is walked is only read meanwhile -/
theorem lock_ok {i : Nat} {sl : Sl} {ρ₀ : Env} {F₀ : FS} {H₀ : Hp} (s : StOk K G ρ F σ H) (x : Stp ρ₀ F₀ σ H₀ ρ F σ H) (h : ρ[i]? = some (some sl)) (hm : sl.m = .ow ∨ sl.m = .io) :
    StOk K G (ρ.set i (some ⟨.bo, sl.d⟩)) F σ H ∧ Stp ρ₀ F₀ σ H₀ (ρ.set i (some ⟨.bo, sl.d⟩)) F σ H ∧ ∃ a, σ[i]? = some (some (.ref a)) ∧ Cell K G F H a sl.d ∧ Safe [a] (ρ.set i (some ⟨.bo, sl.d⟩)) σ H ∧ LkP ρ₀ σ H₀ σ (i, sl.m) ∧ Bos (ρ.set i (some ⟨.bo, sl.d⟩)) [(i, sl.m)] := by
  have hl := (List.getElem?_eq_some_iff.mp h).1
  have ns : sl.m ≠ .sh := by rcases hm with e | e <;> rw [e] <;> exact (fun z => nomatch z)
  obtain ⟨v, hv, so⟩ := s.val i sl h
  have c : ∃ a, v = .ref a ∧ ¬ F a ∧ Cell K G F H a sl.d := by
    unfold SlotOk at so
    split at so
    · rename_i e; exact absurd e ns
    · exact so
  obtain ⟨a, rfl, nf, c⟩ := c
  have old : ∀ {j : Nat} {t : Sl}, (ρ.set i (some ⟨.bo, sl.d⟩))[j]? = some (some t) → (i = j ∧ t = ⟨.bo, sl.d⟩) ∨ (i ≠ j ∧ ρ[j]? = some (some t)) := fun {j t} e => by
    by_cases c : i = j
    · subst c
      rw [List.getElem?_set_self hl] at e
      cases e; exact .inl ⟨rfl, rfl⟩
    · rw [List.getElem?_set_ne c] at e; exact .inr ⟨c, e⟩
  have old2 : ∀ {j : Nat} {t : Sl}, (ρ.set i (some ⟨.bo, sl.d⟩))[j]? = some (some t) → t.m ≠ .sh → ∃ u : Sl, ρ[j]? = some (some u) ∧ u.m ≠ .sh := fun {j t} e n => by
    rcases old e with ⟨rfl, rfl⟩ | ⟨_, e⟩
    · exact ⟨sl, h, ns⟩
    · exact ⟨t, e, n⟩
  have ow : Own ρ σ a := ⟨i, sl, h, hm, hv⟩
  have no : ¬ Own (ρ.set i (some ⟨.bo, sl.d⟩)) σ a := fun ⟨j, t, e, m, g⟩ => by
    rcases old e with ⟨rfl, rfl⟩ | ⟨c, e⟩
    · rcases m with m | m <;> cases m
    · exact s.sep i j sl t a c h e ns (by rcases m with m | m <;> rw [m] <;> exact (fun z => nomatch z)) hv g
  have held : ∀ b, Held (ρ.set i (some ⟨.bo, sl.d⟩)) σ b → Held ρ σ b := fun b ⟨j, t, e, n, g⟩ => by
    obtain ⟨u, e1, n1⟩ := old2 e n
    exact ⟨j, u, e1, n1, g⟩
  have own : ∀ b, Own (ρ.set i (some ⟨.bo, sl.d⟩)) σ b → Own ρ σ b := fun b ⟨j, t, e, m, g⟩ => by
    rcases old e with ⟨rfl, rfl⟩ | ⟨_, e⟩
    · rcases m with m | m <;> cases m
    · exact ⟨j, t, e, m, g⟩
  refine ⟨⟨by rw [List.length_set]; exact s.len, fun j t e => ?_, fun j k t u b ne h1 h2 n1 n2 g1 g2 => ?_, s.dom⟩, ⟨x.fr, x.keep, x.kd, x.fnew, fun b hb => x.hnew b (held b hb), fun b hb => x.onew b (own b hb), fun j t e m => ?_⟩, a, hv, c, fun b hb => ?_, ⟨a, hv, hm, x.onew a ow, fun t e => ⟨fun z => ?_, fun z => ?_⟩⟩, fun p hp => ?_⟩
  · rcases old e with ⟨rfl, rfl⟩ | ⟨_, e⟩
    · exact ⟨_, hv, a, rfl, nf, c⟩
    · exact s.val j t e
  · obtain ⟨t', e1, m1⟩ := old2 h1 n1
    obtain ⟨u', e2, m2⟩ := old2 h2 n2
    exact s.sep j k t' u' b ne e1 e2 m1 m2 g1 g2
  · obtain ⟨e1, t', e2, m2⟩ := x.io j t e m
    refine ⟨e1, ?_⟩
    by_cases c : i = j
    · subst c; exact ⟨_, List.getElem?_set_self hl, .inl rfl⟩
    · exact ⟨t', by rw [List.getElem?_set_ne c]; exact e2, m2⟩
  · obtain rfl : b = a := by simpa using hb
    obtain ⟨o, e, _⟩ := c.there
    exact ⟨by rw [e]; simp, no⟩
  · obtain ⟨_, t', e2, m2⟩ := x.io i t e (.inl z)
    rw [h] at e2; cases e2
    rcases m2 with m2 | m2
    · rcases hm with q | q <;> rw [q] at m2 <;> cases m2
    · exact m2.2
  · obtain ⟨_, t', e2, m2⟩ := x.io i t e (.inr z)
    rw [h] at e2; cases e2
    rcases m2 with m2 | m2
    · rcases hm with q | q <;> rw [q] at m2 <;> cases m2
    · rw [z] at m2; cases m2.1
  · obtain rfl : p = (i, sl.m) := by simpa using hp
    exact ⟨_, List.getElem?_set_self hl⟩
/-- what a walk needs of an argument -/
def ArW (K : PySem.W.Frag) (G : Gx) (ρ : Env) (F : FS) (σ : Sg) (H : Hp) (v : V) : Ar → Prop
  | .val d .sh => Rep K G F H v d
  | .val d .fr => ∃ a, v = .ref a ∧ ¬ Held ρ σ a ∧ Cell K G F H a d
  | .slot i => σ[i]? = some (some v)
  | .io i => σ[i]? = some (some v)
theorem ArOk.w {v : V} {a : Ar} (h : ArOk K G ρ F σ H v a) : ArW K G ρ F σ H v a := by
  cases a with
  | val d m => cases m with
    | sh => exact h
    | fr => obtain ⟨a, e, _, n, c⟩ := h; exact ⟨a, e, n, c⟩
  | slot i => exact h
  | io i => exact h
theorem ArW.later {v : V} {a : Ar} (h : ArW K G ρ F σ H v a) (e : Ext F H F' H) (hd : ∀ b, Held ρ' σ b → Held ρ σ b) : ArW K G ρ' F' σ H v a := by
  cases a with
  | val d m => cases m with
    | sh => exact Rep.ext e h
    | fr => obtain ⟨a, ev, n, c⟩ := h; exact ⟨a, ev, fun z => n (hd a z), c.ext' e fun _ z => z⟩
  | slot i => exact h
  | io i => exact h
theorem srcOf_ok {a : Ar} {v : V} {x : Src} {ρ₀ : Env} {F₀ : FS} {H₀ : Hp} (s : StOk K G ρ F σ H) (st : Stp ρ₀ F₀ σ H₀ ρ F σ H) (ok : ArW K G ρ F σ H v a) (fr : ArFr ρ₀ σ H₀ v a) (e : srcOf a ρ = some x) :
    ∃ F' as, StOk K G x.ρ F' σ H ∧ Stp ρ₀ F₀ σ H₀ x.ρ F' σ H ∧ Ext F H F' H ∧ Safe as x.ρ σ H ∧ SrcOk K G F' H as x.t v x.ds ∧ (∀ p ∈ x.lk, LkP ρ₀ σ H₀ σ p) ∧ Bos x.ρ x.lk ∧ (∀ b, Own x.ρ σ b → Own ρ σ b) ∧ (∀ lk, Bos ρ lk → Bos x.ρ lk) ∧ ∀ b, Held x.ρ σ b → Held ρ σ b := by
  unfold srcOf at e
  obtain ⟨d, e1, e2⟩ := Option.bind_eq_some_iff.mp e
  obtain ⟨y, e3, e4⟩ := Option.bind_eq_some_iff.mp e2
  cases a with
  | val d' m =>
    cases e4
    cases e1
    cases m with
    | sh => exact ⟨F, [], s, st, .refl, (fun _ h => by cases h), src_rep ok e3, (fun _ h => by cases h), (fun _ h => by cases h), fun _ h => h, fun _ h => h, fun _ h => h⟩
    | fr =>
      obtain ⟨a, rfl, nh, c⟩ := ok
      obtain ⟨s2, r2⟩ := s.freeze nh c
      have y2 : Ext F H (fun b => F b ∨ b = a) H := ⟨fun _ z => .inl z, fun _ _ _ z _ => z, fun _ _ _ z => .inl z, fun _ _ z => z, fun _ _ _ z => z⟩
      exact ⟨_, [], s2, st.freeze (fr a rfl), y2, (fun _ h => by cases h), src_rep r2 e3, (fun _ h => by cases h), (fun _ h => by cases h), fun _ h => h, fun _ h => h, fun _ h => h⟩
  | io i => cases e4
  | slot i =>
    obtain ⟨sl, e5, e6⟩ := Option.map_eq_some_iff.mp e1
    have h5 := gS_some e5
    obtain ⟨w, hw, so⟩ := s.val i sl h5
    have hv : σ[i]? = some (some v) := ok
    rw [hv] at hw; cases hw
    subst e6
    obtain ⟨sm, sd⟩ := sl
    dsimp only at e4; rw [e5] at e4
    cases sm with
    | sh =>
      cases e4
      exact ⟨F, [], s, st, .refl, (fun _ h => by cases h), src_rep so e3, (fun _ h => by cases h), (fun _ h => by cases h), fun _ h => h, fun _ h => h, fun _ h => h⟩
    | bo =>
      cases e4
      obtain ⟨a, rfl, nf, c⟩ := so
      refine ⟨F, [a], s, st, .refl, (fun b hb => ?_), src_cell c e3, (fun _ h => by cases h), (fun _ h => by cases h), fun _ h => h, fun _ h => h, fun _ h => h⟩
      obtain rfl : b = a := by simpa using hb
      obtain ⟨o, e, _⟩ := c.there
      refine ⟨by rw [e]; simp, fun ⟨j, t, g, m, q⟩ => ?_⟩
      have m' : t.m ≠ .sh := by rcases m with m | m <;> rw [m] <;> exact (fun z => nomatch z)
      by_cases c : i = j
      · subst c; rw [h5] at g; cases g; rcases m with m | m <;> cases m
      · exact s.sep i j _ t b c h5 g (fun z => nomatch z) m' hv q
    | ow =>
      cases e4
      obtain ⟨s2, x2, a, ha, c, sf, lp, bs⟩ := lock_ok s st h5 (.inl rfl)
      rw [hv] at ha; cases ha
      refine ⟨F, [a], s2, x2, .refl, sf, src_cell c e3, fun p hp => ?_, bs, fun b ⟨j, t, g, m, q⟩ => ?_, fun lk hb p hp => ?_, fun b ⟨j, t, g, n, q⟩ => ?_⟩
      rotate_right
      · by_cases c : i = j
        · subst c; exact ⟨i, _, h5, (fun z => nomatch z), q⟩
        · rw [List.getElem?_set_ne c] at g; exact ⟨j, t, g, n, q⟩
      · obtain rfl : p = (i, .ow) := by simpa using hp
        exact lp
      · by_cases c : i = j
        · subst c; rw [List.getElem?_set_self (List.getElem?_eq_some_iff.mp h5).1] at g; cases g; rcases m with m | m <;> cases m
        · rw [List.getElem?_set_ne c] at g; exact ⟨j, t, g, m, q⟩
      · obtain ⟨d, g⟩ := hb p hp
        by_cases c : i = p.1
        · subst c; exact ⟨_, List.getElem?_set_self (List.getElem?_eq_some_iff.mp h5).1⟩
        · exact ⟨d, by rw [List.getElem?_set_ne c]; exact g⟩
    | io =>
      cases e4
      obtain ⟨s2, x2, a, ha, c, sf, lp, bs⟩ := lock_ok s st h5 (.inr rfl)
      rw [hv] at ha; cases ha
      refine ⟨F, [a], s2, x2, .refl, sf, src_cell c e3, fun p hp => ?_, bs, fun b ⟨j, t, g, m, q⟩ => ?_, fun lk hb p hp => ?_, fun b ⟨j, t, g, n, q⟩ => ?_⟩
      rotate_right
      · by_cases c : i = j
        · subst c; exact ⟨i, _, h5, (fun z => nomatch z), q⟩
        · rw [List.getElem?_set_ne c] at g; exact ⟨j, t, g, n, q⟩
      · obtain rfl : p = (i, .io) := by simpa using hp
        exact lp
      · by_cases c : i = j
        · subst c; rw [List.getElem?_set_self (List.getElem?_eq_some_iff.mp h5).1] at g; cases g; rcases m with m | m <;> cases m
        · rw [List.getElem?_set_ne c] at g; exact ⟨j, t, g, m, q⟩
      · obtain ⟨d, g⟩ := hb p hp
        by_cases c : i = p.1
        · subst c; exact ⟨_, List.getElem?_set_self (List.getElem?_eq_some_iff.mp h5).1⟩
        · exact ⟨d, by rw [List.getElem?_set_ne c]; exact g⟩
/-- .. and is what it was, behind the loop -/
theorem unlock1_ok {p : Nat × Mo} {ρ₀ : Env} {F₀ : FS} {σ₀ : Sg} {H₀ : Hp} (s : StOk K G ρ F σ H) (x : Stp ρ₀ F₀ σ₀ H₀ ρ F σ H) (lp : LkP ρ₀ σ₀ H₀ σ p) {sl : Sl} (h : ρ[p.1]? = some (some sl)) (hb : sl.m = .bo) :
    StOk K G (ρ.set p.1 (some ⟨p.2, sl.d⟩)) F σ H ∧ Stp ρ₀ F₀ σ₀ H₀ (ρ.set p.1 (some ⟨p.2, sl.d⟩)) F σ H := by
  obtain ⟨i, m⟩ := p
  obtain ⟨a, hv, hm, ho, hi⟩ := lp
  dsimp only at h hv hm hi ⊢
  have hl := (List.getElem?_eq_some_iff.mp h).1
  have ns : sl.m ≠ .sh := by rw [hb]; exact (fun z => nomatch z)
  have nm : m ≠ .sh := by rcases hm with e | e <;> rw [e] <;> exact (fun z => nomatch z)
  have old : ∀ {j : Nat} {t : Sl}, (ρ.set i (some ⟨m, sl.d⟩))[j]? = some (some t) → (i = j ∧ t = ⟨m, sl.d⟩) ∨ (i ≠ j ∧ ρ[j]? = some (some t)) := fun {j t} e => by
    by_cases c : i = j
    · subst c
      rw [List.getElem?_set_self hl] at e
      cases e; exact .inl ⟨rfl, rfl⟩
    · rw [List.getElem?_set_ne c] at e; exact .inr ⟨c, e⟩
  have old2 : ∀ {j : Nat} {t : Sl}, (ρ.set i (some ⟨m, sl.d⟩))[j]? = some (some t) → t.m ≠ .sh → ∃ u : Sl, ρ[j]? = some (some u) ∧ u.m ≠ .sh := fun {j t} e n => by
    rcases old e with ⟨rfl, rfl⟩ | ⟨_, e⟩
    · exact ⟨sl, h, ns⟩
    · exact ⟨t, e, n⟩
  refine ⟨⟨by rw [List.length_set]; exact s.len, fun j t e => ?_, fun j k t u b ne h1 h2 n1 n2 g1 g2 => ?_, s.dom⟩, ⟨x.fr, x.keep, x.kd, x.fnew, fun b ⟨j, t, e, n, g⟩ => ?_, fun b ⟨j, t, e, n, g⟩ => ?_, fun j t e mm => ?_⟩⟩
  · rcases old e with ⟨rfl, rfl⟩ | ⟨_, e⟩
    · obtain ⟨v, h1, h2⟩ := s.val i sl h
      rw [hv] at h1; cases h1
      have c : ∃ b, V.ref a = .ref b ∧ ¬ F b ∧ Cell K G F H b sl.d := by
        unfold SlotOk at h2
        split at h2
        · rename_i e; exact absurd e ns
        · exact h2
      refine ⟨_, hv, ?_⟩
      unfold SlotOk
      split
      · rename_i e; exact absurd e nm
      · exact c
    · exact s.val j t e
  · obtain ⟨t', e1, m1⟩ := old2 h1 n1
    obtain ⟨u', e2, m2⟩ := old2 h2 n2
    exact s.sep j k t' u' b ne e1 e2 m1 m2 g1 g2
  · obtain ⟨u, e1, n1⟩ := old2 e n
    exact x.hnew b ⟨j, u, e1, n1, g⟩
  · rcases old e with ⟨rfl, rfl⟩ | ⟨_, e⟩
    · rw [hv] at g; cases g; exact ho
    · exact x.onew b ⟨j, t, e, n, g⟩
  · obtain ⟨e1, t', e2, m2⟩ := x.io j t e mm
    refine ⟨e1, ?_⟩
    by_cases c : i = j
    · subst c
      refine ⟨_, List.getElem?_set_self hl, ?_⟩
      obtain ⟨z1, z2⟩ := hi t e
      rcases mm with mm | mm
      · exact .inr ⟨mm, z1 mm⟩
      · exact absurd mm z2
    · exact ⟨t', by rw [List.getElem?_set_ne c]; exact e2, m2⟩
theorem unlock_ok {ρ₀ : Env} {F₀ : FS} {σ₀ : Sg} {H₀ : Hp} : ∀ {lk : List (Nat × Mo)} {ρ : Env}, StOk K G ρ F σ H → Stp ρ₀ F₀ σ₀ H₀ ρ F σ H → (∀ p ∈ lk, LkP ρ₀ σ₀ H₀ σ p) → StOk K G (unlock lk ρ) F σ H ∧ Stp ρ₀ F₀ σ₀ H₀ (unlock lk ρ) F σ H
  | [], ρ, s, x, _ => ⟨s, x⟩
  | p :: r, ρ, s, x, lp => by
    have lr : ∀ q ∈ r, LkP ρ₀ σ₀ H₀ σ q := fun q hq => lp q (List.mem_cons_of_mem _ hq)
    unfold unlock
    cases e : gS ρ p.1 with
    | none => exact unlock_ok s x lr
    | some sl =>
      dsimp only
      split
      · rename_i hb
        obtain ⟨s2, x2⟩ := unlock1_ok s x (lp p List.mem_cons_self) (gS_some e) hb
        exact unlock_ok s2 x2 lr
      · exact unlock_ok s x lr
theorem LkP.later {ρ₀ : Env} {σ₀ : Sg} {H₀ : Hp} {lk : List (Nat × Mo)} {σ' : Sg} (l : ∀ p ∈ lk, LkP ρ₀ σ₀ H₀ σ p) (b : Bos ρ lk) (x : Stp ρ F σ H ρ' F' σ' H') : ∀ p ∈ lk, LkP ρ₀ σ₀ H₀ σ' p := fun p hp => by
  obtain ⟨a, h1, h2⟩ := l p hp
  obtain ⟨d, e⟩ := b p hp
  exact ⟨a, by rw [(x.io p.1 _ e (.inr rfl)).1]; exact h1, h2⟩
/-! ### walks -/
theorem walk_l {as : List Addr} {v : V} {ds : List D} (h : SrcOk K G F H as false v ds) : ∃ a, v = .ref a ∧ (∃ xs, SqL K H a xs) ∧ Walk K G (Itl K a) ds as F H := by
  obtain ⟨a, xs, rfl, h⟩ := h
  refine ⟨a, rfl, ⟨xs, (h F H .refl fun _ _ _ _ e => e).1⟩, fun F' H' e k => ?_⟩
  obtain ⟨q, r⟩ := h F' H' e k
  refine fun i => ⟨fun hi => ⟨xs, q, by rw [r.length]; exact hi⟩, fun d hd => ?_⟩
  obtain ⟨x, h1, h2⟩ := r.get hd
  refine ⟨⟨xs, x, q, h1⟩, fun y H2 hy => ?_⟩
  obtain ⟨e, hy⟩ := hy
  subst e
  have := hy xs q
  rw [h1] at this; cases this
  exact ⟨.refl, h2⟩
theorem walk_t {as : List Addr} {v : V} {ds : List D} (h : SrcOk K G F H as true v ds) : ∃ a, v = .ref a ∧ (∃ xs, SqT K H a xs) ∧ Walk K G (Itt K a) ds as F H := by
  obtain ⟨a, xs, rfl, h⟩ := h
  refine ⟨a, rfl, ⟨xs, (h F H .refl fun _ _ _ _ e => e).1⟩, fun F' H' e k => ?_⟩
  obtain ⟨q, r⟩ := h F' H' e k
  refine fun i => ⟨fun hi => ⟨xs, q, by rw [r.length]; exact hi⟩, fun d hd => ?_⟩
  obtain ⟨x, h1, h2⟩ := r.get hd
  refine ⟨⟨xs, x, q, h1⟩, fun y H2 hy => ?_⟩
  obtain ⟨e, hy⟩ := hy
  subst e
  have := hy xs q
  rw [h1] at this; cases this
  exact ⟨.refl, h2⟩
theorem walk_r {lo : Int} {n : Nat} : Walk K G (Itr lo n) (rngD lo n) [] F H := fun F' H' _ _ i => by
  refine ⟨fun hi => ?_, fun d hd => ?_⟩
  · unfold rngD at hi
    rw [List.length_map, List.length_range] at hi
    exact hi
  · unfold rngD at hd
    rw [List.getElem?_map] at hd
    by_cases c : i < n
    · rw [List.getElem?_range c] at hd
      cases hd
      refine ⟨c, fun x H2 hy => ?_⟩
      obtain ⟨e, rfl⟩ := hy
      subst e
      exact ⟨.refl, .int _⟩
    · rw [List.getElem?_eq_none (by simpa using c)] at hd; cases hd
theorem walk_e {as : List Addr} {v : V} {ds : List D} (h : SrcOk K G F H as false v ds) : ∃ a xs, v = .ref a ∧ SqL K H a xs ∧ Walk K G (Ite K a) (ds.zipIdx.map fun p => .tup [.int (p.2 : Int), p.1]) as F H := by
  obtain ⟨a, xs, rfl, h⟩ := h
  refine ⟨a, xs, rfl, (h F H .refl fun _ _ _ _ e => e).1, fun F' H' e k => ?_⟩
  obtain ⟨q, r⟩ := h F' H' e k
  refine fun i => ⟨fun hi => ⟨xs, q, by rw [r.length]; simpa using hi⟩, fun d hd => ?_⟩
  rw [List.getElem?_map, List.getElem?_zipIdx, Option.map_map] at hd
  obtain ⟨d', e1, e2⟩ := Option.map_eq_some_iff.mp hd
  dsimp only [Function.comp] at e2
  subst e2
  obtain ⟨x, h1, h2⟩ := r.get e1
  refine ⟨⟨xs, x, q, h1⟩, fun y H2 hy => ?_⟩
  obtain ⟨T, x', rfl, nT, rfl, hy⟩ := hy
  have := hy xs q
  rw [h1] at this; cases this
  refine ⟨.new nT, newT nT (.cons ?_ (.cons h2 .nil))⟩
  rw [Nat.zero_add]
  exact .int _
theorem walk_eT {as : List Addr} {v : V} {ds : List D} (h : SrcOk K G F H as true v ds) : ∃ a xs, v = .ref a ∧ SqT K H a xs ∧ Walk K G (IteT K a) (ds.zipIdx.map fun p => .tup [.int (p.2 : Int), p.1]) as F H := by
  obtain ⟨a, xs, rfl, h⟩ := h
  refine ⟨a, xs, rfl, (h F H .refl fun _ _ _ _ e => e).1, fun F' H' e k => ?_⟩
  obtain ⟨q, r⟩ := h F' H' e k
  refine fun i => ⟨fun hi => ⟨xs, q, by rw [r.length]; simpa using hi⟩, fun d hd => ?_⟩
  rw [List.getElem?_map, List.getElem?_zipIdx, Option.map_map] at hd
  obtain ⟨d', e1, e2⟩ := Option.map_eq_some_iff.mp hd
  dsimp only [Function.comp] at e2
  subst e2
  obtain ⟨x, h1, h2⟩ := r.get e1
  refine ⟨⟨xs, x, q, h1⟩, fun y H2 hy => ?_⟩
  obtain ⟨T, x', rfl, nT, rfl, hy⟩ := hy
  have := hy xs q
  rw [h1] at this; cases this
  refine ⟨.new nT, newT nT (.cons ?_ (.cons h2 .nil))⟩
  rw [Nat.zero_add]
  exact .int _
theorem walk_z {as bs : List Addr} {v u : V} {t : Bool} {ds es : List D} (h : SrcOk K G F H as t v ds) (h' : SrcOk K G F H bs t u es) : ∃ a b xs ys, v = .ref a ∧ u = .ref b ∧
    match t with
    | false => SqL K H a xs ∧ SqL K H b ys ∧ Walk K G (Itz K a b) ((ds.zip es).map fun p => .tup [p.1, p.2]) (as ++ bs) F H
    | true => SqT K H a xs ∧ SqT K H b ys ∧ Walk K G (RZ.ItzT K a b) ((ds.zip es).map fun p => .tup [p.1, p.2]) (as ++ bs) F H := by
  obtain ⟨a, xs, rfl, h⟩ := h
  obtain ⟨b, ys, rfl, h'⟩ := h'
  have zi : ∀ {i : Nat} {d : D}, ((ds.zip es).map fun p => D.tup [p.1, p.2])[i]? = some d → ∃ x y, ds[i]? = some x ∧ es[i]? = some y ∧ d = .tup [x, y] := fun {i d} hd => by
    rw [List.getElem?_map] at hd
    obtain ⟨p, e1, e2⟩ := Option.map_eq_some_iff.mp hd
    rw [List.getElem?_zip_eq_some] at e1
    exact ⟨p.1, p.2, e1.1, e1.2, e2.symm⟩
  refine ⟨a, b, xs, ys, rfl, rfl, ?_⟩
  cases t with
  | false =>
    refine ⟨(h F H .refl fun _ _ _ _ e => e).1, (h' F H .refl fun _ _ _ _ e => e).1, fun F' H' e k => ?_⟩
    obtain ⟨q, r⟩ := h F' H' e k.left
    obtain ⟨q', r'⟩ := h' F' H' e k.right
    refine fun i => ⟨fun hi => ⟨xs, ys, q, q', ?_⟩, fun d hd => ?_⟩
    · rw [List.length_map, List.length_zip, ← r.length, ← r'.length] at hi
      omega
    · obtain ⟨x, y, e1, e2, rfl⟩ := zi hd
      obtain ⟨x', g1, g2⟩ := r.get e1
      obtain ⟨y', g3, g4⟩ := r'.get e2
      refine ⟨⟨xs, ys, x', y', q, q', g1, g3⟩, fun z H2 hy => ?_⟩
      obtain ⟨T, x2, y2, rfl, nT, rfl, hx, hy⟩ := hy
      have := hx xs q
      rw [g1] at this; cases this
      have := hy ys q'
      rw [g3] at this; cases this
      exact ⟨.new nT, newT nT (.cons g2 (.cons g4 .nil))⟩
  | true =>
    refine ⟨(h F H .refl fun _ _ _ _ e => e).1, (h' F H .refl fun _ _ _ _ e => e).1, fun F' H' e k => ?_⟩
    obtain ⟨q, r⟩ := h F' H' e k.left
    obtain ⟨q', r'⟩ := h' F' H' e k.right
    refine fun i => ⟨fun hi => ⟨xs, ys, q, q', ?_⟩, fun d hd => ?_⟩
    · rw [List.length_map, List.length_zip, ← r.length, ← r'.length] at hi
      omega
    · obtain ⟨x, y, e1, e2, rfl⟩ := zi hd
      obtain ⟨x', g1, g2⟩ := r.get e1
      obtain ⟨y', g3, g4⟩ := r'.get e2
      refine ⟨⟨xs, ys, x', y', q, q', g1, g3⟩, fun z H2 hy => ?_⟩
      obtain ⟨T, x2, y2, rfl, nT, rfl, hx, hy⟩ := hy
      have := hx xs q
      rw [g1] at this; cases this
      have := hy ys q'
      rw [g3] at this; cases this
      exact ⟨.new nT, newT nT (.cons g2 (.cons g4 .nil))⟩
end
end DI

set_option Elab.async false
set_option linter.all false
set_option maxRecDepth 100000
set_option maxHeartbeats 4000000
namespace DI
open PySem PySem.Spec L2 PyProof.Rows
section
variable {G : Gx} {X : Cx} {pos : Pos} {tg : Expr}
theorem piOr {e : Expr} {w1 w2 w : TI} (h1 : PI X tg e w1) (h2 : PI X tg e w2) (i : ∀ σ H R, w σ H R → w1 σ H R ∨ w2 σ H R) : PI X tg e w :=
  ⟨fun pins s σ H R I q => (i σ H R q).elim (h1.run pins s σ H R I) (h2.run pins s σ H R I)⟩
theorem piImp {e : Expr} {w1 w : TI} (h1 : PI X tg e w1) (i : ∀ σ H R, w σ H R → w1 σ H R) : PI X tg e w :=
  ⟨fun pins s σ H R I q => h1.run pins s σ H R I (i σ H R q)⟩
theorem ci_some {K : PySem.W.Frag} {k : Ik} {ρ : Env} {F : FS} {σ : Sg} {H : Hp} {R : It → Hp → Prop} {ars : List Ar} {ρ1 : Env} {F1 : FS} {H1 : Hp} (c : CI K G k ρ F σ H R ars ρ1 F1 H1) : ∃ x, itemsOf k ars ρ1 = some x ∧
    ∀ J as F2 H2, Stp ρ F σ H x.ρ F2 σ H2 → StOk K G x.ρ F2 σ H2 → Walk K G J x.ds as F2 H2 → Safe as x.ρ σ H2 → (∀ p ∈ x.lk, LkP ρ σ H σ p) → Bos x.ρ x.lk → R J H2 := by
  unfold CI at c
  split at c
  · exact ⟨_, by assumption, c⟩
  · exact c.elim
theorem val_items {l : Expr} {f : Env → R Ar} (ha : AOk G X l f) : IOk G X tg l .val (consF f fun ρ => .ok [] ρ) := by
  intro W tk
  refine piOr (pi_list (ha W tk)) (pi_tup (ha W tk)) ?_
  rintro σ H Q ⟨ρ, F, s, p⟩
  have core : ∀ {a : Ar} {ρ1 : Env} {F1 : FS} {H1 : Hp}, PostG X.K G W ρ1 F1 σ H1 (((fun ρ => R.ok [] ρ) ρ1 : R (List Ar)).bind fun xs ρ2 => .ok (a :: xs) ρ2) (CI X.K G .val ρ F σ H Q) → StOk X.K G ρ1 F1 σ H1 → Stp ρ F σ H ρ1 F1 σ H1 → ∀ {v : V}, ArOk X.K G ρ1 F1 σ H1 v a → ArFr ρ σ H v a →
      ∃ x, srcOf a ρ1 = some x ∧ match x.t with
        | false => ∃ b, v = .ref b ∧ (∃ xs, SqL X.K H1 b xs) ∧ Q (Itl X.K b) H1
        | true => ∃ b, v = .ref b ∧ (∃ xs, SqT X.K H1 b xs) ∧ Q (Itt X.K b) H1 := by
    intro a ρ1 F1 H1 q s1 x1 v ok1 fr1
    obtain ⟨y, e, r⟩ := ci_some (q F1 H1 .refl s1)
    obtain ⟨x, e1, rfl⟩ := Option.map_eq_some_iff.mp e
    obtain ⟨F2, as, s2, x2, y2, sf, so, lp, bs, _⟩ := srcOf_ok s1 x1 ok1.w fr1 e1
    refine ⟨x, e1, ?_⟩
    obtain ⟨t, ds, lk, ρ2⟩ := x
    cases t with
    | false =>
      obtain ⟨b, ev, ex, w⟩ := walk_l so
      exact ⟨b, ev, ex, r _ as F2 H1 x2 s2 w sf lp bs⟩
    | true =>
      obtain ⟨b, ev, ex, w⟩ := walk_t so
      exact ⟨b, ev, ex, r _ as F2 H1 x2 s2 w sf lp bs⟩
  have b : PostG X.K G W ρ F σ H ((f ρ).bind fun x ρ1 => (((fun ρ => R.ok [] ρ) ρ1 : R (List Ar)).bind fun xs ρ2 => .ok (x :: xs) ρ2)) (CI X.K G .val ρ F σ H Q) := p
  cases hf : f ρ with
  | no => rw [hf] at b; exact b.elim
  | ex e ρ' =>
    refine .inl ⟨ρ, F, s, ?_⟩
    rw [hf] at b ⊢
    exact b
  | ok a ρ1 =>
    rw [hf] at b
    have q : ∀ F' H', Stp ρ F σ H ρ1 F' σ H' → StOk X.K G ρ1 F' σ H' → CI X.K G .val ρ F σ H Q [a] ρ1 F' H' := b
    have core2 : ∀ F1 H1, Stp ρ F σ H ρ1 F1 σ H1 → StOk X.K G ρ1 F1 σ H1 → ∀ v, ArOk X.K G ρ1 F1 σ H1 v a → ArFr ρ σ H v a → _ := fun F1 H1 x1 s1 v => core (v := v) (fun F2 H2 x2 s2 => q F2 H2 (x1.trans x2) s2) s1 x1
    by_cases c : ∃ x, srcOf a ρ1 = some x ∧ x.t = true
    · refine .inr ⟨ρ, F, s, ?_⟩
      rw [hf]
      intro F1 H1 x1 s1 v ok fr
      obtain ⟨x, e, z⟩ := core2 F1 H1 x1 s1 v ok fr
      obtain ⟨x', e', t⟩ := c
      rw [e] at e'; cases e'
      rw [t] at z
      exact z
    · refine .inl ⟨ρ, F, s, ?_⟩
      rw [hf]
      intro F1 H1 x1 s1 v ok fr
      obtain ⟨x, e, z⟩ := core2 F1 H1 x1 s1 v ok fr
      cases t : x.t with
      | true => exact absurd ⟨x, e, t⟩ c
      | false => rw [t] at z; exact z
theorem ci_of {K : PySem.W.Frag} {k : Ik} {ρ : Env} {F : FS} {σ : Sg} {H : Hp} {R : It → Hp → Prop} {ars : List Ar} {ρ1 : Env} {F1 : FS} {H1 : Hp} {ds : List D} (c : CI K G k ρ F σ H R ars ρ1 F1 H1) (e : itemsOf k ars ρ1 = some ⟨ds, [], ρ1⟩) (s1 : StOk K G ρ1 F1 σ H1) (x1 : Stp ρ F σ H ρ1 F1 σ H1)
    {J : It} (w : Walk K G J ds [] F1 H1) : R J H1 := by
  obtain ⟨y, e', r⟩ := ci_some c
  rw [e] at e'; cases e'
  exact r J [] F1 H1 x1 s1 w (fun _ h => by cases h) (fun _ h => by cases h) (fun _ h => by cases h)
theorem small_le {i : Int} (h : small i = true) : -(2 ^ 62) ≤ i ∧ i < 2 ^ 62 := by
  unfold small at h
  have := nat_lt_of_log2 (of_decide_eq_true h)
  omega
theorem items_rng1 {ars : List Ar} {ρ : Env} {y : Its} (e : itemsOf .rng1 ars ρ = some y) : ∃ a j, ars = [a] ∧ a.get ρ = some (.int j) ∧ small j = true ∧ y = ⟨rngD 0 j.toNat, [], ρ⟩ := by
  match ars, e with
  | [], e => cases e
  | _ :: _ :: _, e => cases e
  | [a], e =>
    have e' : (match a.get ρ with | some (.int j) => if small j then some (⟨rngD 0 j.toNat, [], ρ⟩ : Its) else none | _ => none) = some y := e
    split at e'
    · rename_i j hj
      split at e'
      · rename_i sj; cases e'; exact ⟨a, j, rfl, hj, sj, rfl⟩
      · cases e'
    · cases e'
theorem items_rng2 {ars : List Ar} {ρ : Env} {y : Its} (e : itemsOf .rng2 ars ρ = some y) : ∃ a b i j, ars = [a, b] ∧ a.get ρ = some (.int i) ∧ b.get ρ = some (.int j) ∧ small i = true ∧ small j = true ∧ y = ⟨rngD i (j - i).toNat, [], ρ⟩ := by
  match ars, e with
  | [], e => cases e
  | [_], e => cases e
  | _ :: _ :: _ :: _, e => cases e
  | [a, b], e =>
    have e' : (match a.get ρ, b.get ρ with | some (.int i), some (.int j) => if small i && small j then some (⟨rngD i (j - i).toNat, [], ρ⟩ : Its) else none | _, _ => none) = some y := e
    split at e'
    · rename_i i j hi hj
      split at e'
      · rename_i sj
        cases e'
        rw [Bool.and_eq_true] at sj
        exact ⟨a, b, i, j, rfl, hi, hj, sj.1, sj.2, rfl⟩
      · cases e'
    · cases e'
theorem items_enum {ars : List Ar} {ρ : Env} {y : Its} (e : itemsOf .enum ars ρ = some y) : ∃ a x, ars = [a] ∧ srcOf a ρ = some x ∧ y = ⟨x.ds.zipIdx.map fun p => .tup [.int (p.2 : Int), p.1], x.lk, x.ρ⟩ := by
  match ars, e with
  | [], e => cases e
  | _ :: _ :: _, e => cases e
  | [a], e =>
    obtain ⟨x, e1, e2⟩ := Option.bind_eq_some_iff.mp (show (srcOf a ρ).bind _ = some y from e)
    cases e2
    exact ⟨a, x, rfl, e1, rfl⟩
theorem items_zip {ars : List Ar} {ρ : Env} {y : Its} (e : itemsOf .zip ars ρ = some y) : ∃ a b x z, ars = [a, b] ∧ srcOf a ρ = some x ∧ srcOf b x.ρ = some z ∧ x.t = z.t ∧ y = ⟨(x.ds.zip z.ds).map fun p => .tup [p.1, p.2], z.lk ++ x.lk, z.ρ⟩ := by
  match ars, e with
  | [], e => cases e
  | [_], e => cases e
  | _ :: _ :: _ :: _, e => cases e
  | [a, b], e =>
    obtain ⟨x, e1, e2⟩ := Option.bind_eq_some_iff.mp (show (srcOf a ρ).bind _ = some y from e)
    obtain ⟨z, e3, e4⟩ := Option.bind_eq_some_iff.mp e2
    split at e4
    · rename_i ht
      cases e4
      exact ⟨a, b, x, z, rfl, e1, e3, ht, rfl⟩
    · cases e4
theorem rng1_items {a : Expr} {g : Env → R (List Ar)} {p : Pos} (hg : Gl X "range") (hm : X.mg "range" = none) (ha : AsOk G X [a] g) (hs : starEach [a] X.env = [(false, eval a X.env)]) : IOk G X tg (.Call (.Name "range" p) [a] [] pos) .rng1 g := by
  intro W tk
  refine piImp (pi_range1 hg hm (ha W tk) hs) ?_
  rintro σ H Q ⟨ρ, F, s, q⟩
  refine ⟨ρ, F, s, q.mono ?_⟩
  rintro ars ρ1 F1 H1 x1 s1 c vs ok fr
  obtain ⟨y, e, _⟩ := ci_some c
  obtain ⟨a, j, rfl, hj, sj, rfl⟩ := items_rng1 e
  have l := gets_lks s1 ok (ds := [.int j]) (by simp [gets, hj])
  obtain ⟨v, rfl, lv⟩ := lks1 l
  rw [lv.int]
  exact ⟨j, rfl, (small_le sj).1, (small_le sj).2, ci_of c e s1 x1 walk_r⟩
theorem rng2_items {a b : Expr} {g : Env → R (List Ar)} {p : Pos} (hg : Gl X "range") (hm : X.mg "range" = none) (ha : AsOk G X [a, b] g) (hs : starEach [a, b] X.env = [(false, eval a X.env), (false, eval b X.env)]) (hs2 : starEach [b] X.env = [(false, eval b X.env)]) :
    IOk G X tg (.Call (.Name "range" p) [a, b] [] pos) .rng2 g := by
  intro W tk
  refine piImp (pi_range2 hg hm (ha W tk) hs hs2) ?_
  rintro σ H Q ⟨ρ, F, s, q⟩
  refine ⟨ρ, F, s, q.mono ?_⟩
  rintro ars ρ1 F1 H1 x1 s1 c vs ok fr
  obtain ⟨y, e, _⟩ := ci_some c
  obtain ⟨a, b, i, j, rfl, hi, hj, si, sj, rfl⟩ := items_rng2 e
  have l := gets_lks s1 ok (ds := [.int i, .int j]) (by simp [gets, hi, hj])
  obtain ⟨v, u, rfl, lv, lu⟩ := lks2 l
  rw [lv.int, lu.int]
  exact ⟨i, j, rfl, ⟨(small_le si).1, (small_le si).2, (small_le sj).1, (small_le sj).2⟩, ci_of c e s1 x1 walk_r⟩
theorem enum_items {elts : List Expr} {kk : Nat} {tpos : Pos} {a : Expr} {g : Env → R (List Ar)} {p : Pos} (hg : Gl X "enumerate") (hm : X.mg "enumerate" = none) (ha : AsOk G X [a] g) (hs : starEach [a] X.env = [(false, eval a X.env)]) :
    IOk G X (.Tuple elts kk tpos) (.Call (.Name "enumerate" p) [a] [] pos) .enum g := by
  intro W tk
  refine piImp (pi_enumA hg hm (ha W tk) hs) ?_
  rintro σ H Q ⟨ρ, F, s, q⟩
  refine ⟨ρ, F, s, q.mono ?_⟩
  rintro ars ρ1 F1 H1 x1 s1 c vs ok fr
  obtain ⟨y, e, r⟩ := ci_some c
  obtain ⟨a, x, rfl, e1, rfl⟩ := items_enum e
  cases ok with
  | cons ok okr =>
    cases okr
    cases fr with
    | cons fr frr =>
      obtain ⟨F2, as, s2, x2, y2, sf, so, lp, bs, _⟩ := srcOf_ok s1 x1 ok.w fr e1
      cases t : x.t with
      | false =>
        rw [t] at so
        obtain ⟨b, xs, rfl, q, w⟩ := walk_e so
        exact ⟨b, xs, rfl, .inl ⟨q, r _ as F2 H1 x2 s2 w sf lp bs⟩⟩
      | true =>
        rw [t] at so
        obtain ⟨b, xs, rfl, q, w⟩ := walk_eT so
        exact ⟨b, xs, rfl, .inr ⟨q, r _ as F2 H1 x2 s2 w sf lp bs⟩⟩
theorem zip_items {elts : List Expr} {kk : Nat} {tpos : Pos} {a b : Expr} {g : Env → R (List Ar)} {p : Pos} (hg : Gl X "zip") (hm : X.mg "zip" = none) (ha : AsOk G X [a, b] g) (hs : starEach [a, b] X.env = (false, eval a X.env) :: starEach [b] X.env) (hpl : (backTo pos (starEach [b] X.env)).any (·.1) = false) :
    IOk G X (.Tuple elts kk tpos) (.Call (.Name "zip" p) [a, b] [] pos) .zip g := by
  intro W tk
  refine piImp (RZ.pi_zipA hg hm (ha W tk) hs hpl) ?_
  rintro σ H Q ⟨ρ, F, s, q⟩
  refine ⟨ρ, F, s, q.mono ?_⟩
  rintro ars ρ1 F1 H1 x1 s1 c vs ok fr
  obtain ⟨y, e, r⟩ := ci_some c
  obtain ⟨a, b, x, z, rfl, e1, e3, ht, rfl⟩ := items_zip e
  cases ok with
  | cons ok1 okr =>
    cases okr with
    | cons ok2 okr =>
      cases okr
      cases fr with
      | cons fr1 frr =>
        cases frr with
        | cons fr2 frr =>
          obtain ⟨F2, as, s2, x2, y2, sf, so, lp, bs, own, bos, hd⟩ := srcOf_ok s1 x1 ok1.w fr1 e1
          obtain ⟨F3, as', s3, x3, y3, sf', so', lp', bs', own', bos', hd'⟩ := srcOf_ok s2 x2 (ok2.w.later y2 hd) fr2 e3
          have so3 := so.later y3 (fun _ _ _ _ h => h) as fun _ h => h
          rw [ht] at so3
          obtain ⟨a1, b1, xs, ys, rfl, rfl, w⟩ := walk_z so3 so'
          have sf3 : Safe as z.ρ σ H1 := fun b hb => ⟨(sf b hb).1, fun o => (sf b hb).2 (own' b o)⟩
          have lps : ∀ p ∈ z.lk ++ x.lk, LkP ρ σ H σ p := fun p hp => (List.mem_append.mp hp).elim (lp' p) (lp p)
          have bss : Bos z.ρ (z.lk ++ x.lk) := fun p hp => (List.mem_append.mp hp).elim (bs' p) (bos' _ bs p)
          refine ⟨a1, b1, xs, ys, rfl, ?_⟩
          cases t : z.t with
          | false => rw [t] at w; exact .inl ⟨w.1, w.2.1, r _ (as ++ as') F3 H1 x3 s3 w.2.2 (sf3.append sf') lps bss⟩
          | true => rw [t] at w; exact .inr ⟨w.1, w.2.1, r _ (as ++ as') F3 H1 x3 s3 w.2.2 (sf3.append sf') lps bss⟩
end
end DI

set_option Elab.async false
set_option linter.all false
set_option maxRecDepth 100000
set_option maxHeartbeats 4000000
namespace DI
open PySem PySem.Spec L2 PyProof.Rows
/-! ## Targets -/
def gNames : List Nat → TGs
  | [] => gNil
  | i :: r => gCons (gName i) (gNames r)
def gTg (K : PySem.W.Frag) : Tg → TG
  | .nm i => gName i
  | .tp is => gTup K is.length (gNames is)
/-- only these slots are other -/
def Only (is : List Nat) (σ σ' : Sg) : Prop := σ'.length = σ.length ∧ ∀ i, i ∉ is → σ'[i]? = σ[i]?
theorem Only.refl {is : List Nat} {σ : Sg} : Only is σ σ := ⟨rfl, fun _ _ => rfl⟩
theorem Only.set {is : List Nat} {σ : Sg} {i : Nat} {v : Option V} (h : i ∈ is) : Only is σ (σ.set i v) := ⟨List.length_set, fun j n => List.getElem?_set_ne fun e => by subst e; exact n h⟩
theorem Only.trans {is : List Nat} {σ σ' σ'' : Sg} (a : Only is σ σ') (b : Only is σ' σ'') : Only is σ σ'' := ⟨b.1.trans a.1, fun i n => (b.2 i n).trans (a.2 i n)⟩
theorem Only.mono {is js : List Nat} {σ σ' : Sg} (a : Only is σ σ') (h : ∀ i ∈ is, i ∈ js) : Only js σ σ' := ⟨a.1, fun i n => a.2 i fun m => n (h i m)⟩
section
variable {K : PySem.W.Frag} {G : Gx} {ρ ρ' : Env} {F F' : FS} {σ : Sg} {H H' : Hp}
theorem put_sh {i : Nat} {v : V} {d : D} (s : StOk K G ρ F σ H) (r : Rep K G F H v d) (h : setS ρ i ⟨.sh, d⟩ = some ρ') : StOk K G ρ' F (σ.set i (some v)) H ∧ Stp ρ F σ H ρ' F (σ.set i (some v)) H := by
  have h' : setS ρ i (mkSl d .sh) = some ρ' := h
  exact ⟨s.put (m := .sh) r h', Stp.put (m := .sh) .refl (fun e => nomatch e) h'⟩
theorem names_ok : ∀ {is : List Nat} {ds : List D} {vs : List V} {ρ ρ' : Env} {σ : Sg}, StOk K G ρ F σ H → Reps K G F H vs ds → assignT.assignN ρ is ds = some ρ' →
    ∃ σ', StOk K G ρ' F σ' H ∧ Stp ρ F σ H ρ' F σ' H ∧ Only is σ σ' ∧ ∀ Q : L2.St → Hp → Prop, Q σ' H → gNames is vs σ H Q
  | [], [], _, ρ, ρ', σ, s, .nil, e => by cases e; exact ⟨σ, s, .refl, .refl, fun Q q => ⟨rfl, q⟩⟩
  | [], _ :: _, _, _, _, _, s, _, e => by cases e
  | _ :: _, [], _, _, _, _, s, _, e => by cases e
  | i :: is, d :: ds, _, ρ, ρ', σ, s, .cons (v := v) r t, e => by
    rw [assignT.assignN] at e
    obtain ⟨ρ1, e1, e2⟩ := Option.bind_eq_some_iff.mp e
    obtain ⟨s1, x1⟩ := put_sh s r e1
    obtain ⟨σ', s2, x2, o2, q2⟩ := names_ok s1 t e2
    exact ⟨σ', s2, x1.trans x2, (Only.set List.mem_cons_self).trans (o2.mono fun _ m => List.mem_cons_of_mem _ m), fun Q q => ⟨v, _, rfl, q2 Q q⟩⟩
theorem names_len : ∀ {is : List Nat} {ds : List D} {ρ ρ' : Env}, assignT.assignN ρ is ds = some ρ' → ds.length = is.length
    | [], [], _, _, _ => rfl
    | [], _ :: _, _, _, e => by cases e
    | _ :: _, [], _, _, e => by cases e
    | i :: is, d :: ds, ρ, ρ', e => by
      rw [assignT.assignN] at e
      obtain ⟨ρ1, e1, e2⟩ := Option.bind_eq_some_iff.mp e
      simp [names_len e2]
theorem assign_ok {tg : Tg} {d : D} {v : V} (s : StOk K G ρ F σ H) (r : Rep K G F H v d) (e : assignT ρ d tg = some ρ') :
    ∃ σ', StOk K G ρ' F σ' H ∧ Stp ρ F σ H ρ' F σ' H ∧ Only (tgIs tg) σ σ' ∧ ∀ Q : L2.St → Hp → Prop, Q σ' H → gTg K tg v σ H Q := by
  cases tg with
  | nm i =>
    obtain ⟨s1, x1⟩ := put_sh s r e
    exact ⟨_, s1, x1, .set (by simp [tgIs]), fun Q q => q⟩
  | tp is =>
    have e' : ∃ ds, d = .tup ds ∧ assignT.assignN ρ is ds = some ρ' := by
      cases d <;> first | (cases e; done) | exact ⟨_, rfl, e⟩
    obtain ⟨ds, rfl, e'⟩ := e'
    obtain ⟨a, vs, rfl, h, rr⟩ := (Lk.rep r).tup
    obtain ⟨σ', s2, x2, o2, q2⟩ := names_ok s rr e'
    refine ⟨σ', s2, x2, o2, fun Q q => ⟨a, vs, rfl, h, ?_, q2 Q q⟩⟩
    rw [rr.length]
    exact names_len e'
/-! ## Own slots of a comprehension -/
theorem wipe_get {σ : Sg} {j : Nat} : ∀ {vs : List Nat}, (wipe σ vs)[j]? = if j ∈ vs then (if j < σ.length then some none else none) else σ[j]?
  | [] => by simp [wipe]
  | v :: vs => by
    unfold wipe
    by_cases c : v = j
    · subst c
      rw [if_pos List.mem_cons_self, List.getElem?_set, if_pos rfl, wipe_length]
    · rw [List.getElem?_set_ne c, wipe_get]
      have : (j ∈ v :: vs) ↔ j ∈ vs := by simp [Ne.symm c]
      simp only [this]
theorem wipeE_get {ρ : Env} {j : Nat} : ∀ {vs : List Nat}, (wipeE ρ vs).length = ρ.length ∧ (wipeE ρ vs)[j]? = if j ∈ vs then (if j < ρ.length then some none else none) else ρ[j]?
  | [] => by simp [wipeE]
  | v :: vs => by
    obtain ⟨h1, h2⟩ := wipeE_get (ρ := ρ) (j := j) (vs := vs)
    unfold wipeE
    refine ⟨by rw [List.length_set]; exact h1, ?_⟩
    by_cases c : v = j
    · subst c
      rw [if_pos List.mem_cons_self, List.getElem?_set, if_pos rfl, h1]
    · rw [List.getElem?_set_ne c, h2]
      have : (j ∈ v :: vs) ↔ j ∈ vs := by simp [Ne.symm c]
      simp only [this]
theorem wipeE_some {ρ : Env} {vs : List Nat} {j : Nat} {s : Sl} (h : (wipeE ρ vs)[j]? = some (some s)) : j ∉ vs ∧ ρ[j]? = some (some s) := by
  rw [wipeE_get.2] at h
  split at h
  · split at h <;> cases h
  · rename_i c; exact ⟨c, h⟩
theorem wipe_only {σ σ' : Sg} {vs : List Nat} (o : Only vs σ σ') : wipe σ' vs = wipe σ vs := by
  apply List.ext_getElem?
  intro j
  rw [wipe_get, wipe_get, o.1]
  split
  · rfl
  · rename_i c; exact o.2 j c
theorem wipe_self {σ : Sg} {vs : List Nat} : Only vs σ (wipe σ vs) := ⟨wipe_length σ vs, fun j n => by rw [wipe_get, if_neg n]⟩
theorem StOk.wipe (s : StOk K G ρ F σ H) (vs : List Nat) : StOk K G (wipeE ρ vs) F (wipe σ vs) H := by
  refine ⟨by rw [(wipeE_get (j := 0)).1, wipe_length]; exact s.len, fun i t h => ?_, fun i j t u a ne h1 h2 n1 n2 g1 g2 => ?_, s.dom⟩
  · obtain ⟨n, h⟩ := wipeE_some h
    obtain ⟨v, h1, h2⟩ := s.val i t h
    exact ⟨v, by rw [wipe_get, if_neg n]; exact h1, h2⟩
  · obtain ⟨m1, h1⟩ := wipeE_some h1
    obtain ⟨m2, h2⟩ := wipeE_some h2
    rw [wipe_get, if_neg m1] at g1
    rw [wipe_get, if_neg m2] at g2
    exact s.sep i j t u a ne h1 h2 n1 n2 g1 g2
theorem ownSh_get {ρ : Env} : ∀ {vs : List Nat}, ownSh ρ vs = true → ∀ i ∈ vs, ∀ s, ρ[i]? = some (some s) → s.m = .sh
  | v :: vs, h, i, m, s, e => by
    rw [ownSh, Bool.and_eq_true] at h
    rcases List.mem_cons.mp m with rfl | m
    · have h1 := h.1
      rw [gS_of e] at h1
      dsimp only at h1
      split at h1
      · assumption
      · cases h1
    · exact ownSh_get h.2 i m s e
theorem Stp.wipe {vs : List Nat} (sh : ownSh ρ vs = true) : Stp ρ F σ H (wipeE ρ vs) F (wipe σ vs) H := by
  refine ⟨fun _ x => x, fun _ _ x _ _ => x, fun _ _ _ _ x => .inl x, fun _ x => .inl x, fun b ⟨i, t, h, n, g⟩ => .inl ?_, fun b ⟨i, t, h, n, g⟩ => .inl ?_, fun i t h m => ?_⟩
  · obtain ⟨m, h⟩ := wipeE_some h
    rw [wipe_get, if_neg m] at g
    exact ⟨i, t, h, n, g⟩
  · obtain ⟨m, h⟩ := wipeE_some h
    rw [wipe_get, if_neg m] at g
    exact ⟨i, t, h, n, g⟩
  · have c : i ∉ vs := fun q => by
      have := ownSh_get sh i q t h
      rcases m with m | m <;> rw [this] at m <;> cases m
    refine ⟨by rw [wipe_get, if_neg c], t, by rw [wipeE_get.2, if_neg c]; exact h, m.elim (fun z => .inr ⟨z, z⟩) .inl⟩
theorem putBack_get {ρ₀ ρ : Env} {j : Nat} (hl : ρ₀.length = ρ.length) : ∀ {vs : List Nat}, (putBack ρ₀ vs ρ).length = ρ.length ∧ (putBack ρ₀ vs ρ)[j]? = if j ∈ vs then ρ₀[j]? else ρ[j]?
  | [] => by simp [putBack]
  | v :: vs => by
    obtain ⟨h1, h2⟩ := putBack_get (j := j) hl (vs := vs)
    unfold putBack
    split
    · rename_i s e
      refine ⟨by rw [List.length_set]; exact h1, ?_⟩
      by_cases c : v = j
      · subst c
        rw [if_pos List.mem_cons_self, List.getElem?_set, if_pos rfl, h1, if_pos (by rw [← hl]; exact (List.getElem?_eq_some_iff.mp e).1), e]
      · rw [List.getElem?_set_ne c, h2]
        have : (j ∈ v :: vs) ↔ j ∈ vs := by simp [Ne.symm c]
        simp only [this]
    · rename_i e
      refine ⟨h1, ?_⟩
      rw [h2]
      by_cases c : v = j
      · subst c
        rw [if_pos List.mem_cons_self, e]
        split
        · rfl
        · rw [List.getElem?_eq_none_iff] at e ⊢; omega
      · have : (j ∈ v :: vs) ↔ j ∈ vs := by simp [Ne.symm c]
        simp only [this]
/-- behind the comprehension -/
theorem unwipe {vs : List Nat} {ρ2 : Env} {F2 : FS} {H2 : Hp} (s2 : StOk K G ρ2 F2 σ H2) (sh : ownSh ρ2 vs = true) (s : StOk K G ρ F (wipe σ vs) H) (x : Stp (wipeE ρ2 vs) F2 (wipe σ vs) H2 ρ F (wipe σ vs) H) :
    StOk K G (putBack ρ2 vs ρ) F σ H ∧ Stp ρ2 F2 σ H2 (putBack ρ2 vs ρ) F σ H ∧ ∀ b, Held (putBack ρ2 vs ρ) σ b → Held ρ (wipe σ vs) b := by
  have hl : ρ2.length = ρ.length := by rw [s2.len, s.len, wipe_length]
  have x0 : Stp ρ2 F2 σ H2 ρ F (wipe σ vs) H := (Stp.wipe sh).trans x
  have ext := x0.ext s2
  have wg : ∀ {i : Nat}, i ∉ vs → (wipe σ vs)[i]? = σ[i]? := fun {i} c => by rw [wipe_get, if_neg c]
  have at_ : ∀ {i : Nat} {t : Sl}, (putBack ρ2 vs ρ)[i]? = some (some t) → (i ∈ vs ∧ ρ2[i]? = some (some t) ∧ t.m = .sh) ∨ (i ∉ vs ∧ ρ[i]? = some (some t)) := fun {i t} h => by
    rw [(putBack_get hl).2] at h
    split at h
    · rename_i c; exact .inl ⟨c, h, ownSh_get sh i c t h⟩
    · rename_i c; exact .inr ⟨c, h⟩
  have at2 : ∀ {i : Nat} {t : Sl}, (putBack ρ2 vs ρ)[i]? = some (some t) → t.m ≠ .sh → i ∉ vs ∧ ρ[i]? = some (some t) := fun {i t} h n => by
    rcases at_ h with ⟨_, _, z⟩ | z
    · exact absurd z n
    · exact z
  have held : ∀ b, Held (putBack ρ2 vs ρ) σ b → Held ρ (wipe σ vs) b := fun b ⟨i, t, h, n, g⟩ => by
    obtain ⟨c, h⟩ := at2 h n
    exact ⟨i, t, h, n, by rw [wg c]; exact g⟩
  have own : ∀ b, Own (putBack ρ2 vs ρ) σ b → Own ρ (wipe σ vs) b := fun b ⟨i, t, h, n, g⟩ => by
    obtain ⟨c, h⟩ := at2 h (by rcases n with n | n <;> rw [n] <;> exact (fun z => nomatch z))
    exact ⟨i, t, h, n, by rw [wg c]; exact g⟩
  refine ⟨⟨by rw [(putBack_get (j := 0) hl).1, s.len, wipe_length], fun i t h => ?_, fun i j t u a ne h1 h2 n1 n2 g1 g2 => ?_, s.dom⟩, ⟨x0.fr, x0.keep, x0.kd, x0.fnew, fun b hb => x0.hnew b (held b hb), fun b hb => x0.onew b (own b hb), fun i t h m => ?_⟩, held⟩
  · rcases at_ h with ⟨c, h, z⟩ | ⟨c, h⟩
    · obtain ⟨v, h1, h2⟩ := s2.val i t h
      obtain ⟨m, d⟩ := t
      dsimp only at z
      subst z
      exact ⟨v, h1, Rep.ext ext h2⟩
    · obtain ⟨v, h1, h2⟩ := s.val i t h
      exact ⟨v, by rw [← wg c]; exact h1, h2⟩
  · obtain ⟨c1, h1⟩ := at2 h1 n1
    obtain ⟨c2, h2⟩ := at2 h2 n2
    exact s.sep i j t u a ne h1 h2 n1 n2 (by rw [wg c1]; exact g1) (by rw [wg c2]; exact g2)
  · have c : i ∉ vs := fun q => by
      have := ownSh_get sh i q t h
      rcases m with m | m <;> rw [this] at m <;> cases m
    obtain ⟨e1, t', e2, m2⟩ := x0.io i t h m
    exact ⟨rfl, t', by rw [(putBack_get hl).2, if_neg c]; exact e2, m2⟩
theorem unlock_held {b : Addr} : ∀ {lk : List (Nat × Mo)} {ρ : Env}, Held (unlock lk ρ) σ b → Held ρ σ b
  | [], ρ, h => h
  | p :: r, ρ, h => by
    unfold unlock at h
    have h := unlock_held h
    cases e : gS ρ p.1 with
    | none => rw [e] at h; exact h
    | some sl =>
      rw [e] at h
      dsimp only at h
      split at h
      · rename_i hb
        obtain ⟨i, t, h1, n, g⟩ := h
        by_cases c : p.1 = i
        · subst c
          exact ⟨p.1, sl, gS_some e, by rw [hb]; exact (fun z => nomatch z), g⟩
        · rw [List.getElem?_set_ne c] at h1
          exact ⟨i, t, h1, n, g⟩
      · exact h
/-- a place that no slot holds may change -/
theorem priv_ok' {a : Addr} {on : HO} (s : StOk K G ρ F σ H) (nf : ¬ F a) (nh : ¬ Held ρ σ a) (ha : ∀ o, H a = some o → (∀ xs, o ≠ .tup xs) ∧ ∀ ob u, o ≠ .frz ob u) :
    StOk K G ρ F σ (upd H a on) ∧ Ext F H F (upd H a on) ∧ ∀ {ρ₀ : Env} {F₀ : FS} {σ₀ : Sg} {H₀ : Hp}, H₀ a = none → Stp ρ₀ F₀ σ₀ H₀ ρ F σ H → Stp ρ₀ F₀ σ₀ H₀ ρ F σ (upd H a on) := by
  have keep : ∀ b o, b ≠ a → H b = some o → upd H a on b = some o := fun b o n e => by rw [upd_ne n]; exact e
  have ex : Ext F H F (upd H a on) := by
    refine ⟨fun _ x => x, fun b o f e _ => keep b o (fun z => nf (z ▸ f)) e, fun b es f e => .inl (keep b _ (fun z => nf (z ▸ f)) e), fun b xs e => keep b _ (fun z => ?_) e, fun b o xs e => keep b _ (fun z => ?_) e⟩
    · subst z; exact (ha _ e).1 xs rfl
    · subst z; exact (ha _ e).2 o _ rfl
  refine ⟨⟨s.len, fun i t h => ?_, s.sep, fun b f => ?_⟩, ex, fun {ρ₀ F₀ σ₀ H₀} h0 x => ⟨x.fr, fun b o e no n => keep b o (fun z => ?_) (x.keep b o e no n), fun b es f no e => (x.kd b es f no e).elim (fun q => .inl (keep b _ (fun z => by subst z; rw [h0] at e; cases e) q)) (fun q => q.elim fun ob q => .inr ⟨ob, keep b _ (fun z => by subst z; rw [h0] at e; cases e) q⟩), x.fnew, x.hnew, x.onew, x.io⟩⟩
  · obtain ⟨v, h1, h2⟩ := s.val i t h
    exact ⟨v, h1, h2.ext ex (fun b ev n => s.notF ⟨i, t, h, n, by rw [h1, ev]⟩) fun b o ev n q => keep b o (fun z => nh ⟨i, t, h, n, by rw [h1, ev, z]⟩) q⟩
  · by_cases c : b = a
    · subst c; exact absurd f nf
    · rw [upd_ne c]; exact s.dom b f
  · subst z; rw [h0] at e; cases e
theorem priv_ok {a : Addr} {zs : List V} (s : StOk K G ρ F σ H) (nf : ¬ F a) (nh : ¬ Held ρ σ a) (ha : H a = none ∨ ∃ ys, H a = some (.lst ys)) :
    StOk K G ρ F σ (upd H a (.lst zs)) ∧ Ext F H F (upd H a (.lst zs)) ∧ ∀ {ρ₀ : Env} {F₀ : FS} {σ₀ : Sg} {H₀ : Hp}, H₀ a = none → Stp ρ₀ F₀ σ₀ H₀ ρ F σ H → Stp ρ₀ F₀ σ₀ H₀ ρ F σ (upd H a (.lst zs)) := by
  refine priv_ok' s nf nh fun o e => ?_
  rcases ha with z | ⟨ys, z⟩
  · rw [z] at e; cases e
  · rw [z] at e; cases e; exact ⟨(fun _ z => nomatch z), (fun _ _ z => nomatch z)⟩
end
/-! ## [elt for target in iter if test] -/
section
variable {G : Gx} {X : Cx} {pos : Pos}
def wNo : WX := fun _ _ _ _ => False
theorem takes_no {X : Cx} : Takes X wNo := fun _ _ ⟨_, _, _, _, _, _, _, _, _, _, _, _, _, _, _, _, w⟩ => w.elim
theorem drop_cons {α : Type} {ds : List α} {i : Nat} (h : i < ds.length) : ∃ d, ds[i]? = some d ∧ ds.drop i = d :: ds.drop (i + 1) := ⟨ds[i], List.getElem?_eq_getElem h, List.drop_eq_getElem_cons h⟩
/-- what holds at a turn -/
def LcI (K : PySem.W.Frag) (G : Gx) (vs : List Nat) (ρ2 : Env) (F2 : FS) (σ : Sg) (H2 : Hp) (a : Addr) (ds : List D) (t : Tg) (ft fe : Env → R (D × Vm)) (dsF : List D) (ρF : Env) (i : Nat) (H' : Hp) : Prop :=
  i ≤ ds.length ∧ ∃ ρ' F' acc accD, StOk K G ρ' F' (wipe σ vs) H' ∧ Stp (wipeE ρ2 vs) F2 (wipe σ vs) H2 ρ' F' (wipe σ vs) H' ∧ H' a = some (.lst acc) ∧ ¬ F' a ∧ ¬ Held ρ' (wipe σ vs) a ∧ Reps K G F' H' acc accD ∧
    lcLoop vs t ft fe (ds.drop i) accD ρ' = .ok dsF ρF
theorem lc_run {k : Ik} {t : Tg} {g : Env → R (List Ar)} {ft fe : Env → R (D × Vm)} {vs : List Nat} {W : WX} {σ : Sg} {H : Hp} {Q : VK} {ρ : Env} {F : FS} {K : PySem.W.Frag} (hsub : ∀ i ∈ tgIs t, i ∈ vs) (s : StOk K G ρ F σ H)
    (p : PostV K G W ρ F σ H (lcF vs t k g ft fe ρ) Q) : tLc (tI K G W k g) (gTg K t) (tTs K G wNo ft) (tV K G wNo fe) vs σ H Q := by
  refine ⟨ρ, F, s, (PostV.bind p).mono ?_⟩
  rintro ars ρ1 F1 H1 _ _ ⟨x1, s1, _, q0⟩
  unfold CI
  split
  · rename_i x ex
    rw [ex] at q0
    dsimp only at q0
    intro J as F2 H2 x2 s2 w sf lp bs A nD
    split at q0
    · rename_i sh
      split at q0
      · rename_i dsF ρF hloop
        have nFD : ¬ F2 A := fun f => s2.dom A f nD
        have nHD : ¬ Held (wipeE x.ρ vs) (wipe σ vs) A := fun h => by
          obtain ⟨d, c⟩ := (s2.wipe vs).heldCell h
          obtain ⟨o, e, _⟩ := c.there
          rw [nD] at e; cases e
        refine ⟨fun i m H' => m = x.ds.length - i ∧ LcI K G vs x.ρ F2 σ H2 A x.ds t ft fe dsF ρF i H', ⟨_, rfl, Nat.zero_le _, wipeE x.ρ vs, F2, [], [], ?_⟩, ?_⟩
        · obtain ⟨a1, a2, a3⟩ := priv_ok (zs := []) (s2.wipe vs) nFD nHD (.inl nD)
          exact ⟨a1, a3 nD .refl, upd_same, nFD, nHD, .nil, hloop⟩
        · rintro i m H' ⟨rfl, hi, ρ', F', acc, accD, s', x', hD, nF', nH', rr, hl⟩
          have x0 : Stp x.ρ F2 σ H2 ρ' F' (wipe σ vs) H' := (Stp.wipe sh).trans x'
          have wl := w F' H' (x0.ext s2) (sf.step x0).2
          obtain ⟨wstop, wgo⟩ := wl i
          by_cases c : i < x.ds.length
          · refine .inr ?_
            obtain ⟨d, hd, hdr⟩ := drop_cons c
            obtain ⟨go, yl⟩ := wgo d hd
            rw [hdr, lcLoop] at hl
            refine ⟨go, fun H3 => LcI K G vs x.ρ F2 σ H2 A x.ds t ft fe dsF ρF (i + 1) H3, fun H3 q => ⟨_, by have := q.1; omega, rfl, q⟩, ?_⟩
            intro v H3 hy
            obtain ⟨gr, rv⟩ := yl v H3 hy
            split at hl
            · cases hl
            · rename_i ρ1' e1
              obtain ⟨σ1, s4, x4, on, gq⟩ := assign_ok (s'.grow gr) rv e1
              have on' : Only vs σ σ1 := wipe_self.trans (on.mono hsub)
              have hwp : wipe σ1 vs = wipe σ vs := wipe_only on'
              refine gq _ ⟨hwp, ρ1', F', s4, ?_⟩
              have xa : Stp (wipeE x.ρ vs) F2 (wipe σ vs) H2 ρ1' F' σ1 H3 := x'.trans ((Stp.grow gr).trans x4)
              have nH1 : ¬ Held ρ1' σ1 A := fun h => by
                rcases x4.hnew A h with z | z
                · exact nH' z
                · rw [gr A _ hD] at z; cases z
              have hD3 : H3 A = some (.lst acc) := gr A _ hD
              -- what a part of the turn leaves of the new list
              have stay : ∀ {ρ5 : Env} {F5 : FS} {H5 : Hp}, Stp ρ1' F' σ1 H3 ρ5 F5 σ1 H5 → H5 A = some (.lst acc) ∧ ¬ F5 A ∧ ¬ Held ρ5 σ1 A := fun {ρ5 F5 H5} y => by
                refine ⟨y.keep A _ hD3 (fun o => nH1 o.held) (fun _ _ y => nomatch y), fun f => ?_, fun h => ?_⟩
                · rcases y.fnew A f with z | z | z
                  · exact nF' z
                  · rw [hD3] at z; cases z
                  · exact nH1 z.held
                · rcases y.hnew A h with z | z
                  · exact nH1 z
                  · rw [hD3] at z; cases z
              split at hl
              · rename_i tv ρ2' e2
                rw [e2]
                intro F5 H5 y5 s5
                obtain ⟨d1, d2, d3⟩ := stay y5
                have wipeH : ∀ {ρ6 : Env}, ¬ Held ρ6 σ1 A → ¬ Held (wipeE ρ6 vs) (wipe σ vs) A := fun {ρ6} n ⟨j, t', h, nn, g'⟩ => by
                  obtain ⟨c', h⟩ := wipeE_some h
                  rw [← hwp, wipe_get, if_neg c'] at g'
                  exact n ⟨j, t', h, nn, g'⟩
                split at hl
                · rename_i et
                  show match tv.1 with | .bl k => _ | _ => False
                  rw [et]
                  dsimp only
                  rw [if_pos rfl]
                  refine ⟨ρ2', F5, s5, ?_⟩
                  split at hl
                  · rename_i wv ρ3' e3
                    rw [e3]
                    intro F6 H6 y6 s6 v6 ok6 fr6
                    split at hl
                    · rename_i hcond
                      rw [Bool.and_eq_true] at hcond
                      obtain ⟨c1, c2, c3⟩ := stay (y5.trans y6)
                      have fin : ∀ F7, StOk K G ρ3' F7 σ1 H6 → Stp (wipeE x.ρ vs) F2 (wipe σ vs) H2 ρ3' F7 σ1 H6 → Ext F6 H6 F7 H6 → ¬ F7 A → Rep K G F7 H6 v6 wv.1 → ∃ acc, H6 A = some (.lst acc) ∧ acc.length < sizeLine ∧ LcI K G vs x.ρ F2 σ H2 A x.ds t ft fe dsF ρF (i + 1) (upd H6 A (.lst (acc ++ [v6]))) := by
                        intro F7 s7 x7 e7 n7 r7
                        have rr7 : Reps K G F7 H6 (acc ++ [v6]) (accD ++ [wv.1]) := ((rr.ext (((Stp.grow gr).trans x4).trans (y5.trans y6) |>.ext s')).ext e7).append (.cons r7 .nil)
                        have s8 := s7.wipe vs
                        rw [hwp] at s8
                        have x8 := x7.trans (Stp.wipe hcond.2)
                        rw [hwp] at x8
                        obtain ⟨b1, b2, b3⟩ := priv_ok (zs := acc ++ [v6]) s8 n7 (wipeH c3) (.inr ⟨acc, c1⟩)
                        refine ⟨acc, c1, ?_, c, _, F7, acc ++ [v6], accD ++ [wv.1], b1, b3 nD x8, upd_same, n7, wipeH c3, rr7.ext b2, hl⟩
                        have := okLen_le hcond.1
                        rw [rr.length]; omega
                      obtain ⟨wd, wm⟩ := wv
                      cases wm with
                      | sh => exact fin F6 s6 (xa.trans (y5.trans y6)) .refl c2 ok6
                      | fr =>
                        obtain ⟨a, ev, nf, nh, cc⟩ := ok6
                        obtain ⟨s7, r7⟩ := s6.freeze nh cc
                        have fa := y5.fresh (fr6 rfl a ev)
                        have ne : a ≠ A := fun z => by
                          subst z
                          rcases fa with z | z
                          · rw [hD3] at z; cases z
                          · exact nH1 z.held
                        rw [ev]
                        rw [ev] at fin
                        exact fin _ s7 ((xa.trans (y5.trans y6)).freeze (xa.fresh fa)) ⟨fun _ z => .inl z, fun _ _ _ z _ => z, fun _ _ _ z => .inl z, fun _ _ z => z, fun _ _ _ z => z⟩ (fun z => z.elim c2 fun z => ne z.symm) r7
                    · cases hl
                  · cases hl
                · rename_i et
                  show match tv.1 with | .bl k => _ | _ => False
                  rw [et]
                  dsimp only
                  rw [if_neg (by simp)]
                  split at hl
                  · rename_i sh2
                    have s8 := s5.wipe vs
                    rw [hwp] at s8
                    have x8 := (xa.trans y5).trans (Stp.wipe sh2)
                    rw [hwp] at x8
                    exact ⟨c, _, F5, acc, accD, s8, x8, d1, d2, wipeH d3, rr.ext (((Stp.grow gr).trans x4).trans y5 |>.ext s'), hl⟩
                  · cases hl
                · cases hl
              · cases hl
          · refine .inl ⟨wstop (by omega), ?_⟩
            have e : i = x.ds.length := by omega
            subst e
            rw [List.drop_length, lcLoop] at hl
            cases hl
            obtain ⟨u1, u2, u3⟩ := unwipe s2 sh s' x'
            obtain ⟨v1, v2⟩ := unlock_ok u1 (x2.trans u2) (LkP.later lp bs u2)
            exact q0 F' H' v2 v1 (.ref A) ⟨A, rfl, nF', fun h => nH' (u3 A (unlock_held h)), .lst hD rr⟩ fun _ b eb => by cases eb; exact x2.fresh (.inl nD)
      · exact q0.elim
    · exact q0.elim
  · rename_i en
    rw [en] at q0
    exact q0.elim
end
end DI

set_option Elab.async false
set_option linter.all false
set_option maxRecDepth 100000
set_option maxHeartbeats 4000000
namespace DI
open PySem PySem.Spec L2 PyProof.Rows
/-! ## Statements -/
def SOk (G : Gx) (X : Cx) (s : Stmt) (f : Env → SR) : Prop := ∀ W, Takes X W → PS X s (tS X.K G W f)
def SsOk (G : Gx) (X : Cx) (s : List Stmt) (f : Env → SR) : Prop := ∀ W, Takes X W → PSs X s (tS X.K G W f)
section
variable {K : PySem.W.Frag} {G : Gx} {W : WX} {ρ ρ' : Env} {F F' : FS} {σ σ' : Sg} {H H' : Hp} {D : Ends}
theorem PostS.then {α : Type} {r : R α} {k : α → Env → SR} (p : PostS K G W D ρ F σ H (r.thenS k)) :
    PostG K G W ρ F σ H r (fun a ρ1 F1 H1 => Stp ρ F σ H ρ1 F1 σ H1 ∧ StOk K G ρ1 F1 σ H1 ∧ PostS K G W D ρ1 F1 σ H1 (k a ρ1) ∧ PostS K G W D ρ F σ H (k a ρ1)) := by
  cases r with
  | ok a ρ2 => exact fun F2 H2 y s => ⟨y, s, p.step y, p⟩
  | ex e ρ2 => exact p
  | no => exact p
theorem PostS.thenAt {α : Type} {r : R α} {k : α → Env → SR} {ρ1 : Env} {F1 : FS} {H1 : Hp} (x : Stp ρ F σ H ρ1 F1 σ H1) (p : PostS K G W D ρ F σ H (r.thenS k)) :
    PostG K G W ρ1 F1 σ H1 r (fun a ρ2 F2 H2 => Stp ρ1 F1 σ H1 ρ2 F2 σ H2 ∧ StOk K G ρ2 F2 σ H2 ∧ PostS K G W D ρ F σ H (k a ρ2)) := by
  cases r with
  | ok a ρ2 => exact fun F2 H2 y s => ⟨y, s, p⟩
  | ex e ρ2 => exact PostX.step x p
  | no => exact p
/-- the wish of what comes next, from here -/
theorem PostS.ends {r : SR} {D' : Ends} (p : PostS K G W D ρ F σ H r) (nx : ∀ ρ' F' σ' H', r = .nx ρ' → Stp ρ F σ H ρ' F' σ' H' → StOk K G ρ' F' σ' H' → D'.nx σ' H')
    (bk : ∀ ρ' F' σ' H', r = .bk ρ' → Stp ρ F σ H ρ' F' σ' H' → StOk K G ρ' F' σ' H' → D'.bk σ' H') (ct : ∀ ρ' F' σ' H', r = .ct ρ' → Stp ρ F σ H ρ' F' σ' H' → StOk K G ρ' F' σ' H' → D'.ct σ' H') (rt : ∀ v H, D.rt v H → D'.rt v H) : PostS K G W D' ρ F σ H r := by
  cases r with
  | nx ρ2 => exact fun F2 σ2 H2 x s => nx ρ2 F2 σ2 H2 rfl x s
  | bk ρ2 => exact fun F2 σ2 H2 x s => bk ρ2 F2 σ2 H2 rfl x s
  | ct ρ2 => exact fun F2 σ2 H2 x s => ct ρ2 F2 σ2 H2 rfl x s
  | rt d m ρ2 => exact fun v F2 σ2 H2 x s o f => rt _ _ (p v F2 σ2 H2 x s o f)
  | ex e ρ2 => exact p
  | no => exact p
end
section
variable {G : Gx} {X : Cx} {pos : Pos}
theorem nil_ok : SsOk G X [] (fun ρ => .nx ρ) := by
  intro W tk
  refine pssImp pss_nil ?_
  rintro D σ H ⟨ρ, F, s, p⟩
  exact p F σ H .refl s
theorem cons_ok {st : Stmt} {rest : List Stmt} {f g : Env → SR} (h : SOk G X st f) (t : SsOk G X rest g) : SsOk G X (st :: rest) (seqFs f g) := by
  intro W tk
  refine pssImp (pss_cons (h W tk) (t W tk)) ?_
  rintro D σ H ⟨ρ, F, s, p⟩
  refine ⟨ρ, F, s, ?_⟩
  unfold seqFs SR.seq at p
  cases hf : f ρ with
  | nx ρ1 => rw [hf] at p; exact fun F1 σ1 H1 x1 s1 => ⟨ρ1, F1, s1, p.step x1⟩
  | bk ρ1 => rw [hf] at p; exact p
  | ct ρ1 => rw [hf] at p; exact p
  | rt d m ρ1 => rw [hf] at p; exact p
  | ex e ρ1 => rw [hf] at p; exact p
  | no => rw [hf] at p; exact p
theorem pass_ok : SOk G X (.Pass pos) (fun ρ => .nx ρ) := by
  intro W tk
  refine psImp ps_pass ?_
  rintro D σ H ⟨ρ, F, s, p⟩
  exact p F σ H .refl s
theorem brk_ok : SOk G X (.Break pos) (fun ρ => .bk ρ) := by
  intro W tk
  refine psImp ps_break ?_
  rintro D σ H ⟨ρ, F, s, p⟩
  exact p F σ H .refl s
theorem ctn_ok : SOk G X (.Continue pos) (fun ρ => .ct ρ) := by
  intro W tk
  refine psImp ps_continue ?_
  rintro D σ H ⟨ρ, F, s, p⟩
  exact p F σ H .refl s
theorem doc_ok {x j pos'} : SOk G X (.Expr (.Constant (.str x) j pos) pos') (fun ρ => .nx ρ) := by
  intro W tk
  refine psImp ps_doc ?_
  rintro D σ H ⟨ρ, F, s, p⟩
  exact p F σ H .refl s
theorem drop_ok {e : Expr} {f : Env → R (D × Vm)} (h : EOk G X e f) (hs : swapsWith e none pos.line X.env = pure false) : SOk G X (.Expr e pos) (dropFs f) := by
  intro W tk
  refine psImp (ps_expr (h W tk) hs) ?_
  rintro D σ H ⟨ρ, F, s, p⟩
  refine ⟨ρ, F, s, p.then.mono ?_⟩
  rintro v ρ1 F1 H1 _ _ ⟨x1, s1, q1, _⟩ _ _ _
  exact q1 F1 σ H1 .refl s1
theorem ret_ok {e : Expr} {f : Env → R (D × Vm)} (h : EOk G X e f) : SOk G X (.Return (some e) pos) (retFs f) := by
  intro W tk
  refine psImp (ps_ret (h W tk)) ?_
  rintro D σ H ⟨ρ, F, s, p⟩
  refine ⟨ρ, F, s, p.then.mono ?_⟩
  rintro v ρ1 F1 H1 _ _ ⟨x1, s1, _, q1⟩ z ok fr
  exact q1 z F1 σ H1 x1 s1 ok fr
theorem retN_ok : SOk G X (.Return none pos) (fun ρ => .rt .non .sh ρ) := by
  intro W tk
  refine psImp ps_retN ?_
  rintro D σ H ⟨ρ, F, s, p⟩
  exact p .non F σ H .refl s .non fun z => nomatch z
theorem if_ok {c : Expr} {a b : List Stmt} {t : Env → R (D × Vm)} {f g : Env → SR} (hc : TOk G X c t) (ha : SsOk G X a f) (hb : SsOk G X b g) : SOk G X (.If c a b pos) (ifFs t f g) := by
  intro W tk
  refine psImp (ps_if (hc W tk) (ha W tk) (hb W tk)) ?_
  rintro D σ H ⟨ρ, F, s, p⟩
  refine ⟨ρ, F, s, p.then.mono ?_⟩
  rintro ⟨d, m⟩ ρ1 F1 H1 _ _ ⟨x1, s1, q1, qq⟩
  clear qq
  dsimp only at q1
  split at q1
  · rename_i k
    cases k with
    | true =>
      show if true = true then tS X.K G W f D σ H1 else tS X.K G W g D σ H1
      rw [if_pos rfl]
      exact ⟨ρ1, F1, s1, by simpa using q1⟩
    | false =>
      show if false = true then tS X.K G W f D σ H1 else tS X.K G W g D σ H1
      rw [if_neg (by simp)]
      exact ⟨ρ1, F1, s1, by simpa using q1⟩
  · exact q1.elim
theorem set_core {i : Nat} {v : D × Vm} {z : V} {W : WX} {E : Ends} {K : PySem.W.Frag} {ρ0 ρ : Env} {F0 F : FS} {σ0 σ : Sg} {H0 H : Hp} (s : StOk K G ρ F σ H) (x : Stp ρ0 F0 σ0 H0 ρ F σ H) (ok : ValOk K G ρ F σ H z v.1 v.2) (fr : v.2 = .fr → ∀ b, z = .ref b → Fresh ρ0 σ0 H0 b)
    {ρ' : Env} (h : setS ρ i (mkSl v.1 v.2) = some ρ') : StOk K G ρ' F (σ.set i (some z)) H ∧ Stp ρ0 F0 σ0 H0 ρ' F (σ.set i (some z)) H :=
  ⟨s.put ok h, Stp.put x (fun e a ea => fr e a ea) h⟩
theorem set_run {i : Nat} {f : Env → R (D × Vm)} {W : WX} {E : Ends} {K : PySem.W.Frag} {ρ : Env} {F : FS} {σ : Sg} {H : Hp} (s : StOk K G ρ F σ H) (p : PostS K G W E ρ F σ H (setFs i f ρ)) : tAsg (tV K G W f) (gName i) E σ H := by
  refine ⟨ρ, F, s, p.then.mono ?_⟩
  rintro v ρ1 F1 H1 _ _ ⟨x1, s1, _, q1⟩ z ok fr
  split at q1
  · rename_i ρ2 e
    obtain ⟨s2, x2⟩ := set_core (W := W) (E := E) s1 x1 ok fr e
    exact q1 F1 _ H1 x2 s2
  · exact q1.elim
theorem set_ok {i : Nat} {x : Str} {e : Expr} {px : Pos} {f : Env → R (D × Vm)} (hN : X.N.Nodup) (hi : X.N[i]? = some x) (hx : Loc X.env.scope x) (hf : X.fn x = true ∨ X.env.scope.names.lookup x = some .local) (h : EOk G X e f) (hs : swapsWith e (some (.Name x px)) pos.line X.env = pure false) :
    SOk G X (.Assign [.Name x px] e pos) (setFs i f) := by
  intro W tk
  refine psImp (ps_set hN hi hx (h W tk) hs hf) ?_
  rintro D σ H ⟨ρ, F, s, p⟩
  exact set_run s p
theorem par_ok {i j : Nat} {x y : Str} {a b : Expr} {px py pt : Pos} {kt k2 pt2} {f g : Env → R (D × Vm)} (hc : X.calm = true) (hN : X.N.Nodup) (hi : X.N[i]? = some x) (hj : X.N[j]? = some y) (hij : i ≠ j)
    (hx : X.env.scope.names.lookup x = some .local) (hy : X.env.scope.names.lookup y = some .local) (ha : EOk G X a f) (hb : EOk G X b g) (hs1 : starEach [a, b] X.env = (false, eval a X.env) :: starEach [b] X.env) (hs2 : starEach [b] X.env = (false, eval b X.env) :: starEach [] X.env)
    (hw : swappedStores [.Tuple [.Name x px, .Name y py] kt pt] (.Tuple [a, b] k2 pt2) X.env = pure (some [x, y])) (hs : swapsWithSole [.Tuple [.Name x px, .Name y py] kt pt] (.Tuple [a, b] k2 pt2) pos.line X.env = pure false) :
    SOk G X (.Assign [.Tuple [.Name x px, .Name y py] kt pt] (.Tuple [a, b] k2 pt2) pos) (parFs i j f g) := by
  intro W tk
  refine psImp (ps_par hc hN hi hj hij hx hy (pa_cons (ha W tk) (pa_cons (hb W tk) pa_nil hs2) hs1) hw hs) ?_
  rintro D σ H ⟨ρ, F, s, p⟩
  refine ⟨ρ, F, s, p.then.mono ?_⟩
  rintro v ρ1 F1 H1 _ _ ⟨x1, s1, _, q1⟩ z1 ok1 fr1
  refine ⟨ρ1, F1, s1, (q1.thenAt x1).mono ?_⟩
  rintro u ρ2 F2 H2 _ _ ⟨x2, s2, q2⟩ z2 ok2 fr2
  refine ⟨z1, z2, rfl, ?_⟩
  have ok1' := ok1.step s1 x2
  split at q2
  · rename_i ρ4 e
    obtain ⟨ρ3, e1, e2⟩ := Option.bind_eq_some_iff.mp e
    obtain ⟨s3, x3⟩ := set_core (W := W) (E := D) s2 (x1.trans x2) ok1' fr1 e1
    have ok2' : ValOk X.K G ρ3 F2 (σ.set i (some z1)) H2 z2 u.1 u.2 := by
      obtain ⟨ud, um⟩ := u
      cases um with
      | sh => exact ok2
      | fr =>
        obtain ⟨a2, rfl, nf, nh, c⟩ := ok2
        refine ⟨a2, rfl, nf, fun hh => ?_, c⟩
        obtain ⟨rfl, _, _⟩ := setS_spec e1
        rcases held_set hh with ⟨z, ez⟩ | z
        · obtain ⟨vd, vm⟩ := v
          cases vm with
          | sh => exact z rfl
          | fr =>
            subst ez
            obtain ⟨b, eb, _, nh1, c1⟩ := ok1
            cases eb
            obtain ⟨o, eo, _⟩ := c1.there
            rcases fr2 rfl _ rfl with q | q
            · rw [eo] at q; cases q
            · exact nh1 q.held
        · exact nh z
    obtain ⟨s4, x4⟩ := set_core (W := W) (E := D) s3 x3 ok2' (fun e b eb => x1.fresh (fr2 e b eb)) e2
    exact q2 F2 _ H2 x4 s4
  · exact q2.elim
end
end DI

set_option Elab.async false
set_option linter.all false
set_option maxRecDepth 100000
set_option maxHeartbeats 4000000
namespace DI
open PySem PySem.Spec L2 PyProof.Rows
/-! ## o[i] = v -/
section
variable {K : PySem.W.Frag} {G : Gx} {F : FS} {H : Hp}
theorem repKs_append : ∀ {es es' : List (Key × V)} {ds ds' : List (D × D)}, RepKs K G F H es ds → RepKs K G F H es' ds' → RepKs K G F H (es ++ es') (ds ++ ds')
  | _, _, _, _, .nil, s => s
  | _, _, _, _, .cons k r t, s => .cons k r (repKs_append t s)
theorem repKs_any {k : Key} : ∀ {es : List (Key × V)} {kvs : List (D × D)}, RepKs K G F H es kvs → (es.any fun e => decide (e.1 = k)) = kvs.any fun e => decide (keyD e.1 = some k)
  | _, _, .nil => rfl
  | _, _, .cons (k := k') lk r t => by
    rw [List.any_cons, List.any_cons, repKs_any t, lk]
    simp
theorem put_map {k : Key} {v : V} {d : D} (rv : Rep K G F H v d) : ∀ {es : List (Key × V)} {kvs : List (D × D)}, RepKs K G F H es kvs →
    RepKs K G F H (es.map fun kv => if kv.1 = k then (kv.1, v) else kv) (kvs.map fun e => if decide (keyD e.1 = some k) then (e.1, d) else e)
  | _, _, .nil => .nil
  | _, _, .cons (k := k') (kd := kd') (v := v') (d := d') lk r t => by
    rw [List.map_cons, List.map_cons]
    dsimp only
    by_cases c : k' = k
    · subst c
      rw [if_pos rfl, if_pos (by simp [lk])]
      exact .cons lk rv (put_map rv t)
    · rw [if_neg c, if_neg (by simp [lk, c])]
      exact .cons lk r (put_map rv t)
theorem put_ks {k : Key} {kd : D} {v : V} {d : D} {es : List (Key × V)} {kvs : List (D × D)} (hk : keyD kd = some k) (r : RepKs K G F H es kvs) (rv : Rep K G F H v d) : RepKs K G F H (putK es k v) (putD kvs kd k d) := by
  unfold putK putD
  rw [repKs_any r]
  split
  · exact put_map rv r
  · exact repKs_append r (.cons hk rv .nil)
end
section
variable {G : Gx} {X : Cx} {pos : Pos}
def rSetSp (G : Gx) (K : PySem.W.Frag) : TSet := fun o i v H Q => ∃ F a d dk dv d', o = .ref a ∧ ¬ F a ∧ Cell K G F H a d ∧ Lk K G F H i dk ∧ Rep K G F H v dv ∧ setSub d dk dv = some d' ∧ ∀ o', Cell K G F (upd H a o') a d' → Q (upd H a o')
theorem cell_ext {K : PySem.W.Frag} {F : FS} {H : Hp} {a : Addr} {d : D} {o' : HO} (nf : ¬ F a) (c : Cell K G F H a d) : Ext F H F (upd H a o') := by
  obtain ⟨o, e0, _, t0, z0⟩ := c.there
  have keep : ∀ b o, b ≠ a → H b = some o → upd H a o' b = some o := fun b o n e => by rw [upd_ne n]; exact e
  exact ⟨fun _ x => x, fun b o f e _ => keep b o (fun z => nf (z ▸ f)) e, fun b es f e => .inl (keep b _ (fun z => nf (z ▸ f)) e), fun b xs e => keep b _ (fun z => t0 xs (by rw [z, e0] at e; cases e; rfl)) e, fun b o xs e => keep b _ (fun z => z0 o (.tup xs) (by rw [z, e0] at e; cases e; rfl)) e⟩
theorem set_sp (hu : X.A.units + 1 < cLine) : PSet X (rSetSp G X.K) := by
  intro pins s σ H o i v ov iv u Q I ro ri rv h
  obtain ⟨F, a, d, dk, dv, d', rfl, nf, c, lk, rd, e, q⟩ := h
  unfold setSub at e
  split at e
  · obtain ⟨j, e1, e2⟩ := Option.map_eq_some_iff.mp e
    subst e2
    obtain ⟨us, h, rr⟩ := cell_lst c
    exact set_list pins s σ H _ i v ov iv u Q I ro ri rv ⟨a, us, _, j, rfl, lk.int, h, by rw [rr.length]; exact e1, q _ (.lst upd_same ((rr.set rd j).ext (cell_ext nf c)))⟩
  · rename_i kvs dk'
    split at e
    · rename_i kk hk
      split at e
      · rename_i hc
        cases e
        rw [Bool.and_eq_true] at hc
        have ei := keyD_rep lk hk
        have hl := okLen_le hc.2
        cases c with
        | @dct _ es _ h r =>
          have x := cell_ext (G := G) (o' := .dK (putK es kk v)) nf (.dct h r)
          refine set_dict hu pins s σ H _ i v ov iv u Q I ro ri rv ⟨a, _, rfl, ?_, q _ (.dct upd_same (put_ks hk (r.ext x) (rd.ext x)))⟩
          rw [ei]
          exact .k h (by rw [ks_len r]; omega)
        | dtp h r =>
          have x := cell_ext (G := G) (o' := .dK (putK [] kk v)) nf (.dtp h r)
          obtain ⟨z1, z2⟩ := tz_keys r hc.1
          subst z1 z2
          have I' := dTK I h
          refine set_dict hu pins s σ (upd H a (.dK [])) _ i v ov iv u Q I' ro ri rv ⟨a, upd (upd H a (.dK [])) a (.dK (putK [] kk v)), rfl, ?_, ?_⟩
          · rw [ei]
            exact .k upd_same (by rw [sizeLine_eq]; exact Nat.zero_lt_succ _)
          · rw [upd_upd]
            exact q _ (.dct upd_same (put_ks hk .nil (rd.ext x)))
      · cases e
    · cases e
  · cases e
/-! ## Targets of an assignment -/
def PostU (K : PySem.W.Frag) (G : Gx) (W : WX) (ρ : Env) (F : FS) (σ : Sg) (H : Hp) (r : R Unit) (Q : L2.St → Hp → Prop) : Prop :=
  match r with
  | .ok _ ρ' => ∀ F' σ' H', Stp ρ F σ H ρ' F' σ' H' → StOk K G ρ' F' σ' H' → Q σ' H'
  | .ex e ρ' => PostX K G W ρ F σ H e ρ'
  | .no => False
def gU (K : PySem.W.Frag) (G : Gx) (W : WX) (f : D → Env → R Unit) : TG := fun v σ H Q => ∃ ρ F d, StOk K G ρ F σ H ∧ Rep K G F H v d ∧ PostU K G W ρ F σ H (f d ρ) Q
def gUs (K : PySem.W.Frag) (G : Gx) (W : WX) (f : List D → Env → R Unit) : TGs := fun vs σ H Q => ∃ ρ F ds, StOk K G ρ F σ H ∧ Reps K G F H vs ds ∧ PostU K G W ρ F σ H (f ds ρ) Q
def GOk (G : Gx) (X : Cx) (t : Expr) (f : D → Env → R Unit) : Prop := ∀ W, Takes X W → PG X t (gU X.K G W f)
def GsOk (G : Gx) (X : Cx) (t : List Expr) (f : List D → Env → R Unit) : Prop := ∀ W, Takes X W → PGs X t (gUs X.K G W f)
theorem pgImp {t : Expr} {g g' : TG} (h : PG X t g) (i : ∀ v σ H Q, g' v σ H Q → g v σ H Q) : PG X t g' := ⟨fun pins s σ H v u Q I r q => h.run pins s σ H v u Q I r (i v σ H Q q)⟩
theorem pgsImp {t : List Expr} {g g' : TGs} (h : PGs X t g) (i : ∀ v σ H Q, g' v σ H Q → g v σ H Q) : PGs X t g' := ⟨fun pins s σ H v u Q I r q => h.run pins s σ H v u Q I r (i v σ H Q q)⟩
theorem PostU.step {K : PySem.W.Frag} {W : WX} {ρ ρ' : Env} {F F' : FS} {σ σ' : Sg} {H H' : Hp} {r : R Unit} {Q : L2.St → Hp → Prop} (x : Stp ρ F σ H ρ' F' σ' H') (p : PostU K G W ρ F σ H r Q) : PostU K G W ρ' F' σ' H' r Q := by
  cases r with
  | ok a ρ2 => exact fun F2 σ2 H2 y s => p F2 σ2 H2 (x.trans y) s
  | ex e ρ2 => exact PostX.step x p
  | no => exact p
theorem PostU.mono {K : PySem.W.Frag} {W : WX} {ρ : Env} {F : FS} {σ : Sg} {H : Hp} {r : R Unit} {Q Q' : L2.St → Hp → Prop} (p : PostU K G W ρ F σ H r Q) (h : ∀ σ' H', Q σ' H' → Q' σ' H') : PostU K G W ρ F σ H r Q' := by
  cases r with
  | ok a ρ2 => exact fun F2 σ2 H2 y s => h _ _ (p F2 σ2 H2 y s)
  | ex e ρ2 => exact p
  | no => exact p
theorem nm_ok {i : Nat} {x : Str} (hN : X.N.Nodup) (hi : X.N[i]? = some x) (hx : Loc X.env.scope x) (hf : X.fn x = true ∨ X.env.scope.names.lookup x = some .local) : GOk G X (.Name x pos) (nmF i) := by
  intro W tk
  refine pgImp (pg_name hN hi hx hf) ?_
  rintro v σ H Q ⟨ρ, F, d, s, r, p⟩
  unfold nmF at p
  split at p
  · rename_i ρ' e
    obtain ⟨s1, x1⟩ := put_sh s r e
    exact p F _ H x1 s1
  · exact p.elim
theorem PostU.bind {α : Type} {K : PySem.W.Frag} {W : WX} {ρ : Env} {F : FS} {σ : Sg} {H : Hp} {r : R α} {k : α → Env → R Unit} {Q : L2.St → Hp → Prop} (p : PostU K G W ρ F σ H (r.bind k) Q) :
    PostG K G W ρ F σ H r (fun a ρ1 F1 H1 => Stp ρ F σ H ρ1 F1 σ H1 ∧ StOk K G ρ1 F1 σ H1 ∧ PostU K G W ρ F σ H (k a ρ1) Q) := by
  cases r with
  | ok a ρ2 => exact fun F2 H2 y s => ⟨y, s, p⟩
  | ex e ρ2 => exact p
  | no => exact p
theorem sub_tg {o : Nat} {x : Str} {px : Pos} {i : Expr} {f : Env → R (D × Vm)} (hu : X.A.units + 1 < cLine) (ho : PE X (.Name x px) (tVar o)) (hi : EOk G X i f)
    (ha : ∀ v, assign (.Subscript (.Name x px) i pos) X.env v = (do
      let ov ← holding [v] (eval (.Name x px) X.env)
      let iv ← holding [v, ov] (eval i X.env)
      standAt pos
      holding [v, ov, iv] (setItem ov iv v)
      release [v, ov, iv] [])) : GOk G X (.Subscript (.Name x px) i pos) (fun d => subF o d f) := by
  intro W tk
  refine pgImp (pg_sub ho (hi W tk) (set_sp (G := G) hu) ha) ?_
  rintro v σ H Q ⟨ρ, F, d, s, r, p⟩
  unfold subF at p
  dsimp only at p
  split at p
  · rename_i hsm
    obtain ⟨sl, e0⟩ := Option.isSome_iff_exists.mp hsm
    obtain ⟨z, hz, _⟩ := s.val o sl (gS_some e0)
    refine ⟨z, hz, ρ, F, s, p.bind.mono ?_⟩
    rintro k ρ1 F1 H1 _ _ ⟨x1, s1, q⟩ iv ok1 _
    cases e1 : gS ρ1 o with
    | none => rw [e1] at q; exact q.elim
    | some sl1 =>
      rw [e1] at q
      dsimp only at q
      have h1 := gS_some e1
      have go : ∀ {m2 : Mo}, sl1.m = m2 → (m2 = .ow ∨ m2 = .io) → PostU X.K G W ρ F σ H (match setSub sl1.d k.1 d with | some d' => .ok () (ρ1.set o (some ⟨m2, d'⟩)) | none => .no) Q → rSetSp G X.K z iv v H1 fun H3 => Q σ H3 := by
        intro m2 em hm q
        split at q
        · rename_i d' e3
          obtain ⟨sm, sd⟩ := sl1
          dsimp only at em e3
          subst em
          have ns : sm ≠ .sh := by rcases hm with e | e <;> rw [e] <;> exact (fun z => nomatch z)
          obtain ⟨w, g1, g2⟩ := s1.val o _ h1
          rw [hz] at g1; cases g1
          have c : ∃ a, z = .ref a ∧ ¬ F1 a ∧ Cell X.K G F1 H1 a sd := by
            unfold SlotOk at g2
            split at g2
            · rename_i e; exact absurd e ns
            · exact g2
          obtain ⟨a, rfl, nf, c⟩ := c
          refine ⟨F1, a, sd, k.1, d, d', rfl, nf, c, ok1.lk, r.ext (x1.ext s), e3, fun o' c' => ?_⟩
          obtain ⟨s3, x3⟩ := upcell s1 h1 hm hz c'
          exact q F1 σ _ (x1.trans x3) s3
        · exact q.elim
      split at q
      · rename_i em; exact go em (.inl rfl) q
      · rename_i em; exact go em (.inr rfl) q
      · exact q.elim
  · exact p.elim
theorem gs_nil : GsOk G X [] (fun ds ρ => match ds with | [] => .ok () ρ | _ => .no) := by
  intro W tk
  refine pgsImp pgs_nil ?_
  rintro vs σ H Q ⟨ρ, F, ds, s, r, p⟩
  cases r with
  | nil => exact ⟨rfl, p F σ H .refl s⟩
  | cons _ _ => exact p.elim
theorem gs_cons {e : Expr} {es : List Expr} {f : D → Env → R Unit} {g : List D → Env → R Unit} (h : GOk G X e f) (t : GsOk G X es g)
    (hs : (assignEach (e :: es) X.env).map (·.2) = assign e X.env :: (assignEach es X.env).map (·.2)) : GsOk G X (e :: es) (fun ds ρ => match ds with | d :: r => (f d ρ).bind fun _ ρ1 => g r ρ1 | _ => .no) := by
  intro W tk
  refine pgsImp (pgs_cons (h W tk) (t W tk) hs) ?_
  rintro vs σ H Q ⟨ρ, F, ds, s, r, p⟩
  cases r with
  | nil => exact p.elim
  | cons r t =>
    rename_i v d vs ds
    dsimp only at p
    refine ⟨v, vs, rfl, ρ, F, d, s, r, ?_⟩
    cases hf : f d ρ with
    | no => rw [hf] at p; exact p.elim
    | ex e ρ1 => rw [hf] at p; exact p
    | ok u ρ1 =>
      rw [hf] at p
      intro F1 σ1 H1 x1 s1
      exact ⟨ρ1, F1, ds, s1, t.ext (x1.ext s), PostU.step x1 p⟩
theorem store_ok1 {t e : Expr} {f : Env → R (D × Vm)} {g : D → Env → R Unit} (h : EOk G X e f) (hg : GOk G X t g) (hs : swapsWithSole [t] e pos.line X.env = pure false) (hw : swappedStores [t] e X.env = pure none)
    (h1 : (assignEach [t] X.env).map (·.2) = [assign t X.env]) : SOk G X (.Assign [t] e pos) (subFs f g) := by
  intro W tk
  refine psImp (ps_asg (h W tk) (hg W tk) hs hw h1) ?_
  rintro D σ H ⟨ρ, F, s, p⟩
  refine ⟨ρ, F, s, p.then.mono ?_⟩
  rintro ⟨d, m⟩ ρ1 F1 H1 _ _ ⟨x1, s1, _, q⟩ v ok fr
  dsimp only at q
  have fin : ∀ F2, StOk X.K G ρ1 F2 σ H1 → Stp ρ F σ H ρ1 F2 σ H1 → Rep X.K G F2 H1 v d → gU X.K G W g v σ H1 D.nx := fun F2 s2 x2 r => by
    refine ⟨ρ1, F2, d, s2, r, ?_⟩
    cases hf : g d ρ1 with
    | no => rw [hf] at q; exact q.elim
    | ex e ρ3 => rw [hf] at q; exact PostX.step x2 q
    | ok u ρ3 =>
      rw [hf] at q
      intro F3 σ3 H3 x3 s3
      exact q F3 σ3 H3 (x2.trans x3) s3
  cases m with
  | sh => exact fin F1 s1 x1 ok
  | fr =>
    obtain ⟨a, rfl, nf, nh, c⟩ := ok
    obtain ⟨s2, r2⟩ := s1.freeze nh c
    exact fin _ s2 (x1.freeze (fr rfl a rfl)) r2
theorem tup_tg {es : List Expr} {k : Nat} {g : List D → Env → R Unit} {n : Nat} (hc : X.calm = true) (h : GsOk G X es g)
    (hn : (assignEach es X.env).length = n) (hst : (assignEach es X.env).findIdx? (·.1) = none) : GOk G X (.Tuple es k pos) (unpF n g) := by
  intro W tk
  refine pgImp (pg_tup hc (h W tk) hn hst) ?_
  rintro v σ H Q ⟨ρ, F, d, s, r, p⟩
  unfold unpF at p
  split at p
  · rename_i ds
    split at p
    · rename_i hl
      obtain ⟨a, vs, rfl, hq, rr⟩ := (Lk.rep r).tup
      exact ⟨a, vs, rfl, hq, by rw [rr.length]; exact hl, ρ, F, ds, s, rr, p⟩
    · exact p.elim
  · exact p.elim
end
end DI

set_option Elab.async false
set_option linter.all false
set_option maxRecDepth 100000
set_option maxHeartbeats 4000000
namespace DI
open PySem PySem.Spec L2 PyProof.Rows
/-! ## Loops -/
section
variable {K : PySem.W.Frag} {G : Gx} {W : WX} {E : Ends}
/-- behind a loop: the slots that were only read are what they were -/
theorem PostS.unlocked {lk : List (Nat × Mo)} {ρ0 : Env} {F0 : FS} {σ0 : Sg} {H0 : Hp} {ρ2 : Env} {F2 : FS} {H2 : Hp} {ρ : Env} {F : FS} {σ : Sg} {H : Hp} {r : SR} (lp : ∀ p ∈ lk, LkP ρ0 σ0 H0 σ0 p) (bs : Bos ρ2 lk) (x2 : Stp ρ0 F0 σ0 H0 ρ2 F2 σ0 H2) (x : Stp ρ2 F2 σ0 H2 ρ F σ H)
    (p : PostS K G W E ρ0 F0 σ0 H0 (r.onEnv (unlock lk))) : PostS K G W E ρ F σ H r := by
  have key : ∀ {ρ' : Env} {F' : FS} {σ' : Sg} {H' : Hp}, Stp ρ F σ H ρ' F' σ' H' → StOk K G ρ' F' σ' H' → StOk K G (unlock lk ρ') F' σ' H' ∧ Stp ρ0 F0 σ0 H0 (unlock lk ρ') F' σ' H' := fun {ρ' F' σ' H'} y s =>
    unlock_ok s (x2.trans (x.trans y)) (LkP.later lp bs (x.trans y))
  cases r with
  | nx ρ' => exact fun F' σ' H' y s => p F' σ' H' (key y s).2 (key y s).1
  | bk ρ' => exact fun F' σ' H' y s => p F' σ' H' (key y s).2 (key y s).1
  | ct ρ' => exact fun F' σ' H' y s => p F' σ' H' (key y s).2 (key y s).1
  | rt d m ρ' =>
    intro v F' σ' H' y s o f
    refine p v F' σ' H' (key y s).2 (key y s).1 ?_ fun e b eb => (x2.trans x).fresh (f e b eb)
    cases m with
    | sh => exact o
    | fr =>
      obtain ⟨a, e, nf, nh, c⟩ := o
      exact ⟨a, e, nf, fun h => nh (unlock_held h), c⟩
  | ex e ρ' => exact fun cls dx F' σ' H' y s o => p cls dx F' σ' H' (key y s).2 (key y s).1 o
  | no => exact p
end
section
variable {G : Gx} {X : Cx} {pos : Pos}
/-- what holds at a turn -/
def FoI (K : PySem.W.Frag) (G : Gx) (W : WX) (E : Ends) (ρ2 : Env) (F2 : FS) (σ : Sg) (H2 : Hp) (ds : List D) (t : Tg) (body : Env → SR) (i : Nat) (σ' : Sg) (H' : Hp) : Prop :=
  i ≤ ds.length ∧ ∃ ρ' F', StOk K G ρ' F' σ' H' ∧ Stp ρ2 F2 σ H2 ρ' F' σ' H' ∧ PostS K G W E ρ' F' σ' H' (forLoop t body (ds.drop i) ρ')
theorem for_ok {tg iter : Expr} {k : Ik} {t : Tg} {g : Env → R (List Ar)} {stmts : List Stmt} {body : Env → SR} (hp : PassesOwn (model X.prog X.w) X.A X.env X.xe) (hc : X.calm = true) (hi : IOk G X tg iter k g) (hg : PG X tg (gTg X.K t)) (hb : SsOk G X stmts body)
    (hs : ∀ x, foldedSetIterable iter X.env x = pure x) : SOk G X (.For tg iter stmts [] pos) (forFs t k g body) := by
  intro W tk
  refine psImp (ps_for hp hc (hi W tk) hg (hb W tk) hs) ?_
  rintro E σ H ⟨ρ, F, s, p⟩
  refine ⟨ρ, F, s, p.then.mono ?_⟩
  rintro ars ρ1 F1 H1 _ _ ⟨x1, s1, _, q0⟩
  unfold CI
  split
  · rename_i x ex
    rw [ex] at q0
    dsimp only at q0
    intro J as F2 H2 x2 s2 w sf lp bs
    have q1 : PostS X.K G W E x.ρ F2 σ H2 (forLoop t body x.ds x.ρ) := PostS.unlocked lp bs x2 .refl q0
    refine ⟨fun i m σ' H' => m = x.ds.length - i ∧ FoI X.K G W E x.ρ F2 σ H2 x.ds t body i σ' H', ⟨_, rfl, Nat.zero_le _, x.ρ, F2, s2, .refl, q1⟩, ?_⟩
    rintro i m σ' H' ⟨rfl, hi, ρ', F', s', x', q'⟩
    have wl := w F' H' (x'.ext s2) (sf.step x').2
    obtain ⟨wstop, wgo⟩ := wl i
    by_cases c : i < x.ds.length
    · refine .inr ?_
      obtain ⟨d, hd, hdr⟩ := drop_cons c
      obtain ⟨go, yl⟩ := wgo d hd
      rw [hdr, forLoop] at q'
      refine ⟨go, fun σ3 H3 => FoI X.K G W E x.ρ F2 σ H2 x.ds t body (i + 1) σ3 H3, fun σ3 H3 q => ⟨_, by have := q.1; omega, rfl, q⟩, ?_⟩
      intro v H3 hy
      obtain ⟨gr, rv⟩ := yl v H3 hy
      cases e1 : assignT ρ' d t with
      | none => rw [e1] at q'; exact q'.elim
      | some ρ1' =>
        rw [e1] at q'
        dsimp only at q'
        obtain ⟨σ1, s4, x4, on, gq⟩ := assign_ok (s'.grow gr) rv e1
        refine gq _ ⟨ρ1', F', s4, ?_⟩
        have xa : Stp ρ' F' σ' H' ρ1' F' σ1 H3 := (Stp.grow gr).trans x4
        have again : ∀ {ρ5 : Env} {F5 : FS} {σ5 : Sg} {H5 : Hp}, PostS X.K G W E ρ' F' σ' H' (forLoop t body (x.ds.drop (i + 1)) ρ5) → Stp ρ1' F' σ1 H3 ρ5 F5 σ5 H5 → StOk X.K G ρ5 F5 σ5 H5 → FoI X.K G W E x.ρ F2 σ H2 x.ds t body (i + 1) σ5 H5 :=
          fun {ρ5 F5 σ5 H5} p y s5 => ⟨c, ρ5, F5, s5, x'.trans (xa.trans y), p.step (xa.trans y)⟩
        cases e2 : body ρ1' with
        | nx ρ5 => rw [e2] at q'; exact fun F5 σ5 H5 y s5 => again q' y s5
        | ct ρ5 => rw [e2] at q'; exact fun F5 σ5 H5 y s5 => again q' y s5
        | bk ρ5 => rw [e2] at q'; exact fun F5 σ5 H5 y s5 => q' F5 σ5 H5 (xa.trans y) s5
        | rt d2 m2 ρ5 => rw [e2] at q'; exact fun v F5 σ5 H5 y s5 o f => q' v F5 σ5 H5 (xa.trans y) s5 o fun e b eb => xa.fresh (f e b eb)
        | ex e ρ5 => rw [e2] at q'; exact PostX.step xa q'
        | no => rw [e2] at q'; exact q'.elim
    · refine .inl ⟨wstop (by omega), ?_⟩
      have e : i = x.ds.length := by omega
      subst e
      rw [List.drop_length, forLoop] at q'
      exact q' F' σ' H' .refl s'
  · rename_i en
    rw [en] at q0
    exact q0.elim
/-- what holds at a turn -/
def WhI (K : PySem.W.Frag) (G : Gx) (W : WX) (E : Ends) (t : Env → R (D × Vm)) (body : Env → SR) (m : Nat) (σ' : Sg) (H' : Hp) : Prop :=
  ∃ ρ' F', StOk K G ρ' F' σ' H' ∧ PostS K G W E ρ' F' σ' H' (whileLoop t body m ρ')
/-- behind the test -/
theorem while_turn {K : PySem.W.Frag} {W : WX} {E : Ends} {t : Env → R (D × Vm)} {body : Env → SR} {n : Nat} {ρ' ρ1 : Env} {F' F1 : FS} {σ' σ1 : Sg} {H' H1 : Hp} (x1 : Stp ρ' F' σ' H' ρ1 F1 σ1 H1)
    (q : PostS K G W E ρ' F' σ' H' (match body ρ1 with | .nx ρ2 => whileLoop t body n ρ2 | .ct ρ2 => whileLoop t body n ρ2 | .bk ρ2 => .nx ρ2 | x => x)) :
    PostS K G W { E with nx := WhI K G W E t body n, ct := WhI K G W E t body n, bk := E.nx } ρ1 F1 σ1 H1 (body ρ1) := by
  cases e2 : body ρ1 with
  | nx ρ5 => rw [e2] at q; exact fun F5 σ5 H5 y s5 => ⟨ρ5, F5, s5, q.step (x1.trans y)⟩
  | ct ρ5 => rw [e2] at q; exact fun F5 σ5 H5 y s5 => ⟨ρ5, F5, s5, q.step (x1.trans y)⟩
  | bk ρ5 => rw [e2] at q; exact fun F5 σ5 H5 y s5 => q F5 σ5 H5 (x1.trans y) s5
  | rt d2 m2 ρ5 => rw [e2] at q; exact fun v F5 σ5 H5 y s5 o f => q v F5 σ5 H5 (x1.trans y) s5 o fun e b eb => x1.fresh (f e b eb)
  | ex e ρ5 => rw [e2] at q; exact PostX.step x1 q
  | no => rw [e2] at q; exact q.elim
theorem while_ok {c : Expr} {n : Nat} {t : Env → R (D × Vm)} {stmts : List Stmt} {body : Env → SR} (hp : PassesOwn (model X.prog X.w) X.A X.env X.xe) (hc : TOk G X c t) (hb : SsOk G X stmts body) : SOk G X (.While c stmts [] pos) (whileLoop t body n) := by
  intro W tk
  refine psImp (ps_while hp (hc W tk) (hb W tk)) ?_
  rintro E σ H ⟨ρ, F, s, p⟩
  refine ⟨WhI X.K G W E t body, ⟨n, ρ, F, s, p⟩, ?_⟩
  rintro m σ' H' ⟨ρ', F', s', q'⟩
  cases m with
  | zero => exact q'.elim
  | succ m =>
    rw [whileLoop] at q'
    refine ⟨ρ', F', s', q'.then.mono ?_⟩
    rintro ⟨d, vm⟩ ρ1 F1 H1 _ _ ⟨x1, s1, _, q1⟩
    dsimp only at q1
    split at q1
    · exact q1 F1 σ' H1 x1 s1
    · exact ⟨WhI X.K G W E t body m, fun σ'' H' h => ⟨m, by omega, h⟩, ρ1, F1, s1, while_turn x1 q1⟩
    · exact q1.elim
/-- while (x := e) o b: .. -/
theorem walrus_ok {i n : Nat} {x : Str} {e b : Expr} {px np cp : Pos} {op : CmpOp} {f g : Env → R (D × Vm)} {sem : D → D → Res} {stmts : List Stmt} {body : Env → SR} (hp : PassesOwn (model X.prog X.w) X.A X.env X.xe) (hN : X.N.Nodup) (hi : X.N[i]? = some x) (hx : Loc X.env.scope x)
    (hf : X.fn x = true ∨ X.env.scope.names.lookup x = some .local) (ho : OpR X (compareOp op) (rSp G X.K sem)) (hbl : ∀ dx dy d m, sem dx dy = some (d, m) → ∃ k, d = .bl k) (he : EOk G X e f) (hb : EOk G X b g) (hm : behindInMarks op b = false) (hbody : SsOk G X stmts body) :
    SOk G X (.While (.Compare (.NamedExpr (.Name x px) e np) [op] [b] cp) stmts [] pos) (whileLoop (walF i f sem g) body n) := by
  intro W tk
  have ht := ptw_cmp (pos := cp) ho (pew_named (pos := np) (p := px) hN hi hx (pew_of (he W tk)) hf) (hb W tk) hm
  refine psImp (ps_whileW hp ht (hbody W tk) pss_nil) ?_
  rintro E σ H ⟨ρ, F, s, p⟩
  refine ⟨WhI X.K G W E (walF i f sem g) body, ⟨n, ρ, F, s, p⟩, ?_⟩
  rintro m σ' H' ⟨ρ', F', s', q'⟩
  cases m with
  | zero => exact q'.elim
  | succ m =>
    rw [whileLoop] at q'
    have thenBind : ∀ {α β : Type} (r : R α) (k : α → Env → R β) (h : β → Env → SR), (r.bind k).thenS h = r.thenS fun a ρ => (k a ρ).thenS h := fun r k h => by cases r <;> rfl
    have e0 : walF i f sem g ρ' = (f ρ').bind fun v ρ1 => match setS ρ1 i (mkSl v.1 v.2) with
      | some ρ2 => (g ρ2).bind fun y ρ3 => match gS ρ3 i with | some x => ofRes (sem x.d y.1) ρ3 | none => .no
      | none => .no := rfl
    rw [e0, thenBind] at q'
    refine ⟨ρ', F', s', q'.then.mono ?_⟩
    rintro v ρ1 F1 H1 _ _ ⟨x1, s1, _, q1⟩ z1 ok1 fr1
    cases e1 : setS ρ1 i (mkSl v.1 v.2) with
    | none => rw [e1] at q1; exact q1.elim
    | some ρ2 =>
      rw [e1] at q1
      dsimp only at q1
      rw [thenBind] at q1
      obtain ⟨s2, x2⟩ := set_core (W := W) (E := E) s1 x1 ok1 fr1 e1
      refine ⟨ρ2, F1, s2, ((q1.step x2).then).mono ?_⟩
      rintro y ρ3 F3 H3 _ _ ⟨x3, s3, q3, _⟩ z2 ok2 _
      cases e3 : gS ρ3 i with
      | none => rw [e3] at q3; exact q3.elim
      | some xs =>
        rw [e3] at q3
        dsimp only at q3
        obtain ⟨w, hw, lw⟩ := s3.lk (gS_some e3)
        have hl : i < σ'.length := by
          have := (setS_spec e1).2.1
          rw [s1.len] at this; exact this
        rw [List.getElem?_set_self hl] at hw
        cases hw
        cases e4 : sem xs.d y.1 with
        | none => rw [e4] at q3; exact q3.elim
        | some a =>
          obtain ⟨d, vm⟩ := a
          rw [e4] at q3
          obtain ⟨k, rfl⟩ := hbl _ _ _ _ e4
          refine ⟨F3, xs.d, y.1, _, _, lw, ok2.lk, e4, fun zz H4 gr rv => ⟨k, ?_, ?_⟩⟩
          · cases vm with
            | sh => exact Lk.bl (.inl rv)
            | fr => obtain ⟨p, _, _, c⟩ := rv; cases c
          · have s4 := s3.grow gr
            cases k with
            | false => exact q3 F3 _ H4 (.grow gr) s4
            | true =>
              have q4 : PostS X.K G W E ρ3 F3 (σ'.set i (some z1)) H3 (match body ρ3 with | .nx ρ2 => whileLoop (walF i f sem g) body m ρ2 | .ct ρ2 => whileLoop (walF i f sem g) body m ρ2 | .bk ρ2 => .nx ρ2 | x => x) := q3
              exact ⟨WhI X.K G W E (walF i f sem g) body m, fun σ'' H' h => ⟨m, by omega, h⟩, ρ3, F3, s4, while_turn (.grow gr) q4⟩
/-! ## Exceptions -/
theorem raise_ok {c : Nat} {C : Addr} {bmB : List Value} {B newId initId : String} {x : Str} {p rp : Pos} {e : Expr} {es : List Expr} {g : Env → R (List Ar)} (hc : X.calm = true) (hC : G.cls c = some C) (F : ExcBaseFacts B newId initId bmB) (q : PySem.W.excIn X.K C bmB newId = true) (gC : X.mg x = some (.ref C))
    (kC : PySem.W.keepIn X.K (.ref C) = true) (r : Raises X (.ref C)) (hg : Gl X x) (ha : AsOk G X (e :: es) g) (hdb : (x == ("__debug__" : Str)) = false)
    (he : starEach (e :: es) X.env = (false, eval e X.env) :: starEach es X.env) (hpl : (backTo pos (starEach es X.env)).any (·.1) = false) : SOk G X (.Raise (some (.Call (.Name x p) (e :: es) [] pos)) none rp) (raiseFs c g) := by
  intro W tk
  refine psImp (ps_raise hc tk (pmk_ownA F q gC kC r hg (ha W tk) hdb he hpl)) ?_
  rintro E σ H ⟨ρ, F, s, p⟩
  refine ⟨ρ, F, s, p.then.mono ?_⟩
  rintro ars ρ1 F1 H1 _ _ ⟨x1, s1, _, q1⟩ vs ok fr
  split at q1
  · rename_i hl
    refine ⟨by rw [ok.length]; exact okLen_le hl, ?_⟩
    exact q1 _ _ F1 σ H1 x1 s1 ⟨C, hC, rfl, .inl rfl⟩
  · exact q1.elim
theorem raisex_ok {c : Nat} {C : Addr} {n x : Str} {p rp : Pos} {e : Expr} {g : Env → R Ar} (hc : X.calm = true) (hC : G.cls c = some C) (Mx : DX.MakesX X.prog X.w X.K X.mg X.base C n) (hr : X.A.depth + 2 < recursionLimit) (gC : X.mg x = some (.ref C))
    (kC : PySem.W.keepIn X.K (.ref C) = true) (r : Raises X (.ref C)) (hg : Gl X x) (ha : AOk G X e g) (hdb : (x == ("__debug__" : Str)) = false)
    (he : starEach [e] X.env = (false, eval e X.env) :: starEach [] X.env) : SOk G X (.Raise (some (.Call (.Name x p) [e] [] pos)) none rp) (raisexFs c g) := by
  intro W tk
  refine psImp (ps_raise hc tk (pmk_keep Mx hr kC gC r hg (ha W tk) he hdb)) ?_
  rintro E σ H ⟨ρ, F, s, p⟩
  refine ⟨ρ, F, s, p.then.mono ?_⟩
  rintro ar ρ1 F1 H1 _ _ ⟨x1, s1, _, q1⟩ v ok fr d
  exact q1 _ _ F1 σ H1 x1 s1 ⟨C, hC, rfl, .inl rfl⟩
/-- the clauses of a try -/
inductive HsOk (G : Gx) (X : Cx) (isa : Nat → Nat → Bool) : List ExceptHandler → (Exn → Env → SR) → Prop
  | nil : HsOk G X isa [] (fun e ρ => .ex e ρ)
  | cons {x : Str} {c : Nat} {cv : Value} {b₀ : Stmt} {suite : List Stmt} {np pos' : Pos} {hds : List ExceptHandler} {f : Env → SR} {r : Exn → Env → SR} (hc : Names X x cv) (hi : ∀ c1 C1, G.cls c1 = some C1 → PySem.W.exmOne X.K (.ref C1) cv = some (isa c1 c))
      (hsu : ∀ (a : Addr) (oe : Obj) (pn : List (Addr × Obj)), SsOk G (X.suite a ((a, oe) :: pn)) (b₀ :: suite) f) (t : HsOk G X isa hds r) :
      HsOk G X isa (.ExceptHandler (some (.Name x np)) none (b₀ :: suite) pos' :: hds) (hdFs isa c f r)
  | tup {x1 x2 x3 : Str} {c1 c2 c3 : Nat} {v1 v2 v3 : Value} {b₀ : Stmt} {suite : List Stmt} {n1 n2 n3 np pos' : Pos} {k : Nat} {hds : List ExceptHandler} {f : Env → SR} (h1 : Names X x1 v1) (h2 : Names X x2 v2) (h3 : Names X x3 v3)
      (i1 : ∀ c0 C0, G.cls c0 = some C0 → PySem.W.exmOne X.K (.ref C0) v1 = some (isa c0 c1)) (i2 : ∀ c0 C0, G.cls c0 = some C0 → PySem.W.exmOne X.K (.ref C0) v2 = some (isa c0 c2)) (i3 : ∀ c0 C0, G.cls c0 = some C0 → PySem.W.exmOne X.K (.ref C0) v3 = some (isa c0 c3))
      (hsu : ∀ (a : Addr) (oe : Obj) (pn : List (Addr × Obj)), SsOk G (X.suite a ((a, oe) :: pn)) (b₀ :: suite) f) :
      HsOk G X isa (.ExceptHandler (some (.Tuple [.Name x1 n1, .Name x2 n2, .Name x3 n3] k np)) none (b₀ :: suite) pos' :: hds) (htFs isa c1 c2 c3 f)
theorem hs_many {isa : Nat → Nat → Bool} : ∀ {hds : List ExceptHandler} {h : Exn → Env → SR}, HsOk G X isa hds h → ∃ l, HdsX X hds l ∧ ∀ (W : WX) (E : Ends) (cls : Value) (dx : Option Addr) (e : Exn) (ρ : Env) (F : FS) (σ : Sg) (H : Hp), StOk X.K G ρ F σ H → ExOk X.K G F H cls dx e →
    PostS X.K G W E ρ F σ H (h e ρ) → wManyX X.K W E l cls dx σ H
  | _, _, .nil => ⟨[], .nil, fun W E cls dx e ρ F σ H s o p => p cls dx F σ H .refl s o⟩
  | _, _, .cons (c := c) (cv := cv) (b₀ := b₀) (suite := suite) (f := f) (r := r) hc hi hsu t => by
    obtain ⟨l, hl, hw⟩ := hs_many t
    refine ⟨([cv], fun _ _ _ => tS X.K G wNo f) :: l, .cons hc (fun a oe cls d pn _ _ => hsu a oe pn wNo takes_no) hl, ?_⟩
    intro W E cls dx e ρ F σ H s o p
    obtain ⟨C, hC, ec, o2⟩ := id o
    refine ⟨isa e.c c, by rw [ec]; exact hi _ _ hC, fun hb a na => ?_, fun hb => ?_⟩
    · unfold hdFs at p
      rw [if_pos hb] at p
      refine ⟨ρ, F, s, ?_⟩
      cases hf : f ρ with
      | nx ρ1 => rw [hf] at p; exact p
      | bk ρ1 => rw [hf] at p; exact p
      | ct ρ1 => rw [hf] at p; exact p
      | rt d m ρ1 => rw [hf] at p; exact p
      | ex e ρ1 => rw [hf] at p; exact p.elim
      | no => rw [hf] at p; exact p.elim
    · unfold hdFs at p
      rw [if_neg (by rw [hb]; simp)] at p
      exact hw W E cls dx e ρ F σ H s o p
  | _, _, .tup (c1 := c1) (c2 := c2) (c3 := c3) (v1 := v1) (v2 := v2) (v3 := v3) (b₀ := b₀) (suite := suite) (hds := hds) (f := f) h1 h2 h3 i1 i2 i3 hsu => by
    refine ⟨[([v1, v2, v3], fun _ _ _ => tS X.K G wNo f)], .tup h1 h2 h3 (fun a oe cls d pn _ _ => hsu a oe pn wNo takes_no), ?_⟩
    intro W E cls dx e ρ F σ H s o p
    obtain ⟨C, hC, ec, o2⟩ := id o
    unfold htFs at p
    split at p
    · rename_i hb
      refine ⟨?_, fun a na => ⟨ρ, F, s, ?_⟩⟩
      · rw [ec]
        unfold PySem.W.exmAny
        rw [i1 _ _ hC]
        unfold PySem.W.exmAny
        rw [i2 _ _ hC]
        unfold PySem.W.exmAny
        rw [i3 _ _ hC]
        unfold PySem.W.exmAny
        simpa [Bool.or_assoc] using hb
      · cases hf : f ρ with
        | nx ρ1 => rw [hf] at p; exact p
        | bk ρ1 => rw [hf] at p; exact p
        | ct ρ1 => rw [hf] at p; exact p
        | rt d m ρ1 => rw [hf] at p; exact p
        | ex e ρ1 => rw [hf] at p; exact p.elim
        | no => rw [hf] at p; exact p.elim
    · exact p.elim
theorem try_ok {isa : Nat → Nat → Bool} {body : List Stmt} {h₀ : ExceptHandler} {hds : List ExceptHandler} {fb : Env → SR} {h : Exn → Env → SR} (hs : X.stack = X.env :: X.outer) (hf : X.env.frame = some X.env.locals)
    (hb : ∀ (pn : List (Addr × Obj)) (xe : Value → Shared → Prop), PassesOwn (model X.prog X.w) X.A X.env xe → SsOk G (X.tr pn xe) body fb) (hh : HsOk G X isa (h₀ :: hds) h) : SOk G X (.Try body (h₀ :: hds) [] [] pos) (tryFs fb h) := by
  intro W tk
  obtain ⟨l, hl, hw⟩ := hs_many hh
  refine psImp (ps_try_manyX (bt := fun W' => tS X.K G W' fb) hs hf tk (fun W' pn xe tk' hp => hb pn xe hp W' tk') hl) ?_
  rintro E σ H ⟨ρ, F, s, p⟩
  refine ⟨ρ, F, s, ?_⟩
  unfold tryFs at p
  cases e : fb ρ with
  | nx ρ1 => rw [e] at p; exact p
  | bk ρ1 => rw [e] at p; exact p
  | ct ρ1 => rw [e] at p; exact p
  | rt d m ρ1 => rw [e] at p; exact p
  | ex ex ρ1 =>
    rw [e] at p
    intro cls dx F1 σ1 H1 x1 s1 o
    exact hw W E cls dx ex ρ1 F1 σ1 H1 s1 o (p.step x1)
  | no => rw [e] at p; exact p.elim
end
end DI

set_option Elab.async false
set_option linter.all false
set_option maxRecDepth 100000
set_option maxHeartbeats 4000000
namespace DI
open PySem PySem.Spec L2 PyProof.Rows
/-! ## Dict displays -/
section
variable {G : Gx} {X : Cx} {pos : Pos}
theorem new_ok {K : PySem.W.Frag} {ρ : Env} {F : FS} {σ : Sg} {H : Hp} {a : Addr} {o : HO} (s : StOk K G ρ F σ H) (na : H a = none) : ¬ F a ∧ ¬ Held ρ σ a ∧ StOk K G ρ F σ (upd H a o) ∧ Stp ρ F σ H ρ F σ (upd H a o) := by
  have nf : ¬ F a := fun f => s.dom a f na
  have nh : ¬ Held ρ σ a := fun h => by
    obtain ⟨d, c⟩ := s.heldCell h
    obtain ⟨o, e, _⟩ := c.there
    rw [na] at e; cases e
  obtain ⟨h1, _, h3⟩ := priv_ok' (on := o) s nf nh fun o e => by rw [na] at e; cases e
  exact ⟨nf, nh, h1, h3 na .refl⟩
theorem dct_ok0 : EOk G X (.Dict [] [] pos) (dctF fun ρ => .ok [] ρ) := by
  intro W tk
  refine peImp pe_dnewK ?_
  rintro σ H Q ⟨ρ, F, s, p⟩
  intro a na
  obtain ⟨nf, nh, s1, x1⟩ := new_ok (o := .dK []) s na
  exact p F _ x1 s1 (.ref a) ⟨a, rfl, nf, nh, .dct upd_same .nil⟩ fun _ b eb => by cases eb; exact .inl na
def pairUp : List V → Option (List (V × V))
  | [] => some []
  | k :: v :: r => (pairUp r).map fun l => (k, v) :: l
  | _ => none
/-- keys and values, from the left -/
def PpOk (G : Gx) (X : Cx) (pos : Pos) (ks : List (Option Expr)) (vs : List Expr) (g : Env → R (List Ar)) : Prop := ∀ W, Takes X W → ∃ trs, PPs X pos ks vs trs ∧
  ∀ σ H Q, (tAs X.K G W g σ H fun us H' => ∃ ps, pairUp us = some ps ∧ Q ps H') → tPairs trs σ H Q
theorem pp_nil : PpOk G X pos [] [] (fun ρ => .ok [] ρ) := by
  intro W tk
  refine ⟨[], pps_nil, ?_⟩
  rintro σ H Q ⟨ρ, F, s, p⟩
  obtain ⟨ps, e, q⟩ := p F H .refl s [] .nil .nil
  cases e
  exact q
theorem pp_cons {k v : Expr} {ks : List (Option Expr)} {vs : List Expr} {f f2 : Env → R Ar} {g : Env → R (List Ar)} (hk : AOk G X k f) (hv : AOk G X v f2) (hr : PpOk G X pos ks vs g) : PpOk G X pos (some k :: ks) (v :: vs) (consF f (consF f2 g)) := by
  intro W tk
  obtain ⟨trs, h1, h2⟩ := hr W tk
  refine ⟨_, pps_cons (hk W tk) (hv W tk) h1, ?_⟩
  rintro σ H Q ⟨ρ, F, s, p⟩
  refine ⟨ρ, F, s, (PostG.bind p).mono ?_⟩
  rintro a ρ1 F1 H1 _ _ ⟨x1, s1, q1, _⟩ u1 ok1 fr1
  have e : ((consF f2 g ρ1).bind fun xs ρ3 => R.ok (a :: xs) ρ3) = ((f2 ρ1).bind fun b ρ2 => (g ρ2).bind fun xs ρ3 => .ok (a :: b :: xs) ρ3) := by
    unfold consF
    rw [bind_assoc]
    congr 1
    funext b ρ2
    rw [bind_assoc]
    rfl
  rw [e] at q1
  refine ⟨ρ1, F1, s1, (PostG.bind q1).mono ?_⟩
  rintro b ρ2 F2 H2 _ _ ⟨x2, s2, q2, _⟩ u2 ok2 fr2
  refine h2 σ H2 _ ⟨ρ2, F2, s2, (PostG.bind q2).mono ?_⟩
  rintro as ρ3 F3 H3 _ _ ⟨x3, s3, q3, _⟩ us ok3 fr3
  obtain ⟨ps, e, q⟩ := q3 F3 H3 .refl s3 (u1 :: u2 :: us) (.cons ((ok1.step s1 x2).step s2 x3) (.cons (ok2.step s2 x3) ok3)) (.cons fr1 (.cons (fr2.from x1) (arFr_from (x1.trans x2) fr3)))
  rw [pairUp] at e
  obtain ⟨l, e1, rfl⟩ := Option.map_eq_some_iff.mp e
  exact ⟨l, e1, q⟩
theorem pairs_up {K : PySem.W.Frag} {F : FS} {H : Hp} : ∀ {ds : List D} {us : List V} {ps : List (D × D)} {acc : List (D × D)} {es : List (Key × V)} {kvs : List (D × D)}, Reps K G F H us ds → pairsD ds = some ps → RepKs K G F H es acc → putsD acc ps = some kvs →
    ∃ l : List (Key × V), pairUp us = some (l.map fun kv => (kV kv.1, kv.2)) ∧ l.length = ps.length ∧ RepKs K G F H (mergeK es l) kvs
  | [], _, ps, acc, es, kvs, .nil, e, r, e2 => by cases e; cases e2; exact ⟨[], rfl, rfl, r⟩
  | [_], _, ps, acc, es, kvs, .cons _ .nil, e, r, e2 => by cases e
  | kd :: vd :: ds, _, ps, acc, es, kvs, .cons (v := ku) rk (.cons (v := vu) rv t), e, r, e2 => by
    rw [pairsD] at e
    obtain ⟨ps', e3, rfl⟩ := Option.map_eq_some_iff.mp e
    rw [putsD] at e2
    obtain ⟨kk, e4, e5⟩ := Option.bind_eq_some_iff.mp e2
    obtain ⟨l, h1, h2, h3⟩ := pairs_up t e3 (put_ks e4 r rv) e5
    have ek := keyD_rep (Lk.rep rk) e4
    refine ⟨(kk, vu) :: l, ?_, by simp [h2], h3⟩
    rw [pairUp, h1, ek]
    rfl
theorem dct_ok {ks : List (Option Expr)} {vs : List Expr} {g : Env → R (List Ar)} (h : PpOk G X pos ks vs g) (hall : ks.all (·.isSome) = true) (hl : ks.length = vs.length) (h0 : ks ≠ []) (h15 : ks.length ≤ 15) : EOk G X (.Dict ks vs pos) (dctF g) := by
  intro W tk
  obtain ⟨trs, h1, h2⟩ := h W tk
  refine peImp (pe_disp h1 hall hl h0 h15) ?_
  rintro σ H Q ⟨ρ, F, s, p⟩
  intro a na
  obtain ⟨nf, nh, s1, x1⟩ := new_ok (o := .dK []) s na
  refine h2 σ _ _ ⟨ρ, F, s1, ((PostV.bind p).step x1).mono ?_⟩
  rintro ars ρ1 F1 H1 y1 _ ⟨x2, s2, _, q⟩ us ok fr
  split at q
  · rename_i ds e1
    split at q
    · rename_i kvs e2
      obtain ⟨ps, e3, e4⟩ := Option.bind_eq_some_iff.mp e2
      unfold dispD at e4
      split at e4
      · rename_i h15'
        obtain ⟨F2, s3, x3, y3, r3⟩ := valsOf_ok s2 y1 ok fr e1
        obtain ⟨l, g1, g2, g3⟩ := pairs_up r3 e3 .nil e4
        have ha : H1 a = some (.dK []) := y1.keep a _ upd_same (fun o => nh o.held) fun f => (nf f).elim
        have nf2 : ¬ F2 a := fun f => by
          rcases x3.fnew a f with z | z | z
          · exact nf z
          · rw [upd_same] at z; cases z
          · exact nh z.held
        have nh2 : ¬ Held ρ1 σ a := fun hh => by
          rcases y1.hnew a hh with z | z
          · exact nh z
          · rw [upd_same] at z; cases z
        refine ⟨_, g1, ha, l, rfl, by rw [g2]; exact of_decide_eq_true h15', ?_⟩
        obtain ⟨k1, k2, k3⟩ := priv_ok' (on := .dK (mergeK [] l)) s3 nf2 nh2 fun o e => by rw [ha] at e; cases e; exact ⟨(fun _ z => nomatch z), (fun _ _ z => nomatch z)⟩
        exact q F2 _ (k3 na (x1.trans x3)) k1 (.ref a) ⟨a, rfl, nf2, nh2, .dct upd_same (g3.ext k2)⟩ fun _ b eb => by cases eb; exact .inl na
      · cases e4
    · exact q.elim
  · exact q.elim
/-! ### {k: v}, k a tuple -/
theorem keys_is {K : PySem.W.Frag} {F : FS} {H : Hp} : ∀ {ds : List D} {vs : List V} {ks : List Key}, Reps K G F H vs ds → keysD ds = some ks → vs = ks.map kV
  | [], _, ks, .nil, e => by cases e; rfl
  | d :: ds, _, ks, .cons r t, e => by
    rw [keysD] at e
    obtain ⟨k, e1, e2⟩ := Option.bind_eq_some_iff.mp e
    obtain ⟨ks', e3, rfl⟩ := Option.map_eq_some_iff.mp e2
    rw [keyD_rep (Lk.rep r) e1, keys_is t e3]
    rfl
theorem pe_odc {k v : Expr} {tk tv : TE} (hu : X.A.units < cLine) (hk : PE X k tk) (hv : PE X v tv) : PE X (.Dict [some k] [v] pos) (fun σ H Q => ∀ a, H a = none → tk σ (upd H a (.dT [])) fun x H1 => tv σ H1 fun _ H2 =>
    H2 a = some (.dT []) ∧ ∃ (b : Addr) (ks : List Key), x = .ref b ∧ SqT X.K H2 b (ks.map kV) ∧ Q (.ref a) (upd H2 a (.ext (IsDct a)))) := by
  refine ⟨fun pins s σ H Q I q => ?_⟩
  have hn := I.hok.fresh (Nat.le_refl s.heap.objs.size)
  have I1 := I.laid (a := s.heap.objs.size) (o := .dT []) (h' := s.heap.push { cls := .type "dict", data := .dict #[] }) (t' := s.toks) (fun _ _ q => Heap.get?_push_of_some _ q) (Nat.le_refl _) (dt_empty s.heap I.big)
  refine wpAny_Dict_pairsH (knd := tupleKind (mixKind X.prog X.w)) (pairs := pairTrees [some k] [v] X.env pos) hu (zip_pairTrees _ _ _ _ rfl rfl) ?_ ?_ ?_
  · intro e
    have := pairTrees_length [some k] [v] X.env pos rfl rfl
    rw [e] at this; cases this
  · rw [pairTrees_length [some k] [v] X.env pos rfl rfl]; show 1 ≤ 15; omega
  · refine pairTrees_cons_walk (thn (hk.run pins _ σ _ _ I1 (q _ hn)) fun u s1 ⟨x, H1, I2, rx, q1⟩ => thn (hv.run pins s1 σ H1 _ I2 q1) fun w s2 ⟨y, H2, I3, ry, e, b, ks, ex, sq, q2⟩ => pairTrees_nil_walk ?_)
    subst ex
    cases (show u = Value.ref b from rx)
    obtain ⟨its, rv, ⟨o, h1, h2, n, h3⟩, _⟩ := I3.tuple sq
    obtain ⟨z, hd, xs, rel, dd⟩ := dt_of I3.hok e
    cases rel
    refine ⟨[(ks, b, w)], ⟨rfl, rfl, ⟨o, its.toArray, n, h1, h2, h3, by simpa using items_are rv⟩, trivial⟩, dd, fun h' tk dd' hs => ?_⟩
    obtain ⟨xs', ⟨o', es, ep, g1, g2, _⟩, _⟩ := dd'
    exact ⟨.ref s.heap.objs.size, upd H2 s.heap.objs.size (.ext (IsDct s.heap.objs.size)), d_write (ob := .ext (IsDct s.heap.objs.size)) I3 (by rw [e]; exact True.intro) hs ⟨o', g1⟩ (And.intro ⟨o', g1, g2.1⟩ (And.intro ⟨o', g1⟩ fun ha hb ⟨o2, k1, k2⟩ kk => ⟨o2, kk _ k1, k2⟩)), rfl, q2⟩
theorem PostG.bindAt {α β : Type} {K : PySem.W.Frag} {W : WX} {ρ ρ1 : Env} {F F1 : FS} {σ : Sg} {H H1 : Hp} {r : R α} {k : α → Env → R β} {C : β → Env → FS → Hp → Prop} (x : Stp ρ F σ H ρ1 F1 σ H1) (p : PostG K G W ρ F σ H (r.bind k) C) :
    PostG K G W ρ1 F1 σ H1 r (fun a ρ2 F2 H2 => Stp ρ1 F1 σ H1 ρ2 F2 σ H2 ∧ StOk K G ρ2 F2 σ H2 ∧ PostG K G W ρ F σ H (k a ρ2) C) := by
  cases r with
  | ok a ρ2 => exact fun F2 H2 y s => ⟨y, s, p⟩
  | ex e ρ2 => exact PostX.step x p
  | no => exact p
theorem odc_ok {k v : Expr} {f g : Env → R Ar} (hu : X.A.units < cLine) (hk : AOk G X k f) (hv : AOk G X v g) : EOk G X (.Dict [some k] [v] pos) (twoF odcR f g) := by
  intro W tk
  refine peImp (pe_odc hu (hk W tk) (hv W tk)) ?_
  rintro σ H Q ⟨ρ, F, s, p⟩
  intro a na
  obtain ⟨nf, nh, s1, x1⟩ := new_ok (o := .dT []) s na
  refine ⟨ρ, F, s1, (PostG.bindAt x1 p).mono ?_⟩
  rintro ar ρ1 F1 H1 _ _ ⟨y1, s2, q1⟩ v ok1 fr1
  refine ⟨ρ1, F1, s2, (PostG.bindAt (x1.trans y1) q1).mono ?_⟩
  rintro br ρ2 F2 H2 _ _ ⟨y2, s3, q2⟩ u ok2 fr2
  cases e1 : ar.get ρ2 with
  | none => rw [e1] at q2; exact q2.elim
  | some dx =>
    cases e2 : br.get ρ2 with
    | none => rw [e1, e2] at q2; exact q2.elim
    | some dy =>
      rw [e1, e2] at q2
      dsimp only at q2
      have y := y1.trans y2
      have ha : H2 a = some (.dT []) := y.keep a _ upd_same (fun o => nh o.held) fun f => (nf f).elim
      have nf2 : ¬ F2 a := fun f => by
        rcases y.fnew a f with z | z | z
        · exact nf z
        · rw [upd_same] at z; cases z
        · exact nh z.held
      have nh2 : ¬ Held ρ2 σ a := fun hh => by
        rcases y.hnew a hh with z | z
        · exact nh z
        · rw [upd_same] at z; cases z
      refine ⟨ha, ?_⟩
      have lx := (ok1.step s2 y2).lk s3 e1
      cases e3 : keyT dx with
      | none => unfold odcR at q2; rw [e3] at q2; exact q2.elim
      | some ks =>
        unfold odcR at q2
        rw [e3] at q2
        obtain ⟨ds, rfl⟩ : ∃ ds, dx = .tup ds := by
          cases dx <;> first | (cases e3; done) | exact ⟨_, rfl⟩
        obtain ⟨b, vs, rfl, sq, rr⟩ := lx.tup
        have ek := keys_is rr e3
        subst ek
        refine ⟨b, ks, rfl, sq, ?_⟩
        obtain ⟨k1, k2, k3⟩ := priv_ok' (on := .ext (IsDct a)) s3 nf2 nh2 fun o e => by rw [ha] at e; cases e; exact ⟨(fun _ z => nomatch z), (fun _ _ z => nomatch z)⟩
        exact q2 F2 _ (k3 na (x1.trans y)) k1 (.ref a) ⟨a, rfl, nf2, nh2, .odc upd_same⟩ fun _ b eb => by cases eb; exact .inl na
end
end DI

set_option Elab.async false
set_option linter.all false
set_option maxRecDepth 100000
set_option maxHeartbeats 4000000
namespace DI
open PySem PySem.Spec L2 PyProof.Rows
/-! ## a.get(k, z) -/
section
variable {G : Gx} {X : Cx} {pos : Pos}
/-- what a.get(k, z) wants -/
def tGet (td ty tx : TE) : TE := fun σ H Q => td σ H fun x H1 => ∃ a, x = .ref a ∧ IsD H1 a ∧ ty σ H1 fun y H2 => tx σ H2 fun z H3 => (∃ o, DGet H3 a y o ∧ Q (o.getD z) H3) ∨ ∃ kk, H3 a = some (.dT []) ∧ y = kV kk ∧ Q z H3
theorem pe_get {o e f : Expr} {apos : Pos} {td ty tx : TE} (hu : X.A.units + 1 < cLine) (ho : PE X o td) (he : PE X e ty) (hf : PE X f tx) (m : M2 X o "get" apos e f pos) : PE X (.Call (.Attribute o "get" apos) [e, f] [] pos) (tGet td ty tx) := by
  constructor
  intro pins s σ H Q I h
  refine wpAny_Call_method m.base m.few m.line PySem.F.plainAttrs_dict PySem.F.slot_dict_get PySem.F.type_dict_get ?_
  refine thn (ho.run pins s σ H _ I h) ?_
  rintro u s1 ⟨x, H1, I1, rx, a, rfl, d, q1⟩
  cases rx
  have w := isD_at I1 d
  refine ⟨w.1, w.2.1, ?_⟩
  rw [m.trees]
  refine Calls.callWith_builtin rfl (Calls.evalArgs_plain (Calls.spliced_cons ?_))
  refine thn (he.run pins s1 σ H1 _ I1 q1) ?_
  rintro iv s2 ⟨y, H2, I2, ry, q2⟩
  refine Calls.spliced_cons (thn (hf.run pins s2 σ H2 _ I2 q2) ?_)
  rintro fv s3 ⟨z, H3, I3, rz, q3⟩
  refine Calls.spliced_nil ?_
  rcases q3 with ⟨o, g, q3⟩ | ⟨kk, g, ey, q3⟩
  · exact d_get2 hu I3 g ry rz fun w' s4 I4 rw' => ⟨_, H3, I4, rw', q3⟩
  · subst ey
    refine d_get2 hu (dTK I3 g) (.k (kvs := []) upd_same) ry rz fun w' s4 I4 rw' => ⟨z, H3, ?_, rw', q3⟩
    have J := dKT I4 upd_same
    rwa [upd_back g] at J
theorem dget_core {W : WX} {f g h : Env → R Ar} {ρ : Env} {F : FS} {σ : Sg} {H : Hp} {Q : VK} (s : StOk X.K G ρ F σ H) (p : PostV X.K G W ρ F σ H (dgetF f g h ρ) Q) : tGet (tA X.K G W f) (tA X.K G W g) (tA X.K G W h) σ H Q := by
  refine ⟨ρ, F, s, (PostV.bind p).mono ?_⟩
  rintro x ρ1 F1 H1 _ _ ⟨x1, s1, q1, _⟩ v ok1 _
  split at q1
  · rename_i ic
    cases e0 : x.get ρ1 with
    | none => rw [e0] at ic; cases ic
    | some d0 =>
      have l0 := ok1.lk s1 e0
      rw [e0] at ic
      unfold isDc at ic
      split at ic
      · rename_i kvs0 ed
        cases ed
        obtain ⟨a, rfl, cl⟩ := l0.dct
        refine ⟨a, rfl, ?_, ρ1, F1, s1, (PostV.bind q1).mono ?_⟩
        · cases cl with
          | dct h r => exact .inl ⟨_, h⟩
          | dtp h r => exact .inr ⟨_, .inl h⟩
        rintro y ρ2 F2 H2 _ _ ⟨x2, s2, q2, _⟩ u ok2 _
        refine ⟨ρ2, F2, s2, (PostV.bind q2).mono ?_⟩
        rintro z ρ3 F3 H3 _ _ ⟨x3, s3, q3, q0⟩ t ok3 fr3
        cases e1 : x.get ρ3 with
        | none => rw [e1] at q3; exact q3.elim
        | some d1 =>
          cases e2 : y.get ρ3 with
          | none => rw [e1, e2] at q3; exact q3.elim
          | some d2 =>
            rw [e1, e2] at q3 q0
            cases e3 : valsOf [z] with
            | none => rw [e3] at q3; exact q3.elim
            | some zs =>
              rw [e3] at q3 q0
              obtain ⟨F', s4, x4, y4, r4⟩ := valsOf_ok s3 x3 (.cons ok3 .nil) (.cons fr3 .nil) e3
              cases r4 with
              | cons rt r5 =>
                cases r5
                dsimp only at q0 q3
                obtain ⟨d, m, e⟩ := q3.some
                obtain ⟨r, e5, e6⟩ := Option.map_eq_some_iff.mp e
                cases e6
                have l1 := ((ok1.step s1 x2).step s2 x3).lk s3 e1
                have l2 := (ok2.step s2 x3).lk s3 e2
                have q5 : PostV X.K G W ρ3 F' σ H3 _ Q := .from x4 (PostG.step x4 q0)
                unfold dgetD at e5
                split at e5
                · rename_i kvs
                  split at e5
                  · rename_i kk hk
                    split at e5
                    · rename_i hall
                      obtain ⟨b, eb, c1⟩ := l1.dct
                      cases eb
                      have ey := keyD_rep l2 hk
                      subst ey
                      cases c1 with
                      | dct h r =>
                        refine .inl ⟨_, .inl ⟨_, _, h, rfl, rfl⟩, ?_⟩
                        cases ev : (kvs.find? fun e => decide (keyD e.1 = some kk)).map (·.2) with
                        | some d' =>
                          obtain ⟨w, w1, w2⟩ := ks_find r ev
                          rw [ev] at e5
                          cases e5
                          rw [w1]
                          exact q5.res s4 e _ H3 .refl (w2.ext y4)
                        | none =>
                          rw [ev] at e5
                          cases e5
                          rw [ks_none r ev]
                          exact q5.res s4 e _ H3 .refl rt
                      | dtp h r =>
                        obtain ⟨z1, z2⟩ := tz_keys r hall
                        subst z1 z2
                        cases e5
                        exact .inr ⟨kk, h, rfl, q5.res s4 e _ H3 .refl rt⟩
                    · cases e5
                  · cases e5
                · cases e5
      · cases ic
  · exact q1.elim
theorem dget_ok {o e1 e2 : Expr} {apos : Pos} {f g h : Env → R Ar} (hu : X.A.units + 1 < cLine) (ho : AOk G X o f) (hk : AOk G X e1 g) (hd : AOk G X e2 h)
    (hbase : attributeBase o "get" X.env (eval o X.env) = eval o X.env)
    (hfew : ((backTo pos (starEach [e1, e2] X.env)).all (fun x => !x.1) && (backToKw pos (keywordEach [] X.env)).all (fun x => x.1.isSome)
      && decide (([e1, e2] : List Expr).length + ([] : List Keyword).length + (if ([] : List Keyword).isEmpty then 0 else 1) < 30)) = true)
    (hline : (apos.endLine == pos.line) = true) (ht : backTo pos (starEach [e1, e2] X.env) = [(false, eval e1 X.env), (false, eval e2 X.env)]) :
    EOk G X (.Call (.Attribute o "get" apos) [e1, e2] [] pos) (dgetF f g h) := by
  intro W tk
  refine peImp (pe_get hu (ho W tk) (hk W tk) (hd W tk) ⟨hbase, hfew, hline, ht⟩) ?_
  rintro σ H Q ⟨ρ, F, s, p⟩
  exact dget_core s p
end
end DI

set_option Elab.async false
set_option linter.all false
set_option maxRecDepth 100000
set_option maxHeartbeats 4000000
namespace DI
open PySem PySem.Spec L2 PyProof.Rows
section
variable {K : PySem.W.Frag} {G : Gx} {ρ : Env} {F : FS} {σ : Sg} {H : Hp}
/-- something new that never changes -/
theorem StOk.layF (s : StOk K G ρ F σ H) {a : Addr} {o : HO} (na : H a = none) : StOk K G ρ (fun b => F b ∨ b = a) σ (upd H a o) := by
  have s1 := s.grow (Grow.new (o := o) na)
  have x : Ext F (upd H a o) (fun b => F b ∨ b = a) (upd H a o) := ⟨fun _ z => .inl z, fun _ _ _ z _ => z, fun _ _ _ z => .inl z, fun _ _ z => z, fun _ _ _ z => z⟩
  refine ⟨s1.len, fun i sl h => ?_, s1.sep, fun b f => ?_⟩
  · obtain ⟨v, h1, h2⟩ := s1.val i sl h
    refine ⟨v, h1, h2.ext x (fun b e n f => ?_) fun b o _ _ q => q⟩
    have hb : Held ρ σ b := ⟨i, sl, h, n, by rw [h1, e]⟩
    rcases f with f | f
    · exact s.notF hb f
    · subst f
      obtain ⟨d, c⟩ := s.heldCell hb
      obtain ⟨o', q, _⟩ := c.there
      rw [na] at q; cases q
  · rcases f with f | f
    · exact s1.dom b f
    · subst f; rw [upd_same]; simp
theorem Stp.layF {ρ₀ : Env} {F₀ : FS} {σ₀ : Sg} {H₀ : Hp} (x : Stp ρ₀ F₀ σ₀ H₀ ρ F σ H) {a : Addr} {o : HO} (na : H a = none) (n : H₀ a = none ∨ Own ρ₀ σ₀ a) : Stp ρ₀ F₀ σ₀ H₀ ρ (fun b => F b ∨ b = a) σ (upd H a o) :=
  (x.trans (Stp.grow (Grow.new na))).freeze n
theorem Stp.newF {ρ₀ : Env} {F₀ : FS} {σ₀ : Sg} {H₀ : Hp} (x : Stp ρ₀ F₀ σ₀ H₀ ρ F σ H) {a : Addr} (na : H a = none) : H₀ a = none ∨ Own ρ₀ σ₀ a := x.fresh (.inl na)
end
section
variable {G : Gx} {X : Cx} {pos : Pos} {c : Nat} {C : Addr} {x n : Str} {p : Pos} {e : Expr} {f : Env → R Ar}
theorem mk_ok {bmB : List Value} {B newId initId : String} (hC : G.cls c = some C) (Fa : ExcBaseFacts B newId initId bmB) (q : PySem.W.excIn X.K C bmB newId = true) (gC : X.mg x = some (.ref C)) (kC : PySem.W.keepIn X.K (.ref C) = true) (hg : Gl X x)
    (ha : AOk G X e f) (he : starEach [e] X.env = (false, eval e X.env) :: starEach [] X.env) (hdb : (x == ("__debug__" : Str)) = false) : EOk G X (.Call (.Name x p) [e] [] pos) (mkF c f) := by
  intro W tk
  refine peImp (pe_exc1 Fa q gC kC hg (ha W tk) he hdb) ?_
  rintro σ H Q ⟨ρ, F, s, p⟩
  refine ⟨ρ, F, s, (PostV.bind p).mono ?_⟩
  rintro ar ρ1 F1 H1 _ _ ⟨x1, s1, q1, q0⟩ v ok fr a na
  exact q0 _ _ (x1.layF na (x1.newF na)) (s1.layF na) _ (.exn (.inr rfl) hC upd_same) fun z => nomatch z
theorem mkx_ok (hC : G.cls c = some C) (Mx : DX.MakesX X.prog X.w X.K X.mg X.base C n) (hr : X.A.depth + 2 < recursionLimit) (gC : X.mg x = some (.ref C)) (kC : PySem.W.keepIn X.K (.ref C) = true) (hg : Gl X x)
    (ha : AOk G X e f) (he : starEach [e] X.env = (false, eval e X.env) :: starEach [] X.env) (hdb : (x == ("__debug__" : Str)) = false) : EOk G X (.Call (.Name x p) [e] [] pos) (mkxF c n f) := by
  intro W tk
  refine peImp (pe_keep Mx hr kC gC hg (ha W tk) he hdb) ?_
  rintro σ H Q ⟨ρ, F, s, p⟩
  refine ⟨ρ, F, s, (PostV.bind p).mono ?_⟩
  rintro ar ρ1 F1 H1 _ _ ⟨x1, s1, q1, q0⟩ v ok fr a dx na nd ne
  cases e1 : valsOf [ar] with
  | none => rw [e1] at q1; exact q1.elim
  | some ds =>
    rw [e1] at q0
    obtain ⟨F2, s2, x2, y2, r2⟩ := valsOf_ok s1 x1 (.cons ok .nil) (.cons fr .nil) e1
    cases r2 with
    | cons rt r5 =>
      cases r5
      dsimp only at q0
      have na' : upd H1 dx (exd dx [(n, v)]) a = none := by rw [upd_ne (Ne.symm ne)]; exact na
      have s3 := s2.layF (o := exd dx [(n, v)]) nd
      have x3 := x2.layF (o := exd dx [(n, v)]) nd (x2.newF nd)
      refine q0 _ _ (x3.layF na' (x3.newF na')) (s3.layF na') _ ?_ fun z => nomatch z
      refine .exf (.inr rfl) (.inl (.inr rfl)) hC upd_same (by rw [upd_ne ne]; exact upd_same) (.cons (Rep.ext ?_ rt) .nil)
      have g1 : Ext F2 H1 F2 (upd H1 dx (exd dx [(n, v)])) := (Grow.new nd).ext
      have g2 : Ext F2 (upd H1 dx (exd dx [(n, v)])) F2 (upd (upd H1 dx (exd dx [(n, v)])) a (exo a C (some dx))) := (Grow.new na').ext
      exact (g1.trans g2).trans ⟨fun _ z => .inl (.inl z), fun _ _ _ z _ => z, fun _ _ _ z => .inl z, fun _ _ z => z, fun _ _ _ z => z⟩
/-- one value, as it lies -/
theorem one_core {sem : D → Res} {W : WX} {σ : Sg} {H : Hp} {Q : VK} {ρ : Env} {F : FS} (s : StOk X.K G ρ F σ H) (p : PostV X.K G W ρ F σ H (oneF sem f ρ) Q) : tA X.K G W f σ H fun x H1 => rSpU G X.K sem x H1 Q := by
  dsimp only [oneF] at p
  refine ⟨ρ, F, s, (PostV.bind p).mono ?_⟩
  rintro a ρ1 F1 H1 _ _ ⟨x1, s1, q1, _⟩ v ok1 _
  cases e1 : a.get ρ1 with
  | none => rw [e1] at q1; exact q1.elim
  | some dx =>
    rw [e1] at q1
    obtain ⟨d, m, e⟩ := q1.some
    exact ⟨F1, dx, d, m, ok1.lk s1 e1, e, q1.res s1 e⟩
theorem fld_ok {cs : List Nat} (hx : ∀ c ∈ cs, ∀ C, G.cls c = some C → XfC X.K C ∧ PySem.W.findIn X.K (.ref C) n = some none) (ha : AOk G X e f) (hb : attributeBase e n X.env (eval e X.env) = eval e X.env) : EOk G X (.Attribute e n pos) (oneF (fldD cs n) f) := by
  intro W tk
  refine peImp (pe_fldX (ha W tk) hb) ?_
  rintro σ H Q ⟨ρ, F, s, p⟩
  obtain ⟨ρ', F', s', q⟩ := one_core s p
  refine ⟨ρ', F', s', q.mono ?_⟩
  rintro ar ρ1 F1 H1 _ _ h v ok fr
  obtain ⟨F2, dx, d, m, l, e1, k⟩ := h v ok fr
  unfold fldD at e1
  split at e1
  · rename_i c fs
    split at e1
    · rename_i hc
      obtain ⟨d', e2, e3⟩ := Option.map_eq_some_iff.mp e1
      cases e3
      obtain ⟨a, C, rfl, gC, h⟩ := l.exc
      obtain ⟨x1, x2⟩ := hx c (by simpa using hc) C gC
      rcases h with ⟨rfl, _⟩ | ⟨dx, vs, h1, h2, r⟩
      · cases e2
      · obtain ⟨w, e4, rw'⟩ := r.look e2
        exact ⟨a, C, dx, vs, w, rfl, x1, x2, h1, h2, e4, k w H1 .refl rw'⟩
    · cases e1
  · cases e1
/-- isinstance(e, c) of an exception -/
theorem isx_ok {tab : List Nat} {cv : Value} {cV : V} {y : Str} {p2 : Pos} (hx : ∀ c C, G.cls c = some C → ExcC X.K C ∧ PySem.W.kitOne X.K (.ref C) cv = some (tab.contains c)) (hv : PE X (.Name y p2) (tC cV)) (kc : ClsV cV cv) (ha : AOk G X e f)
    (hg : Gl X "isinstance") (hm : X.mg "isinstance" = none) (he1 : starEach [e, .Name y p2] X.env = (false, eval e X.env) :: starEach [.Name y p2] X.env) :
    EOk G X (.Call (.Name "isinstance" p) [e, .Name y p2] [] pos) (oneF (isxD tab) f) := by
  intro W tk
  refine peImp (pe_callB (call_isX (X := X)) hg hm (by decide +kernel) (pa_cons (ha W tk) (pa_cons hv pa_nil rfl) he1) (by decide) (by decide) he1 rfl) ?_
  rintro σ H Q ⟨ρ, F, s, p⟩
  obtain ⟨ρ', F', s', q⟩ := one_core s p
  refine ⟨ρ', F', s', q.mono ?_⟩
  rintro ar ρ1 F1 H1 _ _ h v ok fr
  obtain ⟨F2, dx, d, m, l, e1, k⟩ := h v ok fr
  unfold isxD at e1
  split at e1
  · rename_i c fs
    cases e1
    obtain ⟨a, C, rfl, gC, h⟩ := l.exc
    obtain ⟨x1, x2⟩ := hx c C gC
    refine ⟨a, C, cV, cv, _, rfl, x1, ?_, kc, x2, k _ H1 .refl (.bl _)⟩
    rcases h with ⟨_, h⟩ | ⟨dx, vs, h1, h2, r⟩
    · exact .inl h
    · exact .inr ⟨dx, vs, h1, h2⟩
  · cases e1
theorem strs_of {K : PySem.W.Frag} {F : FS} {H : Hp} : ∀ {vs : List V} {ds : List D} {ys : List Str}, Reps K G F H vs ds → strsD ds = some ys → vs = ys.map V.str
  | _, _, ys, .nil, e => by cases e; rfl
  | _, _, ys, .cons r t, e => by
    unfold strsD at e
    split at e
    · rename_i h; cases h
    · rename_i h
      cases h
      obtain ⟨zs, e1, rfl⟩ := Option.map_eq_some_iff.mp e
      rw [Lk.str (.inl r), strs_of t e1]; rfl
    · cases e
theorem join_ok {z : Str} {k : Nat} {zp apos : Pos} (ha : AOk G X e f) (hs : starEach [e] X.env = [(false, eval e X.env)]) (hline : (apos.endLine == pos.line) = true) :
    EOk G X (.Call (.Attribute (.Constant (.str z) k zp) "join" apos) [e] [] pos) (oneF (joinD z) f) := by
  intro W tk
  refine peImp (pe_join pe_str (ha W tk) hs rfl hline) ?_
  rintro σ H Q ⟨ρ, F, s, p⟩
  obtain ⟨ρ', F', s', q⟩ := one_core s p
  refine ⟨⟨z, rfl⟩, ρ', F', s', q.mono ?_⟩
  rintro ar ρ1 F1 H1 _ _ h v ok fr
  obtain ⟨F2, dx, d, m, l, e1, k⟩ := h v ok fr
  unfold joinD at e1
  split at e1
  · rename_i ds
    obtain ⟨ys, e2, e3⟩ := Option.bind_eq_some_iff.mp e1
    split at e3
    · rename_i hl
      cases e3
      obtain ⟨a, vs, rfl, h, r⟩ := l.lst
      exact ⟨z, a, ys, rfl, rfl, .inl (.inl (.inl (by rw [← strs_of r e2]; exact h))), of_decide_eq_true hl, k _ H1 .refl (.str _)⟩
    · cases e3
  · cases e1
end
end DI

set_option Elab.async false
set_option linter.all false
set_option maxRecDepth 100000
set_option maxHeartbeats 4000000
namespace DI
open PySem PySem.Spec L2 PyProof.Rows
/-! ## What is seen of the text alone -/
def notStar : Expr → Bool
  | .Starred _ _ => false
  | _ => true
theorem star_ok {e : Expr} {es : List Expr} {env : PySem.Env} (h : notStar e = true) : starEach (e :: es) env = (false, eval e env) :: starEach es env := by
  cases e <;> first | rfl | cases h
theorem stars_ok {env : PySem.Env} {pos : Pos} : ∀ {es : List Expr}, es.all notStar = true → (backTo pos (starEach es env)).any (·.1) = false
  | [], _ => rfl
  | e :: es, h => by
    rw [List.all_cons, Bool.and_eq_true] at h
    have ih := stars_ok (env := env) (pos := pos) h.2
    rw [star_ok h.1]
    unfold backTo at ih ⊢
    rw [List.map_cons, List.any_cons]
    simpa using ih
theorem few_ok {env : PySem.Env} {pos : Pos} {es : List Expr} (h : es.all notStar = true) (hl : es.length < 30) :
    ((backTo pos (starEach es env)).all (fun x => !x.1) && (backToKw pos (keywordEach [] env)).all (fun x => x.1.isSome) && decide (es.length + ([] : List Keyword).length + (if ([] : List Keyword).isEmpty then 0 else 1) < 30)) = true := by
  have h1 := stars_ok (env := env) (pos := pos) h
  have h2 : (backTo pos (starEach es env)).all (fun x => !x.1) = true := by
    rw [List.all_eq_not_any_not]
    simp only [Bool.not_not, Bool.not_eq_true']
    exact h1
  rw [h2]
  simp [keywordEach, backToKw, hl]
def plainTr : Expr → Bool
  | .UnaryOp .Not _ _ => false
  | .BoolOp _ _ _ => false
  | .IfExp _ _ _ _ => false
  | .Compare _ _ _ _ => false
  | _ => true
theorem plainTr_ok {e : Expr} {env : PySem.Env} (h : plainTr e = true) : ∀ whole, isTrue e env whole = (do let v ← whole; standAt e.pos; holding [v] (truthy v)) := by
  intro whole
  cases e with
  | UnaryOp op x p => cases op <;> first | rfl | cases h
  | BoolOp _ _ _ => cases h
  | IfExp _ _ _ _ => cases h
  | Compare _ _ _ _ => cases h
  | _ => rfl
def plainIx : Expr → Bool
  | .Slice _ _ _ _ => false
  | _ => true
theorem plainIx_ok {e : Expr} (h : plainIx e = true) : PlainIx e := by
  intro o i
  cases e <;> first | rfl | cases h
def noComp : Expr → Bool
  | .ListComp _ _ _ _ => false
  | .SetComp _ _ _ _ => false
  | .DictComp _ _ _ _ _ => false
  | _ => true
theorem noComp_ok {e : Expr} {t : Option Expr} {l : Nat} {env : PySem.Env} (h : noComp e = true) : swapsWith e t l env = pure false := by
  cases e <;> first | rfl | cases h
def noSet : Expr → Bool
  | .Set _ _ _ => false
  | _ => true
theorem noSet_ok {e : Expr} {env : PySem.Env} (h : noSet e = true) : ∀ x, foldedSetIterable e env x = pure x := by
  intro x
  cases e <;> first | rfl | cases h
def noCall : Expr → Bool
  | .Call _ _ _ _ => false
  | _ => true
theorem noCall_ok {o : Expr} {a : Str} {env : PySem.Env} (h : noCall o = true) : attributeBase o a env (eval o env) = eval o env := by
  cases o <;> first | rfl | cases h
theorem asgSub_ok {o i : Expr} {pos : Pos} {env : PySem.Env} (h : plainIx i = true) : ∀ v, assign (.Subscript o i pos) env v = (do
      let ov ← holding [v] (eval o env)
      let iv ← holding [v, ov] (eval i env)
      standAt pos
      holding [v, ov, iv] (setItem ov iv v)
      release [v, ov, iv] []) := by
  intro v
  cases i <;> first | rfl | cases h
theorem asgEach_ok {t : Expr} {ts : List Expr} {env : PySem.Env} (h : notStar t = true) : assignEach (t :: ts) env = (false, assign t env) :: assignEach ts env := by
  cases t <;> first | rfl | cases h
theorem asgLen {env : PySem.Env} : ∀ {ts : List Expr}, ts.all notStar = true → (assignEach ts env).length = ts.length ∧ (assignEach ts env).findIdx? (·.1) = none
  | [], _ => ⟨rfl, rfl⟩
  | t :: ts, h => by
    rw [List.all_cons, Bool.and_eq_true] at h
    obtain ⟨h1, h2⟩ := asgLen (env := env) h.2
    rw [asgEach_ok h.1]
    refine ⟨by simp [h1], ?_⟩
    rw [List.findIdx?_cons]
    simp [h2]
/-- a, b = x, y: both names stored at once -/
def par2C (sc : Scope) (x : Str) (px : Pos) (y : Str) (py : Pos) (a b : Expr) : Bool :=
  decide (sc.names.lookup x = some .local) && decide (sc.names.lookup y = some .local) && px.line == py.line && x != y && notStar a && notStar b && !([a, b].all (foldedForSure 8)) && !([a, b].all (constantsAlone 8)) &&
    decide (sc.kind = .function)
theorem blockKind_fn {env : PySem.Env} (h : env.scope.kind = .function) : env.blockKind = .function := by
  unfold Env.blockKind
  rw [h]
  rfl
theorem par2_ok {env : PySem.Env} {x y : Str} {px py pt pt2 : Pos} {kt k2 : Nat} {a b : Expr} (h : par2C env.scope x px y py a b = true) :
    swappedStores [.Tuple [.Name x px, .Name y py] kt pt] (.Tuple [a, b] k2 pt2) env = pure (some [x, y]) := by
  unfold par2C at h
  simp only [Bool.and_eq_true, decide_eq_true_eq, Bool.not_eq_true', beq_iff_eq, bne_iff_ne, ne_eq] at h
  obtain ⟨⟨⟨⟨⟨⟨⟨⟨h1, h2⟩, h3⟩, h4⟩, h5⟩, h6⟩, h7⟩, h8⟩, h9⟩ := h
  have hk := blockKind_fn h9
  have k1 : env.kindOf x = some .local := h1
  have k2 : env.kindOf y = some .local := h2
  have nd : (([x, y] : List Str).eraseDups).length = 2 := by
    have e : (y == x) = false := by simpa using fun e => h4 e.symm
    simp [List.eraseDups_cons, e]
  have st : ([a, b] : List Expr).any (fun x => match x with | .Starred .. => true | _ => false) = false := by
    have s1 : ∀ e : Expr, notStar e = true → (match e with | .Starred .. => true | _ => false) = false := fun e he => by cases e <;> first | rfl | cases he
    rw [List.any_cons, List.any_cons, s1 a h5, s1 b h6]
    rfl
  unfold swappedStores
  have s1 : ∀ e : Expr, notStar e = true → (match e with | .Starred .. => true | _ => false) = false := fun e he => by cases e <;> first | rfl | cases he
  simp [hk, k1, k2, h3, h7, h8, nd, st, Expr.pos]
  intro h
  rcases h with h | h
  · cases a <;> first | (cases h; done) | (cases h5; done)
  · cases b <;> first | (cases h; done) | (cases h6; done)
/-- .. or one after the other -/
def noPar (ts : List Expr) (e : Expr) : Bool :=
  match ts, e with
  | [.Tuple ts _ _], .Tuple vs _ _ => !(ts.length == 2 || ts.length == 3) || vs.length != ts.length || (ts.any fun t => match t with | .Name _ _ => false | _ => true) || vs.all (foldedForSure 8)
  | [.List _ _], _ => false
  | _, _ => true
theorem noPar_ok {env : PySem.Env} {ts : List Expr} {e : Expr} (h : noPar ts e = true) : swappedStores ts e env = pure none := by
  unfold swappedStores
  split
  · rename_i ts' vs' heq
    have hn : (!(ts'.length == 2 || ts'.length == 3) || vs'.length != ts'.length || (ts'.any fun t => match t with | .Name _ _ => false | _ => true) || vs'.all (foldedForSure 8)) = true := by
      split at heq
      · cases heq; exact h
      · cases heq; cases h
      · cases heq
    split
    · rfl
    · rename_i c1
      split
      · rfl
      · dsimp only
        split
        · rfl
        · rename_i c2
          split
          · rfl
          · rename_i c3
            exfalso
            simp only [Bool.or_eq_true] at hn c1 c2
            rcases hn with ((hn | hn) | hn) | hn
            · exact c1 (.inl (.inl hn))
            · exact c1 (.inl (.inr hn))
            · refine c2 (.inl ?_)
              rw [bne_iff_ne]
              have lt : ∀ (ts : List Expr) (f : Expr → Option Str), (∀ t, (match t with | .Name _ _ => false | _ => true) = true → f t = none) → (ts.any fun t => match t with | .Name _ _ => false | _ => true) = true → (ts.filterMap f).length < ts.length := by
                intro ts f hf
                induction ts with
                | nil => intro h; cases h
                | cons t r ih =>
                  intro h
                  rw [List.any_cons, Bool.or_eq_true] at h
                  rw [List.filterMap_cons]
                  cases ht : (match t with | .Name _ _ => false | _ => true) with
                  | true =>
                    rw [hf t ht]
                    have := List.length_filterMap_le f r
                    simp only [List.length_cons]; omega
                  | false =>
                    rw [ht] at h
                    have := ih (h.resolve_left (by simp))
                    cases f t <;> simp only [List.length_cons] <;> omega
              exact Nat.ne_of_lt (lt _ _ (fun t ht => by cases t <;> first | rfl | cases ht) hn)
            · exact c3 hn
  · rfl
end DI

set_option Elab.async false
set_option linter.all false
set_option maxRecDepth 100000
set_option maxHeartbeats 4000000
namespace DI
open PySem PySem.Spec L2 PyProof.Rows
/-! ## The text's tables -/
structure Tb where
  /-- the defs' names -/
  fns : List Str
  /-- the module's constants -/
  gcs : List (Str × D)
  /-- the exception classes -/
  cls : List Str
  /-- what except clauses name -/
  hds : List Str
  /-- the built-in names that the text leaves as they are -/
  blt : List Str
  /-- the exception classes that keep a value: number, name, field -/
  xcl : List (Nat × Str × Str)
  /-- the classes that isinstance is asked for, with the numbers of those below -/
  iss : List (Str × List Nat)
/-- a block's names -/
structure Gm where
  N : List Str
  sc : Scope
  calm : Bool
  fnA : Bool
  top : Bool
structure Facts (T : Tb) (G : Gx) (n : Nat) (cl : Nat → List Sl → CR) (isa : Nat → Nat → Bool) (gcs : List D) (P : Program) (w : World) (K : PySem.W.Frag) (mg : Str → Option Value) (base : Heap) : Prop where
  fn : ∀ (f : Nat) (x : Str), T.fns[f]? = some x → ∃ a fd ps, mg x = some (.ref a) ∧ PySem.W.keepIn K (.ref a) = true ∧ Binds K fd ps [] ∧ FnR P w K mg base G n a fd ps (cl f)
  gc : ∀ (g : Nat) (e : Str × D), T.gcs[g]? = some e → gcs[g]? = some e.2 ∧ ∃ v u, mg e.1 = some u ∧ RelV v u ∧ ∀ F H, Rep K G F H v e.2
  bl : ∀ x ∈ T.blt, mg x = none
  cls : ∀ (c : Nat) (x : Str), T.cls[c]? = some x → ∃ C bmB B newId initId, G.cls c = some C ∧ ExcBaseFacts B newId initId bmB ∧ PySem.W.excIn K C bmB newId = true ∧ mg x = some (.ref C) ∧ PySem.W.keepIn K (.ref C) = true ∧ PySem.W.subIn K (.ref C) (.type "BaseException") = some true ∧ PySem.W.typeIn K (.ref C) = some (.type "type")
  hd : ∀ (c : Nat) (x : Str), T.hds[c]? = some x → ∃ cv, (mg x = some cv ∨ (mg x = none ∧ bootBuiltins x = some cv ∧ x ≠ "__name__")) ∧ ∀ c1 C1, G.cls c1 = some C1 → PySem.W.exmOne K (.ref C1) cv = some (isa c1 c)
structure FactsX (T : Tb) (G : Gx) (P : Program) (w : World) (K : PySem.W.Frag) (mg : Str → Option Value) (base : Heap) : Prop where
  xk : ∀ e ∈ T.xcl, ∃ C, G.cls e.1 = some C ∧ mg e.2.1 = some (.ref C) ∧ PySem.W.keepIn K (.ref C) = true ∧ DX.MakesX P w K mg base C e.2.2 ∧ PySem.W.subIn K (.ref C) (.type "BaseException") = some true ∧ PySem.W.typeIn K (.ref C) = some (.type "type") ∧ XfC K C ∧ PySem.W.findIn K (.ref C) e.2.2 = some none
  is : ∀ (h : Nat) (e : Str × List Nat), T.iss[h]? = some e → ∃ cv cV, ClsV cV cv ∧ RelV cV cv ∧ (mg e.1 = some cv ∨ (mg e.1 = none ∧ bootBuiltins e.1 = some cv ∧ e.1 ≠ "__name__")) ∧ ∀ c C, G.cls c = some C → ExcC K C ∧ PySem.W.kitOne K (.ref C) cv = some (e.2.contains c)
structure Good (T : Tb) (G : Gx) (n : Nat) (cl : Nat → List Sl → CR) (isa : Nat → Nat → Bool) (gcs : List D) (Γ : Gm) (X : Cx) : Prop where
  fx : Facts T G n cl isa gcs X.prog X.w X.K X.mg X.base
  xx : FactsX T G X.prog X.w X.K X.mg X.base
  N : X.N = Γ.N
  nd : Γ.N.Nodup
  sc : X.env.scope = Γ.sc
  kd : Γ.sc.kind = .function
  calm : X.calm = Γ.calm
  room : Γ.calm = true → Room n X.A
  un : X.A.units + 65 < cLine
  gd : X.A.guards = some []
  fn : Γ.fnA = true → ∀ x, X.fn x = true
  ps : Γ.top = true → PassesOwn (model X.prog X.w) X.A X.env X.xe
  top : Γ.top = true → X.stack = X.env :: X.outer ∧ X.env.frame = some X.env.locals
def noDbg (x : Str) : Bool := (x == ("__debug__" : Str)) == false
def visC (Γ : Gm) (i : Nat) (x : Str) : Bool := decide (Γ.N[i]? = some x) && (match Γ.sc.names.lookup x with | some .local => true | some .cell => true | some .free => true | _ => false) && noDbg x && (x == ("__classdict__" : Str)) == false
def locC (Γ : Gm) (i : Nat) (x : Str) : Bool := decide (Γ.N[i]? = some x) && (match Γ.sc.names.lookup x with | some .local => true | some .cell => Γ.fnA | _ => false)
def glC (Γ : Gm) (x : Str) : Bool := decide (Γ.sc.names.lookup x = some .globalImplicit) && noDbg x
def Gm.blk (Γ : Gm) (s : Scope) : Gm := { Γ with sc := relS s Γ.sc, fnA := false, top := false }
section
variable {T : Tb} {G : Gx} {n : Nat} {cl : Nat → List Sl → CR} {isa : Nat → Nat → Bool} {gcs : List D} {Γ : Gm} {X : Cx}
theorem Good.blk (g : Good T G n cl isa gcs Γ X) {s : Shared} {H : Hp} {scope : Scope} {C : Addr} {c : List (Str × Addr)} {fp : List Addr} (hk : scope.kind = .function) : Good T G n cl isa gcs (Γ.blk scope) (X.blk s H scope (compEnvC scope c C X.env) fp) :=
  ⟨g.fx, g.xx, g.N, g.nd, by show relS scope X.env.scope = relS scope Γ.sc; rw [g.sc], hk, g.calm, g.room, g.un, g.gd, (fun z => nomatch z), (fun z => nomatch z), (fun z => nomatch z)⟩
theorem Good.var (g : Good T G n cl isa gcs Γ X) {i : Nat} {x : Str} {pos : Pos} (h : visC Γ i x = true) : PE X (.Name x pos) (tVar i) := by
  unfold visC noDbg at h
  simp only [Bool.and_eq_true, decide_eq_true_eq, beq_iff_eq] at h
  obtain ⟨⟨⟨h1, h2⟩, h3⟩, h4⟩ := h
  refine pe_var (by rw [g.N]; exact h1) ?_ (by simpa using h3) (by simpa using h4)
  unfold Vis
  rw [g.sc]
  split at h2
  · rename_i e; exact .inl e
  · rename_i e; exact .inr (.inl e)
  · rename_i e; exact .inr (.inr e)
  · cases h2
theorem Good.loc (g : Good T G n cl isa gcs Γ X) {i : Nat} {x : Str} (h : locC Γ i x = true) : X.N.Nodup ∧ X.N[i]? = some x ∧ L2.Loc X.env.scope x ∧ (X.fn x = true ∨ X.env.scope.names.lookup x = some .local) := by
  unfold locC at h
  simp only [Bool.and_eq_true, decide_eq_true_eq] at h
  obtain ⟨h1, h2⟩ := h
  unfold L2.Loc
  rw [g.N, g.sc]
  split at h2
  · rename_i e; exact ⟨g.nd, h1, .inl e, .inr e⟩
  · rename_i e; exact ⟨g.nd, h1, .inr e, .inl (g.fn h2 x)⟩
  · cases h2
theorem Good.gl (g : Good T G n cl isa gcs Γ X) {x : Str} (h : glC Γ x = true) : Gl X x ∧ (x == ("__debug__" : Str)) = false := by
  unfold glC noDbg at h
  simp only [Bool.and_eq_true, decide_eq_true_eq, beq_iff_eq] at h
  exact ⟨by unfold Gl Env.kindOf; rw [g.sc]; exact h.1, by simpa using h.2⟩
end
/-! ## Does the form match the text? -/
def o2B : O2 → Operator → Bool
  | .add, .Add => true | .sub, .Sub => true | .mul, .Mult => true | .fdiv, .FloorDiv => true | .mod, .Mod => true | .pow, .Pow => true
  | _, _ => false
def o2C : O2 → CmpOp → Bool
  | .eq, .Eq => true | .ne, .NotEq => true | .lt, .Lt => true | .le, .LtE => true | .gt, .Gt => true | .ge, .GtE => true
  | .in_, .In => true | .nin, .NotIn => true | .is_, .Is => true | .isn, .IsNot => true
  | _, _ => false
def tyIs (x : String) (y : Str) : Bool := decide (y = (x : Str)) && (match bootBuiltins y with | some (.type z) => z == x | _ => false) && y != "__name__"
def tgC (Γ : Gm) : Tg → Expr → Bool
  | .nm i, .Name x _ => locC Γ i x
  | .tp is, .Tuple es _ _ => decide (is.length = es.length) && ((is.zip es).all fun p => match p.2 with | .Name x _ => locC Γ p.1 x | _ => false)
  | _, _ => false
def ownC (own : List (Str × Nat)) (t : Tg) : Bool := (tgIs t).all fun i => (own.map (·.2)).contains i
def mthN (m : Mt) (es : List Expr) : Bool := match m with | .pop => es.isEmpty | _ => !es.isEmpty
/-- nm(u) -/
def call1 (nm : String) : Expr → Option Expr
  | .Call (.Name y _) [u] [] _ => if y = (nm : Str) ∧ notStar u = true then some u else none
  | _ => none
def call2 (nm : String) : Expr → Option (Expr × Expr)
  | .Call (.Name y _) [u, v] [] _ => if y = (nm : Str) ∧ notStar u = true ∧ notStar v = true then some (u, v) else none
  | _ => none
theorem call1_some {nm : String} {e u : Expr} (h : call1 nm e = some u) : ∃ p pos, e = .Call (.Name (nm : Str) p) [u] [] pos ∧ notStar u = true := by
  unfold call1 at h
  split at h
  · split at h
    · rename_i c
      cases h
      rw [c.1]
      exact ⟨_, _, rfl, c.2⟩
    · cases h
  · cases h
theorem call2_some {nm : String} {e : Expr} {q : Expr × Expr} (h : call2 nm e = some q) : ∃ p pos, e = .Call (.Name (nm : Str) p) [q.1, q.2] [] pos ∧ notStar q.1 = true ∧ notStar q.2 = true := by
  unfold call2 at h
  split at h
  · split at h
    · rename_i c
      cases h
      rw [c.1]
      exact ⟨_, _, rfl, c.2⟩
    · cases h
  · cases h
def isTup : Expr → Bool
  | .Tuple _ _ _ => true
  | _ => false
def gen1 : List Comprehension → Option (Expr × Expr × List Expr)
  | [⟨tg, it, ifs, 0⟩] => some (tg, it, ifs)
  | _ => none
theorem gen1_some {gs : List Comprehension} {q : Expr × Expr × List Expr} (h : gen1 gs = some q) : gs = [⟨q.1, q.2.1, q.2.2, 0⟩] := by
  unfold gen1 at h
  split at h
  · cases h; rfl
  · cases h
section
variable (T : Tb)
def isxN (Γ : Gm) (h : Nat) (tab : List Nat) : Expr → Bool
  | .Name y _ => decide (T.iss[h]? = some (y, tab)) && glC Γ y
  | _ => false
def bltC (Γ : Gm) (nm : String) : Bool := glC Γ (nm : Str) && T.blt.contains (nm : Str)
mutual
def mE (Γ : Gm) (t : Bool) : E → Expr → Bool
  | .int i, .Constant (.int j) _ _ => decide (i = j)
  | .str i, .Constant (.str j) _ _ => decide (i = j)
  | .bl i, .Constant (.bool j) _ _ => decide (i = j)
  | .non, .Constant .none _ _ => true
  | .bty x, .Name y _ => tyIs x y && glC Γ y && T.blt.contains y
  | .gc g, .Name y _ => (match T.gcs[g]? with | some e => decide (e.1 = y) | none => false) && glC Γ y
  | .var i, .Name y _ => visC Γ i y
  | .mov i, .Name y _ => visC Γ i y
  | .tup as, .Tuple es _ _ => mAs Γ as es
  | .lst as, .List es _ => mAs Γ as es
  | .dct as, .Dict ks vs _ => mDs Γ as ks vs && decide (ks.length = vs.length) && decide (ks.length ≤ 15)
  | .odc k v, .Dict [some k'] [v'] _ => mA Γ k k' && mA Γ v v'
  | .op2 o a b, .BinOp x op y _ => o2B o op && mA Γ a x && mA Γ b y
  | .op2 o a b, .Compare x [op] [y] _ => o2C o op && mA Γ a x && mA Γ b y && !behindInMarks op y
  | .ch o1 o2 a b c, .Compare x [p1, p2] [y, z] _ => o2C o1 p1 && o2C o2 p2 && mA Γ a x && mA Γ b y && mA Γ c z && !lastMarks [p1, p2] [y, z]
  | .neg a, .UnaryOp .USub x _ => mA Γ a x
  | .not a, .UnaryOp .Not x _ => mE Γ t a x
  | .and as, .BoolOp .And es _ => mBs Γ t as es
  | .or as, .BoolOp .Or es _ => mBs Γ t as es
  | .ife c a b, .IfExp x y z _ => mE Γ true c x && mE Γ t a y && mE Γ t b z
  | .sub a b, .Subscript x y _ => mA Γ a x && mA Γ b y && plainIx y
  | .sl a lo hi, .Subscript x (.Slice l h none _) _ => mA Γ a x && mO Γ lo l && mO Γ hi h
  | .bi b as, .Call (.Name y _) es [] _ => decide (y = (b.nm : Str)) && glC Γ y && T.blt.contains y && Γ.calm && !es.isEmpty && mAs Γ as es
  | .call f as ds, .Call (.Name y _) es [] _ => decide (T.fns[f]? = some y) && glC Γ y && Γ.calm && ds.isEmpty && mAs Γ as es
  | .mth m i as, .Call (.Attribute (.Name y _) a apos) es [] pos => visC Γ i y && decide (a = (m.nm : Str)) && (apos.endLine == pos.line) && decide (es.length < 30) && mthN m es && mAs Γ as es
  | .pm .index a as, .Call (.Attribute o n apos) es [] pos => decide (n = ("index" : Str)) && noCall o && (apos.endLine == pos.line) && decide (es.length < 30) && !es.isEmpty && mA Γ a o && mAs Γ as es
  | .lc own tg k as ifs elt, .ListComp x gens scope _ => (match gen1 gens with
    | some q => Γ.calm && blkC Γ.N Γ.sc scope own && decide (scope.kind = .function) && tgC (Γ.blk scope) tg q.1 && ownC own tg && noSet q.2.1 && mIfs (Γ.blk scope) ifs q.2.2 && mE (Γ.blk scope) false elt x && mI Γ k as q.1 q.2.1
    | none => false)
  | .dget a k d, .Call (.Attribute o n apos) [x, y] [] pos => decide (n = ("get" : Str)) && noCall o && (apos.endLine == pos.line) && notStar x && notStar y && mA Γ a o && mA Γ k x && mA Γ d y
  | .mk c a, .Call (.Name x _) [e] [] _ => decide (T.cls[c]? = some x) && glC Γ x && notStar e && mA Γ a e
  | .mkx c n a, .Call (.Name x _) [e] [] _ => T.xcl.contains (c, x, n) && glC Γ x && Γ.calm && notStar e && mA Γ a e
  | .fld cs n a, .Attribute e n' _ => decide (n = n') && cs.all (fun c => T.xcl.any fun q => q.1 == c && q.2.2 == n) && noCall e && mA Γ a e
  | .isx h tab a, .Call (.Name i _) [e, y] [] _ => decide (i = ("isinstance" : Str)) && bltC T Γ "isinstance" && isxN T Γ h tab y && notStar e && mA Γ a e
  | .join z a, .Call (.Attribute (.Constant (.str z') _ _) n apos) [e] [] pos => decide (z = z') && decide (n = ("join" : Str)) && (apos.endLine == pos.line) && notStar e && mA Γ a e
  | .dead, _ => true
  | _, _ => false
def mA (Γ : Gm) : A → Expr → Bool
  | .e x, y => mE Γ false x y
  | .s i, .Name y _ => visC Γ i y
  | .io i, .Name y _ => visC Γ i y
  | _, _ => false
def mAs (Γ : Gm) : As → List Expr → Bool
  | .nil, [] => true
  | .cons a r, x :: xs => mA Γ a x && notStar x && mAs Γ r xs
  | _, _ => false
def mBs (Γ : Gm) (t : Bool) : As → List Expr → Bool
  | .cons (.e a) .nil, [x] => mE Γ t a x
  | .cons (.e a) (.cons b r), x :: y :: ys => mE Γ t a x && mBs Γ t (.cons b r) (y :: ys)
  | _, _ => false
def mDs (Γ : Gm) : As → List (Option Expr) → List Expr → Bool
  | .nil, [], [] => true
  | .cons a (.cons b r), some k :: ks, v :: vs => mA Γ a k && mA Γ b v && mDs Γ r ks vs
  | _, _, _ => false
def mO (Γ : Gm) : As → Option Expr → Bool
  | .nil, none => true
  | .cons a .nil, some x => mA Γ a x
  | _, _ => false
def mI (Γ : Gm) (k : Ik) : As → Expr → Expr → Bool
  | .cons a .nil, tg, iter => match k with
    | .val => mA Γ a iter
    | .rng1 => bltC T Γ "range" && (match call1 "range" iter with | some u => mA Γ a u | none => false)
    | .enum => bltC T Γ "enumerate" && isTup tg && (match call1 "enumerate" iter with | some u => mA Γ a u | none => false)
    | _ => false
  | .cons a (.cons b .nil), tg, iter => match k with
    | .rng2 => bltC T Γ "range" && (match call2 "range" iter with | some q => mA Γ a q.1 && mA Γ b q.2 | none => false)
    | .zip => bltC T Γ "zip" && isTup tg && (match call2 "zip" iter with | some q => mA Γ a q.1 && mA Γ b q.2 | none => false)
    | _ => false
  | _, _, _ => false
def mIfs (Γ : Gm) : As → List Expr → Bool
  | .nil, [] => true
  | .cons (.e a) .nil, [x] => mE Γ true a x
  | _, _ => false
end
end
end DI

set_option Elab.async false
set_option linter.all false
set_option maxRecDepth 100000
set_option maxHeartbeats 4000000
namespace DI
open PySem PySem.Spec L2 PyProof.Rows
section
variable {T : Tb} {G : Gx} {n : Nat} {cl : Nat → List Sl → CR} {isa : Nat → Nat → Bool} {gcs : List D}
def VOk (G : Gx) (X : Cx) (t : Bool) (x : Expr) (f : Env → R (D × Vm)) : Prop := match t with | false => EOk G X x f | true => TOk G X x f
theorem vGen {X : Cx} {t : Bool} {x : Expr} {f : Env → R (D × Vm)} (h : EOk G X x f) (p : plainTr x = true) : VOk G X t x (fun ρ => fin t (f ρ)) := by
  cases t with
  | false => exact h
  | true => exact truth_ok h (plainTr_ok p)
theorem sem2_bl {o : O2} {op : CmpOp} (h : o2C o op = true) : ∀ dx dy d m, sem2 o dx dy = some (d, m) → ∃ k, d = .bl k := by
  intro dx dy d m e
  have mp : ∀ {x : Option Bool} {f : Bool → D}, (∀ k, ∃ j, f k = .bl j) → (x.map fun k => (f k, Vm.sh)) = some (d, m) → ∃ k, d = .bl k := fun {x f} hf e => by
    obtain ⟨k, _, e2⟩ := Option.map_eq_some_iff.mp e
    cases e2
    exact hf k
  have cm : ∀ {f : Int → Int → Bool}, cmpD f dx dy = some (d, m) → ∃ k, d = .bl k := fun {f} e => by
    unfold cmpD at e
    split at e
    · cases e; exact ⟨_, rfl⟩
    · cases e
  cases o <;> first
    | (cases op <;> cases h; done)
    | exact mp (f := fun k => .bl k) (fun k => ⟨k, rfl⟩) e
    | exact mp (f := fun k => .bl (!k)) (fun k => ⟨_, rfl⟩) e
    | exact cm e
    | skip
  have e' : ltD dx dy = some (d, m) := e
  unfold ltD at e'
  split at e'
  · cases e'; exact ⟨_, rfl⟩
  · cases e'; exact ⟨_, rfl⟩
  · split at e'
    · cases e'; exact ⟨_, rfl⟩
    · unfold ltP at e'
      obtain ⟨p, _, e2⟩ := Option.bind_eq_some_iff.mp e'
      obtain ⟨p', _, e3⟩ := Option.bind_eq_some_iff.mp e2
      split at e3
      · cases e3; exact ⟨_, rfl⟩
      · cases e3
  · cases e'
theorem cmp_all {X : Cx} {o : O2} {op : CmpOp} (hu : X.A.units + 65 < cLine) (h : o2C o op = true) : OpR X (compareOp op) (rSp G X.K (sem2 o)) := by
  have h64 : X.A.units + 64 < cLine := by omega
  have h0 : X.A.units < cLine := by omega
  cases o <;> cases op <;> first
    | (cases h; done)
    | exact eq_sp h64 | exact ne_sp h64 | exact lt_sp h64 | exact cmp_sp op_le | exact cmp_sp op_gt | exact cmp_sp op_ge | exact in_sp hu | exact nin_sp hu | exact is_sp | exact isn_sp
theorem bin_all {X : Cx} {o : O2} {op : Operator} (h : o2B o op = true) : OpR X (binaryOp op) (rSp G X.K (sem2 o)) := by
  cases o <;> cases op <;> first | (cases h; done) | exact add_sp | exact sub_sp | exact mul_sp | exact fdiv_sp | exact mod_sp | exact pow_sp
theorem names_tg {Γ : Gm} {X : Cx} (g : Good T G n cl isa gcs Γ X) : ∀ {is : List Nat} {es : List Expr}, is.length = es.length → ((is.zip es).all fun p => match p.2 with | .Name x _ => locC Γ p.1 x | _ => false) = true → PGs X es (gNames is) ∧ es.all notStar = true
  | [], [], _, _ => ⟨pgs_nil, rfl⟩
  | [], _ :: _, h, _ => by cases h
  | _ :: _, [], h, _ => by cases h
  | i :: is, e :: es, hl, h => by
    rw [List.zip_cons_cons, List.all_cons, Bool.and_eq_true] at h
    obtain ⟨h1, h2⟩ := names_tg g (by simpa using hl) h.2
    have hh := h.1
    dsimp only at hh
    split at hh
    · rename_i x pos
      obtain ⟨l1, l2, l3, l4⟩ := g.loc hh
      refine ⟨pgs_cons (pg_name l1 l2 l3 l4) h1 (by rw [asgEach_ok rfl]; rfl), ?_⟩
      rw [List.all_cons, h2]; rfl
    · cases hh
theorem tg_ok {Γ : Gm} {X : Cx} (g : Good T G n cl isa gcs Γ X) (hc : X.calm = true) {t : Tg} {x : Expr} (h : tgC Γ t x = true) : PG X x (gTg X.K t) := by
  cases t with
  | nm i =>
    cases x <;> first | exact Bool.noConfusion h | skip
    obtain ⟨l1, l2, l3, l4⟩ := g.loc (show locC Γ i _ = true from h)
    exact pg_name l1 l2 l3 l4
  | tp is =>
    cases x <;> first | exact Bool.noConfusion h | skip
    rename_i es k pos
    have h' : (decide (is.length = es.length) && ((is.zip es).all fun p => match p.2 with | .Name x _ => locC Γ p.1 x | _ => false)) = true := h
    rw [Bool.and_eq_true, decide_eq_true_eq] at h'
    obtain ⟨h1, h2⟩ := names_tg g h'.1 h'.2
    obtain ⟨h3, h4⟩ := asgLen (env := X.env) h2
    exact pg_tup hc h1 (by rw [h3]; exact h'.1.symm) h4
theorem mAs_star {Γ : Gm} : ∀ {as : As} {es : List Expr}, mAs T Γ as es = true → es.all notStar = true
  | .nil, [], _ => rfl
  | .nil, _ :: _, h => Bool.noConfusion h
  | .cons a r, [], h => Bool.noConfusion h
  | .cons a r, x :: xs, h => by
    have h' : (mA T Γ a x && notStar x && mAs T Γ r xs) = true := h
    simp only [Bool.and_eq_true] at h'
    rw [List.all_cons, h'.1.2, mAs_star h'.2]; rfl
/-- what is never reached -/
theorem dead_ok {X : Cx} {t : Bool} {x : Expr} : VOk G X t x (fun _ => .no) := by
  cases t with
  | false => exact fun W _ => ⟨fun pins s σ H Q _ q => by obtain ⟨ρ, F, _, z⟩ := q; exact z.elim⟩
  | true => exact fun W _ => ⟨fun pins s σ H Q _ q => by obtain ⟨ρ, F, _, z⟩ := q; exact z.elim⟩
mutual
theorem mE_ok : ∀ (e : E) {Γ : Gm} {X : Cx} {t : Bool} {x : Expr}, Good T G n cl isa gcs Γ X → mE T Γ t e x = true → VOk G X t x (evE gcs cl t e) := by
  intro e Γ X t x g h
  cases e with
  | int i =>
    cases x <;> first | exact Bool.noConfusion h | skip
    rename_i c k pos
    cases c <;> first | exact Bool.noConfusion h | skip
    cases (of_decide_eq_true (show decide (i = _) = true from h))
    exact vGen (con_ok pe_int fun F H => .int _) rfl
  | str i =>
    cases x <;> first | exact Bool.noConfusion h | skip
    rename_i c k pos
    cases c <;> first | exact Bool.noConfusion h | skip
    cases (of_decide_eq_true (show decide (i = _) = true from h))
    exact vGen (con_ok pe_str fun F H => .str _) rfl
  | bl i =>
    cases x <;> first | exact Bool.noConfusion h | skip
    rename_i c k pos
    cases c <;> first | exact Bool.noConfusion h | skip
    cases (of_decide_eq_true (show decide (i = _) = true from h))
    exact vGen (con_ok pe_bl fun F H => .bl _) rfl
  | dead => exact dead_ok
  | mk c a =>
    cases x <;> first | exact Bool.noConfusion h | skip
    rename_i fe es kws pos
    cases fe <;> first | exact Bool.noConfusion h | skip
    rename_i y yp
    match es, kws, h with
    | [e], [], h =>
      have h' : (decide (T.cls[c]? = some y) && glC Γ y && notStar e && mA T Γ a e) = true := h
      simp only [Bool.and_eq_true, decide_eq_true_eq] at h'
      obtain ⟨⟨⟨h1, h2⟩, h3⟩, h4⟩ := h'
      obtain ⟨C, bmB, B, ni, ii, hC, Fa, k1, k2, k3, k4, k5⟩ := g.fx.cls c y h1
      exact vGen (mk_ok hC Fa k1 k2 k3 (g.gl h2).1 (mA_ok a g h4) (star_ok h3) (g.gl h2).2) rfl
    | [], _, h => exact Bool.noConfusion h
    | _ :: _ :: _, _, h => exact Bool.noConfusion h
    | [_], _ :: _, h => exact Bool.noConfusion h
  | mkx c n a =>
    cases x <;> first | exact Bool.noConfusion h | skip
    rename_i fe es kws pos
    cases fe <;> first | exact Bool.noConfusion h | skip
    rename_i y yp
    match es, kws, h with
    | [e], [], h =>
      have h' : (T.xcl.contains (c, y, n) && glC Γ y && Γ.calm && notStar e && mA T Γ a e) = true := h
      simp only [Bool.and_eq_true] at h'
      obtain ⟨⟨⟨⟨h1, h2⟩, h3⟩, h4⟩, h5⟩ := h'
      obtain ⟨C, hC, k1, k2, k3, k4, k5, k6, k7⟩ := g.xx.xk (c, y, n) (by simpa using h1)
      exact vGen (mkx_ok hC k3 (by have := (g.room h3).dp; omega) k1 k2 (g.gl h2).1 (mA_ok a g h5) (star_ok h4) (g.gl h2).2) rfl
    | [], _, h => exact Bool.noConfusion h
    | _ :: _ :: _, _, h => exact Bool.noConfusion h
    | [_], _ :: _, h => exact Bool.noConfusion h
  | fld cs n a =>
    cases x <;> first | exact Bool.noConfusion h | skip
    rename_i e n' pos
    have h' : (decide (n = n') && cs.all (fun c => T.xcl.any fun q => q.1 == c && q.2.2 == n) && noCall e && mA T Γ a e) = true := h
    simp only [Bool.and_eq_true, decide_eq_true_eq] at h'
    obtain ⟨⟨⟨h1, h2⟩, h3⟩, h4⟩ := h'
    subst h1
    refine vGen (fld_ok (fun c hc C hC => ?_) (mA_ok a g h4) (noCall_ok h3)) rfl
    have h5 := List.all_eq_true.mp h2 c hc
    obtain ⟨q, q1, q2⟩ := List.any_eq_true.mp h5
    simp only [Bool.and_eq_true, beq_iff_eq] at q2
    obtain ⟨C', hC', _, _, _, _, _, k6, k7⟩ := g.xx.xk q q1
    rw [q2.1, hC] at hC'
    cases hC'
    rw [q2.2] at k7
    exact ⟨k6, k7⟩
  | isx hh tab a =>
    cases x <;> first | exact Bool.noConfusion h | skip
    rename_i fe es kws pos
    cases fe <;> first | exact Bool.noConfusion h | skip
    rename_i i ip
    match es, kws, h with
    | [e, ye], [], h =>
      have h' : (decide (i = ("isinstance" : Str)) && bltC T Γ "isinstance" && isxN T Γ hh tab ye && notStar e && mA T Γ a e) = true := h
      simp only [Bool.and_eq_true, decide_eq_true_eq] at h'
      obtain ⟨⟨⟨⟨h1, h2⟩, h3⟩, h5⟩, h6⟩ := h'
      subst h1
      cases ye <;> first | exact Bool.noConfusion h3 | skip
      rename_i y yp
      unfold isxN at h3
      rw [Bool.and_eq_true, decide_eq_true_eq] at h3
      obtain ⟨h3, h4⟩ := h3
      unfold bltC at h2
      rw [Bool.and_eq_true] at h2
      obtain ⟨cv, cV, kc, kr, kn, kk⟩ := g.xx.is hh (y, tab) h3
      have hv : PE X (.Name y yp) (tC cV) := by
        rcases kn with kn | ⟨kn, kb, kx⟩
        · exact pe_glob (g.gl h4).1 kn kr (g.gl h4).2
        · exact pe_bltn (g.gl h4).1 kn kb kr kx (g.gl h4).2
      exact vGen (isx_ok kk hv kc (mA_ok a g h6) (g.gl h2.1).1 (g.fx.bl _ (by simpa using h2.2)) (star_ok h5)) rfl
    | [], _, h => exact Bool.noConfusion h
    | [_], _, h => exact Bool.noConfusion h
    | _ :: _ :: _ :: _, _, h => exact Bool.noConfusion h
    | [_, _], _ :: _, h => exact Bool.noConfusion h
  | join z a =>
    cases x <;> first | exact Bool.noConfusion h | skip
    rename_i fe es kws pos
    cases fe <;> first | exact Bool.noConfusion h | skip
    rename_i o nm apos
    cases o <;> first | exact Bool.noConfusion h | skip
    rename_i k0 j0 jp
    cases k0 <;> first | exact Bool.noConfusion h | skip
    rename_i z'
    match es, kws, h with
    | [e], [], h =>
      have h' : (decide (z = z') && decide (nm = ("join" : Str)) && (apos.endLine == pos.line) && notStar e && mA T Γ a e) = true := h
      simp only [Bool.and_eq_true, decide_eq_true_eq] at h'
      obtain ⟨⟨⟨⟨h1, h2⟩, h3⟩, h4⟩, h5⟩ := h'
      subst h1 h2
      exact vGen (join_ok (mA_ok a g h5) (by rw [star_ok h4]; rfl) h3) rfl
    | [], _, h => exact Bool.noConfusion h
    | _ :: _ :: _, _, h => exact Bool.noConfusion h
    | [_], _ :: _, h => exact Bool.noConfusion h
  | dget a k d =>
    cases x <;> first | exact Bool.noConfusion h | skip
    rename_i fe es kws pos
    cases fe <;> first | exact Bool.noConfusion h | skip
    rename_i o nm apos
    match es, kws, h with
    | [y, z], [], h =>
      have h' : (decide (nm = ("get" : Str)) && noCall o && (apos.endLine == pos.line) && notStar y && notStar z && mA T Γ a o && mA T Γ k y && mA T Γ d z) = true := h
      simp only [Bool.and_eq_true, decide_eq_true_eq] at h'
      obtain ⟨⟨⟨⟨⟨⟨⟨h1, h2⟩, h3⟩, h4⟩, h5⟩, h6⟩, h7⟩, h8⟩ := h'
      subst h1
      have few := few_ok (env := X.env) (pos := pos) (es := [y, z]) (by simp [h4, h5]) (by simp)
      exact vGen (dget_ok (by have := g.un; omega) (mA_ok a g h6) (mA_ok k g h7) (mA_ok d g h8) (noCall_ok h2) few h3 (by rw [star_ok h4, star_ok h5]; rfl)) rfl
    | [], _, h => exact Bool.noConfusion h
    | [_], _, h => exact Bool.noConfusion h
    | _ :: _ :: _ :: _, _, h => exact Bool.noConfusion h
    | [_, _], _ :: _, h => exact Bool.noConfusion h
  | non =>
    cases x <;> first | exact Bool.noConfusion h | skip
    rename_i c k pos
    cases c <;> first | exact Bool.noConfusion h | skip
    exact vGen (con_ok pe_non fun F H => .non) rfl
  | bty b =>
    cases x <;> first | exact Bool.noConfusion h | skip
    rename_i y pos
    have h' : (tyIs b y && glC Γ y && T.blt.contains y) = true := h
    simp only [Bool.and_eq_true, tyIs, decide_eq_true_eq] at h'
    obtain ⟨⟨⟨⟨h1, h2⟩, h3⟩, h4⟩, h5⟩ := h'
    obtain ⟨g1, g2⟩ := g.gl h4
    have hb : bootBuiltins y = some (.type b) := by
      split at h2
      · rename_i z e; rw [e]; rw [beq_iff_eq] at h2; rw [h2]
      · cases h2
    exact vGen (con_ok (pe_bltn (v := .ty b) g1 (g.fx.bl y (by simpa using h5)) hb rfl (by simpa using h3) g2) fun F H => .ty _) rfl
  | gc i =>
    cases x <;> first | exact Bool.noConfusion h | skip
    rename_i y pos
    have h' : ((match T.gcs[i]? with | some e => decide (e.1 = y) | none => false) && glC Γ y) = true := h
    rw [Bool.and_eq_true] at h'
    obtain ⟨g1, g2⟩ := g.gl h'.2
    have hh := h'.1
    split at hh
    · rename_i e he
      obtain ⟨k1, v, u, k2, k3, k4⟩ := g.fx.gc i e he
      rw [of_decide_eq_true hh] at k2
      have e0 : evE gcs cl t (.gc i) = fun ρ => fin t (.ok (e.2, .sh) ρ) := by
        funext ρ
        show fin t (match gcs[i]? with | some d => .ok (d, .sh) ρ | none => .no) = _
        rw [k1]
      rw [e0]
      exact vGen (f := fun ρ => .ok (e.2, .sh) ρ) (con_ok (pe_glob g1 k2 k3 g2) k4) rfl
    · cases hh
  | var i =>
    cases x <;> first | exact Bool.noConfusion h | skip
    rename_i y pos
    have hv : PE X (.Name y pos) (tVar i) := g.var (show visC Γ i y = true from h)
    cases t with
    | false => exact var_ok hv
    | true => exact varT_ok hv
  | mov i =>
    cases x <;> first | exact Bool.noConfusion h | skip
    rename_i y pos
    exact vGen (mov_ok (g.var (show visC Γ i y = true from h))) rfl
  | tup as =>
    cases x <;> first | exact Bool.noConfusion h | skip
    exact vGen (tup_ok (mAs_ok as g h)) rfl
  | lst as =>
    cases x <;> first | exact Bool.noConfusion h | skip
    exact vGen (lst_ok (mAs_ok as g h)) rfl
  | neg a =>
    cases x <;> first | exact Bool.noConfusion h | skip
    rename_i op y pos
    cases op <;> first | exact Bool.noConfusion h | skip
    exact vGen (neg_ok (mA_ok a g h)) rfl
  | dct as =>
    cases x <;> first | exact Bool.noConfusion h | skip
    rename_i ks vs pos
    have h' : (mDs T Γ as ks vs && decide (ks.length = vs.length) && decide (ks.length ≤ 15)) = true := h
    simp only [Bool.and_eq_true, decide_eq_true_eq] at h'
    obtain ⟨⟨h1, h2⟩, h3⟩ := h'
    cases ks with
    | nil =>
      cases vs with
      | cons _ _ => cases h2
      | nil =>
        cases as with
        | nil => exact vGen (f := dctF fun ρ => .ok [] ρ) dct_ok0 rfl
        | cons a r => cases r <;> exact Bool.noConfusion h1
    | cons k ks =>
      obtain ⟨p1, p2⟩ := mDs_ok as (pos := pos) g h1
      exact vGen (dct_ok p1 p2 h2 (by simp) h3) rfl
  | odc k v =>
    cases x <;> first | exact Bool.noConfusion h | skip
    rename_i ks vs pos
    cases ks with
    | nil => exact Bool.noConfusion h
    | cons k1 ks =>
      cases k1 with
      | none => exact Bool.noConfusion h
      | some k1 =>
        cases ks with
        | cons _ _ => exact Bool.noConfusion h
        | nil =>
          cases vs with
          | nil => exact Bool.noConfusion h
          | cons v1 vs =>
            cases vs with
            | cons _ _ => exact Bool.noConfusion h
            | nil =>
              have h' : (mA T Γ k k1 && mA T Γ v v1) = true := h
              rw [Bool.and_eq_true] at h'
              exact vGen (odc_ok (by have := g.un; omega) (mA_ok k g h'.1) (mA_ok v g h'.2)) rfl
  | op2 o a b =>
    cases x <;> first | exact Bool.noConfusion h | skip
    · rename_i y op z pos
      have h' : (o2B o op && mA T Γ a y && mA T Γ b z) = true := h
      simp only [Bool.and_eq_true] at h'
      exact vGen (bin_ok (mA_ok a g h'.1.2) (mA_ok b g h'.2) (bin_all h'.1.1)) rfl
    · rename_i y ops zs pos
      cases ops with
      | nil => exact Bool.noConfusion h
      | cons op ops =>
        cases ops with
        | cons _ _ => exact Bool.noConfusion h
        | nil =>
          cases zs with
          | nil => exact Bool.noConfusion h
          | cons z zs =>
            cases zs with
            | cons _ _ => exact Bool.noConfusion h
            | nil =>
              have h' : (o2C o op && mA T Γ a y && mA T Γ b z && !behindInMarks op z) = true := h
              simp only [Bool.and_eq_true, Bool.not_eq_true'] at h'
              obtain ⟨⟨⟨h1, h2⟩, h3⟩, h4⟩ := h'
              cases t with
              | false => exact cmp_ok (mA_ok a g h2) (mA_ok b g h3) (cmp_all g.un h1) h4
              | true => exact cmpT_ok (mA_ok a g h2) (mA_ok b g h3) (cmp_all g.un h1) h4 (sem2_bl h1)
  | ch o1 o2 a b c =>
    cases x <;> first | exact Bool.noConfusion h | skip
    rename_i y ops zs pos
    match ops, zs, h with
    | [p1, p2], [z1, z2], h =>
      have h' : (o2C o1 p1 && o2C o2 p2 && mA T Γ a y && mA T Γ b z1 && mA T Γ c z2 && !lastMarks [p1, p2] [z1, z2]) = true := h
      simp only [Bool.and_eq_true, Bool.not_eq_true'] at h'
      obtain ⟨⟨⟨⟨⟨h1, h2⟩, h3⟩, h4⟩, h5⟩, h6⟩ := h'
      cases t with
      | false => exact chain_ok (mA_ok a g h3) (mA_ok b g h4) (mA_ok c g h5) (cmp_all g.un h1) (cmp_all g.un h2) h6
      | true => exact chainT_ok (mA_ok a g h3) (mA_ok b g h4) (mA_ok c g h5) (cmp_all g.un h1) (cmp_all g.un h2) h6 (sem2_bl h2)
    | [], _, h => exact Bool.noConfusion h
    | [_], _, h => exact Bool.noConfusion h
    | _ :: _ :: _ :: _, _, h => exact Bool.noConfusion h
    | [_, _], [], h => exact Bool.noConfusion h
    | [_, _], [_], h => exact Bool.noConfusion h
    | [_, _], _ :: _ :: _ :: _, h => exact Bool.noConfusion h
  | not a =>
    cases x <;> first | exact Bool.noConfusion h | skip
    rename_i op y pos
    cases op <;> first | exact Bool.noConfusion h | skip
    have ih := mE_ok a (t := t) g h
    cases t with
    | false => exact notV_ok ih
    | true => exact notT_ok ih
  | and as =>
    cases x <;> first | exact Bool.noConfusion h | skip
    rename_i op es pos
    cases op <;> first | exact Bool.noConfusion h | skip
    have ih := (mBs_ok as (t := t) (pos := pos) g h).1
    cases t with
    | false => exact ih
    | true => exact boolT ih
  | or as =>
    cases x <;> first | exact Bool.noConfusion h | skip
    rename_i op es pos
    cases op <;> first | exact Bool.noConfusion h | skip
    have ih := (mBs_ok as (t := t) (pos := pos) g h).2
    cases t with
    | false => exact ih
    | true => exact boolT ih
  | ife c a b =>
    cases x <;> first | exact Bool.noConfusion h | skip
    rename_i y1 y2 y3 pos
    have h' : (mE T Γ true c y1 && mE T Γ t a y2 && mE T Γ t b y3) = true := h
    simp only [Bool.and_eq_true] at h'
    have ic := mE_ok c (t := true) g h'.1.1
    have ia := mE_ok a (t := t) g h'.1.2
    have ib := mE_ok b (t := t) g h'.2
    cases t with
    | false => exact ifV_ok ic ia ib
    | true => exact ifT_ok ic ia ib
  | sub a b =>
    cases x <;> first | exact Bool.noConfusion h | skip
    rename_i y1 y2 pos
    have h' : (mA T Γ a y1 && mA T Γ b y2 && plainIx y2) = true := h
    simp only [Bool.and_eq_true] at h'
    exact vGen (sub_ok (by have := g.un; omega) (mA_ok a g h'.1.1) (mA_ok b g h'.1.2) (plainIx_ok h'.2)) rfl
  | sl a lo hi =>
    cases x <;> first | exact Bool.noConfusion h | skip
    rename_i y1 y2 pos
    cases y2 <;> first | exact Bool.noConfusion h | skip
    rename_i l u st p2
    cases st <;> first | exact Bool.noConfusion h | skip
    have h' : (mA T Γ a y1 && mO T Γ lo l && mO T Γ hi u) = true := h
    simp only [Bool.and_eq_true] at h'
    exact vGen (sl_ok (mA_ok a g h'.1.1) (mO_ok lo g h'.1.2) (mO_ok hi g h'.2)) rfl
  | bi b as =>
    cases x <;> first | exact Bool.noConfusion h | skip
    rename_i fe es kws pos
    cases fe <;> first | exact Bool.noConfusion h | skip
    rename_i y fp
    cases kws <;> first | exact Bool.noConfusion h | skip
    have h' : (decide (y = (b.nm : Str)) && glC Γ y && T.blt.contains y && Γ.calm && !es.isEmpty && mAs T Γ as es) = true := h
    simp only [Bool.and_eq_true, decide_eq_true_eq] at h'
    obtain ⟨⟨⟨⟨⟨h1, h2⟩, h3⟩, h4⟩, h5⟩, h6⟩ := h'
    have st := mAs_star h6
    have ih := mAs_ok as g h6
    cases es with
    | nil => cases h5
    | cons e es =>
      rw [List.all_cons, Bool.and_eq_true] at st
      exact vGen (bi_ok h1 (g.calm.trans h4) g.gd (by have := g.un; omega) (g.gl h2).1 (g.fx.bl y (by simpa using h3)) ih (star_ok st.1) (stars_ok st.2)) rfl
  | call f as ds =>
    cases x <;> first | exact Bool.noConfusion h | skip
    rename_i fe es kws pos
    cases fe <;> first | exact Bool.noConfusion h | skip
    rename_i y fp
    cases kws <;> first | exact Bool.noConfusion h | skip
    have h' : (decide (T.fns[f]? = some y) && glC Γ y && Γ.calm && ds.isEmpty && mAs T Γ as es) = true := h
    simp only [Bool.and_eq_true] at h'
    obtain ⟨⟨⟨⟨h1, h2⟩, h4⟩, h5⟩, h6⟩ := h'
    obtain ⟨a, fd, ps, k1, k2, k3, k4⟩ := g.fx.fn f y (of_decide_eq_true h1)
    have st := mAs_star h6
    have ih := mAs_ok as g h6
    cases ds with
    | cons _ _ => cases h5
    | nil =>
      cases es with
      | nil =>
        cases as with
        | cons _ _ => exact Bool.noConfusion h6
        | nil => exact vGen (f := callG cl f [] fun ρ => .ok [] ρ) (call_ok0 (dvs := []) (dws := []) k4 (g.room h4) g.gd (g.gl h2).1 k1 k2 k3 .nil (fun _ _ => .nil) (g.gl h2).2) rfl
      | cons e es =>
        rw [List.all_cons, Bool.and_eq_true] at st
        exact vGen (call_ok (dvs := []) (dws := []) k4 (g.room h4) g.gd (g.gl h2).1 k1 k2 k3 .nil (fun _ _ => .nil) ih (g.gl h2).2 (star_ok st.1) (stars_ok st.2)) rfl
  | mth m i as =>
    cases x <;> first | exact Bool.noConfusion h | skip
    rename_i fe es kws pos
    cases fe <;> first | exact Bool.noConfusion h | skip
    rename_i o a apos
    cases o <;> first | exact Bool.noConfusion h | skip
    rename_i y yp
    cases kws <;> first | exact Bool.noConfusion h | skip
    have h' : (visC Γ i y && decide (a = (m.nm : Str)) && (apos.endLine == pos.line) && decide (es.length < 30) && mthN m es && mAs T Γ as es) = true := h
    simp only [Bool.and_eq_true, decide_eq_true_eq] at h'
    obtain ⟨⟨⟨⟨⟨h1, h2⟩, h3⟩, h4⟩, h5⟩, h6⟩ := h'
    subst h2
    have st := mAs_star h6
    have ih := mAs_ok as g h6
    have few := few_ok (env := X.env) (pos := pos) st h4
    cases m with
    | append =>
      cases es with
      | nil => cases h5
      | cons e es =>
        rw [List.all_cons, Bool.and_eq_true] at st
        exact vGen (mth_ok (by simp) (g.var h1) ih (noCall_ok rfl) few h3 (star_ok st.1) (stars_ok st.2)) rfl
    | popAt =>
      cases es with
      | nil => cases h5
      | cons e es =>
        rw [List.all_cons, Bool.and_eq_true] at st
        exact vGen (mth_ok (by simp) (g.var h1) ih (noCall_ok rfl) few h3 (star_ok st.1) (stars_ok st.2)) rfl
    | pop =>
      cases es with
      | cons _ _ => cases h5
      | nil =>
        cases as with
        | cons _ _ => exact Bool.noConfusion h6
        | nil => exact vGen (f := mthF .pop i fun ρ => .ok [] ρ) (mth_ok0 (g.var h1) (noCall_ok rfl) h3) rfl
  | pm m a as =>
    cases m
    cases x <;> first | exact Bool.noConfusion h | skip
    rename_i fe es kws pos
    cases fe <;> first | exact Bool.noConfusion h | skip
    rename_i o nm apos
    cases kws <;> first | exact Bool.noConfusion h | skip
    have h' : (decide (nm = ("index" : Str)) && noCall o && (apos.endLine == pos.line) && decide (es.length < 30) && !es.isEmpty && mA T Γ a o && mAs T Γ as es) = true := h
    simp only [Bool.and_eq_true, decide_eq_true_eq] at h'
    obtain ⟨⟨⟨⟨⟨⟨h1, h2⟩, h3⟩, h4⟩, h5⟩, h6⟩, h7⟩ := h'
    subst h1
    have st := mAs_star h7
    have ih := mAs_ok as g h7
    have ia := mA_ok a g h6
    have few := few_ok (env := X.env) (pos := pos) st h4
    cases es with
    | nil => cases h5
    | cons e es =>
      rw [List.all_cons, Bool.and_eq_true] at st
      exact vGen (pm_ok (x := "index") g.un ia ih (noCall_ok h2) few h3 (star_ok st.1) (stars_ok st.2)) rfl
  | lc own tg k as ifs elt =>
    cases x <;> first | exact Bool.noConfusion h | skip
    rename_i y gens scope pos
    cases hg : gen1 gens with
    | none =>
      have h' : (match gen1 gens with | some q => Γ.calm && blkC Γ.N Γ.sc scope own && decide (scope.kind = .function) && tgC (Γ.blk scope) tg q.1 && ownC own tg && noSet q.2.1 && mIfs T (Γ.blk scope) ifs q.2.2 && mE T (Γ.blk scope) false elt y && mI T Γ k as q.1 q.2.1 | none => false) = true := h
      rw [hg] at h'
      cases h'
    | some q =>
      have h' : (match gen1 gens with | some q => Γ.calm && blkC Γ.N Γ.sc scope own && decide (scope.kind = .function) && tgC (Γ.blk scope) tg q.1 && ownC own tg && noSet q.2.1 && mIfs T (Γ.blk scope) ifs q.2.2 && mE T (Γ.blk scope) false elt y && mI T Γ k as q.1 q.2.1 | none => false) = true := h
      rw [hg] at h'
      dsimp only at h'
      simp only [Bool.and_eq_true, decide_eq_true_eq] at h'
      obtain ⟨⟨⟨⟨⟨⟨⟨⟨h1, h2⟩, h3⟩, h4⟩, h5⟩, h6⟩, h7⟩, h8⟩, h9⟩ := h'
      rw [gen1_some hg]
      have hc : X.calm = true := g.calm.trans h1
      have ok : BlkOk X.N X.env.scope scope own := by rw [g.N, g.sc]; exact blkOk_by h2
      have hsub : ∀ i ∈ tgIs tg, i ∈ own.map (·.2) := fun i hi => by
        have := List.all_eq_true.mp h5 i hi
        simpa using this
      have hi := mI_ok as (pos := pos) g hc h9
      refine vGen (x := .ListComp y [⟨q.1, q.2.1, q.2.2, 0⟩] scope pos) (f := lcF (own.map (·.2)) tg k (evAs gcs cl as) (evIfs gcs cl ifs) (evE gcs cl false elt)) (fun W tk => ?_) rfl
      refine peImp (pe_lc (te := tV X.K G wNo (evE gcs cl false elt)) (tt := tTs X.K G wNo (evIfs gcs cl ifs)) (g := gTg X.K tg) hc (by rw [g.N]; exact g.nd) (hi W tk) ok (fun s H C c fp => tg_ok (g.blk (s := s) (H := H) (C := C) (c := c) (fp := fp) h3) hc h4) (fun s H C c fp => mIfs_ok ifs (g.blk h3) h7)
        (fun s H C c fp => (mE_ok elt (t := false) (g.blk h3) h8) wNo takes_no) (noSet_ok h6)) ?_
      rintro σ H Q ⟨ρ, F, s, p⟩
      exact lc_run hsub s p
theorem mI_ok : ∀ (as : As) {Γ : Gm} {X : Cx} {k : Ik} {pos : Pos} {tg iter : Expr}, Good T G n cl isa gcs Γ X → X.calm = true → mI T Γ k as tg iter = true → IOk G X tg iter k (evAs gcs cl as) := by
  intro as Γ X k pos tg iter g hc h
  have blt : ∀ {nm : String}, bltC T Γ nm = true → Gl X (nm : Str) ∧ X.mg (nm : Str) = none := fun {nm} hb => by
    unfold bltC at hb
    rw [Bool.and_eq_true] at hb
    exact ⟨(g.gl hb.1).1, g.fx.bl _ (by simpa using hb.2)⟩
  match as, h with
  | .nil, h => exact Bool.noConfusion h
  | .cons _ (.cons _ (.cons _ _)), h => exact Bool.noConfusion h
  | .cons a .nil, h =>
    cases k with
    | val => exact val_items (mA_ok a g h)
    | rng1 =>
      have h' : (bltC T Γ "range" && (match call1 "range" iter with | some u => mA T Γ a u | none => false)) = true := h
      rw [Bool.and_eq_true] at h'
      have h2 := h'.2
      split at h2
      · rename_i u hu
        obtain ⟨p, ps, rfl, st⟩ := call1_some hu
        obtain ⟨b1, b2⟩ := blt h'.1
        exact rng1_items b1 b2 (args_cons (mA_ok a g h2) args_nil (star_ok st)) (star_ok st)
      · cases h2
    | enum =>
      have h' : (bltC T Γ "enumerate" && isTup tg && (match call1 "enumerate" iter with | some u => mA T Γ a u | none => false)) = true := h
      simp only [Bool.and_eq_true] at h'
      obtain ⟨⟨h0, h1⟩, h2⟩ := h'
      split at h2
      · rename_i u hu
        obtain ⟨p, ps, rfl, st⟩ := call1_some hu
        obtain ⟨b1, b2⟩ := blt h0
        cases tg <;> first | exact Bool.noConfusion h1 | skip
        exact enum_items b1 b2 (args_cons (mA_ok a g h2) args_nil (star_ok st)) (star_ok st)
      · cases h2
    | rng2 => exact Bool.noConfusion h
    | zip => exact Bool.noConfusion h
  | .cons a (.cons b .nil), h =>
    cases k with
    | val => exact Bool.noConfusion h
    | rng1 => exact Bool.noConfusion h
    | enum => exact Bool.noConfusion h
    | rng2 =>
      have h' : (bltC T Γ "range" && (match call2 "range" iter with | some q => mA T Γ a q.1 && mA T Γ b q.2 | none => false)) = true := h
      rw [Bool.and_eq_true] at h'
      have h2 := h'.2
      split at h2
      · rename_i q hu
        rw [Bool.and_eq_true] at h2
        obtain ⟨p, ps, rfl, st, st2⟩ := call2_some hu
        obtain ⟨b1, b2⟩ := blt h'.1
        exact rng2_items b1 b2 (args_cons (mA_ok a g h2.1) (args_cons (mA_ok b g h2.2) args_nil (star_ok st2)) (star_ok st)) (by rw [star_ok st, star_ok st2]; rfl) (star_ok st2)
      · cases h2
    | zip =>
      have h' : (bltC T Γ "zip" && isTup tg && (match call2 "zip" iter with | some q => mA T Γ a q.1 && mA T Γ b q.2 | none => false)) = true := h
      simp only [Bool.and_eq_true] at h'
      obtain ⟨⟨h0, h1⟩, h2⟩ := h'
      split at h2
      · rename_i q hu
        rw [Bool.and_eq_true] at h2
        obtain ⟨p, ps, rfl, st, st2⟩ := call2_some hu
        obtain ⟨b1, b2⟩ := blt h0
        cases tg <;> first | exact Bool.noConfusion h1 | skip
        exact zip_items b1 b2 (args_cons (mA_ok a g h2.1) (args_cons (mA_ok b g h2.2) args_nil (star_ok st2)) (star_ok st)) (star_ok st) (stars_ok (by rw [List.all_cons, st2]; rfl))
      · cases h2
theorem mBs_ok : ∀ (as : As) {Γ : Gm} {X : Cx} {t : Bool} {pos : Pos} {es : List Expr}, Good T G n cl isa gcs Γ X → mBs T Γ t as es = true →
    (match t with | false => EOk G X (.BoolOp .And es pos) (evAnd gcs cl false as) | true => WOk G X (.BoolOp .And es pos) (evAnd gcs cl true as)) ∧ (match t with | false => EOk G X (.BoolOp .Or es pos) (evOr gcs cl false as) | true => WOk G X (.BoolOp .Or es pos) (evOr gcs cl true as)) := by
  intro as Γ X t pos es g h
  match as, es, h with
  | .cons (.e a) .nil, [x], h =>
    have ih := mE_ok a (t := t) g h
    cases t with
    | false => exact ⟨andV1 ih, orV1 ih⟩
    | true => exact ⟨andT1 ih, orT1 ih⟩
  | .cons (.e a) (.cons b r), x :: y :: ys, h =>
    have h' : (mE T Γ t a x && mBs T Γ t (.cons b r) (y :: ys)) = true := h
    rw [Bool.and_eq_true] at h'
    have ih := mE_ok a (t := t) g h'.1
    have iy := mBs_ok (.cons b r) (t := t) (pos := pos) g h'.2
    cases t with
    | false => exact ⟨andV ih iy.1, orV ih iy.2⟩
    | true => exact ⟨andT ih iy.1, orT ih iy.2⟩
  | .nil, _, h => exact Bool.noConfusion h
  | .cons (.s _) _, _, h => exact Bool.noConfusion h
  | .cons (.io _) _, _, h => exact Bool.noConfusion h
  | .cons (.e _) .nil, [], h => exact Bool.noConfusion h
  | .cons (.e _) .nil, _ :: _ :: _, h => exact Bool.noConfusion h
  | .cons (.e _) (.cons _ _), [], h => exact Bool.noConfusion h
  | .cons (.e _) (.cons _ _), [_], h => exact Bool.noConfusion h
theorem mO_ok : ∀ (as : As) {Γ : Gm} {X : Cx} {o : Option Expr}, Good T G n cl isa gcs Γ X → mO T Γ as o = true → OOk G X o (evAs gcs cl as) := by
  intro as Γ X o g h
  match as, o, h with
  | .nil, none, h => exact part_none
  | .cons a .nil, some x, h => exact part_some (mA_ok a g h)
  | .nil, some _, h => exact Bool.noConfusion h
  | .cons _ .nil, none, h => exact Bool.noConfusion h
  | .cons _ (.cons _ _), none, h => exact Bool.noConfusion h
  | .cons _ (.cons _ _), some _, h => exact Bool.noConfusion h
theorem mIfs_ok : ∀ (as : As) {Γ : Gm} {X : Cx} {es : List Expr}, Good T G n cl isa gcs Γ X → mIfs T Γ as es = true → PTs X es (tTs X.K G wNo (evIfs gcs cl as)) := by
  intro as Γ X es g h
  match as, es, h with
  | .nil, [], h =>
    refine ⟨fun pins s σ H Q I q => pts_nil.run pins s σ H Q I ?_⟩
    obtain ⟨ρ, F, s', p⟩ := q
    exact p F H .refl s'
  | .cons (.e a) .nil, [x], h => exact pts_one ((mE_ok a (t := true) g h) wNo takes_no)
  | .nil, _ :: _, h => exact Bool.noConfusion h
  | .cons (.s _) _, _, h => exact Bool.noConfusion h
  | .cons (.io _) _, _, h => exact Bool.noConfusion h
  | .cons (.e _) (.cons _ _), _, h => exact Bool.noConfusion h
  | .cons (.e _) .nil, [], h => exact Bool.noConfusion h
  | .cons (.e _) .nil, _ :: _ :: _, h => exact Bool.noConfusion h
theorem mDs_ok : ∀ (as : As) {Γ : Gm} {X : Cx} {pos : Pos} {ks : List (Option Expr)} {vs : List Expr}, Good T G n cl isa gcs Γ X → mDs T Γ as ks vs = true → PpOk G X pos ks vs (evAs gcs cl as) ∧ ks.all (·.isSome) = true := by
  intro as Γ X pos ks vs g h
  cases as with
  | nil =>
    cases ks with
    | nil => cases vs with
      | nil => exact ⟨pp_nil, rfl⟩
      | cons _ _ => exact Bool.noConfusion h
    | cons k _ => cases vs <;> exact Bool.noConfusion h
  | cons a r =>
    cases r with
    | nil => cases ks <;> cases vs <;> exact Bool.noConfusion h
    | cons b r =>
      cases ks with
      | nil => cases vs <;> exact Bool.noConfusion h
      | cons k ks =>
        cases k with
        | none => cases vs <;> exact Bool.noConfusion h
        | some k =>
          cases vs with
          | nil => exact Bool.noConfusion h
          | cons v vs =>
            have h' : (mA T Γ a k && mA T Γ b v && mDs T Γ r ks vs) = true := h
            simp only [Bool.and_eq_true] at h'
            obtain ⟨q1, q2⟩ := mDs_ok r (pos := pos) g h'.2
            exact ⟨pp_cons (mA_ok a g h'.1.1) (mA_ok b g h'.1.2) q1, by rw [List.all_cons, q2]; rfl⟩
theorem mA_ok : ∀ (a : A) {Γ : Gm} {X : Cx} {x : Expr}, Good T G n cl isa gcs Γ X → mA T Γ a x = true → AOk G X x (evA gcs cl a) := by
  intro a Γ X x g h
  cases a with
  | e y => exact arg_ok (mE_ok y (t := false) g h)
  | s i =>
    cases x <;> first | exact Bool.noConfusion h | skip
    exact slot_ok (g.var (show visC Γ i _ = true from h))
  | io i =>
    cases x <;> first | exact Bool.noConfusion h | skip
    exact io_ok (g.var (show visC Γ i _ = true from h))
theorem mAs_ok : ∀ (as : As) {Γ : Gm} {X : Cx} {es : List Expr}, Good T G n cl isa gcs Γ X → mAs T Γ as es = true → AsOk G X es (evAs gcs cl as) := by
  intro as Γ X es g h
  cases as with
  | nil =>
    cases es with
    | nil => exact args_nil
    | cons _ _ => exact Bool.noConfusion h
  | cons a r =>
    cases es with
    | nil => exact Bool.noConfusion h
    | cons x xs =>
      have h' : (mA T Γ a x && notStar x && mAs T Γ r xs) = true := h
      simp only [Bool.and_eq_true] at h'
      exact args_cons (mA_ok a g h'.1.1) (mAs_ok r g h'.2) (star_ok h'.1.2)
end
end
end DI

set_option Elab.async false
set_option linter.all false
set_option maxRecDepth 100000
set_option maxHeartbeats 4000000
namespace DI
open PySem PySem.Spec L2 PyProof.Rows
def Gm.suite (Γ : Gm) : Gm := { Γ with calm := false, top := false }
/-- name = [..] is stored while the block still stands -/
def swC (Γ : Gm) (x : Str) (px : Pos) : Expr → Bool
  | .ListComp a gens scope pos => decide (Γ.sc.names.lookup x = some .local) && px.line == (Expr.ListComp a gens scope pos).pos.line && !(scope.names.any fun (n, k) => n == x && (k == .local || k == .cell))
  | _ => false
theorem sw_ok {Γ : Gm} {env : PySem.Env} {x : Str} {px : Pos} {l : Nat} {a : Expr} {gens : List Comprehension} {scope : Scope} {pos : Pos} (hs : env.scope = Γ.sc) (hk : Γ.sc.kind = .function) :
    swapsWith (.ListComp a gens scope pos) (some (.Name x px)) l env = pure (swC Γ x px (.ListComp a gens scope pos)) := by
  have hb : env.blockKind = .function := blockKind_fn (by rw [hs]; exact hk)
  unfold swapsWith swC Env.kindOf
  rw [hs]
  simp only [hb]
  congr 1
  by_cases c : Γ.sc.names.lookup x = some .local
  · simp [c]
  · simp [c]
theorem noSwapT {e t : Expr} {l : Nat} {env : PySem.Env} (h : (match t with | .Name _ _ => false | _ => true) = true) : swapsWithSole [t] e l env = pure false := by
  show swapsWith e (some t) l env = pure false
  cases t <;> first | (cases h; done) | (cases e <;> rfl)
def isLcX : Expr → Bool
  | .ListComp _ _ _ _ => true
  | _ => false
def isLcE : E → Bool
  | .lc _ _ _ _ _ _ => true
  | _ => false
def setC (Γ : Gm) (x : Str) (px : Pos) (e : E) (v : Expr) : Bool := noComp v || (isLcX v && (!swC Γ x px v || isLcE e))
def nameAt (l : List Str) (c : Nat) (x : Str) : Bool := decide (l[c]? = some x)
section
variable (T : Tb)
def mT (Γ : Gm) : Tt → Expr → Bool
  | .nm i, .Name x _ => locC Γ i x
  | .sub o i, .Subscript (.Name x _) ix _ => visC Γ o x && mE T Γ false i ix && plainIx ix
  | _, _ => false
def mTs (Γ : Gm) : List Tt → List Expr → Bool
  | [], [] => true
  | t :: ts, e :: es => mT T Γ t e && notStar e && mTs Γ ts es
  | _, _ => false
mutual
def mS (Γ : Gm) : S → Stmt → Bool
  | .set i e, .Assign [.Name x px] v _ => locC Γ i x && mE T Γ false e v && setC Γ x px e v
  | .tgt ts e, .Assign [.Tuple es _ _] v _ => Γ.calm && mTs T Γ ts es && mE T Γ false e v && noPar [.Tuple es 0 default] v
  | .par i j a b, .Assign [.Tuple [.Name x px, .Name y py] _ _] (.Tuple [u, v] _ _) _ => Γ.calm && decide (Γ.N[i]? = some x) && decide (Γ.N[j]? = some y) && decide (i ≠ j) && par2C Γ.sc x px y py u v && mE T Γ false a u && mE T Γ false b v
  | .sub o i e, .Assign [.Subscript (.Name x px) ix sp] v _ => mT T Γ (.sub o i) (.Subscript (.Name x px) ix sp) && mE T Γ false e v
  | .ex e, .Expr v _ => noComp v && mE T Γ false e v
  | .doc, .Expr (.Constant (.str _) _ _) _ => true
  | .ifs t a b, .If c x y _ => mE T Γ true t c && mSs Γ a x && mSs Γ b y
  | .for_ tg k as body, .For t it b [] _ => Γ.calm && Γ.top && tgC Γ tg t && noSet it && mI T Γ k as t it && mSs Γ body b
  | .whl _ t body, .While c b [] _ => Γ.top && mE T Γ true t c && mSs Γ body b
  | .whw _ i e o b body, .While (.Compare (.NamedExpr (.Name x _) v _) [op] [w] _) bd [] _ => Γ.top && locC Γ i x && mE T Γ false e v && mE T Γ false b w && o2C o op && !behindInMarks op w && mSs Γ body bd
  | .ret e, .Return (some v) _ => mE T Γ false e v
  | .retN, .Return none _ => true
  | .raise c as, .Raise (some (.Call (.Name x _) es [] _)) none _ => nameAt T.cls c x && glC Γ x && Γ.calm && !es.isEmpty && mAs T Γ as es
  | .raisex c a, .Raise (some (.Call (.Name x _) [e] [] _)) none _ => T.xcl.any (fun q => q.1 == c && q.2.1 == x) && glC Γ x && Γ.calm && notStar e && mA T Γ a e
  | .try_ body hs, .Try b hds [] [] _ => Γ.top && mSs Γ body b && !hds.isEmpty && mHs Γ hs hds
  | .pass, .Pass _ => true
  | .brk, .Break _ => true
  | .ctn, .Continue _ => true
  | .dead, _ => true
  | _, _ => false
def mSs (Γ : Gm) : Ss → List Stmt → Bool
  | .nil, [] => true
  | .cons s r, x :: xs => mS Γ s x && mSs Γ r xs
  | _, _ => false
def mHs (Γ : Gm) : Hs → List ExceptHandler → Bool
  | .nil, [] => true
  | .cons c s r, .ExceptHandler (some (.Name x _)) none b _ :: hds => nameAt T.hds c x && glC Γ x && !b.isEmpty && mSs Γ.suite s b && mHs Γ r hds
  | .tup c1 c2 c3 s, .ExceptHandler (some (.Tuple [.Name x1 _, .Name x2 _, .Name x3 _] _ _)) none b _ :: _ => nameAt T.hds c1 x1 && nameAt T.hds c2 x2 && nameAt T.hds c3 x3 && glC Γ x1 && glC Γ x2 && glC Γ x3 && !b.isEmpty && mSs Γ.suite s b
  | _, _ => false
end
end
section
variable {T : Tb} {G : Gx} {n : Nat} {cl : Nat → List Sl → CR} {isa : Nat → Nat → Bool} {gcs : List D} {Γ : Gm} {X : Cx}
theorem Good.tr (g : Good T G n cl isa gcs Γ X) (ht : Γ.top = true) {pn : List (Addr × Obj)} {xe : Value → Shared → Prop} (hp : PassesOwn (model X.prog X.w) X.A X.env xe) : Good T G n cl isa gcs Γ (X.tr pn xe) :=
  ⟨g.fx, g.xx, g.N, g.nd, g.sc, g.kd, g.calm, g.room, g.un, g.gd, g.fn, fun _ => hp, g.top⟩
theorem Good.suite (g : Good T G n cl isa gcs Γ X) {a : Addr} {pn : List (Addr × Obj)} : Good T G n cl isa gcs Γ.suite (X.suite a pn) :=
  ⟨g.fx, g.xx, g.N, g.nd, g.sc, g.kd, rfl, (fun z => nomatch z), g.un, g.gd, g.fn, (fun z => nomatch z), (fun z => nomatch z)⟩
theorem mT_ok {t : Tt} {x : Expr} (g : Good T G n cl isa gcs Γ X) (h : mT T Γ t x = true) : GOk G X x (putT gcs cl t) := by
  cases t with
  | nm i =>
    cases x <;> first | exact Bool.noConfusion h | skip
    obtain ⟨l1, l2, l3, l4⟩ := g.loc (show locC Γ i _ = true from h)
    exact nm_ok l1 l2 l3 l4
  | sub o i =>
    cases x <;> first | exact Bool.noConfusion h | skip
    rename_i y ix pos
    cases y <;> first | exact Bool.noConfusion h | skip
    rename_i y py
    have h' : (visC Γ o y && mE T Γ false i ix && plainIx ix) = true := h
    simp only [Bool.and_eq_true] at h'
    exact sub_tg (by have := g.un; omega) (g.var h'.1.1) (mE_ok i (t := false) g h'.1.2) (asgSub_ok h'.2)
theorem mTs_ok : ∀ {ts : List Tt} {es : List Expr}, Good T G n cl isa gcs Γ X → mTs T Γ ts es = true → GsOk G X es (putTs gcs cl ts) ∧ es.all notStar = true ∧ ts.length = es.length
  | [], [], g, _ => by
    have e : putTs gcs cl [] = fun ds ρ => match ds with | [] => .ok () ρ | _ => .no := by
      funext ds ρ; cases ds <;> rfl
    exact ⟨by rw [e]; exact gs_nil, rfl, rfl⟩
  | [], _ :: _, g, h => Bool.noConfusion h
  | _ :: _, [], g, h => Bool.noConfusion h
  | t :: ts, x :: xs, g, h => by
    have h' : (mT T Γ t x && notStar x && mTs T Γ ts xs) = true := h
    simp only [Bool.and_eq_true] at h'
    obtain ⟨h1, h2, h3⟩ := mTs_ok g h'.2
    have e : putTs gcs cl (t :: ts) = fun ds ρ => match ds with | d :: r => (putT gcs cl t d ρ).bind fun _ ρ1 => putTs gcs cl ts r ρ1 | _ => .no := by
      funext ds ρ; cases ds <;> rfl
    exact ⟨by rw [e]; exact gs_cons (mT_ok g h'.1.1) h1 (by rw [asgEach_ok h'.1.2]; rfl), by rw [List.all_cons, h'.1.2, h2]; rfl, by simp [h3]⟩
theorem noPar_any {ts : List Expr} {k k' : Nat} {p p' : Pos} {v : Expr} : noPar [.Tuple ts k p] v = noPar [.Tuple ts k' p'] v := by cases v <;> rfl
theorem setLc_ok {own : List (Str × Nat)} {tg : Tg} {k : Ik} {as ifs : As} {elt : E} {i : Nat} {y : Str} {px pos spos : Pos} {y1 : Expr} {gens : List Comprehension} {scope : Scope} (g : Good T G n cl isa gcs Γ X) (hy : X.N[i]? = some y) (hyl : X.env.scope.names.lookup y = some .local)
    (hsw : swapsWith (.ListComp y1 gens scope pos) (some (.Name y px)) spos.line X.env = pure true) (h : mE T Γ false (.lc own tg k as ifs elt) (.ListComp y1 gens scope pos) = true) :
    SOk G X (.Assign [.Name y px] (.ListComp y1 gens scope pos) spos) (setFs i (lcF (own.map (·.2)) tg k (evAs gcs cl as) (evIfs gcs cl ifs) (evE gcs cl false elt))) := by
  unfold mE at h
  split at h
  · rename_i q hg
    simp only [Bool.and_eq_true, decide_eq_true_eq] at h
    obtain ⟨⟨⟨⟨⟨⟨⟨⟨h1, h2⟩, h3⟩, h4⟩, h5⟩, h6⟩, h7⟩, h8⟩, h9⟩ := h
    rw [gen1_some hg] at hsw ⊢
    have hc : X.calm = true := g.calm.trans h1
    have ok : BlkOk X.N X.env.scope scope own := by rw [g.N, g.sc]; exact blkOk_by h2
    have hsub : ∀ i ∈ tgIs tg, i ∈ own.map (·.2) := fun i hi => by
      have := List.all_eq_true.mp h5 i hi
      simpa using this
    have hi := mI_ok as (pos := pos) g hc h9
    intro W tk
    refine psImp (ps_setLc (te := tV X.K G wNo (evE gcs cl false elt)) (tt := tTs X.K G wNo (evIfs gcs cl ifs)) (g := gTg X.K tg) hc (by rw [g.N]; exact g.nd) hy hyl hsw (hi W tk) ok (fun s H C c fp => tg_ok (g.blk (s := s) (H := H) (C := C) (c := c) (fp := fp) h3) hc h4) (fun s H C c fp => mIfs_ok ifs (g.blk h3) h7)
      (fun s H C c fp => (mE_ok elt (t := false) (g.blk h3) h8) wNo takes_no) (noSet_ok h6)) ?_
    rintro D σ H ⟨ρ, F, s, p⟩
    obtain ⟨ρ', F', s', p'⟩ := set_run s p
    exact lc_run hsub s' p'
  · cases h
mutual
theorem mS_ok : ∀ (s : S) {Γ : Gm} {X : Cx} {x : Stmt}, Good T G n cl isa gcs Γ X → mS T Γ s x = true → SOk G X x (exS gcs cl isa s) := by
  intro s Γ X x g h
  unfold mS at h
  split at h
  · rename_i i e y px v pos
    have h' := h
    simp only [Bool.and_eq_true] at h'
    obtain ⟨⟨h1, h2⟩, h3⟩ := h'
    obtain ⟨l1, l2, l3, l4⟩ := g.loc h1
    have ie := mE_ok e (t := false) g h2
    have plain : swapsWith v (some (.Name y px)) pos.line X.env = pure false → SOk G X (.Assign [.Name y px] v pos) (exS gcs cl isa (.set i e)) := fun hs => set_ok l1 l2 l3 l4 ie hs
    unfold setC at h3
    rw [Bool.or_eq_true] at h3
    rcases h3 with h3 | h3
    · exact plain (noComp_ok h3)
    · rw [Bool.and_eq_true, Bool.or_eq_true] at h3
      cases v <;> first | exact Bool.noConfusion h3.1 | skip
      rename_i y1 gens scope p1
      have hsw := sw_ok (x := y) (px := px) (l := pos.line) (a := y1) (gens := gens) (scope := scope) (pos := p1) g.sc g.kd
      cases hb : swC Γ y px (.ListComp y1 gens scope p1) with
      | false => exact plain (by rw [hsw, hb])
      | true =>
        have h4 := h3.2.resolve_left (by rw [hb]; simp)
        cases e <;> first | exact Bool.noConfusion h4 | skip
        have hl : Γ.sc.names.lookup y = some .local := by
          unfold swC at hb
          simp only [Bool.and_eq_true, decide_eq_true_eq] at hb
          exact hb.1.1
        exact setLc_ok g l2 (by rw [g.sc]; exact hl) (by rw [hsw, hb]) h2
  · rename_i ts e es k p v pos
    have h' := h
    simp only [Bool.and_eq_true] at h'
    obtain ⟨⟨⟨h1, h2⟩, h3⟩, h4⟩ := h'
    obtain ⟨m1, m2, m3⟩ := mTs_ok g h2
    obtain ⟨a1, a2⟩ := asgLen (env := X.env) m2
    have hc : X.calm = true := g.calm.trans h1
    exact store_ok1 (mE_ok e (t := false) g h3) (tup_tg hc m1 (by rw [a1, m3]) a2) (noSwapT rfl) (noPar_ok (by rw [noPar_any]; exact h4)) (by rw [asgEach_ok rfl]; rfl)
  · rename_i i j a b y px z py kt pt u v k2 p2 pos
    have h' := h
    simp only [Bool.and_eq_true, decide_eq_true_eq] at h'
    obtain ⟨⟨⟨⟨⟨⟨h1, h2⟩, h3⟩, h4⟩, h5⟩, h6⟩, h7⟩ := h'
    have hp : par2C X.env.scope y px z py u v = true := by rw [g.sc]; exact h5
    have hp' := h5
    unfold par2C at hp'
    simp only [Bool.and_eq_true, decide_eq_true_eq] at hp'
    obtain ⟨⟨⟨⟨⟨⟨⟨⟨q1, q2⟩, _⟩, _⟩, q5⟩, q6⟩, _⟩, _⟩, _⟩ := hp'
    exact par_ok (g.calm.trans h1) (by rw [g.N]; exact g.nd) (by rw [g.N]; exact h2) (by rw [g.N]; exact h3) h4 (by rw [g.sc]; exact q1) (by rw [g.sc]; exact q2) (mE_ok a (t := false) g h6) (mE_ok b (t := false) g h7) (star_ok q5) (star_ok q6) (par2_ok hp) (noSwapT rfl)
  · rename_i o i e y px ix sp v pos
    have h' := h
    simp only [Bool.and_eq_true] at h'
    exact store_ok1 (mE_ok e (t := false) g h'.2) (mT_ok g h'.1) (noSwapT rfl) (noPar_ok (by cases v <;> rfl)) (by rw [asgEach_ok rfl]; rfl)
  · rename_i e v pos
    have h' := h
    simp only [Bool.and_eq_true] at h'
    exact drop_ok (mE_ok e (t := false) g h'.2) (noComp_ok h'.1)
  · rename_i z k p pos
    exact doc_ok
  · rename_i t a b c u v pos
    have h' := h
    simp only [Bool.and_eq_true] at h'
    exact if_ok (mE_ok t (t := true) g h'.1.1) (mSs_ok a g h'.1.2) (mSs_ok b g h'.2)
  · rename_i tg k as body t it b pos
    have h' := h
    simp only [Bool.and_eq_true] at h'
    obtain ⟨⟨⟨⟨⟨h1, h2⟩, h3⟩, h4⟩, h5⟩, h6⟩ := h'
    have hc : X.calm = true := g.calm.trans h1
    exact for_ok (g.ps h2) hc (mI_ok as (pos := pos) g hc h5) (tg_ok g hc h3) (mSs_ok body g h6) (noSet_ok h4)
  · rename_i m t body c b pos
    have h' := h
    simp only [Bool.and_eq_true] at h'
    exact while_ok (g.ps h'.1.1) (mE_ok t (t := true) g h'.1.2) (mSs_ok body g h'.2)
  · rename_i m i e o b body y py v np op w cp bd pos
    have h' := h
    simp only [Bool.and_eq_true, Bool.not_eq_true'] at h'
    obtain ⟨⟨⟨⟨⟨⟨h1, h2⟩, h3⟩, h4⟩, h5⟩, h6⟩, h7⟩ := h'
    obtain ⟨l1, l2, l3, l4⟩ := g.loc h2
    exact walrus_ok (g.ps h1) l1 l2 l3 l4 (cmp_all g.un h5) (sem2_bl h5) (mE_ok e (t := false) g h3) (mE_ok b (t := false) g h4) h6 (mSs_ok body g h7)
  · rename_i e v pos
    exact ret_ok (mE_ok e (t := false) g h)
  · rename_i pos
    exact retN_ok
  · rename_i c as y py es pos rp
    have h' := h
    simp only [Bool.and_eq_true] at h'
    obtain ⟨⟨⟨⟨h1, h2⟩, h3⟩, h4⟩, h5⟩ := h'
    obtain ⟨C, bmB, B, ni, ii, hC, F, k1, k2, k3, k4, k5⟩ := g.fx.cls c y (of_decide_eq_true h1)
    have st := mAs_star h5
    have ia := mAs_ok as g h5
    cases es with
    | nil => cases h4
    | cons e1 es =>
      rw [List.all_cons, Bool.and_eq_true] at st
      exact raise_ok (C := C) (g.calm.trans h3) hC F k1 k2 k3 (raises_own k4 k5) (g.gl h2).1 ia (g.gl h2).2 (star_ok st.1) (stars_ok st.2)
  · rename_i c a y py e pos rp
    have h' := h
    simp only [Bool.and_eq_true] at h'
    obtain ⟨⟨⟨⟨h1, h2⟩, h3⟩, h4⟩, h5⟩ := h'
    obtain ⟨q, q1, q2⟩ := List.any_eq_true.mp h1
    simp only [Bool.and_eq_true, beq_iff_eq] at q2
    obtain ⟨C, hC, k1, k2, k3, k4, k5, k6, k7⟩ := g.xx.xk q q1
    rw [q2.1] at hC
    rw [q2.2] at k1
    exact raisex_ok (g.calm.trans h3) hC k3 (by have := (g.room h3).dp; omega) k1 k2 (raises_own k4 k5) (g.gl h2).1 (mA_ok a g h5) (g.gl h2).2 (star_ok h4)
  · rename_i body hs b hds pos
    have h' := h
    simp only [Bool.and_eq_true] at h'
    obtain ⟨⟨⟨h1, h2⟩, h3⟩, h4⟩ := h'
    cases hds with
    | nil => cases h3
    | cons hd hds =>
      obtain ⟨t1, t2⟩ := g.top h1
      exact try_ok t1 t2 (fun pn xe hp => mSs_ok body (g.tr h1 (pn := pn) hp) h2) (mHs_ok hs g h4)
  · rename_i pos
    exact pass_ok
  · rename_i pos
    exact brk_ok
  · rename_i pos
    exact ctn_ok
  · exact fun W _ => ⟨fun pins s σ H D _ q => by obtain ⟨ρ, F, _, z⟩ := q; exact z.elim⟩
  · cases h
theorem mSs_ok : ∀ (s : Ss) {Γ : Gm} {X : Cx} {x : List Stmt}, Good T G n cl isa gcs Γ X → mSs T Γ s x = true → SsOk G X x (exSs gcs cl isa s) := by
  intro s Γ X x g h
  match s, x, h with
  | .nil, [], h => exact nil_ok
  | .cons a r, y :: ys, h =>
    have h' : (mS T Γ a y && mSs T Γ r ys) = true := h
    rw [Bool.and_eq_true] at h'
    exact cons_ok (mS_ok a g h'.1) (mSs_ok r g h'.2)
  | .nil, _ :: _, h => exact Bool.noConfusion h
  | .cons _ _, [], h => exact Bool.noConfusion h
theorem mHs_ok : ∀ (s : Hs) {Γ : Gm} {X : Cx} {x : List ExceptHandler}, Good T G n cl isa gcs Γ X → mHs T Γ s x = true → HsOk G X isa x (exHs gcs cl isa s) := by
  intro s Γ X x g h
  unfold mHs at h
  split at h
  · exact .nil
  · rename_i c a r y py b p hds
    simp only [Bool.and_eq_true] at h
    obtain ⟨⟨⟨⟨h1, h2⟩, h3⟩, h4⟩, h5⟩ := h
    obtain ⟨cv, k1, k2⟩ := g.fx.hd c y (of_decide_eq_true h1)
    cases b with
    | nil => cases h3
    | cons b0 bs => exact .cons ⟨(g.gl h2).1, (g.gl h2).2, k1⟩ k2 (fun a' oe pn => mSs_ok a g.suite h4) (mHs_ok r g h5)
  · rename_i c1 c2 c3 a x1 p1 x2 p2 x3 p3 tk tp b p hds
    simp only [Bool.and_eq_true] at h
    obtain ⟨⟨⟨⟨⟨⟨⟨h1, h2⟩, h3⟩, g1⟩, g2⟩, g3⟩, h4⟩, h5⟩ := h
    obtain ⟨v1, k1, l1⟩ := g.fx.hd c1 x1 (of_decide_eq_true h1)
    obtain ⟨v2, k2, l2⟩ := g.fx.hd c2 x2 (of_decide_eq_true h2)
    obtain ⟨v3, k3, l3⟩ := g.fx.hd c3 x3 (of_decide_eq_true h3)
    cases b with
    | nil => cases h4
    | cons b0 bs => exact .tup ⟨(g.gl g1).1, (g.gl g1).2, k1⟩ ⟨(g.gl g2).1, (g.gl g2).2, k2⟩ ⟨(g.gl g3).1, (g.gl g3).2, k3⟩ l1 l2 l3 (fun a' oe pn => mSs_ok a g.suite h5)
  · cases h
end
end
end DI

set_option Elab.async false
set_option linter.all false
set_option maxRecDepth 100000
set_option maxHeartbeats 4000000
namespace DI
open PySem PySem.Spec L2 PyProof.Rows
/-! ## Defs by their bodies -/
section
variable {K : PySem.W.Frag} {G : Gx}
theorem outs_len : ∀ {ss : List Sl} {ρ : Env}, (outsOf ss ρ).length = ss.length
  | [], ρ => by cases ρ <;> rfl
  | s :: r, [] => by
    show (_ :: outsOf r []).length = _
    simp [outs_len (ss := r) (ρ := [])]
  | s :: r, o :: os => by
    show (_ :: outsOf r os).length = _
    simp [outs_len (ss := r) (ρ := os)]
theorem outs_some : ∀ {ss : List Sl} {ρ : Env} {i : Nat} {t : Sl}, (outsOf ss ρ)[i]? = some (some t) → ρ[i]? = some (some t) ∧ ∃ s, ss[i]? = some s ∧ (s.m = .io ∨ s.m = .bo)
  | [], ρ, i, t, h => by cases ρ <;> simp [outsOf] at h
  | s :: r, [], 0, t, h => by cases (show some none = some (some t) from h)
  | s :: r, [], i + 1, t, h => by
    obtain ⟨h1, h2⟩ := outs_some (ss := r) (ρ := []) (i := i) (t := t) (by simpa [outsOf] using h)
    simp at h1
  | s :: r, o :: os, 0, t, h => by
    have h' := Option.some.inj (show some (match s.m with | .io => o | .bo => o | _ => none) = some (some t) from h)
    split at h'
    · rename_i e; exact ⟨by simp [h'], s, rfl, .inl e⟩
    · rename_i e; exact ⟨by simp [h'], s, rfl, .inr e⟩
    · cases h'
  | s :: r, o :: os, i + 1, t, h => by
    have h' : (outsOf r os)[i]? = some (some t) := by simpa [outsOf] using h
    obtain ⟨h1, h2⟩ := outs_some h'
    exact ⟨by simpa using h1, by simpa using h2⟩
theorem outs_of : ∀ {ss : List Sl} {ρ : Env} {i : Nat} {s : Sl} {t : Sl}, ss[i]? = some s → (s.m = .io ∨ s.m = .bo) → ρ[i]? = some (some t) → (outsOf ss ρ)[i]? = some (some t)
  | [], ρ, i, s, t, h, _, _ => by simp at h
  | s :: r, [], i, _, t, _, _, h => by simp at h
  | s :: r, o :: os, 0, s', t, h, m, h2 => by
    simp at h h2
    subst h h2
    show some (match s.m with | .io => some t | .bo => some t | _ => none) = _
    rcases m with m | m <;> rw [m]
  | s :: r, o :: os, i + 1, s', t, h, m, h2 => by
    have := outs_of (ss := r) (ρ := os) (i := i) (by simpa using h) m (by simpa using h2)
    simpa [outsOf] using this
/-- the frame at its entry -/
def rho0 (ss : List Sl) (nv : Nat) : Env := ss.map some ++ List.replicate (nv - ss.length) none
theorem rho0_some {ss : List Sl} {nv i : Nat} {t : Sl} (h : (rho0 ss nv)[i]? = some (some t)) : i < ss.length ∧ (ss.map some)[i]? = some (some t) := by
  unfold rho0 at h
  by_cases c : i < ss.length
  · rw [List.getElem?_append_left (by simpa using c)] at h
    exact ⟨c, h⟩
  · rw [List.getElem?_append_right (by simpa using c), List.getElem?_replicate] at h
    split at h <;> cases h
theorem start_at {N : List Str} {vs : List V} {i : Nat} (h : i < vs.length) : (L2.start N vs)[i]? = (vs.map some)[i]? := by
  unfold L2.start
  rw [List.getElem?_append_left (by simpa using h)]
section
variable {ss : List Sl} {vs : List V} {N : List Str} {F : FS} {H : Hp}
theorem st_start (s : StOk K G (ss.map some) F (vs.map some) H) (hn : ss.length ≤ N.length) : StOk K G (rho0 ss N.length) F (L2.start N vs) H := by
  have hl : ss.length = vs.length := by have := s.len; simpa using this
  refine ⟨?_, fun i t h => ?_, fun i j t u a ne h1 h2 n1 n2 g1 g2 => ?_, s.dom⟩
  · unfold rho0 L2.start
    simp [hl]
  · obtain ⟨c, h⟩ := rho0_some h
    obtain ⟨v, h1, h2⟩ := s.val i t h
    exact ⟨v, by rw [start_at (by omega)]; exact h1, h2⟩
  · obtain ⟨c1, h1⟩ := rho0_some h1
    obtain ⟨c2, h2⟩ := rho0_some h2
    rw [start_at (by omega)] at g1
    rw [start_at (by omega)] at g2
    exact s.sep i j t u a ne h1 h2 n1 n2 g1 g2
theorem own_start {b : Addr} (hl : ss.length = vs.length) : Own (rho0 ss N.length) (L2.start N vs) b ↔ Own (ss.map some) (vs.map some) b := by
  constructor
  · rintro ⟨i, t, h, m, g⟩
    obtain ⟨c, h⟩ := rho0_some h
    rw [start_at (by omega)] at g
    exact ⟨i, t, h, m, g⟩
  · rintro ⟨i, t, h, m, g⟩
    have c : i < ss.length := by have := (List.getElem?_eq_some_iff.mp h).1; simpa using this
    refine ⟨i, t, ?_, m, by rw [start_at (by omega)]; exact g⟩
    unfold rho0
    rw [List.getElem?_append_left (by simpa using c)]; exact h
theorem held_start {b : Addr} (hl : ss.length = vs.length) (h : Held (rho0 ss N.length) (L2.start N vs) b) : Held (ss.map some) (vs.map some) b := by
  obtain ⟨i, t, h, m, g⟩ := h
  obtain ⟨c, h⟩ := rho0_some h
  rw [start_at (by omega)] at g
  exact ⟨i, t, h, m, g⟩
/-- the callee's end, at its arguments -/
theorem at_args {ρ' : Env} {F' : FS} {σ' : Sg} {H' : Hp} (s : StOk K G (ss.map some) F (vs.map some) H) (hn : ss.length ≤ N.length) (x : Stp (rho0 ss N.length) F (L2.start N vs) H ρ' F' σ' H') (s' : StOk K G ρ' F' σ' H') :
    Stp (ss.map some) F (vs.map some) H (outsOf ss ρ') F' (vs.map some) H' ∧ StOk K G (outsOf ss ρ') F' (vs.map some) H' ∧ ∀ b, Held (outsOf ss ρ') (vs.map some) b → Held ρ' σ' b := by
  have hl : ss.length = vs.length := by have := s.len; simpa using this
  have pl : ∀ {i : Nat} {t : Sl}, (outsOf ss ρ')[i]? = some (some t) → ρ'[i]? = some (some t) ∧ σ'[i]? = (vs.map some)[i]? ∧ i < ss.length ∧ ∃ s0 : Sl, ss[i]? = some s0 ∧ (s0.m = .io ∨ s0.m = .bo) := fun {i t} h => by
    obtain ⟨h1, s0, h2, h3⟩ := outs_some h
    have hi : i < ss.length := (List.getElem?_eq_some_iff.mp h2).1
    have h4 : (rho0 ss N.length)[i]? = some (some s0) := by
      unfold rho0
      rw [List.getElem?_append_left (by simpa using hi), List.getElem?_map, h2]; rfl
    obtain ⟨e1, _⟩ := x.io i s0 h4 h3
    exact ⟨h1, by rw [e1, start_at (by omega)], hi, s0, h2, h3⟩
  have held : ∀ b, Held (outsOf ss ρ') (vs.map some) b → Held ρ' σ' b := fun b ⟨i, t, h, m, g⟩ => by
    obtain ⟨h1, h2, _⟩ := pl h
    exact ⟨i, t, h1, m, by rw [h2]; exact g⟩
  have own : ∀ b, Own (outsOf ss ρ') (vs.map some) b → Own ρ' σ' b := fun b ⟨i, t, h, m, g⟩ => by
    obtain ⟨h1, h2, _⟩ := pl h
    exact ⟨i, t, h1, m, by rw [h2]; exact g⟩
  refine ⟨⟨x.fr, fun b o e no n => x.keep b o e (fun q => no ((own_start hl).mp q)) n, fun b es f no e => x.kd b es f (fun q => no ((own_start hl).mp q)) e, fun b f => ?_, fun b h => ?_, fun b h => ?_, fun i t h m => ?_⟩, ⟨?_, fun i t h => ?_, fun i j t u a ne h1 h2 n1 n2 g1 g2 => ?_, s'.dom⟩, held⟩
  · rcases x.fnew b f with q | q | q
    · exact .inl q
    · exact .inr (.inl q)
    · exact .inr (.inr ((own_start hl).mp q))
  · rcases x.hnew b (held b h) with q | q
    · exact .inl (held_start hl q)
    · exact .inr q
  · rcases x.onew b (own b h) with q | q
    · exact .inl ((own_start hl).mp q)
    · exact .inr q
  · have hi : i < ss.length := by have := (List.getElem?_eq_some_iff.mp h).1; simpa using this
    have h4 : (rho0 ss N.length)[i]? = some (some t) := by
      unfold rho0
      rw [List.getElem?_append_left (by simpa using hi)]; exact h
    obtain ⟨_, t', e2, m2⟩ := x.io i t h4 m
    have h5 : ss[i]? = some t := by
      rw [List.getElem?_map] at h
      cases q : ss[i]? with
      | none => rw [q] at h; cases h
      | some y => rw [q] at h; cases h; rfl
    exact ⟨rfl, t', outs_of h5 m e2, m2⟩
  · rw [outs_len, List.length_map]; exact hl
  · obtain ⟨h1, h2, _⟩ := pl h
    obtain ⟨v, h3, h4⟩ := s'.val i t h1
    exact ⟨v, by rw [← h2]; exact h3, h4⟩
  · obtain ⟨h1, e1, _⟩ := pl h1
    obtain ⟨h2, e2, _⟩ := pl h2
    exact s'.sep i j t u a ne h1 h2 n1 n2 (by rw [e1]; exact g1) (by rw [e2]; exact g2)
end
end
section
variable {P : Program} {w : World} {K : PySem.W.Frag} {mg : Str → Option Value} {base : Heap} {T : Tb} {G : Gx} {Pg : Prog} {k : Nat}
/-- a def of the text, by its form -/
theorem fn_ok {fi : Nat} {fd : Fd} {f : Addr} {name qual : Str} {params : Arguments} {body : List Stmt} {scope : Scope} {dV kV doc pm cdv ct oc : Value} {an od : Option Addr} {osl : Array (Option Value)} {N ps : List Str}
    (fx : Facts T G k (run Pg k) Pg.isa Pg.gcs P w K mg base) (xx : FactsX T G P w K mg base) (hf : Pg.fns[fi]? = some fd) (np : fd.np = ps.length) (nv : fd.nv = N.length) (hle : ps.length ≤ N.length)
    (lk : K.lookup f = some ⟨oc, od, .func (PySem.W.fnOf name qual params body scope dV kV doc pm an cdv ct), osl⟩) (hcd : PySem.W.codeIn K cdv qual = true) (S : FnScope N ps scope)
    (chk : mSs T ⟨N, scope, true, true, true⟩ fd.body body = true) :
    FnR P w K mg base G (k + 1) f (PySem.W.fnOf name qual params body scope dV kV doc pm an cdv ct) ps (run Pg (k + 1) fi) := by
  have hlen : ∀ ss : List Sl, ss.length ≠ ps.length → run Pg (k + 1) fi ss = .no := fun ss h => by
    rw [run, hf]
    exact if_neg (by rw [np]; exact h)
  refine ⟨hlen, fun A outer s H args us vs Q E hr hgd e0 hb r hsp => ?_⟩
  have hl : vs.length = ps.length := spR.len hlen hsp
  obtain ⟨ss, F, st, post⟩ := hsp
  have hsl : ss.length = vs.length := by have := st.len; simpa using this
  have KX : K.In s.heap := e0.mod.kin.keeps fun b o e => (e0.bs b o e).1
  have lim : s.heap.NoLimit := e0.mod.nolimit.keeps fun b o e => (e0.bs b o e).1
  have hkind : ∀ y ∈ ps.zip us, scope.names.lookup y.1 = some .local ∨ (scope.names.lookup y.1 = some .cell ∧ ((cellsFrom (s.heap.objs.size + 1) scope.names []).lookup y.1).isSome = true) := fun ⟨n, v⟩ hy => by
    rcases S.par n (List.of_mem_zip hy).1 with q | q
    · exact .inl q
    · exact .inr ⟨q, PySem.W.cellsFrom_some _ _ _ (.inl q)⟩
  refine codeAny_call_function hr.depth (KX _ _ lk) rfl S.co S.gen rfl (PySem.W.codeRec_of KX hcd) (hb _ _ _ _ ?_)
  refine wpAny_newFunctionEnv_cells S.kind hkind fun env he s1 x => ?_
  subst he
  refine ⟨lim.keeps x.toInCall.keep, codeAny_func ?_⟩
  have I : Inv (cxOf (L2.CX P w) P w K mg base N qual scope f cdv A outer s H E) [] (L2.start N vs) H s1 := inv_start S hr.hd e0 hl r x
  have hrd := hr.deeper (envOfC qual scope s.heap.objs.size f cdv)
  have g : Good T G k (run Pg k) Pg.isa Pg.gcs ⟨N, scope, true, true, true⟩ (cxOf (L2.CX P w) P w K mg base N qual scope f cdv A outer s H E) :=
    ⟨fx, xx, rfl, S.nd, rfl, S.kind, rfl, fun _ => hrd, by have := hrd.un; show (A.deeper _).units + 65 < cLine; omega, hgd, fun _ _ => rfl, fun _ => passes_of rfl, fun _ => ⟨rfl, rfl⟩⟩
  have tk : Takes (cxOf (L2.CX P w) P w K mg base N qual scope f cdv A outer s H E) (fun cls d _ H => E cls d H) := takes_of rfl rfl rfl rfl
  have ht := mSs_ok fd.body g chk _ tk
  have pst : PostS K G (fun cls d _ H => E cls d H) { nx := fun _ H' => Q .non H', rt := Q } (rho0 ss N.length) F (L2.start N vs) H (exSs Pg.gcs (run Pg k) Pg.isa fd.body (rho0 ss N.length)) := by
    have hle' : ss.length ≤ N.length := by omega
    rw [run, hf] at post
    dsimp only at post
    rw [if_pos (by rw [np]; omega), nv, np] at post
    have er : ss.map some ++ List.replicate (N.length - ps.length) none = rho0 ss N.length := by unfold rho0; rw [hsl, hl]
    rw [er] at post
    have fresh : ∀ {b : Addr}, Fresh (rho0 ss N.length) (L2.start N vs) H b → Fresh (ss.map some) (vs.map some) H b := fun {b} h => h.elim .inl fun o => .inr ((own_start hsl).mp o)
    cases hr : exSs Pg.gcs (run Pg k) Pg.isa fd.body (rho0 ss N.length) with
    | nx ρ' =>
      rw [hr] at post
      intro F' σ' H' y s'
      obtain ⟨a1, a2, a3⟩ := at_args st hle' y s'
      exact post .non F' H' a1 a2 .non fun z => nomatch z
    | rt d m ρ' =>
      rw [hr] at post
      intro v F' σ' H' y s' o fr
      obtain ⟨a1, a2, a3⟩ := at_args st hle' y s'
      refine post v F' H' a1 a2 ?_ fun e b eb => fresh (fr e b eb)
      cases m with
      | sh => exact o
      | fr =>
        obtain ⟨a, e, nf, nh, c⟩ := o
        exact ⟨a, e, nf, fun h => nh (a3 a h), c⟩
    | ex e ρ' =>
      rw [hr] at post
      intro cls dx F' σ' H' y s' o
      obtain ⟨a1, a2, a3⟩ := at_args st hle' y s'
      exact post cls dx F' H' a1 a2 o
    | bk ρ' => rw [hr] at post; exact post.elim
    | ct ρ' => rw [hr] at post; exact post.elim
    | no => rw [hr] at post; exact post.elim
  refine wpAny_mono (ht.run [] s1 (L2.start N vs) H { nx := fun _ H' => Q .non H', rt := Q } I ⟨_, F, st_start st (by omega), pst⟩) (fun fl s' hs => ?_) fun e s' hs => hs
  have fin : ∀ {σ' : L2.St} {H' : Hp} {v : V} {u : Value}, Inv (cxOf (L2.CX P w) P w K mg base N qual scope f cdv A outer s H E) [] σ' H' s' → RelV v u → Q v H' → CE outer P w H s Q u s' :=
    fun {σ' H' v u} J rv q => ⟨v, H', J.os, J.bare, J.base, J.hok, rv, q⟩
  cases fl with
  | ret u =>
    obtain ⟨v, σ', H', J, rv, q⟩ := hs
    exact fin J rv q
  | next =>
    obtain ⟨σ', H', J, q⟩ := hs
    exact fin (v := V.non) (u := Value.none) J rfl q
  | brk =>
    obtain ⟨_, _, _, q⟩ := hs
    exact False.elim q
  | cont =>
    obtain ⟨_, _, _, q⟩ := hs
    exact False.elim q
end
/-! ## The whole text -/
def scC (N ps : List Str) (sc : Scope) : Bool :=
  decide (sc.kind = .function) && !sc.isCoroutine && !sc.isGenerator && decide N.Nodup && decide (N.take ps.length = ps) && decide (ps.length ≤ N.length) &&
    (ps.all fun x => match sc.names.lookup x with | some .local => true | some .cell => true | _ => false) && (sc.names.all fun y => match y.2 with | .free => false | _ => true)
theorem scC_ok {N ps : List Str} {sc : Scope} (h : scC N ps sc = true) : FnScope N ps sc ∧ ps.length ≤ N.length := by
  unfold scC at h
  simp only [Bool.and_eq_true, decide_eq_true_eq, Bool.not_eq_true', List.all_eq_true] at h
  obtain ⟨⟨⟨⟨⟨⟨⟨h1, h2⟩, h3⟩, h4⟩, h5⟩, h6⟩, h7⟩, h8⟩ := h
  refine ⟨⟨h1, h2, h3, h4, h5, fun x hx => ?_, fun y hy e => ?_⟩, h6⟩
  · have := h7 x hx
    split at this
    · rename_i q; exact .inl q
    · rename_i q; exact .inr q
    · cases this
  · have := h8 y hy
    rw [e] at this
    cases this
/-- the form of a def, against its text -/
def defC (T : Tb) (fd : Fd) (N ps : List Str) (st : Stmt) : Bool := scC N ps (defScope st) && decide (fd.np = ps.length) && decide (fd.nv = N.length) && mSs T ⟨N, defScope st, true, true, true⟩ fd.body (defBody st)
/-- how it is called: no defaults, no stars -/
def PlainB (x : Str) (st : Stmt) (ps : List Str) : Prop := ∀ (kV doc pm : Value) (an : Option Addr) (cdv ct : Value) (us : List Value), us.length = ps.length → bindArgs (PySem.W.fnOf x x (defArgs st) (defBody st) (defScope st) .none kV doc pm an cdv ct) ⟨us, []⟩ = pure (ps.zip us)
structure DefK (T : Tb) (Pg : Prog) (K : PySem.W.Frag) (mg : Str → Option Value) (fi : Nat) (x : Str) : Prop where
  ex : ∃ (fd : Fd) (N ps : List Str) (st : Stmt) (a : Addr) (oc : Value) (od : Option Addr) (kV doc pm : Value) (an : Option Addr) (cdv ct : Value) (osl : Array (Option Value)),
    Pg.fns[fi]? = some fd ∧ defC T fd N ps st = true ∧ PlainB x st ps ∧ mg x = some (.ref a) ∧ K.lookup a = some ⟨oc, od, .func (PySem.W.fnOf x x (defArgs st) (defBody st) (defScope st) .none kV doc pm an cdv ct), osl⟩ ∧ PySem.W.codeIn K cdv x = true ∧ PySem.W.keepIn K (.ref a) = true
section
variable {P : Program} {w : World} {K : PySem.W.Frag} {mg : Str → Option Value} {T : Tb} {G : Gx} {Pg : Prog}
theorem def_mk {x : Str} {fi : Nat} {fd : Fd} {N ps : List Str} {st : Stmt} {a : Addr} {oc : Value} {od : Option Addr} {kV doc pm : Value} {an : Option Addr} {cdv ct : Value} {osl : Array (Option Value)} {h : Heap} (X : K.In h) (Gh : h.Ns mainGlobals mg)
    (hf : Pg.fns[fi]? = some fd) (c : defC T fd N ps st = true) (b : PlainB x st ps) (ha : PySem.W.nsIn K mainGlobals x = some (some (.ref a)))
    (l : K.lookup a = some ⟨oc, od, .func (PySem.W.fnOf x x (defArgs st) (defBody st) (defScope st) .none kV doc pm an cdv ct), osl⟩) (cd : PySem.W.codeIn K cdv x = true) (kp : PySem.W.keepIn K (.ref a) = true) : DefK T Pg K mg fi x :=
  ⟨fd, N, ps, st, a, oc, od, kV, doc, pm, an, cdv, ct, osl, hf, c, b, PySem.W.mg_of X Gh ha, l, cd, kp⟩
/-- what the text holds besides its defs -/
structure Rest (T : Tb) (G : Gx) (Pg : Prog) (K : PySem.W.Frag) (mg : Str → Option Value) : Prop where
  gc : ∀ (g : Nat) (e : Str × D), T.gcs[g]? = some e → Pg.gcs[g]? = some e.2 ∧ ∃ v u, mg e.1 = some u ∧ RelV v u ∧ ∀ F H, Rep K G F H v e.2
  bl : ∀ x ∈ T.blt, mg x = none
  cls : ∀ (c : Nat) (x : Str), T.cls[c]? = some x → ∃ C bmB B newId initId, G.cls c = some C ∧ ExcBaseFacts B newId initId bmB ∧ PySem.W.excIn K C bmB newId = true ∧ mg x = some (.ref C) ∧ PySem.W.keepIn K (.ref C) = true ∧ PySem.W.subIn K (.ref C) (.type "BaseException") = some true ∧ PySem.W.typeIn K (.ref C) = some (.type "type")
  hd : ∀ (c : Nat) (x : Str), T.hds[c]? = some x → ∃ cv, (mg x = some cv ∨ (mg x = none ∧ bootBuiltins x = some cv ∧ x ≠ "__name__")) ∧ ∀ c1 C1, G.cls c1 = some C1 → PySem.W.exmOne K (.ref C1) cv = some (Pg.isa c1 c)
theorem def_fn {base : Heap} {k fi : Nat} {x : Str} (fx : Facts T G k (run Pg k) Pg.isa Pg.gcs P w K mg base) (xx : FactsX T G P w K mg base) (d : DefK T Pg K mg fi x) :
    ∃ a fd ps, mg x = some (.ref a) ∧ PySem.W.keepIn K (.ref a) = true ∧ Binds K fd ps [] ∧ FnR P w K mg base G (k + 1) a fd ps (run Pg (k + 1) fi) := by
  obtain ⟨fd, N, ps, st, a, oc, od, kV, doc, pm, an, cdv, ct, osl, hf, c, b, hm, l, cd, kp⟩ := d.ex
  unfold defC at c
  simp only [Bool.and_eq_true, decide_eq_true_eq] at c
  obtain ⟨⟨⟨c1, c2⟩, c3⟩, c4⟩ := c
  obtain ⟨S, hle⟩ := scC_ok c1
  exact ⟨a, _, ps, hm, kp, .all (b kV doc pm an cdv ct), fn_ok fx xx hf c2 c3 hle l cd S c4⟩
theorem facts_all {base : Heap} (R : Rest T G Pg K mg) (xx : FactsX T G P w K mg base) (D : ∀ (f : Nat) (x : Str), T.fns[f]? = some x → DefK T Pg K mg f x) : ∀ k, Facts T G k (run Pg k) Pg.isa Pg.gcs P w K mg base
  | 0 => ⟨fun f x hx => by
      obtain ⟨fd, N, ps, st, a, oc, od, kV, doc, pm, an, cdv, ct, osl, hf, c, b, hm, l, cd, kp⟩ := (D f x hx).ex
      refine ⟨a, PySem.W.fnOf x x (defArgs st) (defBody st) (defScope st) .none kV doc pm an cdv ct, ps, hm, kp, .all (b kV doc pm an cdv ct), ⟨fun _ _ => rfl, fun _ _ _ _ _ _ _ _ _ _ _ _ _ _ h => ?_⟩⟩
      obtain ⟨ss, F, s, p⟩ := h
      exact p.elim, R.gc, R.bl, R.cls, R.hd⟩
  | k + 1 => ⟨fun f x hx => def_fn (facts_all R xx D k) xx (D f x hx), R.gc, R.bl, R.cls, R.hd⟩
/-! ## The row -/
theorem law_callD {mb : Str → Option Value} {k : Nat} {fa a : Addr} {fd : FuncData} {x : Str} {s₁ : Shared} {vs : List Value} {ns : List Int} {cl : List Sl → CR}
    (KX : K.In s₁.heap) (hns : s₁.heap.Ns mainGlobals mg) (hb : s₁.heap.Ns builtinsNs mb) (hbb : ∀ x : Str, x ≠ "__name__" → mb x = bootBuiltins x) (hlim : s₁.heap.NoLimit) (hg : s₁.gens = #[])
    (ha : s₁.heap.get? a = some { cls := .type "list", data := .seq vs.toArray }) (hi : IntsAre vs ns) (hl : ns.length ≤ sizeLine) (hr : Room k callerA)
    (F : ∀ base : Heap, K.In base → base.Ns mainGlobals mg → FnR P w K mg base G k fa fd [x] cl) (hbind : ∀ (s : Shared) (u : Value), BindsTo s fd ⟨[u], []⟩ [(x, u)])
    (hsp : ∃ outs, cl [⟨.sh, .fz (ns.map .int)⟩] = .ok (.bl true) .sh outs) :
    codeAny (model P w) callerA (.call (.ref fa) ⟨[.ref a], []⟩) (fun r s' => r = .ok (.ret (.bool true)) ∧ OldK s₁.heap s'.heap ∧ s'.os = s₁.os ∧ AllBare s'.gens) s₁ := by
  have rv := vals_ints hi
  have lenV := hi.length
  obtain ⟨outs, hcl⟩ := hsp
  have core : ∀ H : Hp, L2.Only H → (∃ F : FS, StOk K G [some ⟨.sh, .fz (ns.map .int)⟩] F [some (.ref a)] H) → HOk P w H s₁.heap → (∀ b, H b ≠ none → b = a) → (H a ≠ none → K.lookup a = none) →
      codeAny (model P w) callerA (.call (.ref fa) ⟨[.ref a], []⟩) (fun r s' => r = .ok (.ret (.bool true)) ∧ OldK s₁.heap s'.heap ∧ s'.os = s₁.os ∧ AllBare s'.gens) s₁ := by
    intro H hO hS hok hA hK
    have base_of : ∀ {b : Addr} {o : Obj}, s₁.heap.get? b = some o → H b = none → (hidT s₁.heap H).get? b = some o := fun e n => hidT_get e n
    have noA : ∀ {b : Addr} {o : Obj} {es : Array DictEntry} {ep : Nat}, s₁.heap.get? b = some o → o.data = .dict es ep → H b = none := fun {b o es ep} e d => by
      cases q : H b with
      | none => rfl
      | some u =>
        have e' : b = a := hA b (by rw [q]; simp)
        subst e'
        rw [ha] at e; cases e
        have d' : Data.seq vs.toArray _ = Data.dict es ep := d
        cases d'
    have nsK : ∀ {b : Addr} {m : Str → Option Value}, s₁.heap.Ns b m → (hidT s₁.heap H).Ns b m := fun {b m} ⟨o, es, ep, e, d, r⟩ => ⟨o, es, ep, base_of e (noA e d), d, r⟩
    have hKb : K.In (hidT s₁.heap H) := fun b o e => base_of (KX b o e) (by
      cases q : H b with
      | none => rfl
      | some u =>
        have e' : b = a := hA b (by rw [q]; simp)
        subst e'
        rw [hK (by rw [q]; simp)] at e; cases e)
    have hM : Mod K mg (hidT s₁.heap H) := ⟨hKb, nsK hns, ⟨mb, nsK hb, hbb⟩, let ⟨mc, h1, h2⟩ := hlim; ⟨mc, nsK h1, h2⟩⟩
    have e0 : Env0 P w K mg (hidT s₁.heap H) callerA [] s₁ H := ⟨rfl, hM, fun b o e => of_hidT e, Nat.le_of_eq (hidT_size _ _), trivial, fun b hb => absurd (show b ∈ ([] : List Addr) from hb) (by simp), hok, .of_eq hg⟩
    obtain ⟨F1, st⟩ := hS
    have sp : spR K G cl [.ref a] H (fun v _ => v = .bl true) (fun _ _ _ => False) := by
      refine ⟨[⟨.sh, .fz (ns.map .int)⟩], F1, st, ?_⟩
      rw [hcl]
      intro v F' H' _ _ o _
      exact (Lk.rep o).bl
    refine codeAny_mono ((F _ hKb (nsK hns)).run callerA [] s₁ H ⟨[.ref a], []⟩ [.ref a] [.ref a] _ _ hr rfl e0 (hbind s₁ (.ref a)) (.cons rfl .nil) sp) fun r s' h => ?_
    cases r with
    | error e =>
      obtain ⟨_, _, _, _, _, _, _, _, _, _, _, _, f⟩ := h
      exact f.elim
    | ok fl =>
      cases fl with
      | next => exact False.elim h
      | brk => exact False.elim h
      | cont => exact False.elim h
      | ret u =>
        obtain ⟨v, H', os, bare, un, hok', r', q⟩ := h
        have q' : v = .bl true := q
        subst q'
        obtain rfl : u = Value.bool true := r'
        refine ⟨rfl, OldK.of_keep fun b o e => ?_, os, bare⟩
        cases q : H b with
        | none => exact un.keep b o e q (by intro z; exact absurd (show b ∈ ([] : List Addr) from z) (by simp)) (by simp)
        | some u =>
          rcases hO b with z | ⟨ob, xs, z⟩
          · rw [q] at z; cases z
          · have z2 := un.frzs b ob _ z
            obtain ⟨e1, _⟩ := hok b _ z
            obtain ⟨e2, _⟩ := hok' b _ z2
            rw [e] at e1; cases e1
            exact e2
  have one : ∀ {F : FS} {H : Hp}, Rep K G F H (.ref a) (.fz (ns.map .int)) → (∀ b, F b → H b ≠ none) → StOk K G [some ⟨.sh, .fz (ns.map .int)⟩] F [some (.ref a)] H := fun {F H} r hd => by
    refine ⟨rfl, fun i t h => ?_, fun i j t u b ne h1 h2 n1 n2 _ _ => ?_, hd⟩
    · cases i with
      | zero => simp at h; subst h; exact ⟨_, rfl, r⟩
      | succ i => simp at h
    · cases i with
      | zero => simp at h1; subst h1; exact absurd rfl n1
      | succ i => simp at h1
  cases hk : K.lookup a with
  | some o =>
    have e := KX a o hk
    rw [ha] at e
    cases e
    exact core (fun _ => none) (fun _ => .inl rfl) ⟨fun _ => False, one (.fzk (.inr ⟨_, vs.toArray, _, hk, rfl, rfl, rfl, by rw [List.size_toArray, lenV]; exact hl, by simpa using rv⟩) (reps_ints ns)) (fun b f => f.elim)⟩
      (fun b u z => by have z' : (none : Option HO) = some u := z; cases z') (fun b z => absurd rfl z) fun z => absurd rfl z
  | none =>
    refine core (fun b => if b = a then some (.frz { cls := .type "list", data := .seq vs.toArray } (.lst (ns.map V.int))) else none) (fun b => ?_) ⟨fun b => b = a, one (.frz rfl (if_pos rfl) (reps_ints ns)) fun b hb => ?_⟩ (fun b u z => ?_) (fun b z => ?_) fun _ => hk
    · by_cases hb : b = a
      · exact .inr ⟨_, _, if_pos hb⟩
      · exact .inl (if_neg hb)
    · rw [show b = a from hb, if_pos rfl]; simp
    · by_cases hb : b = a
      · have z' := (if_pos hb).symm.trans z
        cases z'
        subst hb
        exact ⟨ha, by rw [List.length_map]; exact hl, vs, _, rv, ha⟩
      · have z' := (if_neg hb).symm.trans z
        cases z'
    · by_cases hb : b = a
      · exact hb
      · exact absurd (if_neg hb) z
end
/-- the row, from the law's run -/
theorem walkD {l : PySem.W.OpenLaw} {n k : Nat} {q : Program} {loose : List Str} {XP : (Str → Option Value) → Heap → Prop} {YP : World → Heap → Prop} {d : DefRec} {K : Params → PySem.W.Frag} {T : Tb} {Pg : Prog} {fi : Nat}
    (hn : l.most = some n) (hn2 : n ≤ sizeLine) (hdf : d.params.defaults = []) (hr : Room (k + 1) callerA) (hfi : T.fns[fi]? = some d.name)
    (hY : ∀ (w : World) (h : Heap), YP w h → (K w.params).In h)
    (F : ∀ (w : World) (mg : Str → Option Value) (h : Heap), (K w.params).In h → h.Ns mainGlobals mg → ∃ G, Rest T G Pg (K w.params) mg ∧ (∀ base, FactsX T G l.prog w (K w.params) mg base) ∧ ∀ (f : Nat) (x : Str), T.fns[f]? = some x → DefK T Pg (K w.params) mg f x)
    (hsp : ∀ ns : List Int, ns.length ≤ n → ∃ outs, run Pg (k + 1) fi [⟨.sh, .fz (ns.map .int)⟩] = .ok (.bl true) .sh outs) :
    PySem.W.WalkO q loose XP YP l.row.toRowW d [] (fun f vs => PySem.call f vs) := by
  refine Att.attach_call hn hdf fun w s₀ s₁ mg mb fa o pm cd doc a vs ns G Y ho hd hcd hmg hobj hints hlen hg => ?_
  have KX := hY w _ Y
  obtain ⟨Gx, R, RX, D⟩ := F w mg _ KX G.T.g
  obtain ⟨fd, N, ps, st, a', oc, od, kV, doc', pm', an, cdv, ct, osl, hf, c, b, hm, lk, cd', kp⟩ := (D fi d.name hfi).ex
  have ea : a' = fa := by rw [hmg] at hm; cases hm; rfl
  subst ea
  unfold defC at c
  simp only [Bool.and_eq_true, decide_eq_true_eq] at c
  obtain ⟨⟨⟨c1, c2⟩, c3⟩, c4⟩ := c
  obtain ⟨S, hle⟩ := scC_ok c1
  obtain ⟨outs, hrun⟩ := hsp ns hlen
  have hl : ps.length = 1 := by
    rw [run, hf] at hrun
    dsimp only at hrun
    split at hrun
    · rename_i q; rw [← c2, ← q]; rfl
    · cases hrun
  obtain ⟨x, rfl⟩ : ∃ x, ps = [x] := by
    match ps, hl with
    | [x], _ => exact ⟨x, rfl⟩
  exact law_callD (fd := PySem.W.fnOf d.name d.name (defArgs st) (defBody st) (defScope st) .none kV doc' pm' an cdv ct) (x := x) KX G.T.g G.T.b G.T.builtins G.T.nolimit hg hobj hints (Nat.le_trans hlen hn2) hr
    (fun base hK hN => fn_ok (facts_all R (RX base) D k) (RX base) hf c2 c3 hle lk cd' S c4) (fun s u => .of_eq (b kV doc' pm' an cdv ct [u] rfl)) ⟨outs, hrun⟩
end DI

set_option Elab.async false
set_option linter.all false
set_option maxRecDepth 100000
set_option maxHeartbeats 4000000
/-! X4: the facts of the classes, from one reckoning over the written part. -/
namespace DI
open PySem PySem.Spec L2 PyProof.Rows
def chkC (K : PySem.W.Frag) (C : Addr) : Bool :=
  PySem.W.keepIn K (.ref C) && decide (PySem.W.subIn K (.ref C) (.type "BaseException") = some true) && decide (PySem.W.typeIn K (.ref C) = some (.type "type")) && xfB K C &&
    decide (PySem.W.findIn K (.ref C) "__class__" = some (some (.builtin "object.__class__"))) && decide (PySem.W.specialIn K (.builtin "object.__class__") "__get__" = some (some (.builtin "getset_descriptor.__get__"))) &&
    decide (PySem.W.takesIn K (.builtin "object.__class__") = some true) && decide (PySem.W.mroIn K C (.type "object") = some true)
structure ClsF (K : PySem.W.Frag) (C : Addr) : Prop where
  kp : PySem.W.keepIn K (.ref C) = true
  be : PySem.W.subIn K (.ref C) (.type "BaseException") = some true
  ty : PySem.W.typeIn K (.ref C) = some (.type "type")
  xf : XfC K C
  ex : ExcC K C
theorem chkC_ok {K : PySem.W.Frag} {C : Addr} (h : chkC K C = true) : ClsF K C := by
  unfold chkC at h
  simp only [Bool.and_eq_true, decide_eq_true_eq] at h
  obtain ⟨⟨⟨⟨⟨⟨⟨h1, h2⟩, h3⟩, h4⟩, h5⟩, h6⟩, h7⟩, h8⟩ := h
  have x := xfB_ok h4
  exact ⟨h1, h2, h3, x, ⟨x.ga, x.gg, h2, x.hdC, h5, h6, h7, h8⟩⟩
def chkI (K : PySem.W.Frag) (C fI : Addr) (iid B : String) (f : Str) : Bool :=
  decide (PySem.W.findIn K (.ref C) "__init__" = some (some (.ref fI))) && decide (PySem.W.typeIn K (.ref fI) = some (.type "function")) && decide (PySem.W.nsIn K cStatics "thirdparty.any" = some none) &&
    decide (PySem.W.ks_superIn K C C "__init__" = some (some (.builtin iid))) && decide (PySem.W.subIn K (.ref C) (.type B) = some true) &&
    decide (PySem.W.findIn K (.ref C) "__setattr__" = some (some (.builtin "object.__setattr__"))) && decide (PySem.W.findIn K (.ref C) f = some none)
/-- the tables of the classes -/
def chkE (K : PySem.W.Frag) (Cs : List Addr) (hv : List Value) (isa : Nat → Nat → Bool) : Bool :=
  (List.range Cs.length).all fun c => (List.range hv.length).all fun h => decide (PySem.W.exmOne K (.ref (Cs.getD c 0)) (hv.getD h .none) = some (isa c h))
theorem chkE_ok {K : PySem.W.Frag} {Cs : List Addr} {hv : List Value} {isa : Nat → Nat → Bool} (k : chkE K Cs hv isa = true) {c h : Nat} {C : Addr} {v : Value} (hc : Cs[c]? = some C) (hh : hv[h]? = some v) : PySem.W.exmOne K (.ref C) v = some (isa c h) := by
  have h1 := List.all_eq_true.mp k c (List.mem_range.mpr (List.getElem?_eq_some_iff.mp hc).1)
  have h2 := of_decide_eq_true (List.all_eq_true.mp h1 h (List.mem_range.mpr (List.getElem?_eq_some_iff.mp hh).1))
  rw [List.getD_eq_getElem?_getD, List.getD_eq_getElem?_getD, hc, hh] at h2
  exact h2
def chkT (K : PySem.W.Frag) (Cs : List Addr) (tv : List (Value × List Nat)) : Bool :=
  tv.all fun t => (List.range Cs.length).all fun c => decide (PySem.W.kitOne K (.ref (Cs.getD c 0)) t.1 = some (t.2.contains c))
theorem chkT_ok {K : PySem.W.Frag} {Cs : List Addr} {tv : List (Value × List Nat)} (k : chkT K Cs tv = true) {c : Nat} {C : Addr} {t : Value × List Nat} (ht : t ∈ tv) (hc : Cs[c]? = some C) : PySem.W.kitOne K (.ref C) t.1 = some (t.2.contains c) := by
  have h1 := List.all_eq_true.mp k t ht
  have h2 := of_decide_eq_true (List.all_eq_true.mp h1 c (List.mem_range.mpr (List.getElem?_eq_some_iff.mp hc).1))
  rw [List.getD_eq_getElem?_getD, hc] at h2
  exact h2
/-- a class with an own __init__, from what stands in the written part -/
theorem makes_of {P : Program} {w : World} {K : PySem.W.Frag} {mg : Str → Option Value} {nm q : Str} {C N fI cda cc : Addr} {bs bm bmN : List Value} {sn : List Str} {sub : List Value} {ab : Bool} {col : Option Bool} {dd : Option Addr} {k0 k1 k2 k3 k5 : Option Value} {B nid iid Bn iN : String}
    {qual msg f y : Str} {j : Nat} {p0 p1 p2 p3 p4 p5 p6 p7 p8 p9 a0 a1 : Pos} {kV doc pm ct oc : Value} {an od : Option Addr} {osl : Array (Option Value)} {vs : Array Value} {file : Str} {tf : Tok} {ccl cl : Value} {cdd cld : Option Addr} {ccs csl : Array (Option Value)}
    (Fn : ExcBaseFacts Bn nid iN bmN) (F : DX.IniF B iid) (hbm : (bm.contains (.type Bn) && !bm.contains (.type "AttributeError") && !bm.contains (.type "NameError") && bm.contains (.type "object")) = true) (hpass : ∀ self, refuseLoop self "__setattr__" bm = pure ())
    (hbd : ∀ (e : Addr) (u : Value), bindArgs (DX.ifn qual msg f y j p0 p1 p2 p3 p4 p5 p6 p7 p8 p9 a0 a1 kV doc pm an cda ct cc) ⟨[.ref e, u], []⟩ = pure ([(("self" : Str), Value.ref e), (y, u)] : List (Str × Value))) (hy : DX.okY y = true)
    (hsuper : mg "super" = none) (hl : ((p2.endLine == p4.line) && ((P.main.file : Str) == file) && !(P.main.scope.names.lookup ("super" : Str)).isSome) = true) (hvs : vs[2]? = some (.str file tf))
    (lk : K.lookup fI = some ⟨oc, od, .func (DX.ifn qual msg f y j p0 p1 p2 p3 p4 p5 p6 p7 p8 p9 a0 a1 kV doc pm an cda ct cc), osl⟩) (hcd : PySem.W.codeIn K (.ref cda) qual = true)
    (hcode : K.lookup cda = some ⟨ccl, cdd, .fields vs, ccs⟩) (hcell : K.lookup cc = some ⟨cl, cld, .cell (some (.ref C)), csl⟩) (hC : K.lookup C = some (excClassObj nm q C N bs bm true sn sub ab col dd k0 k1 k2 k3 k5 nid))
    (hI : chkI K C fI iid B f = true) : (∀ base, DX.MakesX P w K mg base C f) ∧ PySem.W.findIn K (.ref C) f = some none := by
  unfold chkI at hI
  simp only [Bool.and_eq_true, decide_eq_true_eq] at hI
  obtain ⟨⟨⟨⟨⟨⟨h1, h2⟩, h3⟩, h4⟩, h5⟩, h6⟩, h7⟩ := hI
  simp only [Bool.and_eq_true, Bool.not_eq_true'] at hbm hl
  obtain ⟨⟨⟨b1, b2⟩, b3⟩, b4⟩ := hbm
  obtain ⟨⟨l1, l2⟩, l3⟩ := hl
  exact ⟨fun base => DX.makesX Fn b1 b2 b3 F hbd l1 hy b4 hpass l2 l3 hvs h1 h2 lk hcd hcode hcell hC hsuper h3 h4 h5 h6 h7, h7⟩
theorem pass_ValueError {C : Addr} : ∀ self, refuseLoop self "__setattr__" [.ref C, .type "ValueError", .type "Exception", .type "BaseException", .type "object"] = pure () := fun self => by rw [refuseLoop_ref]; exact PySem.F.store_ValueError.passes self
theorem pass_KeyError : ∀ self, refuseLoop self "__setattr__" [.type "KeyError", .type "LookupError", .type "Exception", .type "BaseException", .type "object"] = pure () := fun self => by kernel_rfl
theorem pass_LookupError : ∀ self, refuseLoop self "__setattr__" [.type "LookupError", .type "Exception", .type "BaseException", .type "object"] = pure () := fun self => PySem.F.store_LookupError.passes self
theorem pass_IndexError : ∀ self, refuseLoop self "__setattr__" [.type "IndexError", .type "LookupError", .type "Exception", .type "BaseException", .type "object"] = pure () := fun self => PySem.F.store_IndexError.passes self
theorem pass_OverflowError : ∀ self, refuseLoop self "__setattr__" [.type "OverflowError", .type "ArithmeticError", .type "Exception", .type "BaseException", .type "object"] = pure () := fun self => PySem.F.store_OverflowError.passes self
theorem pass_RuntimeError : ∀ self, refuseLoop self "__setattr__" [.type "RuntimeError", .type "Exception", .type "BaseException", .type "object"] = pure () := fun self => PySem.F.store_RuntimeError.passes self
theorem pass_ZeroDivisionError : ∀ self, refuseLoop self "__setattr__" [.type "ZeroDivisionError", .type "ArithmeticError", .type "Exception", .type "BaseException", .type "object"] = pure () := fun self => PySem.F.store_ZeroDivisionError.passes self
end DI

set_option Elab.async false
set_option linter.all false
set_option maxRecDepth 100000
set_option maxHeartbeats 4000000
namespace DI
open PySem L2
def free : Option Sl → Bool
  | none => true
  | some ⟨.sh, _⟩ => true
  | some ⟨.ow, _⟩ => true
  | _ => false
def shn (o : Option Sl) : Bool := match o with | some s => (match s.m with | .sh => true | _ => false) | none => true
theorem shn_free {o : Option Sl} (h : shn o = true) : free o = true := by rcases o with _ | ⟨_ | _ | _ | _, _⟩ <;> first | rfl | cases h
theorem ev_int {t : Bool} {i : Int} {gcs : List D} {cl : Nat → List Sl → CR} {s : Option Sl} {l : Env} : evE gcs cl t (.int i) (s :: l) = fin t (.ok (.int i, .sh) (s :: l)) := by rw [evE]
theorem ev_str {t : Bool} {x : Str} {gcs : List D} {cl : Nat → List Sl → CR} {s : Option Sl} {l : Env} : evE gcs cl t (.str x) (s :: l) = fin t (.ok (.str x, .sh) (s :: l)) := by rw [evE]
theorem ev_bl {t : Bool} {b : Bool} {gcs : List D} {cl : Nat → List Sl → CR} {s : Option Sl} {l : Env} : evE gcs cl t (.bl b) (s :: l) = fin t (.ok (.bl b, .sh) (s :: l)) := by rw [evE]
theorem ev_non {t : Bool} {gcs : List D} {cl : Nat → List Sl → CR} {s : Option Sl} {l : Env} : evE gcs cl t (.non) (s :: l) = fin t (.ok (.non, .sh) (s :: l)) := by rw [evE]
theorem ev_bty {t : Bool} {x : String} {gcs : List D} {cl : Nat → List Sl → CR} {s : Option Sl} {l : Env} : evE gcs cl t (.bty x) (s :: l) = fin t (.ok (.ty x, .sh) (s :: l)) := by rw [evE]
theorem ev_gc {t : Bool} {g : Nat} {gcs : List D} {cl : Nat → List Sl → CR} {s : Option Sl} {l : Env} : evE gcs cl t (.gc g) (s :: l) = fin t (match gcs[g]? with | some d => .ok (d, .sh) (s :: l) | none => .no) := by first | (rw [evE]; done) | (rw [evE]; cases gcs[g]? <;> rfl)
theorem ev_mov {t : Bool} {i : Nat} {gcs : List D} {cl : Nat → List Sl → CR} {s : Option Sl} {l : Env} : evE gcs cl t (.mov i) (s :: l) = fin t (moveVar (s :: l) i) := by rw [evE]
theorem ev_tup {t : Bool} {as : As} {gcs : List D} {cl : Nat → List Sl → CR} {s : Option Sl} {l : Env} : evE gcs cl t (.tup as) (s :: l) = fin t (tupF (evAs gcs cl as) (s :: l)) := by rw [evE]
theorem ev_lst {t : Bool} {as : As} {gcs : List D} {cl : Nat → List Sl → CR} {s : Option Sl} {l : Env} : evE gcs cl t (.lst as) (s :: l) = fin t (lstF (evAs gcs cl as) (s :: l)) := by rw [evE]
theorem ev_dct {t : Bool} {as : As} {gcs : List D} {cl : Nat → List Sl → CR} {s : Option Sl} {l : Env} : evE gcs cl t (.dct as) (s :: l) = fin t (dctF (evAs gcs cl as) (s :: l)) := by rw [evE]
theorem ev_odc {t : Bool} {k v : A} {gcs : List D} {cl : Nat → List Sl → CR} {s : Option Sl} {l : Env} : evE gcs cl t (.odc k v) (s :: l) = fin t (twoF odcR (evA gcs cl k) (evA gcs cl v) (s :: l)) := by rw [evE]
theorem ev_op2 {t : Bool} {o : O2} {a b : A} {gcs : List D} {cl : Nat → List Sl → CR} {s : Option Sl} {l : Env} : evE gcs cl t (.op2 o a b) (s :: l) = fin t (twoF (sem2 o) (evA gcs cl a) (evA gcs cl b) (s :: l)) := by rw [evE]
theorem ev_ch {t : Bool} {o1 o2 : O2} {a b c : A} {gcs : List D} {cl : Nat → List Sl → CR} {s : Option Sl} {l : Env} : evE gcs cl t (.ch o1 o2 a b c) (s :: l) = fin t (chainF (evA gcs cl a) (evA gcs cl b) (evA gcs cl c) (sem2 o1) (sem2 o2) (s :: l)) := by rw [evE]
theorem ev_neg {t : Bool} {a : A} {gcs : List D} {cl : Nat → List Sl → CR} {s : Option Sl} {l : Env} : evE gcs cl t (.neg a) (s :: l) = fin t (oneF negD (evA gcs cl a) (s :: l)) := by rw [evE]
theorem ev_and {t : Bool} {as : As} {gcs : List D} {cl : Nat → List Sl → CR} {s : Option Sl} {l : Env} : evE gcs cl t (.and as) (s :: l) = evAnd gcs cl t as (s :: l) := by rw [evE]
theorem ev_or {t : Bool} {as : As} {gcs : List D} {cl : Nat → List Sl → CR} {s : Option Sl} {l : Env} : evE gcs cl t (.or as) (s :: l) = evOr gcs cl t as (s :: l) := by rw [evE]
theorem ev_ife {t : Bool} {c a b : E} {gcs : List D} {cl : Nat → List Sl → CR} {s : Option Sl} {l : Env} : evE gcs cl t (.ife c a b) (s :: l) = ifF (evE gcs cl true c) (evE gcs cl t a) (evE gcs cl t b) (s :: l) := by rw [evE]
theorem ev_sub {t : Bool} {a b : A} {gcs : List D} {cl : Nat → List Sl → CR} {s : Option Sl} {l : Env} : evE gcs cl t (.sub a b) (s :: l) = fin t (twoF ixR (evA gcs cl a) (evA gcs cl b) (s :: l)) := by rw [evE]
theorem ev_sl {t : Bool} {a : A} {lo hi : As} {gcs : List D} {cl : Nat → List Sl → CR} {s : Option Sl} {l : Env} : evE gcs cl t (.sl a lo hi) (s :: l) = fin t (slF (evA gcs cl a) (evAs gcs cl lo) (evAs gcs cl hi) (s :: l)) := by rw [evE]
theorem ev_bi {t : Bool} {b : Bi} {as : As} {gcs : List D} {cl : Nat → List Sl → CR} {s : Option Sl} {l : Env} : evE gcs cl t (.bi b as) (s :: l) = fin t (biF b (evAs gcs cl as) (s :: l)) := by rw [evE]
theorem ev_call {t : Bool} {f : Nat} {as : As} {ds : List D} {gcs : List D} {cl : Nat → List Sl → CR} {s : Option Sl} {l : Env} : evE gcs cl t (.call f as ds) (s :: l) = fin t (callG cl f ds (evAs gcs cl as) (s :: l)) := by rw [evE]
theorem ev_mth {t : Bool} {m : Mt} {i : Nat} {as : As} {gcs : List D} {cl : Nat → List Sl → CR} {s : Option Sl} {l : Env} : evE gcs cl t (.mth m i as) (s :: l) = fin t (mthF m i (evAs gcs cl as) (s :: l)) := by rw [evE]
theorem ev_pm {t : Bool} {m : Pm} {a : A} {as : As} {gcs : List D} {cl : Nat → List Sl → CR} {s : Option Sl} {l : Env} : evE gcs cl t (.pm m a as) (s :: l) = fin t (pmF m (evA gcs cl a) (evAs gcs cl as) (s :: l)) := by rw [evE]
theorem ev_lc {t : Bool} {own : List (Str × Nat)} {tg : Tg} {k : Ik} {as ifs : As} {elt : E} {gcs : List D} {cl : Nat → List Sl → CR} {s : Option Sl} {l : Env} : evE gcs cl t (.lc own tg k as ifs elt) (s :: l) = fin t (lcF (own.map (·.2)) tg k (evAs gcs cl as) (evIfs gcs cl ifs) (evE gcs cl false elt) (s :: l)) := by rw [evE]
theorem ev_mk {t : Bool} {c : Nat} {a : A} {gcs : List D} {cl : Nat → List Sl → CR} {s : Option Sl} {l : Env} : evE gcs cl t (.mk c a) (s :: l) = fin t (mkF c (evA gcs cl a) (s :: l)) := by rw [evE]
theorem ev_mkx {t : Bool} {c : Nat} {n : Str} {a : A} {gcs : List D} {cl : Nat → List Sl → CR} {s : Option Sl} {l : Env} : evE gcs cl t (.mkx c n a) (s :: l) = fin t (mkxF c n (evA gcs cl a) (s :: l)) := by rw [evE]
theorem ev_fld {t : Bool} {cs : List Nat} {n : Str} {a : A} {gcs : List D} {cl : Nat → List Sl → CR} {s : Option Sl} {l : Env} : evE gcs cl t (.fld cs n a) (s :: l) = fin t (oneF (fldD cs n) (evA gcs cl a) (s :: l)) := by rw [evE]
theorem ev_isx {t : Bool} {h : Nat} {tab : List Nat} {a : A} {gcs : List D} {cl : Nat → List Sl → CR} {s : Option Sl} {l : Env} : evE gcs cl t (.isx h tab a) (s :: l) = fin t (oneF (isxD tab) (evA gcs cl a) (s :: l)) := by rw [evE]
theorem ev_join {t : Bool} {z : Str} {a : A} {gcs : List D} {cl : Nat → List Sl → CR} {s : Option Sl} {l : Env} : evE gcs cl t (.join z a) (s :: l) = fin t (oneF (joinD z) (evA gcs cl a) (s :: l)) := by rw [evE]
theorem ev_var {i : Nat} {gcs : List D} {cl : Nat → List Sl → CR} {s : Option Sl} {l : Env} : evE gcs cl false (.var i) (s :: l) = readVar (s :: l) i := by rw [evE]
theorem ev_varT {i : Nat} {gcs : List D} {cl : Nat → List Sl → CR} {s : Option Sl} {l : Env} : evE gcs cl true (.var i) (s :: l) = varT i (s :: l) := by rw [evE]
theorem ev_notT {x : E} {gcs : List D} {cl : Nat → List Sl → CR} {s : Option Sl} {l : Env} : evE gcs cl true (.not x) (s :: l) = notF (evE gcs cl true x) (s :: l) := by rw [evE]
theorem ev_notF {x : E} {gcs : List D} {cl : Nat → List Sl → CR} {s : Option Sl} {l : Env} : evE gcs cl false (.not x) (s :: l) = notF (fun ρ => fin true (evE gcs cl false x ρ)) (s :: l) := by rw [evE]
theorem ea_e {x : E} {gcs : List D} {cl : Nat → List Sl → CR} {s : Option Sl} {l : Env} : evA gcs cl (.e x) (s :: l) = argF (evE gcs cl false x) (s :: l) := by rw [evA]
theorem ea_s {i : Nat} {gcs : List D} {cl : Nat → List Sl → CR} {s : Option Sl} {l : Env} : evA gcs cl (.s i) (s :: l) = slotF i (s :: l) := by rw [evA]
theorem ea_io {i : Nat} {gcs : List D} {cl : Nat → List Sl → CR} {s : Option Sl} {l : Env} : evA gcs cl (.io i) (s :: l) = ioF i (s :: l) := by rw [evA]
theorem es_nil {gcs : List D} {cl : Nat → List Sl → CR} {s : Option Sl} {l : Env} : evAs gcs cl .nil (s :: l) = .ok [] (s :: l) := by rw [evAs]
theorem es_cons {a : A} {r : As} {gcs : List D} {cl : Nat → List Sl → CR} {s : Option Sl} {l : Env} : evAs gcs cl (.cons a r) (s :: l) = consF (evA gcs cl a) (evAs gcs cl r) (s :: l) := by rw [evAs]
theorem eand_1 {t : Bool} {x : E} {gcs : List D} {cl : Nat → List Sl → CR} {s : Option Sl} {l : Env} : evAnd gcs cl t (.cons (.e x) .nil) (s :: l) = evE gcs cl t x (s :: l) := by rw [evAnd]
theorem eand_2 {t : Bool} {x : E} {b : A} {r : As} {gcs : List D} {cl : Nat → List Sl → CR} {s : Option Sl} {l : Env} : evAnd gcs cl t (.cons (.e x) (.cons b r)) (s :: l) = andF (evE gcs cl t x) (evAnd gcs cl t (.cons b r)) (s :: l) := by rw [evAnd]
theorem eor_1 {t : Bool} {x : E} {gcs : List D} {cl : Nat → List Sl → CR} {s : Option Sl} {l : Env} : evOr gcs cl t (.cons (.e x) .nil) (s :: l) = evE gcs cl t x (s :: l) := by rw [evOr]
theorem eor_2 {t : Bool} {x : E} {b : A} {r : As} {gcs : List D} {cl : Nat → List Sl → CR} {s : Option Sl} {l : Env} : evOr gcs cl t (.cons (.e x) (.cons b r)) (s :: l) = orF (evE gcs cl t x) (evOr gcs cl t (.cons b r)) (s :: l) := by rw [evOr]
theorem ei_nil {gcs : List D} {cl : Nat → List Sl → CR} {s : Option Sl} {l : Env} : evIfs gcs cl .nil (s :: l) = yesF (s :: l) := by rw [evIfs]
theorem ei_1 {x : E} {gcs : List D} {cl : Nat → List Sl → CR} {s : Option Sl} {l : Env} : evIfs gcs cl (.cons (.e x) .nil) (s :: l) = evE gcs cl true x (s :: l) := by rw [evIfs]
theorem ex_set {i : Nat} {e : E} {gcs : List D} {cl : Nat → List Sl → CR} {isa : Nat → Nat → Bool} {s : Option Sl} {l : Env} : exS gcs cl isa (.set i e) (s :: l) = setFs i (evE gcs cl false e) (s :: l) := by rw [exS]
theorem ex_tgt {ts : List Tt} {e : E} {gcs : List D} {cl : Nat → List Sl → CR} {isa : Nat → Nat → Bool} {s : Option Sl} {l : Env} : exS gcs cl isa (.tgt ts e) (s :: l) = subFs (evE gcs cl false e) (unpF ts.length (putTs gcs cl ts)) (s :: l) := by rw [exS]
theorem ex_par {i j : Nat} {a b : E} {gcs : List D} {cl : Nat → List Sl → CR} {isa : Nat → Nat → Bool} {s : Option Sl} {l : Env} : exS gcs cl isa (.par i j a b) (s :: l) = parFs i j (evE gcs cl false a) (evE gcs cl false b) (s :: l) := by rw [exS]
theorem ex_sub {o : Nat} {i e : E} {gcs : List D} {cl : Nat → List Sl → CR} {isa : Nat → Nat → Bool} {s : Option Sl} {l : Env} : exS gcs cl isa (.sub o i e) (s :: l) = subFs (evE gcs cl false e) (putT gcs cl (.sub o i)) (s :: l) := by rw [exS]
theorem ex_ex {e : E} {gcs : List D} {cl : Nat → List Sl → CR} {isa : Nat → Nat → Bool} {s : Option Sl} {l : Env} : exS gcs cl isa (.ex e) (s :: l) = dropFs (evE gcs cl false e) (s :: l) := by rw [exS]
theorem ex_ifs {t : E} {a b : Ss} {gcs : List D} {cl : Nat → List Sl → CR} {isa : Nat → Nat → Bool} {s : Option Sl} {l : Env} : exS gcs cl isa (.ifs t a b) (s :: l) = ifFs (evE gcs cl true t) (exSs gcs cl isa a) (exSs gcs cl isa b) (s :: l) := by rw [exS]
theorem ex_for_ {tg : Tg} {k : Ik} {as : As} {body : Ss} {gcs : List D} {cl : Nat → List Sl → CR} {isa : Nat → Nat → Bool} {s : Option Sl} {l : Env} : exS gcs cl isa (.for_ tg k as body) (s :: l) = forFs tg k (evAs gcs cl as) (exSs gcs cl isa body) (s :: l) := by rw [exS]
theorem ex_whl {n : Nat} {t : E} {body : Ss} {gcs : List D} {cl : Nat → List Sl → CR} {isa : Nat → Nat → Bool} {s : Option Sl} {l : Env} : exS gcs cl isa (.whl n t body) (s :: l) = whileLoop (evE gcs cl true t) (exSs gcs cl isa body) n (s :: l) := by rw [exS]
theorem ex_whw {n i : Nat} {e : E} {o : O2} {b : E} {body : Ss} {gcs : List D} {cl : Nat → List Sl → CR} {isa : Nat → Nat → Bool} {s : Option Sl} {l : Env} : exS gcs cl isa (.whw n i e o b body) (s :: l) = whileLoop (walF i (evE gcs cl false e) (sem2 o) (evE gcs cl false b)) (exSs gcs cl isa body) n (s :: l) := by rw [exS]
theorem ex_ret {e : E} {gcs : List D} {cl : Nat → List Sl → CR} {isa : Nat → Nat → Bool} {s : Option Sl} {l : Env} : exS gcs cl isa (.ret e) (s :: l) = retFs (evE gcs cl false e) (s :: l) := by rw [exS]
theorem ex_retN {gcs : List D} {cl : Nat → List Sl → CR} {isa : Nat → Nat → Bool} {s : Option Sl} {l : Env} : exS gcs cl isa (.retN) (s :: l) = .rt .non .sh (s :: l) := by rw [exS]
theorem ex_raise {c : Nat} {as : As} {gcs : List D} {cl : Nat → List Sl → CR} {isa : Nat → Nat → Bool} {s : Option Sl} {l : Env} : exS gcs cl isa (.raise c as) (s :: l) = raiseFs c (evAs gcs cl as) (s :: l) := by rw [exS]
theorem ex_raisex {c : Nat} {a : A} {gcs : List D} {cl : Nat → List Sl → CR} {isa : Nat → Nat → Bool} {s : Option Sl} {l : Env} : exS gcs cl isa (.raisex c a) (s :: l) = raisexFs c (evA gcs cl a) (s :: l) := by rw [exS]
theorem ex_try_ {body : Ss} {hs : Hs} {gcs : List D} {cl : Nat → List Sl → CR} {isa : Nat → Nat → Bool} {s : Option Sl} {l : Env} : exS gcs cl isa (.try_ body hs) (s :: l) = tryFs (exSs gcs cl isa body) (exHs gcs cl isa hs) (s :: l) := by rw [exS]
theorem ex_pass {gcs : List D} {cl : Nat → List Sl → CR} {isa : Nat → Nat → Bool} {s : Option Sl} {l : Env} : exS gcs cl isa (.pass) (s :: l) = .nx (s :: l) := by rw [exS]
theorem ex_brk {gcs : List D} {cl : Nat → List Sl → CR} {isa : Nat → Nat → Bool} {s : Option Sl} {l : Env} : exS gcs cl isa (.brk) (s :: l) = .bk (s :: l) := by rw [exS]
theorem ex_ctn {gcs : List D} {cl : Nat → List Sl → CR} {isa : Nat → Nat → Bool} {s : Option Sl} {l : Env} : exS gcs cl isa (.ctn) (s :: l) = .ct (s :: l) := by rw [exS]
theorem ex_doc {gcs : List D} {cl : Nat → List Sl → CR} {isa : Nat → Nat → Bool} {s : Option Sl} {l : Env} : exS gcs cl isa (.doc) (s :: l) = .nx (s :: l) := by rw [exS]
theorem xs_nil {gcs : List D} {cl : Nat → List Sl → CR} {isa : Nat → Nat → Bool} {s : Option Sl} {l : Env} : exSs gcs cl isa .nil (s :: l) = .nx (s :: l) := by rw [exSs]
theorem xs_cons {a : S} {r : Ss} {gcs : List D} {cl : Nat → List Sl → CR} {isa : Nat → Nat → Bool} {s : Option Sl} {l : Env} : exSs gcs cl isa (.cons a r) (s :: l) = seqFs (exS gcs cl isa a) (exSs gcs cl isa r) (s :: l) := by rw [exSs]
theorem xh_nil {e : Exn} {gcs : List D} {cl : Nat → List Sl → CR} {isa : Nat → Nat → Bool} {s : Option Sl} {l : Env} : exHs gcs cl isa .nil e (s :: l) = .ex e (s :: l) := by rw [exHs]
theorem xh_cons {c : Nat} {u : Ss} {r : Hs} {e : Exn} {gcs : List D} {cl : Nat → List Sl → CR} {isa : Nat → Nat → Bool} {s : Option Sl} {l : Env} : exHs gcs cl isa (.cons c u r) e (s :: l) = hdFs isa c (exSs gcs cl isa u) (exHs gcs cl isa r) e (s :: l) := by rw [exHs]
theorem xh_tup {c1 c2 c3 : Nat} {u : Ss} {e : Exn} {gcs : List D} {cl : Nat → List Sl → CR} {isa : Nat → Nat → Bool} {s : Option Sl} {l : Env} : exHs gcs cl isa (.tup c1 c2 c3 u) e (s :: l) = htFs isa c1 c2 c3 (exSs gcs cl isa u) e (s :: l) := by rw [exHs]
theorem gs_0 {x0 : Option Sl} {l : Env} : gS (x0 :: l) 0 = x0 := by cases x0 <;> rfl
theorem ss_0 {x0 : Option Sl} {l : Env} {v : Sl} : setS (x0 :: l) 0 v = if free x0 then some (some v :: l) else none := by rcases x0 with _ | ⟨_ | _ | _ | _, _⟩ <;> rfl
theorem ge_0 {x0 : Option Sl} {l : Env} : (x0 :: l)[0]? = some x0 := rfl
theorem st_0 {x0 : Option Sl} {l : Env} {v : Option Sl} : List.set (x0 :: l) 0 v = v :: l := rfl
theorem gs_1 {x0 x1 : Option Sl} {l : Env} : gS (x0 :: x1 :: l) 1 = x1 := by cases x1 <;> rfl
theorem ss_1 {x0 x1 : Option Sl} {l : Env} {v : Sl} : setS (x0 :: x1 :: l) 1 v = if free x1 then some (x0 :: some v :: l) else none := by rcases x1 with _ | ⟨_ | _ | _ | _, _⟩ <;> rfl
theorem ge_1 {x0 x1 : Option Sl} {l : Env} : (x0 :: x1 :: l)[1]? = some x1 := rfl
theorem st_1 {x0 x1 : Option Sl} {l : Env} {v : Option Sl} : List.set (x0 :: x1 :: l) 1 v = x0 :: v :: l := rfl
theorem gs_2 {x0 x1 x2 : Option Sl} {l : Env} : gS (x0 :: x1 :: x2 :: l) 2 = x2 := by cases x2 <;> rfl
theorem ss_2 {x0 x1 x2 : Option Sl} {l : Env} {v : Sl} : setS (x0 :: x1 :: x2 :: l) 2 v = if free x2 then some (x0 :: x1 :: some v :: l) else none := by rcases x2 with _ | ⟨_ | _ | _ | _, _⟩ <;> rfl
theorem ge_2 {x0 x1 x2 : Option Sl} {l : Env} : (x0 :: x1 :: x2 :: l)[2]? = some x2 := rfl
theorem st_2 {x0 x1 x2 : Option Sl} {l : Env} {v : Option Sl} : List.set (x0 :: x1 :: x2 :: l) 2 v = x0 :: x1 :: v :: l := rfl
theorem gs_3 {x0 x1 x2 x3 : Option Sl} {l : Env} : gS (x0 :: x1 :: x2 :: x3 :: l) 3 = x3 := by cases x3 <;> rfl
theorem ss_3 {x0 x1 x2 x3 : Option Sl} {l : Env} {v : Sl} : setS (x0 :: x1 :: x2 :: x3 :: l) 3 v = if free x3 then some (x0 :: x1 :: x2 :: some v :: l) else none := by rcases x3 with _ | ⟨_ | _ | _ | _, _⟩ <;> rfl
theorem ge_3 {x0 x1 x2 x3 : Option Sl} {l : Env} : (x0 :: x1 :: x2 :: x3 :: l)[3]? = some x3 := rfl
theorem st_3 {x0 x1 x2 x3 : Option Sl} {l : Env} {v : Option Sl} : List.set (x0 :: x1 :: x2 :: x3 :: l) 3 v = x0 :: x1 :: x2 :: v :: l := rfl
theorem gs_4 {x0 x1 x2 x3 x4 : Option Sl} {l : Env} : gS (x0 :: x1 :: x2 :: x3 :: x4 :: l) 4 = x4 := by cases x4 <;> rfl
theorem ss_4 {x0 x1 x2 x3 x4 : Option Sl} {l : Env} {v : Sl} : setS (x0 :: x1 :: x2 :: x3 :: x4 :: l) 4 v = if free x4 then some (x0 :: x1 :: x2 :: x3 :: some v :: l) else none := by rcases x4 with _ | ⟨_ | _ | _ | _, _⟩ <;> rfl
theorem ge_4 {x0 x1 x2 x3 x4 : Option Sl} {l : Env} : (x0 :: x1 :: x2 :: x3 :: x4 :: l)[4]? = some x4 := rfl
theorem st_4 {x0 x1 x2 x3 x4 : Option Sl} {l : Env} {v : Option Sl} : List.set (x0 :: x1 :: x2 :: x3 :: x4 :: l) 4 v = x0 :: x1 :: x2 :: x3 :: v :: l := rfl
theorem gs_5 {x0 x1 x2 x3 x4 x5 : Option Sl} {l : Env} : gS (x0 :: x1 :: x2 :: x3 :: x4 :: x5 :: l) 5 = x5 := by cases x5 <;> rfl
theorem ss_5 {x0 x1 x2 x3 x4 x5 : Option Sl} {l : Env} {v : Sl} : setS (x0 :: x1 :: x2 :: x3 :: x4 :: x5 :: l) 5 v = if free x5 then some (x0 :: x1 :: x2 :: x3 :: x4 :: some v :: l) else none := by rcases x5 with _ | ⟨_ | _ | _ | _, _⟩ <;> rfl
theorem ge_5 {x0 x1 x2 x3 x4 x5 : Option Sl} {l : Env} : (x0 :: x1 :: x2 :: x3 :: x4 :: x5 :: l)[5]? = some x5 := rfl
theorem st_5 {x0 x1 x2 x3 x4 x5 : Option Sl} {l : Env} {v : Option Sl} : List.set (x0 :: x1 :: x2 :: x3 :: x4 :: x5 :: l) 5 v = x0 :: x1 :: x2 :: x3 :: x4 :: v :: l := rfl
theorem gs_6 {x0 x1 x2 x3 x4 x5 x6 : Option Sl} {l : Env} : gS (x0 :: x1 :: x2 :: x3 :: x4 :: x5 :: x6 :: l) 6 = x6 := by cases x6 <;> rfl
theorem ss_6 {x0 x1 x2 x3 x4 x5 x6 : Option Sl} {l : Env} {v : Sl} : setS (x0 :: x1 :: x2 :: x3 :: x4 :: x5 :: x6 :: l) 6 v = if free x6 then some (x0 :: x1 :: x2 :: x3 :: x4 :: x5 :: some v :: l) else none := by rcases x6 with _ | ⟨_ | _ | _ | _, _⟩ <;> rfl
theorem ge_6 {x0 x1 x2 x3 x4 x5 x6 : Option Sl} {l : Env} : (x0 :: x1 :: x2 :: x3 :: x4 :: x5 :: x6 :: l)[6]? = some x6 := rfl
theorem st_6 {x0 x1 x2 x3 x4 x5 x6 : Option Sl} {l : Env} {v : Option Sl} : List.set (x0 :: x1 :: x2 :: x3 :: x4 :: x5 :: x6 :: l) 6 v = x0 :: x1 :: x2 :: x3 :: x4 :: x5 :: v :: l := rfl
theorem gs_7 {x0 x1 x2 x3 x4 x5 x6 x7 : Option Sl} {l : Env} : gS (x0 :: x1 :: x2 :: x3 :: x4 :: x5 :: x6 :: x7 :: l) 7 = x7 := by cases x7 <;> rfl
theorem ss_7 {x0 x1 x2 x3 x4 x5 x6 x7 : Option Sl} {l : Env} {v : Sl} : setS (x0 :: x1 :: x2 :: x3 :: x4 :: x5 :: x6 :: x7 :: l) 7 v = if free x7 then some (x0 :: x1 :: x2 :: x3 :: x4 :: x5 :: x6 :: some v :: l) else none := by rcases x7 with _ | ⟨_ | _ | _ | _, _⟩ <;> rfl
theorem ge_7 {x0 x1 x2 x3 x4 x5 x6 x7 : Option Sl} {l : Env} : (x0 :: x1 :: x2 :: x3 :: x4 :: x5 :: x6 :: x7 :: l)[7]? = some x7 := rfl
theorem st_7 {x0 x1 x2 x3 x4 x5 x6 x7 : Option Sl} {l : Env} {v : Option Sl} : List.set (x0 :: x1 :: x2 :: x3 :: x4 :: x5 :: x6 :: x7 :: l) 7 v = x0 :: x1 :: x2 :: x3 :: x4 :: x5 :: x6 :: v :: l := rfl
theorem gs_8 {x0 x1 x2 x3 x4 x5 x6 x7 x8 : Option Sl} {l : Env} : gS (x0 :: x1 :: x2 :: x3 :: x4 :: x5 :: x6 :: x7 :: x8 :: l) 8 = x8 := by cases x8 <;> rfl
theorem ss_8 {x0 x1 x2 x3 x4 x5 x6 x7 x8 : Option Sl} {l : Env} {v : Sl} : setS (x0 :: x1 :: x2 :: x3 :: x4 :: x5 :: x6 :: x7 :: x8 :: l) 8 v = if free x8 then some (x0 :: x1 :: x2 :: x3 :: x4 :: x5 :: x6 :: x7 :: some v :: l) else none := by rcases x8 with _ | ⟨_ | _ | _ | _, _⟩ <;> rfl
theorem ge_8 {x0 x1 x2 x3 x4 x5 x6 x7 x8 : Option Sl} {l : Env} : (x0 :: x1 :: x2 :: x3 :: x4 :: x5 :: x6 :: x7 :: x8 :: l)[8]? = some x8 := rfl
theorem st_8 {x0 x1 x2 x3 x4 x5 x6 x7 x8 : Option Sl} {l : Env} {v : Option Sl} : List.set (x0 :: x1 :: x2 :: x3 :: x4 :: x5 :: x6 :: x7 :: x8 :: l) 8 v = x0 :: x1 :: x2 :: x3 :: x4 :: x5 :: x6 :: x7 :: v :: l := rfl
theorem gs_9 {x0 x1 x2 x3 x4 x5 x6 x7 x8 x9 : Option Sl} {l : Env} : gS (x0 :: x1 :: x2 :: x3 :: x4 :: x5 :: x6 :: x7 :: x8 :: x9 :: l) 9 = x9 := by cases x9 <;> rfl
theorem ss_9 {x0 x1 x2 x3 x4 x5 x6 x7 x8 x9 : Option Sl} {l : Env} {v : Sl} : setS (x0 :: x1 :: x2 :: x3 :: x4 :: x5 :: x6 :: x7 :: x8 :: x9 :: l) 9 v = if free x9 then some (x0 :: x1 :: x2 :: x3 :: x4 :: x5 :: x6 :: x7 :: x8 :: some v :: l) else none := by rcases x9 with _ | ⟨_ | _ | _ | _, _⟩ <;> rfl
theorem ge_9 {x0 x1 x2 x3 x4 x5 x6 x7 x8 x9 : Option Sl} {l : Env} : (x0 :: x1 :: x2 :: x3 :: x4 :: x5 :: x6 :: x7 :: x8 :: x9 :: l)[9]? = some x9 := rfl
theorem st_9 {x0 x1 x2 x3 x4 x5 x6 x7 x8 x9 : Option Sl} {l : Env} {v : Option Sl} : List.set (x0 :: x1 :: x2 :: x3 :: x4 :: x5 :: x6 :: x7 :: x8 :: x9 :: l) 9 v = x0 :: x1 :: x2 :: x3 :: x4 :: x5 :: x6 :: x7 :: x8 :: v :: l := rfl
theorem gs_10 {x0 x1 x2 x3 x4 x5 x6 x7 x8 x9 x10 : Option Sl} {l : Env} : gS (x0 :: x1 :: x2 :: x3 :: x4 :: x5 :: x6 :: x7 :: x8 :: x9 :: x10 :: l) 10 = x10 := by cases x10 <;> rfl
theorem ss_10 {x0 x1 x2 x3 x4 x5 x6 x7 x8 x9 x10 : Option Sl} {l : Env} {v : Sl} : setS (x0 :: x1 :: x2 :: x3 :: x4 :: x5 :: x6 :: x7 :: x8 :: x9 :: x10 :: l) 10 v = if free x10 then some (x0 :: x1 :: x2 :: x3 :: x4 :: x5 :: x6 :: x7 :: x8 :: x9 :: some v :: l) else none := by rcases x10 with _ | ⟨_ | _ | _ | _, _⟩ <;> rfl
theorem ge_10 {x0 x1 x2 x3 x4 x5 x6 x7 x8 x9 x10 : Option Sl} {l : Env} : (x0 :: x1 :: x2 :: x3 :: x4 :: x5 :: x6 :: x7 :: x8 :: x9 :: x10 :: l)[10]? = some x10 := rfl
theorem st_10 {x0 x1 x2 x3 x4 x5 x6 x7 x8 x9 x10 : Option Sl} {l : Env} {v : Option Sl} : List.set (x0 :: x1 :: x2 :: x3 :: x4 :: x5 :: x6 :: x7 :: x8 :: x9 :: x10 :: l) 10 v = x0 :: x1 :: x2 :: x3 :: x4 :: x5 :: x6 :: x7 :: x8 :: x9 :: v :: l := rfl
theorem so_add  : sem2 .add = addD := rfl
theorem so_sub  : sem2 .sub = subD := rfl
theorem so_mul  : sem2 .mul = mulD := rfl
theorem so_fdiv  : sem2 .fdiv = fdivD := rfl
theorem so_mod  : sem2 .mod = modD := rfl
theorem so_pow  : sem2 .pow = powD := rfl
theorem so_eq  : sem2 .eq = eqD := rfl
theorem so_ne  : sem2 .ne = neD := rfl
theorem so_lt  : sem2 .lt = ltD := rfl
theorem so_le  : sem2 .le = cmpD fun i j => decide (i ≤ j) := rfl
theorem so_gt  : sem2 .gt = cmpD fun i j => decide (j < i) := rfl
theorem so_ge  : sem2 .ge = cmpD fun i j => decide (j ≤ i) := rfl
theorem so_in {a b : D} : sem2 .in_ a b = (inB a b).map fun k => (.bl k, .sh) := rfl
theorem so_nin {a b : D} : sem2 .nin a b = (inB a b).map fun k => (.bl (!k), .sh) := rfl
theorem so_is {a b : D} : sem2 .is_ a b = (isNoneB a b).map fun k => (.bl k, .sh) := rfl
theorem so_isn {a b : D} : sem2 .isn a b = (isNoneB a b).map fun k => (.bl (!k), .sh) := rfl
theorem d_add {i j : Int} : addD (.int i) (.int j) = some (.int (i + j), .sh) := rfl
theorem d_addt {x y : List D} : addD (.tup x) (.tup y) = if okLen (x.length + y.length) = true then some (.tup (x ++ y), .sh) else none := rfl
theorem d_addl {x y : List D} : addD (.lst x) (.lst y) = if okLen (x.length + y.length) = true then some (.lst (x ++ y), .fr) else none := rfl
theorem d_sub {i j : Int} : subD (.int i) (.int j) = some (.int (i - j), .sh) := rfl
theorem d_mul {i j : Int} : mulD (.int i) (.int j) = if mulOk i j = true then some (.int (i * j), .sh) else none := rfl
theorem d_mulT {x : List D} {k : Int} : mulD (.tup x) (.int k) = if (decide (-1000 ≤ k) && decide (k ≤ 1000) && decide (x.length ≤ 1000)) = true then some (.tup (List.replicate k.toNat x).flatten, .sh) else none := rfl
theorem d_mulL {x : List D} {k : Int} : mulD (.lst x) (.int k) = if fits63 k && okLen (x.length * k.toNat) = true then some (.lst (List.replicate k.toNat x).flatten, .fr) else none := rfl
theorem d_div {i j : Int} : fdivD (.int i) (.int j) = if divOk j = true then some (.int (i.fdiv j), .sh) else none := rfl
theorem d_mod {i j : Int} : modD (.int i) (.int j) = if j ≠ 0 then some (.int (i.fmod j), .sh) else none := rfl
theorem d_lt {i j : Int} : ltD (.int i) (.int j) = some (.bl (decide (i < j)), .sh) := rfl
theorem d_cmp {f : Int → Int → Bool} {i j : Int} : cmpD f (.int i) (.int j) = some (.bl (f i j), .sh) := rfl
theorem b_lent {d : List D} : semB .len [.tup d] = some (.int d.length, .sh) := rfl
theorem b_lenl {d : List D} : semB .len [.lst d] = some (.int d.length, .sh) := rfl
theorem b_lenf {d : List D} : semB .len [.fz d] = some (.int d.length, .sh) := rfl
theorem b_abs {i : Int} : semB .abs [.int i] = some (.int (if i < 0 then -i else i), .sh) := rfl
theorem b_int {i : Int} : semB .int [.int i] = some (.int i, .sh) := rfl
theorem b_intb {k : Bool} : semB .int [.bl k] = some (.int (if k then 1 else 0), .sh) := rfl
theorem b_listl {ds : List D} : semB .list [.lst ds] = some (.lst ds, .fr) := rfl
theorem b_listf {ds : List D} : semB .list [.fz ds] = some (.lst ds, .fr) := rfl
theorem b_listt {ds : List D} : semB .list [.tup ds] = some (.lst ds, .fr) := rfl
theorem b_tupl {ds : List D} : semB .tuple [.lst ds] = some (.tup ds, .sh) := rfl
theorem b_tupt {ds : List D} : semB .tuple [.tup ds] = some (.tup ds, .sh) := rfl
theorem b_max2 {i j : Int} : semB .max2 [.int i, .int j] = some (.int (if j > i then j else i), .sh) := rfl
theorem b_min2 {i j : Int} : semB .min2 [.int i, .int j] = some (.int (if j < i then j else i), .sh) := rfl
theorem b_all {ds : List D} : semB .all [.lst ds] = (blsD ds).map fun bs => (.bl (bs.all id), .sh) := rfl
theorem b_any {ds : List D} : semB .any [.lst ds] = (blsD ds).map fun bs => (.bl (bs.any id), .sh) := rfl
theorem b_isi {d : D} {T : String} : semB .isi [d, .ty T] = (tyO d).bind fun t => (L2.kitB t T).map fun b => (.bl b, .sh) := rfl
theorem b_dict {kvs : List (D × D)} : semB .dict [.dct kvs] = if kvs.all fun e => (keyD e.1).isSome then some (.dct kvs, .fr) else none := rfl
theorem b_listd {kvs : List (D × D)} : semB .list [.dct kvs] = if kvs.all fun e => (keyD e.1).isSome then some (.lst (kvs.map (·.1)), .fr) else none := rfl
theorem b_sorted {ds : List D} : semB .sorted [.lst ds] = (intsD ds).map fun ns => (.lst ((ns.mergeSort (fun a b => decide (a ≤ b))).map .int), .fr) := rfl
theorem b_min1 {ds : List D} : semB .min1 [.lst ds] = (intsD ds).bind fun ns => (minL ns).map fun m => (.int m, .sh) := rfl
theorem t_bl {b : Bool} : truthD (.bl b) = some b := rfl
theorem t_int {b : Int} : truthD (.int b) = some (b != 0) := rfl
theorem t_non  : truthD .non = some false := rfl
theorem t_lst {b : List D} : truthD (.lst b) = some (!b.isEmpty) := rfl
theorem t_tup {b : List D} : truthD (.tup b) = some (!b.isEmpty) := rfl
theorem l_tup {ds : List D} : lenD (.tup ds) = some ds.length := rfl
theorem l_lst {ds : List D} : lenD (.lst ds) = some ds.length := rfl
theorem l_fz {ds : List D} : lenD (.fz ds) = some ds.length := rfl
theorem m_app {ds : List D} {d : D} : semM .append (.lst ds) [d] = if okLen (ds.length + 1) = true then some (.lst (ds ++ [d]), .non) else none := rfl
theorem m_popat {ds : List D} {i : Int} : semM .popAt (.lst ds) [.int i] = if fits63 i = true then (L2.ixN ds.length i).bind fun k => (ds[k]?).map fun d => (.lst (ds.eraseIdx k), d) else none := rfl
theorem ol_0 {α : Type} : okLen (List.length ([] : List α)) = true := rfl
theorem ol_1 {α : Type} {a0 : α} : okLen (List.length [a0]) = true := rfl
theorem ol_2 {α : Type} {a0 a1 : α} : okLen (List.length [a0, a1]) = true := rfl
theorem ol_3 {α : Type} {a0 a1 a2 : α} : okLen (List.length [a0, a1, a2]) = true := rfl
theorem ol_4 {α : Type} {a0 a1 a2 a3 : α} : okLen (List.length [a0, a1, a2, a3]) = true := rfl
theorem ol_5 {α : Type} {a0 a1 a2 a3 a4 : α} : okLen (List.length [a0, a1, a2, a3, a4]) = true := rfl
theorem ol_6 {α : Type} {a0 a1 a2 a3 a4 a5 : α} : okLen (List.length [a0, a1, a2, a3, a4, a5]) = true := rfl
theorem ol_7 {α : Type} {a0 a1 a2 a3 a4 a5 a6 : α} : okLen (List.length [a0, a1, a2, a3, a4, a5, a6]) = true := rfl
theorem ol_8 {α : Type} {a0 a1 a2 a3 a4 a5 a6 a7 : α} : okLen (List.length [a0, a1, a2, a3, a4, a5, a6, a7]) = true := rfl
theorem ol_9 {α : Type} {a0 a1 a2 a3 a4 a5 a6 a7 a8 : α} : okLen (List.length [a0, a1, a2, a3, a4, a5, a6, a7, a8]) = true := rfl
theorem ol_10 {α : Type} {a0 a1 a2 a3 a4 a5 a6 a7 a8 a9 : α} : okLen (List.length [a0, a1, a2, a3, a4, a5, a6, a7, a8, a9]) = true := rfl
theorem nd_0  : nodupN [] = true := rfl
theorem nd_1 {a : Nat} : nodupN [a] = true := rfl
theorem nd_0_1  : nodupN [0, 1] = true := rfl
theorem nd_0_2  : nodupN [0, 2] = true := rfl
theorem nd_0_3  : nodupN [0, 3] = true := rfl
theorem nd_0_4  : nodupN [0, 4] = true := rfl
theorem nd_0_5  : nodupN [0, 5] = true := rfl
theorem nd_0_6  : nodupN [0, 6] = true := rfl
theorem nd_0_7  : nodupN [0, 7] = true := rfl
theorem nd_1_0  : nodupN [1, 0] = true := rfl
theorem nd_1_2  : nodupN [1, 2] = true := rfl
theorem nd_1_3  : nodupN [1, 3] = true := rfl
theorem nd_1_4  : nodupN [1, 4] = true := rfl
theorem nd_1_5  : nodupN [1, 5] = true := rfl
theorem nd_1_6  : nodupN [1, 6] = true := rfl
theorem nd_1_7  : nodupN [1, 7] = true := rfl
theorem nd_2_0  : nodupN [2, 0] = true := rfl
theorem nd_2_1  : nodupN [2, 1] = true := rfl
theorem nd_2_3  : nodupN [2, 3] = true := rfl
theorem nd_2_4  : nodupN [2, 4] = true := rfl
theorem nd_2_5  : nodupN [2, 5] = true := rfl
theorem nd_2_6  : nodupN [2, 6] = true := rfl
theorem nd_2_7  : nodupN [2, 7] = true := rfl
theorem nd_3_0  : nodupN [3, 0] = true := rfl
theorem nd_3_1  : nodupN [3, 1] = true := rfl
theorem nd_3_2  : nodupN [3, 2] = true := rfl
theorem nd_3_4  : nodupN [3, 4] = true := rfl
theorem nd_3_5  : nodupN [3, 5] = true := rfl
theorem nd_3_6  : nodupN [3, 6] = true := rfl
theorem nd_3_7  : nodupN [3, 7] = true := rfl
theorem nd_4_0  : nodupN [4, 0] = true := rfl
theorem nd_4_1  : nodupN [4, 1] = true := rfl
theorem nd_4_2  : nodupN [4, 2] = true := rfl
theorem nd_4_3  : nodupN [4, 3] = true := rfl
theorem nd_4_5  : nodupN [4, 5] = true := rfl
theorem nd_4_6  : nodupN [4, 6] = true := rfl
theorem nd_4_7  : nodupN [4, 7] = true := rfl
theorem nd_5_0  : nodupN [5, 0] = true := rfl
theorem nd_5_1  : nodupN [5, 1] = true := rfl
theorem nd_5_2  : nodupN [5, 2] = true := rfl
theorem nd_5_3  : nodupN [5, 3] = true := rfl
theorem nd_5_4  : nodupN [5, 4] = true := rfl
theorem nd_5_6  : nodupN [5, 6] = true := rfl
theorem nd_5_7  : nodupN [5, 7] = true := rfl
theorem nd_6_0  : nodupN [6, 0] = true := rfl
theorem nd_6_1  : nodupN [6, 1] = true := rfl
theorem nd_6_2  : nodupN [6, 2] = true := rfl
theorem nd_6_3  : nodupN [6, 3] = true := rfl
theorem nd_6_4  : nodupN [6, 4] = true := rfl
theorem nd_6_5  : nodupN [6, 5] = true := rfl
theorem nd_6_7  : nodupN [6, 7] = true := rfl
theorem nd_7_0  : nodupN [7, 0] = true := rfl
theorem nd_7_1  : nodupN [7, 1] = true := rfl
theorem nd_7_2  : nodupN [7, 2] = true := rfl
theorem nd_7_3  : nodupN [7, 3] = true := rfl
theorem nd_7_4  : nodupN [7, 4] = true := rfl
theorem nd_7_5  : nodupN [7, 5] = true := rfl
theorem nd_7_6  : nodupN [7, 6] = true := rfl
theorem kb_NoneType_int  : L2.kitB "NoneType" "int" = some false := rfl
theorem kb_NoneType_bool  : L2.kitB "NoneType" "bool" = some false := rfl
theorem kb_NoneType_tuple  : L2.kitB "NoneType" "tuple" = some false := rfl
theorem kb_NoneType_str  : L2.kitB "NoneType" "str" = some false := rfl
theorem kb_NoneType_list  : L2.kitB "NoneType" "list" = some false := rfl
theorem kb_NoneType_dict  : L2.kitB "NoneType" "dict" = some false := rfl
theorem kb_bool_int  : L2.kitB "bool" "int" = some true := rfl
theorem kb_bool_bool  : L2.kitB "bool" "bool" = some true := rfl
theorem kb_bool_tuple  : L2.kitB "bool" "tuple" = some false := rfl
theorem kb_bool_str  : L2.kitB "bool" "str" = some false := rfl
theorem kb_bool_list  : L2.kitB "bool" "list" = some false := rfl
theorem kb_bool_dict  : L2.kitB "bool" "dict" = some false := rfl
theorem kb_int_int  : L2.kitB "int" "int" = some true := rfl
theorem kb_int_bool  : L2.kitB "int" "bool" = some false := rfl
theorem kb_int_tuple  : L2.kitB "int" "tuple" = some false := rfl
theorem kb_int_str  : L2.kitB "int" "str" = some false := rfl
theorem kb_int_list  : L2.kitB "int" "list" = some false := rfl
theorem kb_int_dict  : L2.kitB "int" "dict" = some false := rfl
theorem kb_str_int  : L2.kitB "str" "int" = some false := rfl
theorem kb_str_bool  : L2.kitB "str" "bool" = some false := rfl
theorem kb_str_tuple  : L2.kitB "str" "tuple" = some false := rfl
theorem kb_str_str  : L2.kitB "str" "str" = some true := rfl
theorem kb_str_list  : L2.kitB "str" "list" = some false := rfl
theorem kb_str_dict  : L2.kitB "str" "dict" = some false := rfl
theorem kb_tuple_int  : L2.kitB "tuple" "int" = some false := rfl
theorem kb_tuple_bool  : L2.kitB "tuple" "bool" = some false := rfl
theorem kb_tuple_tuple  : L2.kitB "tuple" "tuple" = some true := rfl
theorem kb_tuple_str  : L2.kitB "tuple" "str" = some false := rfl
theorem kb_tuple_list  : L2.kitB "tuple" "list" = some false := rfl
theorem kb_tuple_dict  : L2.kitB "tuple" "dict" = some false := rfl
theorem kb_list_int  : L2.kitB "list" "int" = some false := rfl
theorem kb_list_bool  : L2.kitB "list" "bool" = some false := rfl
theorem kb_list_tuple  : L2.kitB "list" "tuple" = some false := rfl
theorem kb_list_str  : L2.kitB "list" "str" = some false := rfl
theorem kb_list_list  : L2.kitB "list" "list" = some true := rfl
theorem kb_list_dict  : L2.kitB "list" "dict" = some false := rfl
theorem kb_dict_int  : L2.kitB "dict" "int" = some false := rfl
theorem kb_dict_bool  : L2.kitB "dict" "bool" = some false := rfl
theorem kb_dict_tuple  : L2.kitB "dict" "tuple" = some false := rfl
theorem kb_dict_str  : L2.kitB "dict" "str" = some false := rfl
theorem kb_dict_list  : L2.kitB "dict" "list" = some false := rfl
theorem kb_dict_dict  : L2.kitB "dict" "dict" = some true := rfl
theorem okb {α β : Type} {a : α} {ρ : Env} {f : α → Env → R β} : (R.ok a ρ).bind f = f a ρ := rfl
theorem okt {α : Type} {a : α} {ρ : Env} {f : α → Env → SR} : (R.ok a ρ).thenS f = f a ρ := rfl
theorem exb {α β : Type} {e : Exn} {ρ : Env} {f : α → Env → R β} : (R.ex e ρ : R α).bind f = .ex e ρ := rfl
theorem ext_ {α : Type} {e : Exn} {ρ : Env} {f : α → Env → SR} : (R.ex e ρ : R α).thenS f = .ex e ρ := rfl
theorem sq_nx {ρ : Env} {f : Env → SR} : (SR.nx ρ).seq f = f ρ := rfl
theorem sq_rt {d : D} {m : Vm} {ρ : Env} {f : Env → SR} : (SR.rt d m ρ).seq f = .rt d m ρ := rfl
theorem sq_ex {e : Exn} {ρ : Env} {f : Env → SR} : (SR.ex e ρ).seq f = .ex e ρ := rfl
theorem ac_nx {as : List Sl} {ρ : Env} : asCall as (.nx ρ) = .ok .non .sh (outsOf as ρ) := rfl
theorem ac_rt {as : List Sl} {d : D} {m : Vm} {ρ : Env} : asCall as (.rt d m ρ) = .ok d m (outsOf as ρ) := rfl
theorem ac_ex {as : List Sl} {e : Exn} {ρ : Env} : asCall as (.ex e ρ) = .ex e (outsOf as ρ) := rfl
theorem fr_n : free none = true := rfl
theorem fr_s {d : D} : free (some ⟨.sh, d⟩) = true := rfl
theorem fr_o {d : D} : free (some ⟨.ow, d⟩) = true := rfl
theorem oo_n {ρ : Env} : outsOf [] ρ = [] := by cases ρ <;> rfl
theorem oo_s {d : D} {as : List Sl} {o : Option Sl} {ρ : Env} : outsOf (⟨.sh, d⟩ :: as) (o :: ρ) = none :: outsOf as ρ := rfl
theorem oo_i {d : D} {as : List Sl} {o : Option Sl} {ρ : Env} : outsOf (⟨.io, d⟩ :: as) (o :: ρ) = o :: outsOf as ρ := rfl
theorem oo_b {d : D} {as : List Sl} {o : Option Sl} {ρ : Env} : outsOf (⟨.bo, d⟩ :: as) (o :: ρ) = o :: outsOf as ρ := rfl
theorem le_2 {α β : Type} {a b : α} {c d : β} : (List.length [a, b] = List.length [c, d]) = True := by simp
theorem le_3 {α β : Type} {a b e : α} {c d f : β} : (List.length [a, b, e] = List.length [c, d, f]) = True := by simp
theorem it_rng1 {ρ : Env} {j : Nat} {m : Vm} (h : small (j : Int) = true) : itemsOf .rng1 [.val (.int (j : Int)) m] ρ = some ⟨rngD 0 j, [], ρ⟩ := by
  show (if small (j : Int) = true then some (⟨rngD 0 (j : Int).toNat, [], ρ⟩ : Its) else none) = _
  rw [if_pos h]; rfl
theorem it_rng1s {ρ : Env} {i j : Nat} (h : small (j : Int) = true) (g : gS ρ i = some ⟨.sh, .int (j : Int)⟩) : itemsOf .rng1 [.slot i] ρ = some ⟨rngD 0 j, [], ρ⟩ := by
  show (match (gS ρ i).map (·.d) with | some (.int j) => (if small j = true then some (⟨rngD 0 j.toNat, [], ρ⟩ : Its) else none) | _ => none) = _
  rw [g]
  dsimp only [Option.map]
  rw [if_pos h]; rfl
theorem it_val {a : Ar} {ρ : Env} : itemsOf .val [a] ρ = (srcOf a ρ).map fun x => ⟨x.ds, x.lk, x.ρ⟩ := rfl
theorem it_enum {a : Ar} {ρ : Env} : itemsOf .enum [a] ρ = (srcOf a ρ).bind fun x => some ⟨x.ds.zipIdx.map fun p => .tup [.int (p.2 : Int), p.1], x.lk, x.ρ⟩ := rfl
theorem it_zip {a b : Ar} {ρ : Env} : itemsOf .zip [a, b] ρ = (srcOf a ρ).bind fun x => (srcOf b x.ρ).bind fun y => if x.t = y.t then some ⟨(x.ds.zip y.ds).map fun p => .tup [p.1, p.2], y.lk ++ x.lk, y.ρ⟩ else none := rfl
theorem ow_nil {ρ : Env} : ownSh ρ [] = true := rfl
theorem ow_cons {ρ : Env} {i : Nat} {r : List Nat} : ownSh ρ (i :: r) = (shn (gS ρ i) && ownSh ρ r) := rfl
theorem sn_n : shn none = true := rfl
theorem sn_s {d : D} : shn (some ⟨.sh, d⟩) = true := rfl
end DI

set_option Elab.async false
set_option linter.all false
set_option maxRecDepth 100000
set_option maxHeartbeats 4000000
namespace DI
open PySem L2
/-! ## Rules for running -/
theorem run_at {P : Prog} {n f : Nat} {fd : Fd} {args : List Sl} (hf : P.fns[f]? = some fd) (hl : args.length = fd.np) :
    run P (n + 1) f args = asCall args (exSs P.gcs (run P n) P.isa fd.body (args.map some ++ List.replicate (fd.nv - fd.np) none)) := by
  rw [run, hf]; dsimp only; rw [if_pos hl]
/-- a comprehension's turn: what it yields, the frame behind -/
def lcTurn (own : List Nat) (tg : Tg) (tt te : Env → R (D × Vm)) (d : D) (ρ : Env) : Option (Option D × Env) :=
  match assignT ρ d tg with
  | none => none
  | some ρ1 => match tt ρ1 with
    | .ok v ρ2 => match v.1 with
      | .bl true => match te ρ2 with
        | .ok w ρ3 => if ownSh ρ3 own = true then some (some w.1, wipeE ρ3 own) else none
        | _ => none
      | .bl false => if ownSh ρ2 own = true then some (none, wipeE ρ2 own) else none
      | _ => none
    | _ => none
theorem lc_turn {own : List Nat} {tg : Tg} {tt te : Env → R (D × Vm)} {d : D} {ρ ρ' : Env} {w : Option D} {ds acc : List D} (h : lcTurn own tg tt te d ρ = some (w, ρ')) (hl : acc.length + 1 ≤ 16777216) :
    lcLoop own tg tt te (d :: ds) acc ρ = lcLoop own tg tt te ds (acc ++ w.toList) ρ' := by
  unfold lcTurn at h
  rw [lcLoop]
  split at h
  · cases h
  · rename_i ρ1 e1
    try rw [e1]
    try dsimp only
    split at h
    · rename_i v ρ2 e2
      try rw [e2]
      try dsimp only
      split at h
      · rename_i e3
        try rw [e3]
        try dsimp only
        split at h
        · rename_i w ρ3 e4
          try rw [e4]
          try dsimp only
          split at h
          · rename_i e5
            cases h
            try rw [e5]
            rw [show okLen (acc.length + 1) = true from decide_eq_true hl, if_pos (by rfl)]
            rfl
          · cases h
        · cases h
      · rename_i e3
        try rw [e3]
        try dsimp only
        split at h
        · rename_i e5
          cases h
          try rw [if_pos e5]
          simp
        · cases h
      · cases h
    · cases h
/-- a comprehension that leaves its frame as it was -/
theorem lc_fm {own : List Nat} {tg : Tg} {tt te : Env → R (D × Vm)} {ρ : Env} (g : D → Option D) : ∀ (ds acc : List D),
    (∀ d ∈ ds, lcTurn own tg tt te d ρ = some (g d, ρ)) → acc.length + ds.length ≤ 16777216 → lcLoop own tg tt te ds acc ρ = .ok (acc ++ ds.filterMap g) ρ
  | [], acc, _, _ => by rw [lcLoop, List.filterMap_nil, List.append_nil]
  | d :: ds, acc, h, hl => by
    simp only [List.length_cons] at hl
    rw [lc_turn (h d List.mem_cons_self) (by omega), lc_fm g ds _ (fun e he => h e (List.mem_cons_of_mem _ he)) (by cases g d <;> simp <;> omega), List.filterMap_cons]
    cases g d <;> simp
/-- .. every turn gives a value -/
theorem lc_map {own : List Nat} {tg : Tg} {tt te : Env → R (D × Vm)} {ρ : Env} (g : D → D) (ds : List D) (h : ∀ d ∈ ds, lcTurn own tg tt te d ρ = some (some (g d), ρ)) (hl : ds.length ≤ 16777216) : lcLoop own tg tt te ds [] ρ = .ok (ds.map g) ρ := by
  rw [lc_fm (fun d => some (g d)) ds [] h (by simpa using hl), List.nil_append]
  congr 1
  exact congrFun List.filterMap_eq_map' ds
/-- .. over values that are listed -/
theorem lc_map2 {α : Type} {own : List Nat} {tg : Tg} {tt te : Env → R (D × Vm)} {ρ : Env} {f : α → D} (g : α → D) (as : List α) (h : ∀ a ∈ as, lcTurn own tg tt te (f a) ρ = some (some (g a), ρ)) (hl : as.length ≤ 16777216) : ∀ (acc : List D), acc.length + as.length ≤ 16777216 → lcLoop own tg tt te (as.map f) acc ρ = .ok (acc ++ as.map g) ρ := by
  clear hl
  induction as with
  | nil => intro acc _; rw [List.map_nil, lcLoop, List.map_nil, List.append_nil]
  | cons a as ih =>
    intro acc hl
    simp only [List.length_cons] at hl
    rw [List.map_cons, lc_turn (h a List.mem_cons_self) (by omega), ih (fun e he => h e (List.mem_cons_of_mem _ he)) _ (by simp; omega)]
    simp
theorem lc_mp {α : Type} {own : List Nat} {tg : Tg} {tt te : Env → R (D × Vm)} {ρ : Env} {f : α → D} (g : α → D) (as : List α) (h : ∀ a ∈ as, lcTurn own tg tt te (f a) ρ = some (some (g a), ρ)) (hl : as.length ≤ 16777216) : lcLoop own tg tt te (as.map f) [] ρ = .ok (as.map g) ρ := by
  rw [lc_map2 g as h hl [] (by simpa using hl), List.nil_append]
/-- a filter -/
theorem lc_fl {α : Type} {own : List Nat} {tg : Tg} {tt te : Env → R (D × Vm)} {ρ : Env} {f : α → D} (p : α → Bool) (as : List α) (h : ∀ a ∈ as, lcTurn own tg tt te (f a) ρ = some (if p a = true then some (f a) else none, ρ)) : ∀ (acc : List D), acc.length + as.length ≤ 16777216 → lcLoop own tg tt te (as.map f) acc ρ = .ok (acc ++ (as.filter p).map f) ρ := by
  induction as with
  | nil => intro acc _; rw [List.map_nil, lcLoop]; simp
  | cons a as ih =>
    intro acc hl
    simp only [List.length_cons] at hl
    rw [List.map_cons, lc_turn (h a List.mem_cons_self) (by omega), ih (fun e he => h e (List.mem_cons_of_mem _ he)) _ (by split <;> simp <;> omega), List.filter_cons]
    cases p a <;> simp
theorem lc_flt {α : Type} {own : List Nat} {tg : Tg} {tt te : Env → R (D × Vm)} {ρ : Env} {f : α → D} (p : α → Bool) (as : List α) (h : ∀ a ∈ as, lcTurn own tg tt te (f a) ρ = some (if p a = true then some (f a) else none, ρ)) (hl : as.length ≤ 16777216) : lcLoop own tg tt te (as.map f) [] ρ = .ok ((as.filter p).map f) ρ := by
  rw [lc_fl p as h [] (by simpa using hl), List.nil_append]
/-- a comprehension by an invariant -/
theorem lc_inv {own : List Nat} {tg : Tg} {tt te : Env → R (D × Vm)} {I : List D → Env → Prop} : ∀ (ds acc : List D) (ρ : Env),
    (∀ d ∈ ds, ∀ acc ρ, I acc ρ → ∃ w ρ', lcTurn own tg tt te d ρ = some (some w, ρ') ∧ I (acc ++ [w]) ρ') → acc.length + ds.length ≤ 16777216 → I acc ρ →
    ∃ acc' ρ', lcLoop own tg tt te ds acc ρ = .ok acc' ρ' ∧ I acc' ρ' ∧ acc'.length = acc.length + ds.length
  | [], acc, ρ, _, _, i => ⟨acc, ρ, by rw [lcLoop], i, by simp⟩
  | d :: ds, acc, ρ, h, hl, i => by
    simp only [List.length_cons] at hl
    obtain ⟨w, ρ1, a1, a2⟩ := h d List.mem_cons_self acc ρ i
    obtain ⟨acc', ρ', b1, b2, b3⟩ := lc_inv ds (acc ++ [w]) ρ1 (fun e he => h e (List.mem_cons_of_mem _ he)) (by simp; omega) a2
    exact ⟨acc', ρ', by rw [lc_turn a1 (by omega)]; exact b1, b2, by rw [b3]; simp; omega⟩
def foTurn (tg : Tg) (body : Env → SR) (d : D) (ρ : Env) : SR := match assignT ρ d tg with | none => .no | some ρ1 => body ρ1
/-- a loop's turn: on, or out -/
theorem for_nx {tg : Tg} {body : Env → SR} {d : D} {ds : List D} {ρ ρ' : Env} (h : foTurn tg body d ρ = .nx ρ') : forLoop tg body (d :: ds) ρ = forLoop tg body ds ρ' := by
  unfold foTurn at h
  rw [forLoop]
  split at h
  · cases h
  · rename_i ρ1 e; (try rw [e]); (try dsimp only); rw [h]
theorem for_rt {tg : Tg} {body : Env → SR} {d e : D} {m : Vm} {ds : List D} {ρ ρ' : Env} (h : foTurn tg body d ρ = .rt e m ρ') : forLoop tg body (d :: ds) ρ = .rt e m ρ' := by
  unfold foTurn at h
  rw [forLoop]
  split at h
  · cases h
  · rename_i ρ1 e; (try rw [e]); (try dsimp only); rw [h]
/-- a for by an invariant over what is left; it does not end early -/
theorem for_inv {tg : Tg} {body : Env → SR} {I : List D → Env → Prop} (h : ∀ d r ρ, I (d :: r) ρ → ∃ ρ2, foTurn tg body d ρ = .nx ρ2 ∧ I r ρ2) : ∀ (ds : List D) (ρ : Env), I ds ρ → ∃ ρ', forLoop tg body ds ρ = .nx ρ' ∧ I [] ρ'
  | [], ρ, i => ⟨ρ, by rw [forLoop], i⟩
  | d :: ds, ρ, i => by
    obtain ⟨ρ2, a, i2⟩ := h d ds ρ i
    obtain ⟨ρ', b, c⟩ := for_inv h ds ρ2 i2
    exact ⟨ρ', by rw [for_nx a]; exact b, c⟩
theorem wh_go {test : Env → R (D × Vm)} {body : Env → SR} {n : Nat} {ρ ρ1 ρ2 : Env} (h : test ρ = .ok (.bl true, .sh) ρ1) (h2 : body ρ1 = .nx ρ2) : whileLoop test body (n + 1) ρ = whileLoop test body n ρ2 := by
  rw [whileLoop, h]; dsimp only [R.thenS]; rw [h2]
theorem wh_rt {test : Env → R (D × Vm)} {body : Env → SR} {n : Nat} {ρ ρ1 ρ2 : Env} {d : D} {m : Vm} (h : test ρ = .ok (.bl true, .sh) ρ1) (h2 : body ρ1 = .rt d m ρ2) : whileLoop test body (n + 1) ρ = .rt d m ρ2 := by
  rw [whileLoop, h]; dsimp only [R.thenS]; rw [h2]
theorem wh_end {test : Env → R (D × Vm)} {body : Env → SR} {n : Nat} {ρ ρ1 : Env} (h : test ρ = .ok (.bl false, .sh) ρ1) : whileLoop test body (n + 1) ρ = .nx ρ1 := by
  rw [whileLoop, h]; dsimp only [R.thenS]
end DI

set_option Elab.async false
set_option linter.all false
set_option maxRecDepth 100000
set_option maxHeartbeats 4000000
namespace K00
open PySem DI
def FUEL : Nat := 2 ^ 40000
def top (i : Nat) : Stmt := PySem.Challenge.pw_dealtrows_k00_errors_and_what_they_keep.main.body.getD i (.Pass ⟨0, 0, 0, 0⟩)
/-- 0: _law_dice (0 _law_script, 1 _law_spot, 2 _law_cell, 3 _law_whole) -/
def b0 : Ss := 
  (.cons (.set 2 (.ife (.op2 .lt (.s 1) (.e (.bi .len (.cons (.s 0) .nil)))) (.sub (.s 0) (.s 1)) (.op2 .add (.e (.op2 .mul (.e (.int 31)) (.s 1))) (.e (.int 9))))) 
  (.cons (.set 3 (.op2 .mod (.e (.bi .int (.cons (.e (.bi .abs (.cons (.s 2) .nil))) .nil))) (.e (.op2 .pow (.e (.op2 .pow (.e (.int 10)) (.e (.int 58)))) (.e (.int 10)))))) 
  (.cons (.ret (.lst (.cons (.e (.ife (.op2 .ge (.s 3) (.e (.op2 .pow (.e (.int 10)) (.e (.int 18))))) (.var 3) (.int 0))) (.cons (.e (.op2 .add (.e (.op2 .add (.e (.op2 .add (.e (.op2 .mul (.e (.int 2)) (.s 3))) (.e (.bi .int (.cons (.e (.op2 .lt (.s 2) (.e (.int 0)))) .nil))))) (.e (.op2 .mul (.e (.int 65537)) (.s 1))))) (.e (.int 1)))) (.cons (.e (.int 0)) .nil))))) .nil)))
def f0 : Fd := ⟨2, 4, b0⟩
/-- 1: _law_roll (0 _law_dice_here, 1 _law_upto, 2 _law_one, 3 _law_two, 4 _law_found) -/
def b1 : Ss := 
  (.cons (.ifs (.op2 .gt (.e (.sub (.s 0) (.e (.int 0)))) (.e (.int 0))) 
   (.cons (.set 4 (.op2 .mod (.e (.bi .int (.cons (.e (.sub (.s 0) (.e (.int 0)))) .nil))) (.s 1))) 
   (.cons (.sub 0 (.int 0) (.op2 .fdiv (.e (.sub (.s 0) (.e (.int 0)))) (.s 1))) 
   (.cons (.ret (.mov 4)) .nil))) .nil) 
  (.cons (.sub 0 (.int 2) (.op2 .add (.e (.sub (.s 0) (.e (.int 2)))) (.e (.int 1)))) 
  (.cons (.set 2 (.op2 .mod (.e (.bi .int (.cons (.e (.op2 .add (.e (.op2 .mul (.e (.sub (.s 0) (.e (.int 1)))) (.e (.int 25214903917)))) (.e (.op2 .mul (.e (.sub (.s 0) (.e (.int 2)))) (.e (.int 48271)))))) .nil))) (.e (.int 2305843009213693951)))) 
  (.cons (.set 3 (.op2 .mod (.e (.bi .int (.cons (.e (.op2 .add (.e (.op2 .mul (.s 2) (.s 2))) (.e (.op2 .mul (.e (.sub (.s 0) (.e (.int 2)))) (.e (.int 69621)))))) .nil))) (.e (.int 1152921504606846883)))) 
  (.cons (.ret (.op2 .mod (.e (.bi .int (.cons (.e (.op2 .fdiv (.e (.op2 .mod (.e (.bi .int (.cons (.e (.op2 .add (.e (.op2 .mul (.s 3) (.s 3))) (.s 2))) .nil))) (.e (.int 4398046511093)))) (.e (.int 128)))) .nil))) (.s 1))) .nil)))))
def f1 : Fd := ⟨2, 5, b1⟩
/-- 2: _law_pick (0 _law_dice_here, 1 _law_items) -/
def b2 : Ss := 
  (.cons (.ret (.sub (.s 1) (.e (.call 1 (.cons (.io 0) (.cons (.e (.bi .len (.cons (.s 1) .nil))) .nil)) [])))) .nil)
def f2 : Fd := ⟨2, 2, b2⟩
/-- 3: _law_told (0 _law_at, 1 _law_text) -/
def b3 : Ss := 
  (.cons (.ifs (.op2 .eq (.s 0) (.e (.int 0))) 
   (.cons (.ret (.mk 1 (.s 1))) .nil) .nil) 
  (.cons (.ifs (.op2 .eq (.s 0) (.e (.int 1))) 
   (.cons (.ret (.mk 2 (.s 1))) .nil) .nil) 
  (.cons (.ifs (.op2 .eq (.s 0) (.e (.int 2))) 
   (.cons (.ret (.mk 3 (.s 1))) .nil) .nil) 
  (.cons (.ifs (.op2 .eq (.s 0) (.e (.int 3))) 
   (.cons (.ret (.mk 4 (.s 1))) .nil) .nil) 
  (.cons (.ifs (.op2 .eq (.s 0) (.e (.int 4))) 
   (.cons (.ret (.mk 5 (.s 1))) .nil) .nil) 
  (.cons (.ifs (.op2 .eq (.s 0) (.e (.int 5))) 
   (.cons (.ret (.mk 6 (.s 1))) .nil) .nil) 
  (.cons (.ifs (.op2 .eq (.s 0) (.e (.int 6))) 
   (.cons (.ret (.mk 7 (.s 1))) .nil) .nil) 
  (.cons (.ifs (.op2 .eq (.s 0) (.e (.int 7))) 
   (.cons (.ret (.mk 8 (.s 1))) .nil) .nil) 
  (.cons (.ifs (.op2 .eq (.s 0) (.e (.int 8))) 
   (.cons (.ret (.mk 9 (.s 1))) .nil) .nil) 
  (.cons (.ret (.ife (.op2 .eq (.s 0) (.e (.int 9))) (.mk 10 (.s 1)) (.mk 0 (.s 1)))) .nil))))))))))
def f3 : Fd := ⟨2, 2, b3⟩
/-- 4: _law_keeper (0 _law_at, 1 _law_kept_here) -/
def b4 : Ss := 
  (.cons (.ifs (.op2 .eq (.s 0) (.e (.int 0))) 
   (.cons (.ret (.mkx 11 "line" (.e (.var 1)))) .nil) .nil) 
  (.cons (.ifs (.op2 .eq (.s 0) (.e (.int 1))) 
   (.cons (.ret (.mkx 12 "constraint" (.e (.var 1)))) .nil) .nil) 
  (.cons (.ifs (.op2 .eq (.s 0) (.e (.int 2))) 
   (.cons (.ret (.mkx 13 "reason" (.e (.var 1)))) .nil) .nil) 
  (.cons (.ifs (.op2 .eq (.s 0) (.e (.int 3))) 
   (.cons (.ret (.mkx 14 "name" (.e (.var 1)))) .nil) .nil) 
  (.cons (.ifs (.op2 .eq (.s 0) (.e (.int 4))) 
   (.cons (.ret (.mkx 15 "row" (.e (.var 1)))) .nil) .nil) 
  (.cons (.ifs (.op2 .eq (.s 0) (.e (.int 5))) 
   (.cons (.ret (.mkx 16 "many" (.e (.var 1)))) .nil) .nil) 
  (.cons (.ifs (.op2 .eq (.s 0) (.e (.int 6))) 
   (.cons (.ret (.mkx 17 "limit" (.e (.var 1)))) .nil) .nil) 
  (.cons (.ret (.ife (.op2 .eq (.s 0) (.e (.int 7))) (.mkx 18 "value" (.e (.var 1))) (.mkx 19 "value" (.e (.var 1))))) .nil))))))))
def f4 : Fd := ⟨2, 2, b4⟩
/-- 5: _law_kept (0 _law_at, 1 _law_found) -/
def b5 : Ss := 
  (.cons (.ifs (.op2 .eq (.s 0) (.e (.int 0))) 
   (.cons (.ret (.fld [11] "line" (.s 1))) .nil) .nil) 
  (.cons (.ifs (.op2 .eq (.s 0) (.e (.int 1))) 
   (.cons (.ret (.fld [12] "constraint" (.s 1))) .nil) .nil) 
  (.cons (.ifs (.op2 .eq (.s 0) (.e (.int 2))) 
   (.cons (.ret (.fld [13] "reason" (.s 1))) .nil) .nil) 
  (.cons (.ifs (.op2 .eq (.s 0) (.e (.int 3))) 
   (.cons (.ret (.fld [14] "name" (.s 1))) .nil) .nil) 
  (.cons (.ifs (.op2 .eq (.s 0) (.e (.int 4))) 
   (.cons (.ret (.fld [15] "row" (.s 1))) .nil) .nil) 
  (.cons (.ifs (.op2 .eq (.s 0) (.e (.int 5))) 
   (.cons (.ret (.fld [16] "many" (.s 1))) .nil) .nil) 
  (.cons (.ret (.ife (.op2 .eq (.s 0) (.e (.int 6))) (.fld [17] "limit" (.s 1)) (.fld [18, 19] "value" (.s 1)))) .nil)))))))
def f5 : Fd := ⟨2, 2, b5⟩
/-- 6: _law_kinds (0 _law_found, 1 _law_told_here) -/
def b6 : Ss := 
  (.cons (.set 1 (.lst (.cons (.e (.isx 2 [1] (.s 0))) (.cons (.e (.isx 1 [2] (.s 0))) (.cons (.e (.isx 0 [3] (.s 0))) .nil))))) 
  (.cons (.set 1 (.op2 .add (.s 1) (.e (.lst (.cons (.e (.isx 5 [4] (.s 0))) (.cons (.e (.isx 4 [5] (.s 0))) (.cons (.e (.isx 3 [6] (.s 0))) .nil))))))) 
  (.cons (.set 1 (.op2 .add (.s 1) (.e (.lst (.cons (.e (.isx 8 [7] (.s 0))) (.cons (.e (.isx 7 [8] (.s 0))) (.cons (.e (.isx 6 [9] (.s 0))) .nil))))))) 
  (.cons (.set 1 (.op2 .add (.s 1) (.e (.lst (.cons (.e (.isx 10 [10] (.s 0))) (.cons (.e (.isx 9 [11] (.s 0))) .nil)))))) 
  (.cons (.set 1 (.op2 .add (.s 1) (.e (.lst (.cons (.e (.isx 13 [12] (.s 0))) (.cons (.e (.isx 12 [13] (.s 0))) (.cons (.e (.isx 11 [14] (.s 0))) .nil))))))) 
  (.cons (.set 1 (.op2 .add (.s 1) (.e (.lst (.cons (.e (.isx 16 [15] (.s 0))) (.cons (.e (.isx 15 [16] (.s 0))) (.cons (.e (.isx 14 [17] (.s 0))) .nil))))))) 
  (.cons (.ret (.op2 .add (.s 1) (.e (.lst (.cons (.e (.isx 19 [18] (.s 0))) (.cons (.e (.isx 18 [19] (.s 0))) (.cons (.e (.isx 17 [0, 1, 2, 3, 4, 5, 6, 7, 8, 9, 10, 11, 12, 13] (.s 0))) .nil))))))) .nil)))))))
def f6 : Fd := ⟨1, 2, b6⟩
/-- 7: _law_python (0 _law_found, 1 _law_told_here) -/
def b7 : Ss := 
  (.cons (.set 1 (.lst (.cons (.e (.isx 22 [0, 1, 2, 3, 4, 5, 6, 7, 8, 9, 10, 11, 12, 13] (.s 0))) (.cons (.e (.isx 21 [14] (.s 0))) (.cons (.e (.isx 20 [16] (.s 0))) .nil))))) 
  (.cons (.set 1 (.op2 .add (.s 1) (.e (.lst (.cons (.e (.isx 24 [14, 15, 16] (.s 0))) (.cons (.e (.isx 23 [19] (.s 0))) .nil)))))) 
  (.cons (.set 1 (.op2 .add (.s 1) (.e (.lst (.cons (.e (.isx 26 [17] (.s 0))) (.cons (.e (.isx 25 [17, 19] (.s 0))) .nil)))))) 
  (.cons (.ret (.op2 .add (.s 1) (.e (.lst (.cons (.e (.isx 27 [18] (.s 0))) .nil))))) .nil))))
def f7 : Fd := ⟨1, 2, b7⟩
/-- 8: _law_truths (0 _law_places, 1 _law_length, 2 _law_at) -/
def b8 : Ss := 
  (.cons (.ret (.lc [("_law_at", 2)] (.nm 2) .rng1 (.cons (.s 1) .nil) .nil (.op2 .in_ (.s 2) (.s 0)))) .nil)
def f8 : Fd := ⟨2, 3, b8⟩
/-- 9: _law_raise (0 _law_at, 1 _law_kept_here) -/
def b9 : Ss := 
  (.cons (.ifs (.op2 .eq (.s 0) (.e (.int 0))) 
   (.cons (.raisex 11 (.s 1)) .nil) .nil) 
  (.cons (.ifs (.op2 .eq (.s 0) (.e (.int 1))) 
   (.cons (.raisex 12 (.s 1)) .nil) .nil) 
  (.cons (.ifs (.op2 .eq (.s 0) (.e (.int 2))) 
   (.cons (.raisex 13 (.s 1)) .nil) .nil) 
  (.cons (.ifs (.op2 .eq (.s 0) (.e (.int 3))) 
   (.cons (.raisex 14 (.s 1)) .nil) .nil) 
  (.cons (.ifs (.op2 .eq (.s 0) (.e (.int 4))) 
   (.cons (.raisex 15 (.s 1)) .nil) .nil) 
  (.cons (.ifs (.op2 .eq (.s 0) (.e (.int 5))) 
   (.cons (.raisex 16 (.s 1)) .nil) .nil) 
  (.cons (.ifs (.op2 .eq (.s 0) (.e (.int 6))) 
   (.cons (.raisex 17 (.s 1)) .nil) .nil) 
  (.cons (.ifs (.op2 .eq (.s 0) (.e (.int 7))) 
   (.cons (.raisex 18 (.s 1)) .nil) .nil) 
  (.cons (.raisex 19 (.s 1)) .nil)))))))))
def f9 : Fd := ⟨2, 2, b9⟩
/-- 10: _law_caught (0 _law_at, 1 _law_kept_here) -/
def b10 : Ss := 
  (.cons (.try_ 
   (.cons (.ex (.call 9 (.cons (.s 0) (.cons (.s 1) .nil)) [])) .nil) (.cons 6 
   (.cons (.ret (.str "deal")) .nil) (.cons 5 
   (.cons (.ret (.str "key")) .nil) (.cons 4 
   (.cons (.ret (.str "zero")) .nil) (.cons 3 
   (.cons (.ret (.str "row")) .nil) (.tup 0 1 2 
   (.cons (.ret (.str "other")) .nil))))))) 
  (.cons (.ret (.str "none")) .nil))
def f10 : Fd := ⟨2, 2, b10⟩
/-- 11: _law_word (0 _law_dice_here, 1 _law_signs, 2 _law_turn) -/
def b11 : Ss := 
  (.cons (.set 1 (.str "abcdefghijklmnopqrstuvwxyzABCDEFGHIJKLMNOPQRSTUVWXYZ 0123456789.,:;-_()[]")) 
  (.cons (.ret (.join "" (.e (.lc [("_law_turn", 2)] (.nm 2) .rng1 (.cons (.e (.call 1 (.cons (.io 0) (.cons (.e (.int 13)) .nil)) [])) .nil) .nil (.call 2 (.cons (.io 0) (.cons (.s 1) .nil)) []))))) .nil))
def f11 : Fd := ⟨1, 3, b11⟩
/-- 12: _law_value (0 _law_dice_here, 1 _law_number, 2 _law_some) -/
def b12 : Ss := 
  (.cons (.set 1 (.op2 .add (.e (.call 2 (.cons (.io 0) (.cons (.e (.lst (.cons (.e (.int 0)) (.cons (.e (.int 1)) (.cons (.e (.int 100)) (.cons (.e (.int 2000)) (.cons (.e (.neg (.e (.int 1)))) (.cons (.e (.op2 .pow (.e (.int 10)) (.e (.int 59)))) .nil)))))))) .nil)) [])) (.e (.call 1 (.cons (.io 0) (.cons (.e (.int 5)) .nil)) [])))) 
  (.cons (.set 2 (.lst (.cons (.e .non) (.cons (.e (.var 1)) (.cons (.e (.call 11 (.cons (.io 0) .nil) [])) (.cons (.e (.tup (.cons (.e (.var 1)) .nil))) (.cons (.e (.tup (.cons (.e (.str "key")) (.cons (.e (.call 11 (.cons (.io 0) .nil) [])) (.cons (.e (.tup (.cons (.e (.str "code")) .nil))) .nil))))) (.cons (.e (.tup (.cons (.e (.str "reference")) (.cons (.e (.str "oc")) .nil)))) .nil)))))))) 
  (.cons (.ret (.call 2 (.cons (.io 0) (.cons (.e (.op2 .add (.s 2) (.e (.lst (.cons (.e (.bl true)) (.cons (.e (.bl false)) (.cons (.e (.tup .nil)) (.cons (.e (.tup (.cons (.e (.int 1)) (.cons (.e (.var 1)) .nil)))) (.cons (.e (.lst (.cons (.e (.var 1)) .nil))) (.cons (.e (.dct (.cons (.e (.str "a")) (.cons (.e (.var 1)) .nil)))) .nil)))))))))) .nil)) [])) .nil)))
def f12 : Fd := ⟨1, 3, b12⟩
/-- 13: _law_messages_right (0 _law_dice_here, 1 _law_at, 2 _law_found) -/
def b13 : Ss := 
  (.cons (.for_ (.nm 1) .rng1 (.cons (.e (.int 11)) .nil) 
   (.cons (.set 2 (.call 3 (.cons (.s 1) (.cons (.e (.call 11 (.cons (.io 0) .nil) [])) .nil)) [])) 
   (.cons (.ifs (.op2 .ne (.e (.call 6 (.cons (.s 2) .nil) [])) (.e (.call 8 (.cons (.e (.ife (.op2 .lt (.s 1) (.e (.int 10))) (.tup (.cons (.e (.var 1)) (.cons (.e (.int 19)) .nil))) (.tup (.cons (.e (.int 19)) .nil)))) (.cons (.e (.int 20)) .nil)) []))) 
    (.cons (.ret (.bl false)) .nil) .nil) 
   (.cons (.ifs (.op2 .ne (.e (.call 7 (.cons (.s 2) .nil) [])) (.e (.call 8 (.cons (.e (.tup (.cons (.e (.int 0)) .nil))) (.cons (.e (.int 8)) .nil)) []))) 
    (.cons (.ret (.bl false)) .nil) .nil) .nil)))) 
  (.cons (.ret (.bl true)) .nil))
def f13 : Fd := ⟨1, 3, b13⟩
/-- 14: _law_keepers_right (0 _law_dice_here, 1 _law_python_here, 2 _law_words, 3 _law_at, 4 _law_found, 5 _law_other, 6 _law_kept_here, 7 _law_later) -/
def b14 : Ss := 
  (.cons (.set 1 (.lst (.cons (.e (.tup (.cons (.e (.int 0)) .nil))) (.cons (.e (.tup (.cons (.e (.int 0)) .nil))) (.cons (.e (.tup (.cons (.e (.int 0)) .nil))) (.cons (.e (.tup (.cons (.e (.int 1)) (.cons (.e (.int 3)) .nil)))) (.cons (.e (.tup (.cons (.e (.int 3)) .nil))) (.cons (.e (.tup (.cons (.e (.int 2)) (.cons (.e (.int 3)) .nil)))) (.cons (.e (.tup (.cons (.e (.int 5)) (.cons (.e (.int 6)) .nil)))) (.cons (.e (.tup (.cons (.e (.int 7)) .nil))) (.cons (.e (.tup (.cons (.e (.int 4)) (.cons (.e (.int 6)) .nil)))) .nil))))))))))) 
  (.cons (.set 2 (.lst (.cons (.e (.str "deal")) (.cons (.e (.str "deal")) (.cons (.e (.str "deal")) (.cons (.e (.str "key")) (.cons (.e (.str "row")) (.cons (.e (.str "other")) (.cons (.e (.str "other")) (.cons (.e (.str "other")) (.cons (.e (.str "zero")) .nil))))))))))) 
  (.cons (.for_ (.nm 3) .rng1 (.cons (.e (.int 9)) .nil) 
   (.cons (.par 6 7 (.call 12 (.cons (.io 0) .nil) []) (.call 12 (.cons (.io 0) .nil) [])) 
   (.cons (.set 4 (.call 4 (.cons (.s 3) (.cons (.s 6) .nil)) [])) 
   (.cons (.set 5 (.call 4 (.cons (.s 3) (.cons (.s 7) .nil)) [])) 
   (.cons (.ifs (.or (.cons (.e (.op2 .ne (.e (.bi .repr (.cons (.e (.call 5 (.cons (.s 3) (.cons (.s 4) .nil)) [])) .nil))) (.e (.bi .repr (.cons (.s 6) .nil))))) (.cons (.e (.op2 .ne (.e (.bi .repr (.cons (.e (.call 5 (.cons (.s 3) (.cons (.s 5) .nil)) [])) .nil))) (.e (.bi .repr (.cons (.s 7) .nil))))) .nil))) 
    (.cons (.ret (.bl false)) .nil) .nil) 
   (.cons (.ifs (.op2 .ne (.e (.call 6 (.cons (.s 4) .nil) [])) (.e (.call 8 (.cons (.e (.ife (.op2 .lt (.s 3) (.e (.int 3))) (.tup (.cons (.e (.op2 .add (.e (.int 10)) (.s 3))) (.cons (.e (.int 19)) .nil))) (.tup (.cons (.e (.op2 .add (.e (.int 10)) (.s 3))) .nil)))) (.cons (.e (.int 20)) .nil)) []))) 
    (.cons (.ret (.bl false)) .nil) .nil) 
   (.cons (.ifs (.or (.cons (.e (.op2 .ne (.e (.call 7 (.cons (.s 4) .nil) [])) (.e (.call 8 (.cons (.e (.sub (.s 1) (.s 3))) (.cons (.e (.int 8)) .nil)) [])))) (.cons (.e (.op2 .ne (.e (.call 10 (.cons (.s 3) (.cons (.s 6) .nil)) [])) (.e (.sub (.s 2) (.s 3))))) .nil))) 
    (.cons (.ret (.bl false)) .nil) .nil) .nil))))))) 
  (.cons (.ret (.bl true)) .nil))))
def f14 : Fd := ⟨1, 8, b14⟩
/-- 15: law (0 _law_script, 1 _law_spot, 2 _law_dice_here) -/
def b15 : Ss := 
  (.cons (.for_ (.nm 1) .rng1 (.cons (.e (.bi .max2 (.cons (.e (.int 1)) (.cons (.e (.bi .min2 (.cons (.e (.int 8)) (.cons (.e (.bi .len (.cons (.s 0) .nil))) .nil)))) .nil)))) .nil) 
   (.cons (.set 2 (.call 0 (.cons (.s 0) (.cons (.s 1) .nil)) [])) 
   (.cons (.ifs (.or (.cons (.e (.not (.call 13 (.cons (.io 2) .nil) []))) (.cons (.e (.not (.call 14 (.cons (.io 2) .nil) []))) .nil))) 
    (.cons (.ret (.bl false)) .nil) .nil) .nil))) 
  (.cons (.ret (.bl true)) .nil))
def f15 : Fd := ⟨1, 3, b15⟩
def T : Tb := ⟨["_law_dice", "_law_roll", "_law_pick", "_law_told", "_law_keeper", "_law_kept", "_law_kinds", "_law_python", "_law_truths", "_law_raise", "_law_caught", "_law_word", "_law_value", "_law_messages_right", "_law_keepers_right", "law"], [], ["DealError", "InvalidSchema", "InvalidDatabase", "InvalidClause", "InvalidQuery", "InvalidRule", "InvalidPlacement", "InvalidCase", "InvalidRow", "InvalidAnswer", "InvalidOperation"], ["NothingToUndo", "TooMany", "InvalidNumber", "MissingRow", "ZeroDivisionError", "KeyError", "DealError"], ["abs", "int", "isinstance", "len", "max", "min", "range", "repr", "super"], [(11, "ParseError", "line"), (12, "BrokenConstraint", "constraint"), (13, "Rejected", "reason"), (14, "UnknownName", "name"), (15, "MissingRow", "row"), (16, "NothingToUndo", "many"), (17, "TooMany", "limit"), (18, "InvalidNumber", "value"), (19, "NoNodes", "value")], [("InvalidClause", [3]), ("InvalidDatabase", [2]), ("InvalidSchema", [1]), ("InvalidPlacement", [6]), ("InvalidRule", [5]), ("InvalidQuery", [4]), ("InvalidAnswer", [9]), ("InvalidRow", [8]), ("InvalidCase", [7]), ("ParseError", [11]), ("InvalidOperation", [10]), ("UnknownName", [14]), ("Rejected", [13]), ("BrokenConstraint", [12]), ("TooMany", [17]), ("NothingToUndo", [16]), ("MissingRow", [15]), ("DealError", [0, 1, 2, 3, 4, 5, 6, 7, 8, 9, 10, 11, 12, 13]), ("NoNodes", [19]), ("InvalidNumber", [18]), ("IndexError", [16]), ("KeyError", [14]), ("ValueError", [0, 1, 2, 3, 4, 5, 6, 7, 8, 9, 10, 11, 12, 13]), ("ZeroDivisionError", [19]), ("LookupError", [14, 15, 16]), ("ArithmeticError", [17, 19]), ("OverflowError", [17]), ("RuntimeError", [18])]⟩
def isaT (c h : Nat) : Bool := match c, h with | 0, 0 => false | 0, 1 => false | 0, 2 => false | 0, 3 => false | 0, 4 => false | 0, 5 => false | 0, 6 => true | 1, 0 => false | 1, 1 => false | 1, 2 => false | 1, 3 => false | 1, 4 => false | 1, 5 => false | 1, 6 => true | 2, 0 => false | 2, 1 => false | 2, 2 => false | 2, 3 => false | 2, 4 => false | 2, 5 => false | 2, 6 => true | 3, 0 => false | 3, 1 => false | 3, 2 => false | 3, 3 => false | 3, 4 => false | 3, 5 => false | 3, 6 => true | 4, 0 => false | 4, 1 => false | 4, 2 => false | 4, 3 => false | 4, 4 => false | 4, 5 => false | 4, 6 => true | 5, 0 => false | 5, 1 => false | 5, 2 => false | 5, 3 => false | 5, 4 => false | 5, 5 => false | 5, 6 => true | 6, 0 => false | 6, 1 => false | 6, 2 => false | 6, 3 => false | 6, 4 => false | 6, 5 => false | 6, 6 => true | 7, 0 => false | 7, 1 => false | 7, 2 => false | 7, 3 => false | 7, 4 => false | 7, 5 => false | 7, 6 => true | 8, 0 => false | 8, 1 => false | 8, 2 => false | 8, 3 => false | 8, 4 => false | 8, 5 => false | 8, 6 => true | 9, 0 => false | 9, 1 => false | 9, 2 => false | 9, 3 => false | 9, 4 => false | 9, 5 => false | 9, 6 => true | 10, 0 => false | 10, 1 => false | 10, 2 => false | 10, 3 => false | 10, 4 => false | 10, 5 => false | 10, 6 => true | 11, 0 => false | 11, 1 => false | 11, 2 => false | 11, 3 => false | 11, 4 => false | 11, 5 => false | 11, 6 => true | 12, 0 => false | 12, 1 => false | 12, 2 => false | 12, 3 => false | 12, 4 => false | 12, 5 => false | 12, 6 => true | 13, 0 => false | 13, 1 => false | 13, 2 => false | 13, 3 => false | 13, 4 => false | 13, 5 => false | 13, 6 => true | 14, 0 => false | 14, 1 => false | 14, 2 => false | 14, 3 => false | 14, 4 => false | 14, 5 => true | 14, 6 => false | 15, 0 => false | 15, 1 => false | 15, 2 => false | 15, 3 => true | 15, 4 => false | 15, 5 => false | 15, 6 => false | 16, 0 => true | 16, 1 => false | 16, 2 => false | 16, 3 => false | 16, 4 => false | 16, 5 => false | 16, 6 => false | 17, 0 => false | 17, 1 => true | 17, 2 => false | 17, 3 => false | 17, 4 => false | 17, 5 => false | 17, 6 => false | 18, 0 => false | 18, 1 => false | 18, 2 => true | 18, 3 => false | 18, 4 => false | 18, 5 => false | 18, 6 => false | 19, 0 => false | 19, 1 => false | 19, 2 => false | 19, 3 => false | 19, 4 => true | 19, 5 => false | 19, 6 => false | _, _ => false
def Pg : Prog := ⟨[], isaT, [f0, f1, f2, f3, f4, f5, f6, f7, f8, f9, f10, f11, f12, f13, f14, f15]⟩
theorem c0 : defC T f0 ["_law_script", "_law_spot", "_law_cell", "_law_whole"] ["_law_script", "_law_spot"] (top 22) = true := by decide +kernel
theorem p0 : PlainB "_law_dice" (top 22) ["_law_script", "_law_spot"] := fun _ _ _ _ _ _ us hl => match us, hl with | [_, _], _ => rfl
theorem c1 : defC T f1 ["_law_dice_here", "_law_upto", "_law_one", "_law_two", "_law_found"] ["_law_dice_here", "_law_upto"] (top 23) = true := by decide +kernel
theorem p1 : PlainB "_law_roll" (top 23) ["_law_dice_here", "_law_upto"] := fun _ _ _ _ _ _ us hl => match us, hl with | [_, _], _ => rfl
theorem c2 : defC T f2 ["_law_dice_here", "_law_items"] ["_law_dice_here", "_law_items"] (top 24) = true := by decide +kernel
theorem p2 : PlainB "_law_pick" (top 24) ["_law_dice_here", "_law_items"] := fun _ _ _ _ _ _ us hl => match us, hl with | [_, _], _ => rfl
theorem c3 : defC T f3 ["_law_at", "_law_text"] ["_law_at", "_law_text"] (top 25) = true := by decide +kernel
theorem p3 : PlainB "_law_told" (top 25) ["_law_at", "_law_text"] := fun _ _ _ _ _ _ us hl => match us, hl with | [_, _], _ => rfl
theorem c4 : defC T f4 ["_law_at", "_law_kept_here"] ["_law_at", "_law_kept_here"] (top 26) = true := by decide +kernel
theorem p4 : PlainB "_law_keeper" (top 26) ["_law_at", "_law_kept_here"] := fun _ _ _ _ _ _ us hl => match us, hl with | [_, _], _ => rfl
theorem c5 : defC T f5 ["_law_at", "_law_found"] ["_law_at", "_law_found"] (top 27) = true := by decide +kernel
theorem p5 : PlainB "_law_kept" (top 27) ["_law_at", "_law_found"] := fun _ _ _ _ _ _ us hl => match us, hl with | [_, _], _ => rfl
theorem c6 : defC T f6 ["_law_found", "_law_told_here"] ["_law_found"] (top 28) = true := by decide +kernel
theorem p6 : PlainB "_law_kinds" (top 28) ["_law_found"] := fun _ _ _ _ _ _ us hl => match us, hl with | [_], _ => rfl
theorem c7 : defC T f7 ["_law_found", "_law_told_here"] ["_law_found"] (top 29) = true := by decide +kernel
theorem p7 : PlainB "_law_python" (top 29) ["_law_found"] := fun _ _ _ _ _ _ us hl => match us, hl with | [_], _ => rfl
theorem c8 : defC T f8 ["_law_places", "_law_length", "_law_at"] ["_law_places", "_law_length"] (top 30) = true := by decide +kernel
theorem p8 : PlainB "_law_truths" (top 30) ["_law_places", "_law_length"] := fun _ _ _ _ _ _ us hl => match us, hl with | [_, _], _ => rfl
theorem c9 : defC T f9 ["_law_at", "_law_kept_here"] ["_law_at", "_law_kept_here"] (top 31) = true := by decide +kernel
theorem p9 : PlainB "_law_raise" (top 31) ["_law_at", "_law_kept_here"] := fun _ _ _ _ _ _ us hl => match us, hl with | [_, _], _ => rfl
theorem c10 : defC T f10 ["_law_at", "_law_kept_here"] ["_law_at", "_law_kept_here"] (top 32) = true := by decide +kernel
theorem p10 : PlainB "_law_caught" (top 32) ["_law_at", "_law_kept_here"] := fun _ _ _ _ _ _ us hl => match us, hl with | [_, _], _ => rfl
theorem c11 : defC T f11 ["_law_dice_here", "_law_signs", "_law_turn"] ["_law_dice_here"] (top 33) = true := by decide +kernel
theorem p11 : PlainB "_law_word" (top 33) ["_law_dice_here"] := fun _ _ _ _ _ _ us hl => match us, hl with | [_], _ => rfl
theorem c12 : defC T f12 ["_law_dice_here", "_law_number", "_law_some"] ["_law_dice_here"] (top 34) = true := by decide +kernel
theorem p12 : PlainB "_law_value" (top 34) ["_law_dice_here"] := fun _ _ _ _ _ _ us hl => match us, hl with | [_], _ => rfl
theorem c13 : defC T f13 ["_law_dice_here", "_law_at", "_law_found"] ["_law_dice_here"] (top 35) = true := by decide +kernel
theorem p13 : PlainB "_law_messages_right" (top 35) ["_law_dice_here"] := fun _ _ _ _ _ _ us hl => match us, hl with | [_], _ => rfl
theorem c14 : defC T f14 ["_law_dice_here", "_law_python_here", "_law_words", "_law_at", "_law_found", "_law_other", "_law_kept_here", "_law_later"] ["_law_dice_here"] (top 36) = true := by decide +kernel
theorem p14 : PlainB "_law_keepers_right" (top 36) ["_law_dice_here"] := fun _ _ _ _ _ _ us hl => match us, hl with | [_], _ => rfl
theorem c15 : defC T f15 ["_law_script", "_law_spot", "_law_dice_here"] ["_law_script"] (top 37) = true := by decide +kernel
theorem p15 : PlainB "law" (top 37) ["_law_script"] := fun _ _ _ _ _ _ us hl => match us, hl with | [_], _ => rfl
end K00

set_option Elab.async false
set_option linter.all false
set_option maxRecDepth 100000
set_option maxHeartbeats 4000000
namespace K00
open PySem DI
abbrev shS (d : D) : Option Sl := some ⟨.sh, d⟩
theorem r0 {n : Nat} {a0 a1 : Sl} : run Pg (n + 1) 0 [a0, a1] = asCall [a0, a1] (exSs Pg.gcs (run Pg n) Pg.isa b0 [some a0, some a1, none, none]) := by rw [run_at (fd := f0) rfl rfl]; rfl
theorem r1 {n : Nat} {a0 a1 : Sl} : run Pg (n + 1) 1 [a0, a1] = asCall [a0, a1] (exSs Pg.gcs (run Pg n) Pg.isa b1 [some a0, some a1, none, none, none]) := by rw [run_at (fd := f1) rfl rfl]; rfl
theorem r2 {n : Nat} {a0 a1 : Sl} : run Pg (n + 1) 2 [a0, a1] = asCall [a0, a1] (exSs Pg.gcs (run Pg n) Pg.isa b2 [some a0, some a1]) := by rw [run_at (fd := f2) rfl rfl]; rfl
theorem r3 {n : Nat} {a0 a1 : Sl} : run Pg (n + 1) 3 [a0, a1] = asCall [a0, a1] (exSs Pg.gcs (run Pg n) Pg.isa b3 [some a0, some a1]) := by rw [run_at (fd := f3) rfl rfl]; rfl
theorem r4 {n : Nat} {a0 a1 : Sl} : run Pg (n + 1) 4 [a0, a1] = asCall [a0, a1] (exSs Pg.gcs (run Pg n) Pg.isa b4 [some a0, some a1]) := by rw [run_at (fd := f4) rfl rfl]; rfl
theorem r5 {n : Nat} {a0 a1 : Sl} : run Pg (n + 1) 5 [a0, a1] = asCall [a0, a1] (exSs Pg.gcs (run Pg n) Pg.isa b5 [some a0, some a1]) := by rw [run_at (fd := f5) rfl rfl]; rfl
theorem r6 {n : Nat} {a0 : Sl} : run Pg (n + 1) 6 [a0] = asCall [a0] (exSs Pg.gcs (run Pg n) Pg.isa b6 [some a0, none]) := by rw [run_at (fd := f6) rfl rfl]; rfl
theorem r7 {n : Nat} {a0 : Sl} : run Pg (n + 1) 7 [a0] = asCall [a0] (exSs Pg.gcs (run Pg n) Pg.isa b7 [some a0, none]) := by rw [run_at (fd := f7) rfl rfl]; rfl
theorem r8 {n : Nat} {a0 a1 : Sl} : run Pg (n + 1) 8 [a0, a1] = asCall [a0, a1] (exSs Pg.gcs (run Pg n) Pg.isa b8 [some a0, some a1, none]) := by rw [run_at (fd := f8) rfl rfl]; rfl
theorem r9 {n : Nat} {a0 a1 : Sl} : run Pg (n + 1) 9 [a0, a1] = asCall [a0, a1] (exSs Pg.gcs (run Pg n) Pg.isa b9 [some a0, some a1]) := by rw [run_at (fd := f9) rfl rfl]; rfl
theorem r10 {n : Nat} {a0 a1 : Sl} : run Pg (n + 1) 10 [a0, a1] = asCall [a0, a1] (exSs Pg.gcs (run Pg n) Pg.isa b10 [some a0, some a1]) := by rw [run_at (fd := f10) rfl rfl]; rfl
theorem r11 {n : Nat} {a0 : Sl} : run Pg (n + 1) 11 [a0] = asCall [a0] (exSs Pg.gcs (run Pg n) Pg.isa b11 [some a0, none, none]) := by rw [run_at (fd := f11) rfl rfl]; rfl
theorem r12 {n : Nat} {a0 : Sl} : run Pg (n + 1) 12 [a0] = asCall [a0] (exSs Pg.gcs (run Pg n) Pg.isa b12 [some a0, none, none]) := by rw [run_at (fd := f12) rfl rfl]; rfl
theorem r13 {n : Nat} {a0 : Sl} : run Pg (n + 1) 13 [a0] = asCall [a0] (exSs Pg.gcs (run Pg n) Pg.isa b13 [some a0, none, none]) := by rw [run_at (fd := f13) rfl rfl]; rfl
theorem r14 {n : Nat} {a0 : Sl} : run Pg (n + 1) 14 [a0] = asCall [a0] (exSs Pg.gcs (run Pg n) Pg.isa b14 [some a0, none, none, none, none, none, none, none]) := by rw [run_at (fd := f14) rfl rfl]; rfl
theorem r15 {n : Nat} {a0 : Sl} : run Pg (n + 1) 15 [a0] = asCall [a0] (exSs Pg.gcs (run Pg n) Pg.isa b15 [some a0, none, none]) := by rw [run_at (fd := f15) rfl rfl]; rfl
/-! ## Numbers -/
theorem mulOk_of {i j : Int} {a b : Nat} (h : i.natAbs ≤ 2 ^ a) (h' : j.natAbs ≤ 2 ^ b) (l : a + b < 1000000) : mulOk i j = true := by
  have lg : ∀ {i : Int} {a : Nat}, i.natAbs ≤ 2 ^ a → i.natAbs.log2 ≤ a := fun {i a} h => by
    by_cases z : i.natAbs = 0
    · rw [z]; simp
    · exact Nat.le_of_lt_succ ((Nat.log2_lt z).mpr (Nat.lt_of_le_of_lt h (Nat.pow_lt_pow_right (by omega) (by omega))))
  have h1 := lg h
  have h2 := lg h'
  exact decide_eq_true (by omega)
theorem divOk_of {j : Int} {b : Nat} (h0 : j ≠ 0) (h : j.natAbs ≤ 2 ^ b) (l : b < 9000) : divOk j = true := by
  have h1 : j.natAbs.log2 ≤ b := Nat.le_of_lt_succ ((Nat.log2_lt (by omega)).mpr (Nat.lt_of_le_of_lt h (Nat.pow_lt_pow_right (by omega) (by omega))))
  unfold divOk
  rw [Bool.and_eq_true]
  exact ⟨decide_eq_true h0, decide_eq_true (by omega)⟩
theorem fmod_lt {a b : Int} (hb : 0 < b) : 0 ≤ a.fmod b ∧ a.fmod b < b := by
  rw [Int.fmod_eq_emod_of_nonneg _ (by omega)]
  exact ⟨Int.emod_nonneg _ (by omega), Int.emod_lt_of_pos _ hb⟩
theorem small_nat {n : Nat} (h : n ≤ 1000000) : small (n : Int) = true := by
  unfold small
  refine decide_eq_true ?_
  by_cases z : n = 0
  · subst z; decide
  · exact (Nat.log2_lt (by omega)).mpr (by show n < 2 ^ 62; omega)
/-! ## Drawing -/
def Reel (k : Nat) (d : D) : Prop := ∃ a b c : Int, d = .lst [.int a, .int b, .int c] ∧ b.natAbs ≤ 2 ^ 2100 ∧ 0 ≤ c ∧ c ≤ k
theorem Reel.up {k l : Nat} {d : D} (R : Reel k d) (h : k ≤ l) : Reel l d := by
  obtain ⟨a, b, c, e, h1, h2, h3⟩ := R
  exact ⟨a, b, c, e, h1, h2, by omega⟩
theorem ix0 (a b c : Int) : ixD (.lst [.int a, .int b, .int c]) (.int 0) = some (.int a) := rfl
theorem ix1 (a b c : Int) : ixD (.lst [.int a, .int b, .int c]) (.int 1) = some (.int b) := rfl
theorem ix2 (a b c : Int) : ixD (.lst [.int a, .int b, .int c]) (.int 2) = some (.int c) := rfl
theorem su0 (a b c : Int) (x : D) : setSub (.lst [.int a, .int b, .int c]) (.int 0) x = some (.lst [x, .int b, .int c]) := rfl
theorem su2 (a b c : Int) (x : D) : setSub (.lst [.int a, .int b, .int c]) (.int 2) x = some (.lst [.int a, .int b, x]) := rfl
theorem roll_ok {n k : Nat} {d : D} {t : Int} (R : Reel k d) (hk : k ≤ 2 ^ 40) (h1 : 1 ≤ t) (ht : t ≤ 2 ^ 40) :
    ∃ v d', run Pg (n + 1) 1 [⟨.io, d⟩, ⟨.sh, .int t⟩] = .ok (.int v) .sh [some ⟨.io, d'⟩, none] ∧ 0 ≤ v ∧ v < t ∧ Reel (k + 1) d' := by
  obtain ⟨a, b, c, rfl, hb, hc0, hck⟩ := R
  have hd : divOk t = true := divOk_of (b := 40) (by omega) (by omega) (by omega)
  by_cases q : 0 < a
  · refine ⟨a.fmod t, .lst [.int (a.fdiv t), .int b, .int c], ?_, (fmod_lt (by omega)).1, (fmod_lt (by omega)).2, _, _, _, rfl, hb, hc0, by omega⟩
    simp only [r1, b1, ev_int, ev_str, ev_bl, ev_non, ev_bty, ev_gc, ev_mov, ev_tup, ev_lst, ev_dct, ev_odc, ev_op2, ev_ch, ev_neg, ev_and, ev_or, ev_ife, ev_sub, ev_sl, ev_bi, ev_call, ev_mth, ev_pm, ev_lc, ev_mk, ev_mkx, ev_fld, ev_isx, ev_join, ev_var, ev_varT, ev_notT, ev_notF, ea_e, ea_s, ea_io, es_nil, es_cons, eand_1, eand_2, eor_1, eor_2, ei_nil, ei_1, ex_set, ex_tgt, ex_par, ex_sub, ex_ex, ex_ifs, ex_for_, ex_whl, ex_whw, ex_ret, ex_retN, ex_raise, ex_raisex, ex_try_, ex_pass, ex_brk, ex_ctn, ex_doc, xs_nil, xs_cons, xh_nil, xh_cons, xh_tup, gs_0, ss_0, ge_0, st_0, gs_1, ss_1, ge_1, st_1, gs_2, ss_2, ge_2, st_2, gs_3, ss_3, ge_3, st_3, gs_4, ss_4, ge_4, st_4, gs_5, ss_5, ge_5, st_5, gs_6, ss_6, ge_6, st_6, gs_7, ss_7, ge_7, st_7, gs_8, ss_8, ge_8, st_8, gs_9, ss_9, ge_9, st_9, gs_10, ss_10, ge_10, st_10, so_add, so_sub, so_mul, so_fdiv, so_mod, so_pow, so_eq, so_ne, so_lt, so_le, so_gt, so_ge, so_in, so_nin, so_is, so_isn, d_add, d_addt, d_addl, d_sub, d_mul, d_div, d_mod, d_lt, d_cmp, b_lent, b_lenl, b_lenf, b_abs, b_int, b_intb, b_listl, b_listf, b_listt, b_tupl, b_tupt, b_max2, b_min2, b_all, b_any, b_isi, b_dict, b_listd, b_sorted, b_min1, t_bl, t_int, t_non, t_lst, t_tup, l_tup, l_lst, l_fz, m_app, m_popat, ol_0, ol_1, ol_2, ol_3, ol_4, ol_5, ol_6, ol_7, ol_8, ol_9, ol_10, nd_0, nd_1, nd_0_1, nd_0_2, nd_0_3, nd_0_4, nd_0_5, nd_0_6, nd_0_7, nd_1_0, nd_1_2, nd_1_3, nd_1_4, nd_1_5, nd_1_6, nd_1_7, nd_2_0, nd_2_1, nd_2_3, nd_2_4, nd_2_5, nd_2_6, nd_2_7, nd_3_0, nd_3_1, nd_3_2, nd_3_4, nd_3_5, nd_3_6, nd_3_7, nd_4_0, nd_4_1, nd_4_2, nd_4_3, nd_4_5, nd_4_6, nd_4_7, nd_5_0, nd_5_1, nd_5_2, nd_5_3, nd_5_4, nd_5_6, nd_5_7, nd_6_0, nd_6_1, nd_6_2, nd_6_3, nd_6_4, nd_6_5, nd_6_7, nd_7_0, nd_7_1, nd_7_2, nd_7_3, nd_7_4, nd_7_5, nd_7_6, kb_NoneType_int, kb_NoneType_bool, kb_NoneType_tuple, kb_NoneType_str, kb_NoneType_list, kb_NoneType_dict, kb_bool_int, kb_bool_bool, kb_bool_tuple, kb_bool_str, kb_bool_list, kb_bool_dict, kb_int_int, kb_int_bool, kb_int_tuple, kb_int_str, kb_int_list, kb_int_dict, kb_str_int, kb_str_bool, kb_str_tuple, kb_str_str, kb_str_list, kb_str_dict, kb_tuple_int, kb_tuple_bool, kb_tuple_tuple, kb_tuple_str, kb_tuple_list, kb_tuple_dict, kb_list_int, kb_list_bool, kb_list_tuple, kb_list_str, kb_list_list, kb_list_dict, kb_dict_int, kb_dict_bool, kb_dict_tuple, kb_dict_str, kb_dict_list, kb_dict_dict, it_val, it_enum, it_zip, ow_nil, ow_cons, sn_n, sn_s, le_2, le_3, okb, okt, exb, ext_, sq_nx, sq_rt, sq_ex, ac_nx, ac_rt, ac_ex, fr_n, fr_s, fr_o, oo_n, oo_s, oo_i, oo_b, fin, argF, consF, slotF, ioF, tupF, lstF, dctF, twoF, oneF, chainF, notF, ifF, andF, orF, slF, biF, callG, mthF, pmF, lcF, yesF, varT, readVar, moveVar, setFs, parFs, subFs, dropFs, ifFs, forFs, retFs, raiseFs, raisexFs, mkF, mkxF, htFs, tryFs, hdFs, seqFs, walF, subF, nmF, unpF, putT, putTs, onBl, Ar.get, gets, valsOf, ofRes, mkSl, callF, ioArg, ioArgs, hold1, holds, back, assignT, assignT.assignN, wipeE, putBack, unlock, SR.calm, SR.onEnv, srcOf, seqD, ixR, Option.bind_some, Option.map_some, Option.bind_none, Option.map_none, List.map_cons, List.map_nil, List.cons_append, List.nil_append, if_true, if_false, reduceIte, Bool.false_eq_true, Bool.true_and, Bool.and_true, Option.isSome_some, List.contains_nil, Bool.not_false, Bool.not_true, tyO, tyD, neD, eqD, isNoneB, isLst, ix0, q, decide_true, show (t ≠ 0) from by omega, ne_eq, not_false_eq_true, hd, su0, show ¬ (t = 0) from by omega]
  · have m1 : mulOk b 25214903917 = true := mulOk_of hb (b := 40) (by decide) (by omega)
    have m4 : mulOk (c + 1) 48271 = true := mulOk_of (a := 41) (b := 20) (by omega) (by decide) (by omega)
    have hone := fmod_lt (a := b * 25214903917 + (c + 1) * 48271) (b := 2305843009213693951) (by omega)
    generalize ho : (b * 25214903917 + (c + 1) * 48271).fmod 2305843009213693951 = one at *
    have m2 : mulOk one one = true := mulOk_of (a := 62) (b := 62) (by omega) (by omega) (by omega)
    have m5 : mulOk (c + 1) 69621 = true := mulOk_of (a := 41) (b := 20) (by omega) (by decide) (by omega)
    have htwo := fmod_lt (a := one * one + (c + 1) * 69621) (b := 1152921504606846883) (by omega)
    generalize h2 : (one * one + (c + 1) * 69621).fmod 1152921504606846883 = two at *
    have m3 : mulOk two two = true := mulOk_of (a := 62) (b := 62) (by omega) (by omega) (by omega)
    have hd128 : divOk 128 = true := rfl
    have z1 : ¬ ((2305843009213693951 : Int) = 0) := by decide
    have z2 : ¬ ((1152921504606846883 : Int) = 0) := by decide
    have z3 : ¬ ((4398046511093 : Int) = 0) := by decide
    refine ⟨(((two * two + one).fmod 4398046511093).fdiv 128).fmod t, .lst [.int a, .int b, .int (c + 1)], ?_, (fmod_lt (by omega)).1, (fmod_lt (by omega)).2, _, _, _, rfl, hb, by omega, by omega⟩
    simp only [r1, b1, ev_int, ev_str, ev_bl, ev_non, ev_bty, ev_gc, ev_mov, ev_tup, ev_lst, ev_dct, ev_odc, ev_op2, ev_ch, ev_neg, ev_and, ev_or, ev_ife, ev_sub, ev_sl, ev_bi, ev_call, ev_mth, ev_pm, ev_lc, ev_mk, ev_mkx, ev_fld, ev_isx, ev_join, ev_var, ev_varT, ev_notT, ev_notF, ea_e, ea_s, ea_io, es_nil, es_cons, eand_1, eand_2, eor_1, eor_2, ei_nil, ei_1, ex_set, ex_tgt, ex_par, ex_sub, ex_ex, ex_ifs, ex_for_, ex_whl, ex_whw, ex_ret, ex_retN, ex_raise, ex_raisex, ex_try_, ex_pass, ex_brk, ex_ctn, ex_doc, xs_nil, xs_cons, xh_nil, xh_cons, xh_tup, gs_0, ss_0, ge_0, st_0, gs_1, ss_1, ge_1, st_1, gs_2, ss_2, ge_2, st_2, gs_3, ss_3, ge_3, st_3, gs_4, ss_4, ge_4, st_4, gs_5, ss_5, ge_5, st_5, gs_6, ss_6, ge_6, st_6, gs_7, ss_7, ge_7, st_7, gs_8, ss_8, ge_8, st_8, gs_9, ss_9, ge_9, st_9, gs_10, ss_10, ge_10, st_10, so_add, so_sub, so_mul, so_fdiv, so_mod, so_pow, so_eq, so_ne, so_lt, so_le, so_gt, so_ge, so_in, so_nin, so_is, so_isn, d_add, d_addt, d_addl, d_sub, d_mul, d_div, d_mod, d_lt, d_cmp, b_lent, b_lenl, b_lenf, b_abs, b_int, b_intb, b_listl, b_listf, b_listt, b_tupl, b_tupt, b_max2, b_min2, b_all, b_any, b_isi, b_dict, b_listd, b_sorted, b_min1, t_bl, t_int, t_non, t_lst, t_tup, l_tup, l_lst, l_fz, m_app, m_popat, ol_0, ol_1, ol_2, ol_3, ol_4, ol_5, ol_6, ol_7, ol_8, ol_9, ol_10, nd_0, nd_1, nd_0_1, nd_0_2, nd_0_3, nd_0_4, nd_0_5, nd_0_6, nd_0_7, nd_1_0, nd_1_2, nd_1_3, nd_1_4, nd_1_5, nd_1_6, nd_1_7, nd_2_0, nd_2_1, nd_2_3, nd_2_4, nd_2_5, nd_2_6, nd_2_7, nd_3_0, nd_3_1, nd_3_2, nd_3_4, nd_3_5, nd_3_6, nd_3_7, nd_4_0, nd_4_1, nd_4_2, nd_4_3, nd_4_5, nd_4_6, nd_4_7, nd_5_0, nd_5_1, nd_5_2, nd_5_3, nd_5_4, nd_5_6, nd_5_7, nd_6_0, nd_6_1, nd_6_2, nd_6_3, nd_6_4, nd_6_5, nd_6_7, nd_7_0, nd_7_1, nd_7_2, nd_7_3, nd_7_4, nd_7_5, nd_7_6, kb_NoneType_int, kb_NoneType_bool, kb_NoneType_tuple, kb_NoneType_str, kb_NoneType_list, kb_NoneType_dict, kb_bool_int, kb_bool_bool, kb_bool_tuple, kb_bool_str, kb_bool_list, kb_bool_dict, kb_int_int, kb_int_bool, kb_int_tuple, kb_int_str, kb_int_list, kb_int_dict, kb_str_int, kb_str_bool, kb_str_tuple, kb_str_str, kb_str_list, kb_str_dict, kb_tuple_int, kb_tuple_bool, kb_tuple_tuple, kb_tuple_str, kb_tuple_list, kb_tuple_dict, kb_list_int, kb_list_bool, kb_list_tuple, kb_list_str, kb_list_list, kb_list_dict, kb_dict_int, kb_dict_bool, kb_dict_tuple, kb_dict_str, kb_dict_list, kb_dict_dict, it_val, it_enum, it_zip, ow_nil, ow_cons, sn_n, sn_s, le_2, le_3, okb, okt, exb, ext_, sq_nx, sq_rt, sq_ex, ac_nx, ac_rt, ac_ex, fr_n, fr_s, fr_o, oo_n, oo_s, oo_i, oo_b, fin, argF, consF, slotF, ioF, tupF, lstF, dctF, twoF, oneF, chainF, notF, ifF, andF, orF, slF, biF, callG, mthF, pmF, lcF, yesF, varT, readVar, moveVar, setFs, parFs, subFs, dropFs, ifFs, forFs, retFs, raiseFs, raisexFs, mkF, mkxF, htFs, tryFs, hdFs, seqFs, walF, subF, nmF, unpF, putT, putTs, onBl, Ar.get, gets, valsOf, ofRes, mkSl, callF, ioArg, ioArgs, hold1, holds, back, assignT, assignT.assignN, wipeE, putBack, unlock, SR.calm, SR.onEnv, srcOf, seqD, ixR, Option.bind_some, Option.map_some, Option.bind_none, Option.map_none, List.map_cons, List.map_nil, List.cons_append, List.nil_append, if_true, if_false, reduceIte, Bool.false_eq_true, Bool.true_and, Bool.and_true, Option.isSome_some, List.contains_nil, Bool.not_false, Bool.not_true, tyO, tyD, neD, eqD, isNoneB, isLst, ix0, ix1, ix2, q, decide_false, su2, m1, m2, m3, m4, m5, hd128, ho, h2, ne_eq, z1, z2, z3, not_false_eq_true, show ¬ (t = 0) from by omega]
theorem atI_get {α : Type} {xs : List α} {i : Nat} (h : i < xs.length) : L2.atI xs (i : Int) = some xs[i] := by
  unfold L2.atI L2.ixN
  rw [if_pos (by omega : (0 : Int) ≤ (i : Int)), if_pos (by omega : (i : Int) < (xs.length : Int))]
  simp [h]
theorem at_int {ds : List D} {v : Int} (h0 : 0 ≤ v) (h1 : v < ds.length) : ∃ x, x ∈ ds ∧ ixD (.lst ds) (.int v) = some x := by
  have hv : v.toNat < ds.length := by omega
  refine ⟨ds[v.toNat], List.getElem_mem hv, ?_⟩
  have hh : L2.atI ds (v.toNat : Int) = some ds[v.toNat] := atI_get hv
  rw [show (v.toNat : Int) = v by omega] at hh
  exact hh
theorem pick_ok {n k : Nat} {d : D} {ds : List D} (R : Reel k d) (hk : k ≤ 2 ^ 40) (h1 : ds ≠ []) (ht : ds.length ≤ 1000) :
    ∃ x d', run Pg (n + 2) 2 [⟨.io, d⟩, ⟨.sh, .lst ds⟩] = .ok x .sh [some ⟨.io, d'⟩, none] ∧ x ∈ ds ∧ Reel (k + 1) d' := by
  have hp : 0 < ds.length := List.length_pos_iff.mpr h1
  obtain ⟨v, d', e1, e2, e3, e4⟩ := roll_ok (n := n) R hk (show (1 : Int) ≤ (ds.length : Int) by omega) (by omega)
  obtain ⟨x, f2, f3⟩ := at_int e2 e3
  exact ⟨x, d', by simp only [r2, b2, ev_int, ev_str, ev_bl, ev_non, ev_bty, ev_gc, ev_mov, ev_tup, ev_lst, ev_dct, ev_odc, ev_op2, ev_ch, ev_neg, ev_and, ev_or, ev_ife, ev_sub, ev_sl, ev_bi, ev_call, ev_mth, ev_pm, ev_lc, ev_mk, ev_mkx, ev_fld, ev_isx, ev_join, ev_var, ev_varT, ev_notT, ev_notF, ea_e, ea_s, ea_io, es_nil, es_cons, eand_1, eand_2, eor_1, eor_2, ei_nil, ei_1, ex_set, ex_tgt, ex_par, ex_sub, ex_ex, ex_ifs, ex_for_, ex_whl, ex_whw, ex_ret, ex_retN, ex_raise, ex_raisex, ex_try_, ex_pass, ex_brk, ex_ctn, ex_doc, xs_nil, xs_cons, xh_nil, xh_cons, xh_tup, gs_0, ss_0, ge_0, st_0, gs_1, ss_1, ge_1, st_1, gs_2, ss_2, ge_2, st_2, gs_3, ss_3, ge_3, st_3, gs_4, ss_4, ge_4, st_4, gs_5, ss_5, ge_5, st_5, gs_6, ss_6, ge_6, st_6, gs_7, ss_7, ge_7, st_7, gs_8, ss_8, ge_8, st_8, gs_9, ss_9, ge_9, st_9, gs_10, ss_10, ge_10, st_10, so_add, so_sub, so_mul, so_fdiv, so_mod, so_pow, so_eq, so_ne, so_lt, so_le, so_gt, so_ge, so_in, so_nin, so_is, so_isn, d_add, d_addt, d_addl, d_sub, d_mul, d_div, d_mod, d_lt, d_cmp, b_lent, b_lenl, b_lenf, b_abs, b_int, b_intb, b_listl, b_listf, b_listt, b_tupl, b_tupt, b_max2, b_min2, b_all, b_any, b_isi, b_dict, b_listd, b_sorted, b_min1, t_bl, t_int, t_non, t_lst, t_tup, l_tup, l_lst, l_fz, m_app, m_popat, ol_0, ol_1, ol_2, ol_3, ol_4, ol_5, ol_6, ol_7, ol_8, ol_9, ol_10, nd_0, nd_1, nd_0_1, nd_0_2, nd_0_3, nd_0_4, nd_0_5, nd_0_6, nd_0_7, nd_1_0, nd_1_2, nd_1_3, nd_1_4, nd_1_5, nd_1_6, nd_1_7, nd_2_0, nd_2_1, nd_2_3, nd_2_4, nd_2_5, nd_2_6, nd_2_7, nd_3_0, nd_3_1, nd_3_2, nd_3_4, nd_3_5, nd_3_6, nd_3_7, nd_4_0, nd_4_1, nd_4_2, nd_4_3, nd_4_5, nd_4_6, nd_4_7, nd_5_0, nd_5_1, nd_5_2, nd_5_3, nd_5_4, nd_5_6, nd_5_7, nd_6_0, nd_6_1, nd_6_2, nd_6_3, nd_6_4, nd_6_5, nd_6_7, nd_7_0, nd_7_1, nd_7_2, nd_7_3, nd_7_4, nd_7_5, nd_7_6, kb_NoneType_int, kb_NoneType_bool, kb_NoneType_tuple, kb_NoneType_str, kb_NoneType_list, kb_NoneType_dict, kb_bool_int, kb_bool_bool, kb_bool_tuple, kb_bool_str, kb_bool_list, kb_bool_dict, kb_int_int, kb_int_bool, kb_int_tuple, kb_int_str, kb_int_list, kb_int_dict, kb_str_int, kb_str_bool, kb_str_tuple, kb_str_str, kb_str_list, kb_str_dict, kb_tuple_int, kb_tuple_bool, kb_tuple_tuple, kb_tuple_str, kb_tuple_list, kb_tuple_dict, kb_list_int, kb_list_bool, kb_list_tuple, kb_list_str, kb_list_list, kb_list_dict, kb_dict_int, kb_dict_bool, kb_dict_tuple, kb_dict_str, kb_dict_list, kb_dict_dict, it_val, it_enum, it_zip, ow_nil, ow_cons, sn_n, sn_s, le_2, le_3, okb, okt, exb, ext_, sq_nx, sq_rt, sq_ex, ac_nx, ac_rt, ac_ex, fr_n, fr_s, fr_o, oo_n, oo_s, oo_i, oo_b, fin, argF, consF, slotF, ioF, tupF, lstF, dctF, twoF, oneF, chainF, notF, ifF, andF, orF, slF, biF, callG, mthF, pmF, lcF, yesF, varT, readVar, moveVar, setFs, parFs, subFs, dropFs, ifFs, forFs, retFs, raiseFs, raisexFs, mkF, mkxF, htFs, tryFs, hdFs, seqFs, walF, subF, nmF, unpF, putT, putTs, onBl, Ar.get, gets, valsOf, ofRes, mkSl, callF, ioArg, ioArgs, hold1, holds, back, assignT, assignT.assignN, wipeE, putBack, unlock, SR.calm, SR.onEnv, srcOf, seqD, ixR, Option.bind_some, Option.map_some, Option.bind_none, Option.map_none, List.map_cons, List.map_nil, List.cons_append, List.nil_append, if_true, if_false, reduceIte, Bool.false_eq_true, Bool.true_and, Bool.and_true, Option.isSome_some, List.contains_nil, Bool.not_false, Bool.not_true, tyO, tyD, neD, eqD, isNoneB, isLst, e1, f3], f2, e4⟩
theorem len_str {x : Str} (h : okLen x.length = true) : semB .len [.str x] = some (.int x.length, .sh) := by
  have e : lenD (.str x) = some x.length := by
    show (if okLen x.length = true then some x.length else none) = _
    rw [if_pos h]
  show (lenD (.str x)).map (fun n => (D.int (n : Int), Vm.sh)) = _
  rw [e]; rfl
theorem pickS_ok {n k : Nat} {d : D} {x : Str} (R : Reel k d) (hk : k ≤ 2 ^ 40) (h1 : 1 ≤ x.length) (ht : x.length ≤ 1000) :
    ∃ c d', run Pg (n + 2) 2 [⟨.io, d⟩, ⟨.sh, .str x⟩] = .ok (.str ⟨#[c]⟩) .sh [some ⟨.io, d'⟩, none] ∧ c ∈ x.cps.toList ∧ Reel (k + 1) d' := by
  obtain ⟨v, d', e1, e2, e3, e4⟩ := roll_ok (n := n) R hk (show (1 : Int) ≤ (x.length : Int) by omega) (by omega)
  have hl : okLen x.length = true := decide_eq_true (by omega)
  have hv : v.toNat < x.cps.toList.length := by
    have : x.cps.toList.length = x.length := by simp [Str.length]
    omega
  have hh : L2.atI x.cps.toList (v.toNat : Int) = some x.cps.toList[v.toNat] := atI_get hv
  rw [show (v.toNat : Int) = v by omega] at hh
  have f3 : ixD (.str x) (.int v) = some (.str ⟨#[x.cps.toList[v.toNat]]⟩) := by
    show (if okLen x.length = true then (L2.atI x.cps.toList v).map fun c => D.str ⟨#[c]⟩ else none) = _
    rw [if_pos hl, hh]; rfl
  exact ⟨x.cps.toList[v.toNat], d', by simp only [r2, b2, ev_int, ev_str, ev_bl, ev_non, ev_bty, ev_gc, ev_mov, ev_tup, ev_lst, ev_dct, ev_odc, ev_op2, ev_ch, ev_neg, ev_and, ev_or, ev_ife, ev_sub, ev_sl, ev_bi, ev_call, ev_mth, ev_pm, ev_lc, ev_mk, ev_mkx, ev_fld, ev_isx, ev_join, ev_var, ev_varT, ev_notT, ev_notF, ea_e, ea_s, ea_io, es_nil, es_cons, eand_1, eand_2, eor_1, eor_2, ei_nil, ei_1, ex_set, ex_tgt, ex_par, ex_sub, ex_ex, ex_ifs, ex_for_, ex_whl, ex_whw, ex_ret, ex_retN, ex_raise, ex_raisex, ex_try_, ex_pass, ex_brk, ex_ctn, ex_doc, xs_nil, xs_cons, xh_nil, xh_cons, xh_tup, gs_0, ss_0, ge_0, st_0, gs_1, ss_1, ge_1, st_1, gs_2, ss_2, ge_2, st_2, gs_3, ss_3, ge_3, st_3, gs_4, ss_4, ge_4, st_4, gs_5, ss_5, ge_5, st_5, gs_6, ss_6, ge_6, st_6, gs_7, ss_7, ge_7, st_7, gs_8, ss_8, ge_8, st_8, gs_9, ss_9, ge_9, st_9, gs_10, ss_10, ge_10, st_10, so_add, so_sub, so_mul, so_fdiv, so_mod, so_pow, so_eq, so_ne, so_lt, so_le, so_gt, so_ge, so_in, so_nin, so_is, so_isn, d_add, d_addt, d_addl, d_sub, d_mul, d_div, d_mod, d_lt, d_cmp, b_lent, b_lenl, b_lenf, b_abs, b_int, b_intb, b_listl, b_listf, b_listt, b_tupl, b_tupt, b_max2, b_min2, b_all, b_any, b_isi, b_dict, b_listd, b_sorted, b_min1, t_bl, t_int, t_non, t_lst, t_tup, l_tup, l_lst, l_fz, m_app, m_popat, ol_0, ol_1, ol_2, ol_3, ol_4, ol_5, ol_6, ol_7, ol_8, ol_9, ol_10, nd_0, nd_1, nd_0_1, nd_0_2, nd_0_3, nd_0_4, nd_0_5, nd_0_6, nd_0_7, nd_1_0, nd_1_2, nd_1_3, nd_1_4, nd_1_5, nd_1_6, nd_1_7, nd_2_0, nd_2_1, nd_2_3, nd_2_4, nd_2_5, nd_2_6, nd_2_7, nd_3_0, nd_3_1, nd_3_2, nd_3_4, nd_3_5, nd_3_6, nd_3_7, nd_4_0, nd_4_1, nd_4_2, nd_4_3, nd_4_5, nd_4_6, nd_4_7, nd_5_0, nd_5_1, nd_5_2, nd_5_3, nd_5_4, nd_5_6, nd_5_7, nd_6_0, nd_6_1, nd_6_2, nd_6_3, nd_6_4, nd_6_5, nd_6_7, nd_7_0, nd_7_1, nd_7_2, nd_7_3, nd_7_4, nd_7_5, nd_7_6, kb_NoneType_int, kb_NoneType_bool, kb_NoneType_tuple, kb_NoneType_str, kb_NoneType_list, kb_NoneType_dict, kb_bool_int, kb_bool_bool, kb_bool_tuple, kb_bool_str, kb_bool_list, kb_bool_dict, kb_int_int, kb_int_bool, kb_int_tuple, kb_int_str, kb_int_list, kb_int_dict, kb_str_int, kb_str_bool, kb_str_tuple, kb_str_str, kb_str_list, kb_str_dict, kb_tuple_int, kb_tuple_bool, kb_tuple_tuple, kb_tuple_str, kb_tuple_list, kb_tuple_dict, kb_list_int, kb_list_bool, kb_list_tuple, kb_list_str, kb_list_list, kb_list_dict, kb_dict_int, kb_dict_bool, kb_dict_tuple, kb_dict_str, kb_dict_list, kb_dict_dict, it_val, it_enum, it_zip, ow_nil, ow_cons, sn_n, sn_s, le_2, le_3, okb, okt, exb, ext_, sq_nx, sq_rt, sq_ex, ac_nx, ac_rt, ac_ex, fr_n, fr_s, fr_o, oo_n, oo_s, oo_i, oo_b, fin, argF, consF, slotF, ioF, tupF, lstF, dctF, twoF, oneF, chainF, notF, ifF, andF, orF, slF, biF, callG, mthF, pmF, lcF, yesF, varT, readVar, moveVar, setFs, parFs, subFs, dropFs, ifFs, forFs, retFs, raiseFs, raisexFs, mkF, mkxF, htFs, tryFs, hdFs, seqFs, walF, subF, nmF, unpF, putT, putTs, onBl, Ar.get, gets, valsOf, ofRes, mkSl, callF, ioArg, ioArgs, hold1, holds, back, assignT, assignT.assignN, wipeE, putBack, unlock, SR.calm, SR.onEnv, srcOf, seqD, ixR, Option.bind_some, Option.map_some, Option.bind_none, Option.map_none, List.map_cons, List.map_nil, List.cons_append, List.nil_append, if_true, if_false, reduceIte, Bool.false_eq_true, Bool.true_and, Bool.and_true, Option.isSome_some, List.contains_nil, Bool.not_false, Bool.not_true, tyO, tyD, neD, eqD, isNoneB, isLst, len_str hl, e1, f3], List.getElem_mem hv, e4⟩
end K00

set_option Elab.async false
set_option linter.all false
set_option maxRecDepth 100000
set_option maxHeartbeats 4000000
namespace K00
open PySem DI
/-! ## Words -/
def Wd (w : Str) : Prop := w.length ≤ 12 ∧ ∀ c ∈ w.cps.toList, c < 16 ^ 8
abbrev sg : Str := "abcdefghijklmnopqrstuvwxyzABCDEFGHIJKLMNOPQRSTUVWXYZ 0123456789.,:;-_()[]"
theorem sg_len : 1 ≤ sg.length ∧ sg.length ≤ 1000 := by decide +kernel
theorem sg_all : ∀ c ∈ sg.cps.toList, c < 16 ^ 8 := by
  have h : (sg.cps.toList.all fun c => decide (c < 16 ^ 8)) = true := by decide +kernel
  intro c hc
  exact of_decide_eq_true (List.all_eq_true.mp h c hc)
def chD (c : Nat) : D := .str ⟨#[c]⟩
theorem strs_ch : ∀ cs : List Nat, strsD (cs.map chD) = some (cs.map fun c => (⟨#[c]⟩ : Str))
  | [] => rfl
  | c :: cs => by
    rw [List.map_cons]
    show (strsD (cs.map chD)).map (_ :: ·) = _
    rw [strs_ch cs]; rfl
theorem len_ch (cs : List Nat) : ((cs.map fun c => (⟨#[c]⟩ : Str)).map (·.length)).sum = cs.length := by
  induction cs with
  | nil => rfl
  | cons c cs ih =>
    rw [List.map_cons, List.map_cons, List.sum_cons, ih, List.length_cons]
    show 1 + cs.length = _
    omega
theorem join_ch : ∀ cs : List Nat, (Str.join "" (cs.map fun c => (⟨#[c]⟩ : Str))).cps.toList = cs
  | [] => rfl
  | [c] => rfl
  | c :: e :: cs => by
    have ih := join_ch (e :: cs)
    rw [List.map_cons, List.map_cons] at *
    show ((((⟨#[c]⟩ : Str) ++ ("" : Str)) ++ Str.join "" ((⟨#[e]⟩ : Str) :: cs.map fun c => (⟨#[c]⟩ : Str)))).cps.toList = _
    have h : ∀ x y : Str, (x ++ y).cps.toList = x.cps.toList ++ y.cps.toList := fun x y => by
      show (x.cps ++ y.cps).toList = _
      simp
    rw [h, h, ih]
    rfl
theorem joinD_ch {cs : List Nat} (hl : cs.length ≤ 12) : joinD "" (.lst (cs.map chD)) = some (.str (Txt.join "" (cs.map fun c => (⟨#[c]⟩ : Str))), .sh) := by
  show ((strsD (cs.map chD)).bind fun ys => if decide ((ys.map (·.length)).sum + ys.length * ("" : Str).length ≤ 16777216) then shv (.str (Txt.join "" ys)) else none) = _
  rw [strs_ch, Option.bind_some, if_pos]
  · rfl
  · refine decide_eq_true ?_
    rw [len_ch, List.length_map, show ("" : Str).length = 0 from rfl]
    omega
theorem rngN {m : Nat} : rngD 0 m = (List.range m).map fun (k : Nat) => D.int (0 + (k : Int)) := rfl
def wT (n : Nat) : DI.Env → R (D × Vm) := evE Pg.gcs (run Pg (n + 2)) false (.call 2 (.cons (.io 0) (.cons (.s 1) .nil)) [])
theorem word_loop {n : Nat} : ∀ (ds : List D) (cs : List Nat) (k : Nat) (d : D), Reel k d → k + ds.length ≤ 2 ^ 40 → cs.length + ds.length ≤ 1000 → (∀ c ∈ cs, c < 16 ^ 8) →
    ∃ (cs' : List Nat) (d' : D), lcLoop [2] (.nm 2) (evIfs Pg.gcs (run Pg (n + 2)) .nil) (wT n) ds (cs.map chD) [some ⟨.io, d⟩, shS (.str sg), none] = .ok (cs'.map chD) [some ⟨.io, d'⟩, shS (.str sg), none] ∧ cs'.length = cs.length + ds.length ∧ (∀ c ∈ cs', c < 16 ^ 8) ∧ Reel (k + ds.length) d'
  | [], cs, k, d, R, hk, hl, hc => ⟨cs, d, by rw [lcLoop], rfl, hc, R⟩
  | x :: ds, cs, k, d, R, hk, hl, hc => by
    simp only [List.length_cons] at hk hl
    obtain ⟨c, d2, a1, a2, a3⟩ := pickS_ok (n := n) R (by omega) sg_len.1 sg_len.2
    have ht : lcTurn [2] (.nm 2) (evIfs Pg.gcs (run Pg (n + 2)) .nil) (wT n) x [some ⟨.io, d⟩, shS (.str sg), none] = some (some (chD c), [some ⟨.io, d2⟩, shS (.str sg), none]) := by
      simp only [lcTurn, wT, ev_int, ev_str, ev_bl, ev_non, ev_bty, ev_gc, ev_mov, ev_tup, ev_lst, ev_dct, ev_odc, ev_op2, ev_ch, ev_neg, ev_and, ev_or, ev_ife, ev_sub, ev_sl, ev_bi, ev_call, ev_mth, ev_pm, ev_lc, ev_mk, ev_mkx, ev_fld, ev_isx, ev_join, ev_var, ev_varT, ev_notT, ev_notF, ea_e, ea_s, ea_io, es_nil, es_cons, eand_1, eand_2, eor_1, eor_2, ei_nil, ei_1, ex_set, ex_tgt, ex_par, ex_sub, ex_ex, ex_ifs, ex_for_, ex_whl, ex_whw, ex_ret, ex_retN, ex_raise, ex_raisex, ex_try_, ex_pass, ex_brk, ex_ctn, ex_doc, xs_nil, xs_cons, xh_nil, xh_cons, xh_tup, gs_0, ss_0, ge_0, st_0, gs_1, ss_1, ge_1, st_1, gs_2, ss_2, ge_2, st_2, gs_3, ss_3, ge_3, st_3, gs_4, ss_4, ge_4, st_4, gs_5, ss_5, ge_5, st_5, gs_6, ss_6, ge_6, st_6, gs_7, ss_7, ge_7, st_7, gs_8, ss_8, ge_8, st_8, gs_9, ss_9, ge_9, st_9, gs_10, ss_10, ge_10, st_10, so_add, so_sub, so_mul, so_fdiv, so_mod, so_pow, so_eq, so_ne, so_lt, so_le, so_gt, so_ge, so_in, so_nin, so_is, so_isn, d_add, d_addt, d_addl, d_sub, d_mul, d_div, d_mod, d_lt, d_cmp, b_lent, b_lenl, b_lenf, b_abs, b_int, b_intb, b_listl, b_listf, b_listt, b_tupl, b_tupt, b_max2, b_min2, b_all, b_any, b_isi, b_dict, b_listd, b_sorted, b_min1, t_bl, t_int, t_non, t_lst, t_tup, l_tup, l_lst, l_fz, m_app, m_popat, ol_0, ol_1, ol_2, ol_3, ol_4, ol_5, ol_6, ol_7, ol_8, ol_9, ol_10, nd_0, nd_1, nd_0_1, nd_0_2, nd_0_3, nd_0_4, nd_0_5, nd_0_6, nd_0_7, nd_1_0, nd_1_2, nd_1_3, nd_1_4, nd_1_5, nd_1_6, nd_1_7, nd_2_0, nd_2_1, nd_2_3, nd_2_4, nd_2_5, nd_2_6, nd_2_7, nd_3_0, nd_3_1, nd_3_2, nd_3_4, nd_3_5, nd_3_6, nd_3_7, nd_4_0, nd_4_1, nd_4_2, nd_4_3, nd_4_5, nd_4_6, nd_4_7, nd_5_0, nd_5_1, nd_5_2, nd_5_3, nd_5_4, nd_5_6, nd_5_7, nd_6_0, nd_6_1, nd_6_2, nd_6_3, nd_6_4, nd_6_5, nd_6_7, nd_7_0, nd_7_1, nd_7_2, nd_7_3, nd_7_4, nd_7_5, nd_7_6, kb_NoneType_int, kb_NoneType_bool, kb_NoneType_tuple, kb_NoneType_str, kb_NoneType_list, kb_NoneType_dict, kb_bool_int, kb_bool_bool, kb_bool_tuple, kb_bool_str, kb_bool_list, kb_bool_dict, kb_int_int, kb_int_bool, kb_int_tuple, kb_int_str, kb_int_list, kb_int_dict, kb_str_int, kb_str_bool, kb_str_tuple, kb_str_str, kb_str_list, kb_str_dict, kb_tuple_int, kb_tuple_bool, kb_tuple_tuple, kb_tuple_str, kb_tuple_list, kb_tuple_dict, kb_list_int, kb_list_bool, kb_list_tuple, kb_list_str, kb_list_list, kb_list_dict, kb_dict_int, kb_dict_bool, kb_dict_tuple, kb_dict_str, kb_dict_list, kb_dict_dict, it_val, it_enum, it_zip, ow_nil, ow_cons, sn_n, sn_s, le_2, le_3, okb, okt, exb, ext_, sq_nx, sq_rt, sq_ex, ac_nx, ac_rt, ac_ex, fr_n, fr_s, fr_o, oo_n, oo_s, oo_i, oo_b, fin, argF, consF, slotF, ioF, tupF, lstF, dctF, twoF, oneF, chainF, notF, ifF, andF, orF, slF, biF, callG, mthF, pmF, lcF, yesF, varT, readVar, moveVar, setFs, parFs, subFs, dropFs, ifFs, forFs, retFs, raiseFs, raisexFs, mkF, mkxF, htFs, tryFs, hdFs, seqFs, walF, subF, nmF, unpF, putT, putTs, onBl, Ar.get, gets, valsOf, ofRes, mkSl, callF, ioArg, ioArgs, hold1, holds, back, assignT, assignT.assignN, wipeE, putBack, unlock, SR.calm, SR.onEnv, srcOf, seqD, ixR, Option.bind_some, Option.map_some, Option.bind_none, Option.map_none, List.map_cons, List.map_nil, List.cons_append, List.nil_append, if_true, if_false, reduceIte, Bool.false_eq_true, Bool.true_and, Bool.and_true, Option.isSome_some, List.contains_nil, Bool.not_false, Bool.not_true, tyO, tyD, neD, eqD, isNoneB, isLst, a1]
      rfl
    obtain ⟨cs', d', b1, b2, b3, b4⟩ := word_loop (n := n) ds (cs ++ [c]) (k + 1) d2 a3 (by omega) (by simp; omega) (fun z hz => by
      rcases List.mem_append.mp hz with h | h
      · exact hc z h
      · rw [List.mem_singleton] at h; subst h; exact sg_all _ a2)
    refine ⟨cs', d', ?_, by rw [b2]; simp; omega, b3, b4.up (by simp; omega)⟩
    rw [lc_turn ht (by rw [List.length_map]; omega), ← b1]
    simp
theorem word_ok {n k : Nat} {d : D} (R : Reel k d) (hk : k + 20 ≤ 2 ^ 40) :
    ∃ w d', run Pg (n + 3) 11 [⟨.io, d⟩] = .ok (.str w) .sh [some ⟨.io, d'⟩] ∧ Wd w ∧ Reel (k + 13) d' := by
  obtain ⟨v, d0, e1, e2, e3, e4⟩ := roll_ok (n := n + 1) (t := 13) R (by omega) (by omega) (by omega)
  obtain ⟨m, rfl⟩ : ∃ m : Nat, v = (m : Int) := ⟨v.toNat, by omega⟩
  have hm : m ≤ 12 := by omega
  have rl : (rngD 0 m).length = m := by rw [rngN]; simp
  obtain ⟨cs, d', l1, l2, l3, l4⟩ := word_loop (n := n) (rngD 0 m) [] (k + 1) d0 e4 (by omega) (by rw [rl]; simp; omega) (by simp)
  rw [rl] at l2 l4
  have hl : cs.length ≤ 12 := by rw [l2]; simp; omega
  rw [List.map_nil] at l1
  unfold wT at l1
  refine ⟨Txt.join "" (cs.map fun c => (⟨#[c]⟩ : Str)), d', ?_, ⟨?_, ?_⟩, l4.up (by omega)⟩
  · simp only [r11, b11, ev_int, ev_str, ev_bl, ev_non, ev_bty, ev_gc, ev_mov, ev_tup, ev_lst, ev_dct, ev_odc, ev_op2, ev_ch, ev_neg, ev_and, ev_or, ev_ife, ev_sub, ev_sl, ev_bi, ev_call, ev_mth, ev_pm, ev_lc, ev_mk, ev_mkx, ev_fld, ev_isx, ev_join, ev_var, ev_varT, ev_notT, ev_notF, ea_e, ea_s, ea_io, es_nil, es_cons, eand_1, eand_2, eor_1, eor_2, ei_nil, ei_1, ex_set, ex_tgt, ex_par, ex_sub, ex_ex, ex_ifs, ex_for_, ex_whl, ex_whw, ex_ret, ex_retN, ex_raise, ex_raisex, ex_try_, ex_pass, ex_brk, ex_ctn, ex_doc, xs_nil, xs_cons, xh_nil, xh_cons, xh_tup, gs_0, ss_0, ge_0, st_0, gs_1, ss_1, ge_1, st_1, gs_2, ss_2, ge_2, st_2, gs_3, ss_3, ge_3, st_3, gs_4, ss_4, ge_4, st_4, gs_5, ss_5, ge_5, st_5, gs_6, ss_6, ge_6, st_6, gs_7, ss_7, ge_7, st_7, gs_8, ss_8, ge_8, st_8, gs_9, ss_9, ge_9, st_9, gs_10, ss_10, ge_10, st_10, so_add, so_sub, so_mul, so_fdiv, so_mod, so_pow, so_eq, so_ne, so_lt, so_le, so_gt, so_ge, so_in, so_nin, so_is, so_isn, d_add, d_addt, d_addl, d_sub, d_mul, d_div, d_mod, d_lt, d_cmp, b_lent, b_lenl, b_lenf, b_abs, b_int, b_intb, b_listl, b_listf, b_listt, b_tupl, b_tupt, b_max2, b_min2, b_all, b_any, b_isi, b_dict, b_listd, b_sorted, b_min1, t_bl, t_int, t_non, t_lst, t_tup, l_tup, l_lst, l_fz, m_app, m_popat, ol_0, ol_1, ol_2, ol_3, ol_4, ol_5, ol_6, ol_7, ol_8, ol_9, ol_10, nd_0, nd_1, nd_0_1, nd_0_2, nd_0_3, nd_0_4, nd_0_5, nd_0_6, nd_0_7, nd_1_0, nd_1_2, nd_1_3, nd_1_4, nd_1_5, nd_1_6, nd_1_7, nd_2_0, nd_2_1, nd_2_3, nd_2_4, nd_2_5, nd_2_6, nd_2_7, nd_3_0, nd_3_1, nd_3_2, nd_3_4, nd_3_5, nd_3_6, nd_3_7, nd_4_0, nd_4_1, nd_4_2, nd_4_3, nd_4_5, nd_4_6, nd_4_7, nd_5_0, nd_5_1, nd_5_2, nd_5_3, nd_5_4, nd_5_6, nd_5_7, nd_6_0, nd_6_1, nd_6_2, nd_6_3, nd_6_4, nd_6_5, nd_6_7, nd_7_0, nd_7_1, nd_7_2, nd_7_3, nd_7_4, nd_7_5, nd_7_6, kb_NoneType_int, kb_NoneType_bool, kb_NoneType_tuple, kb_NoneType_str, kb_NoneType_list, kb_NoneType_dict, kb_bool_int, kb_bool_bool, kb_bool_tuple, kb_bool_str, kb_bool_list, kb_bool_dict, kb_int_int, kb_int_bool, kb_int_tuple, kb_int_str, kb_int_list, kb_int_dict, kb_str_int, kb_str_bool, kb_str_tuple, kb_str_str, kb_str_list, kb_str_dict, kb_tuple_int, kb_tuple_bool, kb_tuple_tuple, kb_tuple_str, kb_tuple_list, kb_tuple_dict, kb_list_int, kb_list_bool, kb_list_tuple, kb_list_str, kb_list_list, kb_list_dict, kb_dict_int, kb_dict_bool, kb_dict_tuple, kb_dict_str, kb_dict_list, kb_dict_dict, it_val, it_enum, it_zip, ow_nil, ow_cons, sn_n, sn_s, le_2, le_3, okb, okt, exb, ext_, sq_nx, sq_rt, sq_ex, ac_nx, ac_rt, ac_ex, fr_n, fr_s, fr_o, oo_n, oo_s, oo_i, oo_b, fin, argF, consF, slotF, ioF, tupF, lstF, dctF, twoF, oneF, chainF, notF, ifF, andF, orF, slF, biF, callG, mthF, pmF, lcF, yesF, varT, readVar, moveVar, setFs, parFs, subFs, dropFs, ifFs, forFs, retFs, raiseFs, raisexFs, mkF, mkxF, htFs, tryFs, hdFs, seqFs, walF, subF, nmF, unpF, putT, putTs, onBl, Ar.get, gets, valsOf, ofRes, mkSl, callF, ioArg, ioArgs, hold1, holds, back, assignT, assignT.assignN, wipeE, putBack, unlock, SR.calm, SR.onEnv, srcOf, seqD, ixR, Option.bind_some, Option.map_some, Option.bind_none, Option.map_none, List.map_cons, List.map_nil, List.cons_append, List.nil_append, if_true, if_false, reduceIte, Bool.false_eq_true, Bool.true_and, Bool.and_true, Option.isSome_some, List.contains_nil, Bool.not_false, Bool.not_true, tyO, tyD, neD, eqD, isNoneB, isLst, e1, it_rng1 (small_nat (show m ≤ 1000000 by omega)), l1, joinD_ch hl]
  · rw [TL.join_eq]
    have := join_ch cs
    show (Str.join "" (cs.map fun c => (⟨#[c]⟩ : Str))).cps.size ≤ 12
    rw [← Array.length_toList, this]
    exact hl
  · rw [TL.join_eq, join_ch]
    exact l3
end K00

set_option Elab.async false
set_option linter.all false
set_option maxRecDepth 100000
set_option maxHeartbeats 4000000
namespace K00
open PySem DI
/-! ## Values that are told -/
def Val (v : D) : Prop := ∃ x, semB .repr [v] = some (.str x, .sh)
def Nm (i : Int) : Prop := (PyData.shown (.int i)).length ≤ 70 ∧ i.natAbs.log2 < 1920
theorem nm_all : ([0, 1, 100, 2000, -1, 10 ^ 59] : List Int).all (fun x => (List.range 5).all fun r => decide ((PyData.shown (.int (x + (r : Int)))).length ≤ 70) && decide ((x + (r : Int)).natAbs.log2 < 1920)) = true := by decide +kernel
theorem nm_of {x r : Int} (hx : x ∈ ([0, 1, 100, 2000, -1, 10 ^ 59] : List Int)) (h0 : 0 ≤ r) (h1 : r < 5) : Nm (x + r) := by
  have h := List.all_eq_true.mp nm_all x hx
  have h2 := List.all_eq_true.mp h r.toNat (List.mem_range.mpr (by omega))
  rw [Bool.and_eq_true, decide_eq_true_eq, decide_eq_true_eq] at h2
  rw [show ((r.toNat : Nat) : Int) = r by omega] at h2
  exact h2
theorem fits_of {p : PyData} (h : p.leavesShort 70 = true) (w : p.weight ≤ 10000) : okLen p.shown.length = true := by
  have e := PyData.shown_le 70 (by omega) p h
  exact decide_eq_true (by omega)
theorem repr_of {v : D} {p : PyData} (e : toP v = some p) (hs : p.showable = true) (hd : p.depth ≤ 60) (h : p.leavesShort 70 = true) (w : p.weight ≤ 10000) : Val v := by
  have e1 : reprB v = some p.shown := by
    unfold reprB
    rw [e, Option.bind_some, if_pos]
    rw [Bool.and_eq_true, Bool.and_eq_true]
    exact ⟨⟨hs, decide_eq_true hd⟩, fits_of h w⟩
  refine ⟨p.shown, ?_⟩
  have e2 : semB .repr [v] = (reprB v).map fun x => (.str x, .sh) := by
    cases v <;> first | rfl | (cases e; done)
  rw [e2, e1]; rfl
theorem leaf_w {w : Str} (h : Wd w) : (w.cps.toList.all fun c => decide (c < 16 ^ 8)) = true := List.all_eq_true.mpr fun c hc => decide_eq_true (h.2 c hc)
theorem wt_w {w : Str} (h : Wd w) : w.cps.size ≤ 12 := h.1
theorem v_non : Val .non := repr_of (p := .none) rfl rfl (by decide) rfl (by decide)
theorem v_bl {b : Bool} : Val (.bl b) := repr_of (p := .bool b) rfl rfl (by simp [PyData.depth]) rfl (by simp [PyData.weight])
theorem wi {i : Int} (h : Nm i) : PyData.weight (.int i) ≤ 2000 := by
  have := h.2
  simp only [PyData.weight]
  split <;> omega
theorem w1 : PyData.weight (.int 1) ≤ 2000 := by decide +kernel
theorem wl : ∀ {p : PyData}, PyData.weightAll [p] = p.weight + 1 := fun {p} => by simp [PyData.weightAll]
theorem wl2 : ∀ {p q : PyData}, PyData.weightAll [p, q] = p.weight + 1 + (q.weight + 1) := fun {p q} => by simp [PyData.weightAll]
theorem one_show : Nat.log2 1 < 1920 := by decide
theorem v_int {i : Int} (h : Nm i) : Val (.int i) := repr_of (p := .int i) rfl (decide_eq_true h.2) (by simp [PyData.depth]) (decide_eq_true h.1) (by have := wi h; omega)
theorem v_str {w : Str} (h : Wd w) : Val (.str w) := repr_of (p := .str w) rfl rfl (by simp [PyData.depth]) (leaf_w h) (by have := wt_w h; simp [PyData.weight]; omega)
theorem v_t1 {i : Int} (h : Nm i) : Val (.tup [.int i]) := repr_of (p := .tuple [.int i]) rfl (by simp [PyData.showable, PyData.showableAll, h.2]) (by simp [PyData.depth, PyData.depthAll]) (by simp [PyData.leavesShort, PyData.leavesShortAll, h.1]) (by have := wi h; rw [PyData.weight, wl]; omega)
theorem v_l1 {i : Int} (h : Nm i) : Val (.lst [.int i]) := repr_of (p := .list [.int i]) rfl (by simp [PyData.showable, PyData.showableAll, h.2]) (by simp [PyData.depth, PyData.depthAll]) (by simp [PyData.leavesShort, PyData.leavesShortAll, h.1]) (by have := wi h; rw [PyData.weight, wl]; omega)
theorem one_short : (PyData.shown (.int 1)).length ≤ 70 := by decide +kernel
theorem v_t2 {i : Int} (h : Nm i) : Val (.tup [.int 1, .int i]) := repr_of (p := .tuple [.int 1, .int i]) rfl (by simp [PyData.showable, PyData.showableAll, h.2, one_show]) (by simp [PyData.depth, PyData.depthAll]) (by simp [PyData.leavesShort, PyData.leavesShortAll, h.1, one_short]) (by have := wi h; have := w1; rw [PyData.weight, wl2]; omega)
theorem v_t0 : Val (.tup []) := repr_of (p := .tuple []) rfl rfl (by decide) rfl (by decide)
theorem leaf_c {x : Str} (h : (x.cps.toList.all fun c => decide (c < 16 ^ 8)) = true) : PyData.leavesShort 70 (.str x) = true := h
theorem v_key {w : Str} (h : Wd w) : Val (.tup [.str "key", .str w, .tup [.str "code"]]) := by
  refine repr_of (p := .tuple [.str "key", .str w, .tuple [.str "code"]]) rfl (by simp [PyData.showable, PyData.showableAll]) (by simp [PyData.depth, PyData.depthAll]) ?_ ?_
  · have h1 : PyData.leavesShort 70 (.str "key") = true := leaf_c (by decide +kernel)
    have h2 : PyData.leavesShort 70 (.str w) = true := leaf_c (leaf_w h)
    have h3 : PyData.leavesShort 70 (.str "code") = true := leaf_c (by decide +kernel)
    simp only [PyData.leavesShort, PyData.leavesShortAll, Bool.and_true, Bool.and_eq_true] at h1 h2 h3 ⊢
    exact ⟨h1, h2, h3⟩
  · have := wt_w h
    have a1 : ("key" : Str).cps.size = 3 := rfl
    have a2 : ("code" : Str).cps.size = 4 := rfl
    simp only [PyData.weight, PyData.weightAll, a1, a2]
    omega
theorem v_ref : Val (.tup [.str "reference", .str "oc"]) := by
  refine repr_of (p := .tuple [.str "reference", .str "oc"]) rfl (by simp [PyData.showable, PyData.showableAll]) (by simp [PyData.depth, PyData.depthAll]) ?_ ?_
  · have h1 : PyData.leavesShort 70 (.str "reference") = true := leaf_c (by decide +kernel)
    have h2 : PyData.leavesShort 70 (.str "oc") = true := leaf_c (by decide +kernel)
    simp only [PyData.leavesShort, PyData.leavesShortAll, Bool.and_true, Bool.and_eq_true] at h1 h2 ⊢
    exact ⟨h1, h2⟩
  · have a1 : ("reference" : Str).cps.size = 9 := rfl
    have a2 : ("oc" : Str).cps.size = 2 := rfl
    simp only [PyData.weight, PyData.weightAll, a1, a2]
    omega
theorem v_dct {i : Int} (h : Nm i) : Val (.dct [(.str "a", .int i)]) := by
  have h1 : PyData.leavesShort 70 (.dict [(.str "a", .int i)]) = true := by
    have h2 : PyData.leavesShort 70 (.str "a") = true := leaf_c (by decide +kernel)
    have h3 : PyData.leavesShort 70 (.int i) = true := decide_eq_true h.1
    rw [PyData.leavesShort, PyData.leavesShortKv, PyData.leavesShortKv, h2, h3]; rfl
  have h4 : PyData.showable (.dict [(.str "a", .int i)]) = true := by simp [PyData.showable, PyData.showableKv, h.2]
  have h5 : PyData.depth (.dict [(.str "a", .int i)]) ≤ 60 := by simp [PyData.depth, PyData.depthKv]
  have h6 : PyData.weight (.dict [(.str "a", .int i)]) ≤ 10000 := by
    have a1 : ("a" : Str).cps.size = 1 := rfl
    have := wi h
    rw [PyData.weight, PyData.weightKv, PyData.weightKv]
    simp only [PyData.weight, a1] at this ⊢
    omega
  refine ⟨PyData.shown (.dict [(.str "a", .int i)]), ?_⟩
  have e2 : semB .repr [.dct [(.str "a", .int i)]] = (reprD [(.str "a", .int i)]).map fun x => (.str x, .sh) := rfl
  have e1 : reprD [(.str "a", .int i)] = some (PyData.shown (.dict [(.str "a", .int i)])) := by
    unfold reprD
    rw [if_neg (by simp)]
    rw [show kvP [(.str "a", .int i)] = some [(.str "a", .int i)] from rfl, Option.bind_some, if_pos]
    rw [Bool.and_eq_true, Bool.and_eq_true]
    exact ⟨⟨h4, decide_eq_true h5⟩, fits_of h1 h6⟩
  rw [e2, e1]; rfl
theorem eq_str (x : Str) : eqB2 (.str x) (.str x) = some true := by
  show some (decide (x = x)) = _
  simp
/-! ## A drawn value -/
theorem p59 : powD (.int 10) (.int 59) = some (.int (10 ^ 59), .sh) := by
  show (if (0 : Int) ≤ 59 ∧ (Builtin.Int.intBits 10 : Int) * 59 ≤ 2 ^ 27 then shv (.int (10 ^ (59 : Int).toNat)) else none) = _
  rw [if_pos (by decide +kernel)]; rfl
theorem ng1 : negD (.int 1) = some (.int (-1), .sh) := rfl
theorem value_ok {n k : Nat} {d : D} (R : Reel k d) (hk : k + 50 ≤ 2 ^ 40) :
    ∃ v d', run Pg (n + 4) 12 [⟨.io, d⟩] = .ok v .sh [some ⟨.io, d'⟩] ∧ Val v ∧ Reel (k + 30) d' := by
  obtain ⟨x, d1, e1, m1, R1⟩ := pick_ok (n := n + 1) (ds := [.int 0, .int 1, .int 100, .int 2000, .int (-1), .int (10 ^ 59)]) R (by omega) (by simp) (by simp)
  obtain ⟨r, d2, e2, r1, r2, R2⟩ := roll_ok (n := n + 2) (t := 5) R1 (by omega) (by omega) (by omega)
  obtain ⟨w1, d3, e3, W1, R3⟩ := word_ok (n := n) R2 (by omega)
  obtain ⟨w2, d4, e4, W2, R4⟩ := word_ok (n := n) R3 (by omega)
  obtain ⟨y, rfl, hy⟩ : ∃ y : Int, x = .int y ∧ y ∈ ([0, 1, 100, 2000, -1, 10 ^ 59] : List Int) := by
    simp only [List.mem_cons, List.not_mem_nil, or_false] at m1
    rcases m1 with rfl | rfl | rfl | rfl | rfl | rfl <;> exact ⟨_, rfl, by simp⟩
  have N := nm_of hy r1 r2
  obtain ⟨v, d5, e5, m5, R5⟩ := pick_ok (n := n + 1) (ds := [.non, .int (y + r), .str w1, .tup [.int (y + r)], .tup [.str "key", .str w2, .tup [.str "code"]], .tup [.str "reference", .str "oc"], .bl true, .bl false, .tup [], .tup [.int 1, .int (y + r)], .lst [.int (y + r)], .dct [(.str "a", .int (y + r))]]) R4 (by omega) (by simp) (by simp)
  have dd : (pairsD [.str "a", .int (y + r)]).bind dispD = some [(.str "a", .int (y + r))] := rfl
  have ol : ∀ {a b c e f g h i j k l m : D}, okLen ([a, b, c, e, f, g].length + [h, i, j, k, l, m].length) = true := rfl
  refine ⟨v, d5, ?_, ?_, R5.up (by omega)⟩
  · simp only [r12, b12, ev_int, ev_str, ev_bl, ev_non, ev_bty, ev_gc, ev_mov, ev_tup, ev_lst, ev_dct, ev_odc, ev_op2, ev_ch, ev_neg, ev_and, ev_or, ev_ife, ev_sub, ev_sl, ev_bi, ev_call, ev_mth, ev_pm, ev_lc, ev_mk, ev_mkx, ev_fld, ev_isx, ev_join, ev_var, ev_varT, ev_notT, ev_notF, ea_e, ea_s, ea_io, es_nil, es_cons, eand_1, eand_2, eor_1, eor_2, ei_nil, ei_1, ex_set, ex_tgt, ex_par, ex_sub, ex_ex, ex_ifs, ex_for_, ex_whl, ex_whw, ex_ret, ex_retN, ex_raise, ex_raisex, ex_try_, ex_pass, ex_brk, ex_ctn, ex_doc, xs_nil, xs_cons, xh_nil, xh_cons, xh_tup, gs_0, ss_0, ge_0, st_0, gs_1, ss_1, ge_1, st_1, gs_2, ss_2, ge_2, st_2, gs_3, ss_3, ge_3, st_3, gs_4, ss_4, ge_4, st_4, gs_5, ss_5, ge_5, st_5, gs_6, ss_6, ge_6, st_6, gs_7, ss_7, ge_7, st_7, gs_8, ss_8, ge_8, st_8, gs_9, ss_9, ge_9, st_9, gs_10, ss_10, ge_10, st_10, so_add, so_sub, so_mul, so_fdiv, so_mod, so_pow, so_eq, so_ne, so_lt, so_le, so_gt, so_ge, so_in, so_nin, so_is, so_isn, d_add, d_addt, d_addl, d_sub, d_mul, d_div, d_mod, d_lt, d_cmp, b_lent, b_lenl, b_lenf, b_abs, b_int, b_intb, b_listl, b_listf, b_listt, b_tupl, b_tupt, b_max2, b_min2, b_all, b_any, b_isi, b_dict, b_listd, b_sorted, b_min1, t_bl, t_int, t_non, t_lst, t_tup, l_tup, l_lst, l_fz, m_app, m_popat, ol_0, ol_1, ol_2, ol_3, ol_4, ol_5, ol_6, ol_7, ol_8, ol_9, ol_10, nd_0, nd_1, nd_0_1, nd_0_2, nd_0_3, nd_0_4, nd_0_5, nd_0_6, nd_0_7, nd_1_0, nd_1_2, nd_1_3, nd_1_4, nd_1_5, nd_1_6, nd_1_7, nd_2_0, nd_2_1, nd_2_3, nd_2_4, nd_2_5, nd_2_6, nd_2_7, nd_3_0, nd_3_1, nd_3_2, nd_3_4, nd_3_5, nd_3_6, nd_3_7, nd_4_0, nd_4_1, nd_4_2, nd_4_3, nd_4_5, nd_4_6, nd_4_7, nd_5_0, nd_5_1, nd_5_2, nd_5_3, nd_5_4, nd_5_6, nd_5_7, nd_6_0, nd_6_1, nd_6_2, nd_6_3, nd_6_4, nd_6_5, nd_6_7, nd_7_0, nd_7_1, nd_7_2, nd_7_3, nd_7_4, nd_7_5, nd_7_6, kb_NoneType_int, kb_NoneType_bool, kb_NoneType_tuple, kb_NoneType_str, kb_NoneType_list, kb_NoneType_dict, kb_bool_int, kb_bool_bool, kb_bool_tuple, kb_bool_str, kb_bool_list, kb_bool_dict, kb_int_int, kb_int_bool, kb_int_tuple, kb_int_str, kb_int_list, kb_int_dict, kb_str_int, kb_str_bool, kb_str_tuple, kb_str_str, kb_str_list, kb_str_dict, kb_tuple_int, kb_tuple_bool, kb_tuple_tuple, kb_tuple_str, kb_tuple_list, kb_tuple_dict, kb_list_int, kb_list_bool, kb_list_tuple, kb_list_str, kb_list_list, kb_list_dict, kb_dict_int, kb_dict_bool, kb_dict_tuple, kb_dict_str, kb_dict_list, kb_dict_dict, it_val, it_enum, it_zip, ow_nil, ow_cons, sn_n, sn_s, le_2, le_3, okb, okt, exb, ext_, sq_nx, sq_rt, sq_ex, ac_nx, ac_rt, ac_ex, fr_n, fr_s, fr_o, oo_n, oo_s, oo_i, oo_b, fin, argF, consF, slotF, ioF, tupF, lstF, dctF, twoF, oneF, chainF, notF, ifF, andF, orF, slF, biF, callG, mthF, pmF, lcF, yesF, varT, readVar, moveVar, setFs, parFs, subFs, dropFs, ifFs, forFs, retFs, raiseFs, raisexFs, mkF, mkxF, htFs, tryFs, hdFs, seqFs, walF, subF, nmF, unpF, putT, putTs, onBl, Ar.get, gets, valsOf, ofRes, mkSl, callF, ioArg, ioArgs, hold1, holds, back, assignT, assignT.assignN, wipeE, putBack, unlock, SR.calm, SR.onEnv, srcOf, seqD, ixR, Option.bind_some, Option.map_some, Option.bind_none, Option.map_none, List.map_cons, List.map_nil, List.cons_append, List.nil_append, if_true, if_false, reduceIte, Bool.false_eq_true, Bool.true_and, Bool.and_true, Option.isSome_some, List.contains_nil, Bool.not_false, Bool.not_true, tyO, tyD, neD, eqD, isNoneB, isLst, p59, ng1, e1, e2, e3, e4, dd, ol, e5]
  · simp only [List.mem_cons, List.not_mem_nil, or_false] at m5
    rcases m5 with rfl | rfl | rfl | rfl | rfl | rfl | rfl | rfl | rfl | rfl | rfl | rfl
    · exact v_non
    · exact v_int N
    · exact v_str W1
    · exact v_t1 N
    · exact v_key W2
    · exact v_ref
    · exact v_bl
    · exact v_bl
    · exact v_t0
    · exact v_t2 N
    · exact v_l1 N
    · exact v_dct N
end K00

set_option Elab.async false
set_option linter.all false
set_option maxRecDepth 100000
set_option maxHeartbeats 4000000
namespace K00
open PySem DI
theorem seq_go {gcs : List D} {cl : Nat → List Sl → CR} {isa : Nat → Nat → Bool} {s : S} {r : Ss} {ρ ρ' : DI.Env} (h : exS gcs cl isa s ρ = .nx ρ') : exSs gcs cl isa (.cons s r) ρ = exSs gcs cl isa r ρ' := by
  rw [exSs]
  unfold seqFs
  rw [h]; rfl
theorem it11 {ρ : DI.Env} {m : Vm} : itemsOf .rng1 [.val (.int 11) m] ρ = some ⟨rngD 0 11, [], ρ⟩ := by rfl
theorem it9 {ρ : DI.Env} {m : Vm} : itemsOf .rng1 [.val (.int 9) m] ρ = some ⟨rngD 0 9, [], ρ⟩ := by rfl
def mBody (n : Nat) : DI.Env → SR := exSs Pg.gcs (run Pg (n + 3)) Pg.isa (.cons (.set 2 (.call 3 (.cons (.s 1) (.cons (.e (.call 11 (.cons (.io 0) .nil) [])) .nil)) [])) 
   (.cons (.ifs (.op2 .ne (.e (.call 6 (.cons (.s 2) .nil) [])) (.e (.call 8 (.cons (.e (.ife (.op2 .lt (.s 1) (.e (.int 10))) (.tup (.cons (.e (.var 1)) (.cons (.e (.int 19)) .nil))) (.tup (.cons (.e (.int 19)) .nil)))) (.cons (.e (.int 20)) .nil)) []))) 
    (.cons (.ret (.bl false)) .nil) .nil) 
   (.cons (.ifs (.op2 .ne (.e (.call 7 (.cons (.s 2) .nil) [])) (.e (.call 8 (.cons (.e (.tup (.cons (.e (.int 0)) .nil))) (.cons (.e (.int 8)) .nil)) []))) 
    (.cons (.ret (.bl false)) .nil) .nil) .nil)))
theorem td_0 {n : Nat} {w : Str} : run Pg (n + 3) 3 [⟨.sh, .int 0⟩, ⟨.sh, .str w⟩] = .ok (.exc 1 []) .sh [none, none] := by rfl
theorem mr_0 {n : Nat} {d : D} : exSs Pg.gcs (run Pg (n + 3)) Pg.isa (.cons (.ifs (.op2 .ne (.e (.call 6 (.cons (.s 2) .nil) [])) (.e (.call 8 (.cons (.e (.ife (.op2 .lt (.s 1) (.e (.int 10))) (.tup (.cons (.e (.var 1)) (.cons (.e (.int 19)) .nil))) (.tup (.cons (.e (.int 19)) .nil)))) (.cons (.e (.int 20)) .nil)) []))) 
    (.cons (.ret (.bl false)) .nil) .nil) (.cons (.ifs (.op2 .ne (.e (.call 7 (.cons (.s 2) .nil) [])) (.e (.call 8 (.cons (.e (.tup (.cons (.e (.int 0)) .nil))) (.cons (.e (.int 8)) .nil)) []))) 
    (.cons (.ret (.bl false)) .nil) .nil) .nil)) [some ⟨.io, d⟩, shS (.int 0), shS (.exc 1 [])] = .nx [some ⟨.io, d⟩, shS (.int 0), shS (.exc 1 [])] := by rfl
theorem mt_0 {n k : Nat} {d : D} {x1 x2 : Option Sl} (R : Reel k d) (hk : k + 20 ≤ 2 ^ 40) (f1 : free x1 = true) (f2 : free x2 = true) : ∃ d', foTurn (.nm 1) (mBody n) (.int 0) [some ⟨.io, d⟩, x1, x2] = .nx [some ⟨.io, d'⟩, shS (.int 0), shS (.exc 1 [])] ∧ Reel (k + 13) d' := by
  obtain ⟨w, d', e1, W, R1⟩ := word_ok (n := n) R hk
  refine ⟨d', ?_, R1⟩
  have st : exS Pg.gcs (run Pg (n + 3)) Pg.isa (.set 2 (.call 3 (.cons (.s 1) (.cons (.e (.call 11 (.cons (.io 0) .nil) [])) .nil)) [])) [some ⟨.io, d⟩, shS (.int 0), x2] = .nx [some ⟨.io, d'⟩, shS (.int 0), shS (.exc 1 [])] := by
    simp only [ev_int, ev_str, ev_bl, ev_non, ev_bty, ev_gc, ev_mov, ev_tup, ev_lst, ev_dct, ev_odc, ev_op2, ev_ch, ev_neg, ev_and, ev_or, ev_ife, ev_sub, ev_sl, ev_bi, ev_call, ev_mth, ev_pm, ev_lc, ev_mk, ev_mkx, ev_fld, ev_isx, ev_join, ev_var, ev_varT, ev_notT, ev_notF, ea_e, ea_s, ea_io, es_nil, es_cons, eand_1, eand_2, eor_1, eor_2, ei_nil, ei_1, ex_set, ex_tgt, ex_par, ex_sub, ex_ex, ex_ifs, ex_for_, ex_whl, ex_whw, ex_ret, ex_retN, ex_raise, ex_raisex, ex_try_, ex_pass, ex_brk, ex_ctn, ex_doc, xs_nil, xs_cons, xh_nil, xh_cons, xh_tup, gs_0, ss_0, ge_0, st_0, gs_1, ss_1, ge_1, st_1, gs_2, ss_2, ge_2, st_2, gs_3, ss_3, ge_3, st_3, gs_4, ss_4, ge_4, st_4, gs_5, ss_5, ge_5, st_5, gs_6, ss_6, ge_6, st_6, gs_7, ss_7, ge_7, st_7, gs_8, ss_8, ge_8, st_8, gs_9, ss_9, ge_9, st_9, gs_10, ss_10, ge_10, st_10, so_add, so_sub, so_mul, so_fdiv, so_mod, so_pow, so_eq, so_ne, so_lt, so_le, so_gt, so_ge, so_in, so_nin, so_is, so_isn, d_add, d_addt, d_addl, d_sub, d_mul, d_div, d_mod, d_lt, d_cmp, b_lent, b_lenl, b_lenf, b_abs, b_int, b_intb, b_listl, b_listf, b_listt, b_tupl, b_tupt, b_max2, b_min2, b_all, b_any, b_isi, b_dict, b_listd, b_sorted, b_min1, t_bl, t_int, t_non, t_lst, t_tup, l_tup, l_lst, l_fz, m_app, m_popat, ol_0, ol_1, ol_2, ol_3, ol_4, ol_5, ol_6, ol_7, ol_8, ol_9, ol_10, nd_0, nd_1, nd_0_1, nd_0_2, nd_0_3, nd_0_4, nd_0_5, nd_0_6, nd_0_7, nd_1_0, nd_1_2, nd_1_3, nd_1_4, nd_1_5, nd_1_6, nd_1_7, nd_2_0, nd_2_1, nd_2_3, nd_2_4, nd_2_5, nd_2_6, nd_2_7, nd_3_0, nd_3_1, nd_3_2, nd_3_4, nd_3_5, nd_3_6, nd_3_7, nd_4_0, nd_4_1, nd_4_2, nd_4_3, nd_4_5, nd_4_6, nd_4_7, nd_5_0, nd_5_1, nd_5_2, nd_5_3, nd_5_4, nd_5_6, nd_5_7, nd_6_0, nd_6_1, nd_6_2, nd_6_3, nd_6_4, nd_6_5, nd_6_7, nd_7_0, nd_7_1, nd_7_2, nd_7_3, nd_7_4, nd_7_5, nd_7_6, kb_NoneType_int, kb_NoneType_bool, kb_NoneType_tuple, kb_NoneType_str, kb_NoneType_list, kb_NoneType_dict, kb_bool_int, kb_bool_bool, kb_bool_tuple, kb_bool_str, kb_bool_list, kb_bool_dict, kb_int_int, kb_int_bool, kb_int_tuple, kb_int_str, kb_int_list, kb_int_dict, kb_str_int, kb_str_bool, kb_str_tuple, kb_str_str, kb_str_list, kb_str_dict, kb_tuple_int, kb_tuple_bool, kb_tuple_tuple, kb_tuple_str, kb_tuple_list, kb_tuple_dict, kb_list_int, kb_list_bool, kb_list_tuple, kb_list_str, kb_list_list, kb_list_dict, kb_dict_int, kb_dict_bool, kb_dict_tuple, kb_dict_str, kb_dict_list, kb_dict_dict, it_val, it_enum, it_zip, ow_nil, ow_cons, sn_n, sn_s, le_2, le_3, okb, okt, exb, ext_, sq_nx, sq_rt, sq_ex, ac_nx, ac_rt, ac_ex, fr_n, fr_s, fr_o, oo_n, oo_s, oo_i, oo_b, fin, argF, consF, slotF, ioF, tupF, lstF, dctF, twoF, oneF, chainF, notF, ifF, andF, orF, slF, biF, callG, mthF, pmF, lcF, yesF, varT, readVar, moveVar, setFs, parFs, subFs, dropFs, ifFs, forFs, retFs, raiseFs, raisexFs, mkF, mkxF, htFs, tryFs, hdFs, seqFs, walF, subF, nmF, unpF, putT, putTs, onBl, Ar.get, gets, valsOf, ofRes, mkSl, callF, ioArg, ioArgs, hold1, holds, back, assignT, assignT.assignN, wipeE, putBack, unlock, SR.calm, SR.onEnv, srcOf, seqD, ixR, Option.bind_some, Option.map_some, Option.bind_none, Option.map_none, List.map_cons, List.map_nil, List.cons_append, List.nil_append, if_true, if_false, reduceIte, Bool.false_eq_true, Bool.true_and, Bool.and_true, Option.isSome_some, List.contains_nil, Bool.not_false, Bool.not_true, tyO, tyD, neD, eqD, isNoneB, isLst, e1, td_0, f2]
  have sa : assignT [some ⟨.io, d⟩, x1, x2] (.int 0) (.nm 1) = some [some ⟨.io, d⟩, shS (.int 0), x2] := by simp only [ev_int, ev_str, ev_bl, ev_non, ev_bty, ev_gc, ev_mov, ev_tup, ev_lst, ev_dct, ev_odc, ev_op2, ev_ch, ev_neg, ev_and, ev_or, ev_ife, ev_sub, ev_sl, ev_bi, ev_call, ev_mth, ev_pm, ev_lc, ev_mk, ev_mkx, ev_fld, ev_isx, ev_join, ev_var, ev_varT, ev_notT, ev_notF, ea_e, ea_s, ea_io, es_nil, es_cons, eand_1, eand_2, eor_1, eor_2, ei_nil, ei_1, ex_set, ex_tgt, ex_par, ex_sub, ex_ex, ex_ifs, ex_for_, ex_whl, ex_whw, ex_ret, ex_retN, ex_raise, ex_raisex, ex_try_, ex_pass, ex_brk, ex_ctn, ex_doc, xs_nil, xs_cons, xh_nil, xh_cons, xh_tup, gs_0, ss_0, ge_0, st_0, gs_1, ss_1, ge_1, st_1, gs_2, ss_2, ge_2, st_2, gs_3, ss_3, ge_3, st_3, gs_4, ss_4, ge_4, st_4, gs_5, ss_5, ge_5, st_5, gs_6, ss_6, ge_6, st_6, gs_7, ss_7, ge_7, st_7, gs_8, ss_8, ge_8, st_8, gs_9, ss_9, ge_9, st_9, gs_10, ss_10, ge_10, st_10, so_add, so_sub, so_mul, so_fdiv, so_mod, so_pow, so_eq, so_ne, so_lt, so_le, so_gt, so_ge, so_in, so_nin, so_is, so_isn, d_add, d_addt, d_addl, d_sub, d_mul, d_div, d_mod, d_lt, d_cmp, b_lent, b_lenl, b_lenf, b_abs, b_int, b_intb, b_listl, b_listf, b_listt, b_tupl, b_tupt, b_max2, b_min2, b_all, b_any, b_isi, b_dict, b_listd, b_sorted, b_min1, t_bl, t_int, t_non, t_lst, t_tup, l_tup, l_lst, l_fz, m_app, m_popat, ol_0, ol_1, ol_2, ol_3, ol_4, ol_5, ol_6, ol_7, ol_8, ol_9, ol_10, nd_0, nd_1, nd_0_1, nd_0_2, nd_0_3, nd_0_4, nd_0_5, nd_0_6, nd_0_7, nd_1_0, nd_1_2, nd_1_3, nd_1_4, nd_1_5, nd_1_6, nd_1_7, nd_2_0, nd_2_1, nd_2_3, nd_2_4, nd_2_5, nd_2_6, nd_2_7, nd_3_0, nd_3_1, nd_3_2, nd_3_4, nd_3_5, nd_3_6, nd_3_7, nd_4_0, nd_4_1, nd_4_2, nd_4_3, nd_4_5, nd_4_6, nd_4_7, nd_5_0, nd_5_1, nd_5_2, nd_5_3, nd_5_4, nd_5_6, nd_5_7, nd_6_0, nd_6_1, nd_6_2, nd_6_3, nd_6_4, nd_6_5, nd_6_7, nd_7_0, nd_7_1, nd_7_2, nd_7_3, nd_7_4, nd_7_5, nd_7_6, kb_NoneType_int, kb_NoneType_bool, kb_NoneType_tuple, kb_NoneType_str, kb_NoneType_list, kb_NoneType_dict, kb_bool_int, kb_bool_bool, kb_bool_tuple, kb_bool_str, kb_bool_list, kb_bool_dict, kb_int_int, kb_int_bool, kb_int_tuple, kb_int_str, kb_int_list, kb_int_dict, kb_str_int, kb_str_bool, kb_str_tuple, kb_str_str, kb_str_list, kb_str_dict, kb_tuple_int, kb_tuple_bool, kb_tuple_tuple, kb_tuple_str, kb_tuple_list, kb_tuple_dict, kb_list_int, kb_list_bool, kb_list_tuple, kb_list_str, kb_list_list, kb_list_dict, kb_dict_int, kb_dict_bool, kb_dict_tuple, kb_dict_str, kb_dict_list, kb_dict_dict, it_val, it_enum, it_zip, ow_nil, ow_cons, sn_n, sn_s, le_2, le_3, okb, okt, exb, ext_, sq_nx, sq_rt, sq_ex, ac_nx, ac_rt, ac_ex, fr_n, fr_s, fr_o, oo_n, oo_s, oo_i, oo_b, fin, argF, consF, slotF, ioF, tupF, lstF, dctF, twoF, oneF, chainF, notF, ifF, andF, orF, slF, biF, callG, mthF, pmF, lcF, yesF, varT, readVar, moveVar, setFs, parFs, subFs, dropFs, ifFs, forFs, retFs, raiseFs, raisexFs, mkF, mkxF, htFs, tryFs, hdFs, seqFs, walF, subF, nmF, unpF, putT, putTs, onBl, Ar.get, gets, valsOf, ofRes, mkSl, callF, ioArg, ioArgs, hold1, holds, back, assignT, assignT.assignN, wipeE, putBack, unlock, SR.calm, SR.onEnv, srcOf, seqD, ixR, Option.bind_some, Option.map_some, Option.bind_none, Option.map_none, List.map_cons, List.map_nil, List.cons_append, List.nil_append, if_true, if_false, reduceIte, Bool.false_eq_true, Bool.true_and, Bool.and_true, Option.isSome_some, List.contains_nil, Bool.not_false, Bool.not_true, tyO, tyD, neD, eqD, isNoneB, isLst, f1]
  unfold foTurn mBody
  rw [sa]
  dsimp only
  rw [seq_go st]
  exact mr_0
theorem td_1 {n : Nat} {w : Str} : run Pg (n + 3) 3 [⟨.sh, .int 1⟩, ⟨.sh, .str w⟩] = .ok (.exc 2 []) .sh [none, none] := by rfl
theorem mr_1 {n : Nat} {d : D} : exSs Pg.gcs (run Pg (n + 3)) Pg.isa (.cons (.ifs (.op2 .ne (.e (.call 6 (.cons (.s 2) .nil) [])) (.e (.call 8 (.cons (.e (.ife (.op2 .lt (.s 1) (.e (.int 10))) (.tup (.cons (.e (.var 1)) (.cons (.e (.int 19)) .nil))) (.tup (.cons (.e (.int 19)) .nil)))) (.cons (.e (.int 20)) .nil)) []))) 
    (.cons (.ret (.bl false)) .nil) .nil) (.cons (.ifs (.op2 .ne (.e (.call 7 (.cons (.s 2) .nil) [])) (.e (.call 8 (.cons (.e (.tup (.cons (.e (.int 0)) .nil))) (.cons (.e (.int 8)) .nil)) []))) 
    (.cons (.ret (.bl false)) .nil) .nil) .nil)) [some ⟨.io, d⟩, shS (.int 1), shS (.exc 2 [])] = .nx [some ⟨.io, d⟩, shS (.int 1), shS (.exc 2 [])] := by rfl
theorem mt_1 {n k : Nat} {d : D} {x1 x2 : Option Sl} (R : Reel k d) (hk : k + 20 ≤ 2 ^ 40) (f1 : free x1 = true) (f2 : free x2 = true) : ∃ d', foTurn (.nm 1) (mBody n) (.int 1) [some ⟨.io, d⟩, x1, x2] = .nx [some ⟨.io, d'⟩, shS (.int 1), shS (.exc 2 [])] ∧ Reel (k + 13) d' := by
  obtain ⟨w, d', e1, W, R1⟩ := word_ok (n := n) R hk
  refine ⟨d', ?_, R1⟩
  have st : exS Pg.gcs (run Pg (n + 3)) Pg.isa (.set 2 (.call 3 (.cons (.s 1) (.cons (.e (.call 11 (.cons (.io 0) .nil) [])) .nil)) [])) [some ⟨.io, d⟩, shS (.int 1), x2] = .nx [some ⟨.io, d'⟩, shS (.int 1), shS (.exc 2 [])] := by
    simp only [ev_int, ev_str, ev_bl, ev_non, ev_bty, ev_gc, ev_mov, ev_tup, ev_lst, ev_dct, ev_odc, ev_op2, ev_ch, ev_neg, ev_and, ev_or, ev_ife, ev_sub, ev_sl, ev_bi, ev_call, ev_mth, ev_pm, ev_lc, ev_mk, ev_mkx, ev_fld, ev_isx, ev_join, ev_var, ev_varT, ev_notT, ev_notF, ea_e, ea_s, ea_io, es_nil, es_cons, eand_1, eand_2, eor_1, eor_2, ei_nil, ei_1, ex_set, ex_tgt, ex_par, ex_sub, ex_ex, ex_ifs, ex_for_, ex_whl, ex_whw, ex_ret, ex_retN, ex_raise, ex_raisex, ex_try_, ex_pass, ex_brk, ex_ctn, ex_doc, xs_nil, xs_cons, xh_nil, xh_cons, xh_tup, gs_0, ss_0, ge_0, st_0, gs_1, ss_1, ge_1, st_1, gs_2, ss_2, ge_2, st_2, gs_3, ss_3, ge_3, st_3, gs_4, ss_4, ge_4, st_4, gs_5, ss_5, ge_5, st_5, gs_6, ss_6, ge_6, st_6, gs_7, ss_7, ge_7, st_7, gs_8, ss_8, ge_8, st_8, gs_9, ss_9, ge_9, st_9, gs_10, ss_10, ge_10, st_10, so_add, so_sub, so_mul, so_fdiv, so_mod, so_pow, so_eq, so_ne, so_lt, so_le, so_gt, so_ge, so_in, so_nin, so_is, so_isn, d_add, d_addt, d_addl, d_sub, d_mul, d_div, d_mod, d_lt, d_cmp, b_lent, b_lenl, b_lenf, b_abs, b_int, b_intb, b_listl, b_listf, b_listt, b_tupl, b_tupt, b_max2, b_min2, b_all, b_any, b_isi, b_dict, b_listd, b_sorted, b_min1, t_bl, t_int, t_non, t_lst, t_tup, l_tup, l_lst, l_fz, m_app, m_popat, ol_0, ol_1, ol_2, ol_3, ol_4, ol_5, ol_6, ol_7, ol_8, ol_9, ol_10, nd_0, nd_1, nd_0_1, nd_0_2, nd_0_3, nd_0_4, nd_0_5, nd_0_6, nd_0_7, nd_1_0, nd_1_2, nd_1_3, nd_1_4, nd_1_5, nd_1_6, nd_1_7, nd_2_0, nd_2_1, nd_2_3, nd_2_4, nd_2_5, nd_2_6, nd_2_7, nd_3_0, nd_3_1, nd_3_2, nd_3_4, nd_3_5, nd_3_6, nd_3_7, nd_4_0, nd_4_1, nd_4_2, nd_4_3, nd_4_5, nd_4_6, nd_4_7, nd_5_0, nd_5_1, nd_5_2, nd_5_3, nd_5_4, nd_5_6, nd_5_7, nd_6_0, nd_6_1, nd_6_2, nd_6_3, nd_6_4, nd_6_5, nd_6_7, nd_7_0, nd_7_1, nd_7_2, nd_7_3, nd_7_4, nd_7_5, nd_7_6, kb_NoneType_int, kb_NoneType_bool, kb_NoneType_tuple, kb_NoneType_str, kb_NoneType_list, kb_NoneType_dict, kb_bool_int, kb_bool_bool, kb_bool_tuple, kb_bool_str, kb_bool_list, kb_bool_dict, kb_int_int, kb_int_bool, kb_int_tuple, kb_int_str, kb_int_list, kb_int_dict, kb_str_int, kb_str_bool, kb_str_tuple, kb_str_str, kb_str_list, kb_str_dict, kb_tuple_int, kb_tuple_bool, kb_tuple_tuple, kb_tuple_str, kb_tuple_list, kb_tuple_dict, kb_list_int, kb_list_bool, kb_list_tuple, kb_list_str, kb_list_list, kb_list_dict, kb_dict_int, kb_dict_bool, kb_dict_tuple, kb_dict_str, kb_dict_list, kb_dict_dict, it_val, it_enum, it_zip, ow_nil, ow_cons, sn_n, sn_s, le_2, le_3, okb, okt, exb, ext_, sq_nx, sq_rt, sq_ex, ac_nx, ac_rt, ac_ex, fr_n, fr_s, fr_o, oo_n, oo_s, oo_i, oo_b, fin, argF, consF, slotF, ioF, tupF, lstF, dctF, twoF, oneF, chainF, notF, ifF, andF, orF, slF, biF, callG, mthF, pmF, lcF, yesF, varT, readVar, moveVar, setFs, parFs, subFs, dropFs, ifFs, forFs, retFs, raiseFs, raisexFs, mkF, mkxF, htFs, tryFs, hdFs, seqFs, walF, subF, nmF, unpF, putT, putTs, onBl, Ar.get, gets, valsOf, ofRes, mkSl, callF, ioArg, ioArgs, hold1, holds, back, assignT, assignT.assignN, wipeE, putBack, unlock, SR.calm, SR.onEnv, srcOf, seqD, ixR, Option.bind_some, Option.map_some, Option.bind_none, Option.map_none, List.map_cons, List.map_nil, List.cons_append, List.nil_append, if_true, if_false, reduceIte, Bool.false_eq_true, Bool.true_and, Bool.and_true, Option.isSome_some, List.contains_nil, Bool.not_false, Bool.not_true, tyO, tyD, neD, eqD, isNoneB, isLst, e1, td_1, f2]
  have sa : assignT [some ⟨.io, d⟩, x1, x2] (.int 1) (.nm 1) = some [some ⟨.io, d⟩, shS (.int 1), x2] := by simp only [ev_int, ev_str, ev_bl, ev_non, ev_bty, ev_gc, ev_mov, ev_tup, ev_lst, ev_dct, ev_odc, ev_op2, ev_ch, ev_neg, ev_and, ev_or, ev_ife, ev_sub, ev_sl, ev_bi, ev_call, ev_mth, ev_pm, ev_lc, ev_mk, ev_mkx, ev_fld, ev_isx, ev_join, ev_var, ev_varT, ev_notT, ev_notF, ea_e, ea_s, ea_io, es_nil, es_cons, eand_1, eand_2, eor_1, eor_2, ei_nil, ei_1, ex_set, ex_tgt, ex_par, ex_sub, ex_ex, ex_ifs, ex_for_, ex_whl, ex_whw, ex_ret, ex_retN, ex_raise, ex_raisex, ex_try_, ex_pass, ex_brk, ex_ctn, ex_doc, xs_nil, xs_cons, xh_nil, xh_cons, xh_tup, gs_0, ss_0, ge_0, st_0, gs_1, ss_1, ge_1, st_1, gs_2, ss_2, ge_2, st_2, gs_3, ss_3, ge_3, st_3, gs_4, ss_4, ge_4, st_4, gs_5, ss_5, ge_5, st_5, gs_6, ss_6, ge_6, st_6, gs_7, ss_7, ge_7, st_7, gs_8, ss_8, ge_8, st_8, gs_9, ss_9, ge_9, st_9, gs_10, ss_10, ge_10, st_10, so_add, so_sub, so_mul, so_fdiv, so_mod, so_pow, so_eq, so_ne, so_lt, so_le, so_gt, so_ge, so_in, so_nin, so_is, so_isn, d_add, d_addt, d_addl, d_sub, d_mul, d_div, d_mod, d_lt, d_cmp, b_lent, b_lenl, b_lenf, b_abs, b_int, b_intb, b_listl, b_listf, b_listt, b_tupl, b_tupt, b_max2, b_min2, b_all, b_any, b_isi, b_dict, b_listd, b_sorted, b_min1, t_bl, t_int, t_non, t_lst, t_tup, l_tup, l_lst, l_fz, m_app, m_popat, ol_0, ol_1, ol_2, ol_3, ol_4, ol_5, ol_6, ol_7, ol_8, ol_9, ol_10, nd_0, nd_1, nd_0_1, nd_0_2, nd_0_3, nd_0_4, nd_0_5, nd_0_6, nd_0_7, nd_1_0, nd_1_2, nd_1_3, nd_1_4, nd_1_5, nd_1_6, nd_1_7, nd_2_0, nd_2_1, nd_2_3, nd_2_4, nd_2_5, nd_2_6, nd_2_7, nd_3_0, nd_3_1, nd_3_2, nd_3_4, nd_3_5, nd_3_6, nd_3_7, nd_4_0, nd_4_1, nd_4_2, nd_4_3, nd_4_5, nd_4_6, nd_4_7, nd_5_0, nd_5_1, nd_5_2, nd_5_3, nd_5_4, nd_5_6, nd_5_7, nd_6_0, nd_6_1, nd_6_2, nd_6_3, nd_6_4, nd_6_5, nd_6_7, nd_7_0, nd_7_1, nd_7_2, nd_7_3, nd_7_4, nd_7_5, nd_7_6, kb_NoneType_int, kb_NoneType_bool, kb_NoneType_tuple, kb_NoneType_str, kb_NoneType_list, kb_NoneType_dict, kb_bool_int, kb_bool_bool, kb_bool_tuple, kb_bool_str, kb_bool_list, kb_bool_dict, kb_int_int, kb_int_bool, kb_int_tuple, kb_int_str, kb_int_list, kb_int_dict, kb_str_int, kb_str_bool, kb_str_tuple, kb_str_str, kb_str_list, kb_str_dict, kb_tuple_int, kb_tuple_bool, kb_tuple_tuple, kb_tuple_str, kb_tuple_list, kb_tuple_dict, kb_list_int, kb_list_bool, kb_list_tuple, kb_list_str, kb_list_list, kb_list_dict, kb_dict_int, kb_dict_bool, kb_dict_tuple, kb_dict_str, kb_dict_list, kb_dict_dict, it_val, it_enum, it_zip, ow_nil, ow_cons, sn_n, sn_s, le_2, le_3, okb, okt, exb, ext_, sq_nx, sq_rt, sq_ex, ac_nx, ac_rt, ac_ex, fr_n, fr_s, fr_o, oo_n, oo_s, oo_i, oo_b, fin, argF, consF, slotF, ioF, tupF, lstF, dctF, twoF, oneF, chainF, notF, ifF, andF, orF, slF, biF, callG, mthF, pmF, lcF, yesF, varT, readVar, moveVar, setFs, parFs, subFs, dropFs, ifFs, forFs, retFs, raiseFs, raisexFs, mkF, mkxF, htFs, tryFs, hdFs, seqFs, walF, subF, nmF, unpF, putT, putTs, onBl, Ar.get, gets, valsOf, ofRes, mkSl, callF, ioArg, ioArgs, hold1, holds, back, assignT, assignT.assignN, wipeE, putBack, unlock, SR.calm, SR.onEnv, srcOf, seqD, ixR, Option.bind_some, Option.map_some, Option.bind_none, Option.map_none, List.map_cons, List.map_nil, List.cons_append, List.nil_append, if_true, if_false, reduceIte, Bool.false_eq_true, Bool.true_and, Bool.and_true, Option.isSome_some, List.contains_nil, Bool.not_false, Bool.not_true, tyO, tyD, neD, eqD, isNoneB, isLst, f1]
  unfold foTurn mBody
  rw [sa]
  dsimp only
  rw [seq_go st]
  exact mr_1
theorem td_2 {n : Nat} {w : Str} : run Pg (n + 3) 3 [⟨.sh, .int 2⟩, ⟨.sh, .str w⟩] = .ok (.exc 3 []) .sh [none, none] := by rfl
theorem mr_2 {n : Nat} {d : D} : exSs Pg.gcs (run Pg (n + 3)) Pg.isa (.cons (.ifs (.op2 .ne (.e (.call 6 (.cons (.s 2) .nil) [])) (.e (.call 8 (.cons (.e (.ife (.op2 .lt (.s 1) (.e (.int 10))) (.tup (.cons (.e (.var 1)) (.cons (.e (.int 19)) .nil))) (.tup (.cons (.e (.int 19)) .nil)))) (.cons (.e (.int 20)) .nil)) []))) 
    (.cons (.ret (.bl false)) .nil) .nil) (.cons (.ifs (.op2 .ne (.e (.call 7 (.cons (.s 2) .nil) [])) (.e (.call 8 (.cons (.e (.tup (.cons (.e (.int 0)) .nil))) (.cons (.e (.int 8)) .nil)) []))) 
    (.cons (.ret (.bl false)) .nil) .nil) .nil)) [some ⟨.io, d⟩, shS (.int 2), shS (.exc 3 [])] = .nx [some ⟨.io, d⟩, shS (.int 2), shS (.exc 3 [])] := by rfl
theorem mt_2 {n k : Nat} {d : D} {x1 x2 : Option Sl} (R : Reel k d) (hk : k + 20 ≤ 2 ^ 40) (f1 : free x1 = true) (f2 : free x2 = true) : ∃ d', foTurn (.nm 1) (mBody n) (.int 2) [some ⟨.io, d⟩, x1, x2] = .nx [some ⟨.io, d'⟩, shS (.int 2), shS (.exc 3 [])] ∧ Reel (k + 13) d' := by
  obtain ⟨w, d', e1, W, R1⟩ := word_ok (n := n) R hk
  refine ⟨d', ?_, R1⟩
  have st : exS Pg.gcs (run Pg (n + 3)) Pg.isa (.set 2 (.call 3 (.cons (.s 1) (.cons (.e (.call 11 (.cons (.io 0) .nil) [])) .nil)) [])) [some ⟨.io, d⟩, shS (.int 2), x2] = .nx [some ⟨.io, d'⟩, shS (.int 2), shS (.exc 3 [])] := by
    simp only [ev_int, ev_str, ev_bl, ev_non, ev_bty, ev_gc, ev_mov, ev_tup, ev_lst, ev_dct, ev_odc, ev_op2, ev_ch, ev_neg, ev_and, ev_or, ev_ife, ev_sub, ev_sl, ev_bi, ev_call, ev_mth, ev_pm, ev_lc, ev_mk, ev_mkx, ev_fld, ev_isx, ev_join, ev_var, ev_varT, ev_notT, ev_notF, ea_e, ea_s, ea_io, es_nil, es_cons, eand_1, eand_2, eor_1, eor_2, ei_nil, ei_1, ex_set, ex_tgt, ex_par, ex_sub, ex_ex, ex_ifs, ex_for_, ex_whl, ex_whw, ex_ret, ex_retN, ex_raise, ex_raisex, ex_try_, ex_pass, ex_brk, ex_ctn, ex_doc, xs_nil, xs_cons, xh_nil, xh_cons, xh_tup, gs_0, ss_0, ge_0, st_0, gs_1, ss_1, ge_1, st_1, gs_2, ss_2, ge_2, st_2, gs_3, ss_3, ge_3, st_3, gs_4, ss_4, ge_4, st_4, gs_5, ss_5, ge_5, st_5, gs_6, ss_6, ge_6, st_6, gs_7, ss_7, ge_7, st_7, gs_8, ss_8, ge_8, st_8, gs_9, ss_9, ge_9, st_9, gs_10, ss_10, ge_10, st_10, so_add, so_sub, so_mul, so_fdiv, so_mod, so_pow, so_eq, so_ne, so_lt, so_le, so_gt, so_ge, so_in, so_nin, so_is, so_isn, d_add, d_addt, d_addl, d_sub, d_mul, d_div, d_mod, d_lt, d_cmp, b_lent, b_lenl, b_lenf, b_abs, b_int, b_intb, b_listl, b_listf, b_listt, b_tupl, b_tupt, b_max2, b_min2, b_all, b_any, b_isi, b_dict, b_listd, b_sorted, b_min1, t_bl, t_int, t_non, t_lst, t_tup, l_tup, l_lst, l_fz, m_app, m_popat, ol_0, ol_1, ol_2, ol_3, ol_4, ol_5, ol_6, ol_7, ol_8, ol_9, ol_10, nd_0, nd_1, nd_0_1, nd_0_2, nd_0_3, nd_0_4, nd_0_5, nd_0_6, nd_0_7, nd_1_0, nd_1_2, nd_1_3, nd_1_4, nd_1_5, nd_1_6, nd_1_7, nd_2_0, nd_2_1, nd_2_3, nd_2_4, nd_2_5, nd_2_6, nd_2_7, nd_3_0, nd_3_1, nd_3_2, nd_3_4, nd_3_5, nd_3_6, nd_3_7, nd_4_0, nd_4_1, nd_4_2, nd_4_3, nd_4_5, nd_4_6, nd_4_7, nd_5_0, nd_5_1, nd_5_2, nd_5_3, nd_5_4, nd_5_6, nd_5_7, nd_6_0, nd_6_1, nd_6_2, nd_6_3, nd_6_4, nd_6_5, nd_6_7, nd_7_0, nd_7_1, nd_7_2, nd_7_3, nd_7_4, nd_7_5, nd_7_6, kb_NoneType_int, kb_NoneType_bool, kb_NoneType_tuple, kb_NoneType_str, kb_NoneType_list, kb_NoneType_dict, kb_bool_int, kb_bool_bool, kb_bool_tuple, kb_bool_str, kb_bool_list, kb_bool_dict, kb_int_int, kb_int_bool, kb_int_tuple, kb_int_str, kb_int_list, kb_int_dict, kb_str_int, kb_str_bool, kb_str_tuple, kb_str_str, kb_str_list, kb_str_dict, kb_tuple_int, kb_tuple_bool, kb_tuple_tuple, kb_tuple_str, kb_tuple_list, kb_tuple_dict, kb_list_int, kb_list_bool, kb_list_tuple, kb_list_str, kb_list_list, kb_list_dict, kb_dict_int, kb_dict_bool, kb_dict_tuple, kb_dict_str, kb_dict_list, kb_dict_dict, it_val, it_enum, it_zip, ow_nil, ow_cons, sn_n, sn_s, le_2, le_3, okb, okt, exb, ext_, sq_nx, sq_rt, sq_ex, ac_nx, ac_rt, ac_ex, fr_n, fr_s, fr_o, oo_n, oo_s, oo_i, oo_b, fin, argF, consF, slotF, ioF, tupF, lstF, dctF, twoF, oneF, chainF, notF, ifF, andF, orF, slF, biF, callG, mthF, pmF, lcF, yesF, varT, readVar, moveVar, setFs, parFs, subFs, dropFs, ifFs, forFs, retFs, raiseFs, raisexFs, mkF, mkxF, htFs, tryFs, hdFs, seqFs, walF, subF, nmF, unpF, putT, putTs, onBl, Ar.get, gets, valsOf, ofRes, mkSl, callF, ioArg, ioArgs, hold1, holds, back, assignT, assignT.assignN, wipeE, putBack, unlock, SR.calm, SR.onEnv, srcOf, seqD, ixR, Option.bind_some, Option.map_some, Option.bind_none, Option.map_none, List.map_cons, List.map_nil, List.cons_append, List.nil_append, if_true, if_false, reduceIte, Bool.false_eq_true, Bool.true_and, Bool.and_true, Option.isSome_some, List.contains_nil, Bool.not_false, Bool.not_true, tyO, tyD, neD, eqD, isNoneB, isLst, e1, td_2, f2]
  have sa : assignT [some ⟨.io, d⟩, x1, x2] (.int 2) (.nm 1) = some [some ⟨.io, d⟩, shS (.int 2), x2] := by simp only [ev_int, ev_str, ev_bl, ev_non, ev_bty, ev_gc, ev_mov, ev_tup, ev_lst, ev_dct, ev_odc, ev_op2, ev_ch, ev_neg, ev_and, ev_or, ev_ife, ev_sub, ev_sl, ev_bi, ev_call, ev_mth, ev_pm, ev_lc, ev_mk, ev_mkx, ev_fld, ev_isx, ev_join, ev_var, ev_varT, ev_notT, ev_notF, ea_e, ea_s, ea_io, es_nil, es_cons, eand_1, eand_2, eor_1, eor_2, ei_nil, ei_1, ex_set, ex_tgt, ex_par, ex_sub, ex_ex, ex_ifs, ex_for_, ex_whl, ex_whw, ex_ret, ex_retN, ex_raise, ex_raisex, ex_try_, ex_pass, ex_brk, ex_ctn, ex_doc, xs_nil, xs_cons, xh_nil, xh_cons, xh_tup, gs_0, ss_0, ge_0, st_0, gs_1, ss_1, ge_1, st_1, gs_2, ss_2, ge_2, st_2, gs_3, ss_3, ge_3, st_3, gs_4, ss_4, ge_4, st_4, gs_5, ss_5, ge_5, st_5, gs_6, ss_6, ge_6, st_6, gs_7, ss_7, ge_7, st_7, gs_8, ss_8, ge_8, st_8, gs_9, ss_9, ge_9, st_9, gs_10, ss_10, ge_10, st_10, so_add, so_sub, so_mul, so_fdiv, so_mod, so_pow, so_eq, so_ne, so_lt, so_le, so_gt, so_ge, so_in, so_nin, so_is, so_isn, d_add, d_addt, d_addl, d_sub, d_mul, d_div, d_mod, d_lt, d_cmp, b_lent, b_lenl, b_lenf, b_abs, b_int, b_intb, b_listl, b_listf, b_listt, b_tupl, b_tupt, b_max2, b_min2, b_all, b_any, b_isi, b_dict, b_listd, b_sorted, b_min1, t_bl, t_int, t_non, t_lst, t_tup, l_tup, l_lst, l_fz, m_app, m_popat, ol_0, ol_1, ol_2, ol_3, ol_4, ol_5, ol_6, ol_7, ol_8, ol_9, ol_10, nd_0, nd_1, nd_0_1, nd_0_2, nd_0_3, nd_0_4, nd_0_5, nd_0_6, nd_0_7, nd_1_0, nd_1_2, nd_1_3, nd_1_4, nd_1_5, nd_1_6, nd_1_7, nd_2_0, nd_2_1, nd_2_3, nd_2_4, nd_2_5, nd_2_6, nd_2_7, nd_3_0, nd_3_1, nd_3_2, nd_3_4, nd_3_5, nd_3_6, nd_3_7, nd_4_0, nd_4_1, nd_4_2, nd_4_3, nd_4_5, nd_4_6, nd_4_7, nd_5_0, nd_5_1, nd_5_2, nd_5_3, nd_5_4, nd_5_6, nd_5_7, nd_6_0, nd_6_1, nd_6_2, nd_6_3, nd_6_4, nd_6_5, nd_6_7, nd_7_0, nd_7_1, nd_7_2, nd_7_3, nd_7_4, nd_7_5, nd_7_6, kb_NoneType_int, kb_NoneType_bool, kb_NoneType_tuple, kb_NoneType_str, kb_NoneType_list, kb_NoneType_dict, kb_bool_int, kb_bool_bool, kb_bool_tuple, kb_bool_str, kb_bool_list, kb_bool_dict, kb_int_int, kb_int_bool, kb_int_tuple, kb_int_str, kb_int_list, kb_int_dict, kb_str_int, kb_str_bool, kb_str_tuple, kb_str_str, kb_str_list, kb_str_dict, kb_tuple_int, kb_tuple_bool, kb_tuple_tuple, kb_tuple_str, kb_tuple_list, kb_tuple_dict, kb_list_int, kb_list_bool, kb_list_tuple, kb_list_str, kb_list_list, kb_list_dict, kb_dict_int, kb_dict_bool, kb_dict_tuple, kb_dict_str, kb_dict_list, kb_dict_dict, it_val, it_enum, it_zip, ow_nil, ow_cons, sn_n, sn_s, le_2, le_3, okb, okt, exb, ext_, sq_nx, sq_rt, sq_ex, ac_nx, ac_rt, ac_ex, fr_n, fr_s, fr_o, oo_n, oo_s, oo_i, oo_b, fin, argF, consF, slotF, ioF, tupF, lstF, dctF, twoF, oneF, chainF, notF, ifF, andF, orF, slF, biF, callG, mthF, pmF, lcF, yesF, varT, readVar, moveVar, setFs, parFs, subFs, dropFs, ifFs, forFs, retFs, raiseFs, raisexFs, mkF, mkxF, htFs, tryFs, hdFs, seqFs, walF, subF, nmF, unpF, putT, putTs, onBl, Ar.get, gets, valsOf, ofRes, mkSl, callF, ioArg, ioArgs, hold1, holds, back, assignT, assignT.assignN, wipeE, putBack, unlock, SR.calm, SR.onEnv, srcOf, seqD, ixR, Option.bind_some, Option.map_some, Option.bind_none, Option.map_none, List.map_cons, List.map_nil, List.cons_append, List.nil_append, if_true, if_false, reduceIte, Bool.false_eq_true, Bool.true_and, Bool.and_true, Option.isSome_some, List.contains_nil, Bool.not_false, Bool.not_true, tyO, tyD, neD, eqD, isNoneB, isLst, f1]
  unfold foTurn mBody
  rw [sa]
  dsimp only
  rw [seq_go st]
  exact mr_2
theorem td_3 {n : Nat} {w : Str} : run Pg (n + 3) 3 [⟨.sh, .int 3⟩, ⟨.sh, .str w⟩] = .ok (.exc 4 []) .sh [none, none] := by rfl
theorem mr_3 {n : Nat} {d : D} : exSs Pg.gcs (run Pg (n + 3)) Pg.isa (.cons (.ifs (.op2 .ne (.e (.call 6 (.cons (.s 2) .nil) [])) (.e (.call 8 (.cons (.e (.ife (.op2 .lt (.s 1) (.e (.int 10))) (.tup (.cons (.e (.var 1)) (.cons (.e (.int 19)) .nil))) (.tup (.cons (.e (.int 19)) .nil)))) (.cons (.e (.int 20)) .nil)) []))) 
    (.cons (.ret (.bl false)) .nil) .nil) (.cons (.ifs (.op2 .ne (.e (.call 7 (.cons (.s 2) .nil) [])) (.e (.call 8 (.cons (.e (.tup (.cons (.e (.int 0)) .nil))) (.cons (.e (.int 8)) .nil)) []))) 
    (.cons (.ret (.bl false)) .nil) .nil) .nil)) [some ⟨.io, d⟩, shS (.int 3), shS (.exc 4 [])] = .nx [some ⟨.io, d⟩, shS (.int 3), shS (.exc 4 [])] := by rfl
theorem mt_3 {n k : Nat} {d : D} {x1 x2 : Option Sl} (R : Reel k d) (hk : k + 20 ≤ 2 ^ 40) (f1 : free x1 = true) (f2 : free x2 = true) : ∃ d', foTurn (.nm 1) (mBody n) (.int 3) [some ⟨.io, d⟩, x1, x2] = .nx [some ⟨.io, d'⟩, shS (.int 3), shS (.exc 4 [])] ∧ Reel (k + 13) d' := by
  obtain ⟨w, d', e1, W, R1⟩ := word_ok (n := n) R hk
  refine ⟨d', ?_, R1⟩
  have st : exS Pg.gcs (run Pg (n + 3)) Pg.isa (.set 2 (.call 3 (.cons (.s 1) (.cons (.e (.call 11 (.cons (.io 0) .nil) [])) .nil)) [])) [some ⟨.io, d⟩, shS (.int 3), x2] = .nx [some ⟨.io, d'⟩, shS (.int 3), shS (.exc 4 [])] := by
    simp only [ev_int, ev_str, ev_bl, ev_non, ev_bty, ev_gc, ev_mov, ev_tup, ev_lst, ev_dct, ev_odc, ev_op2, ev_ch, ev_neg, ev_and, ev_or, ev_ife, ev_sub, ev_sl, ev_bi, ev_call, ev_mth, ev_pm, ev_lc, ev_mk, ev_mkx, ev_fld, ev_isx, ev_join, ev_var, ev_varT, ev_notT, ev_notF, ea_e, ea_s, ea_io, es_nil, es_cons, eand_1, eand_2, eor_1, eor_2, ei_nil, ei_1, ex_set, ex_tgt, ex_par, ex_sub, ex_ex, ex_ifs, ex_for_, ex_whl, ex_whw, ex_ret, ex_retN, ex_raise, ex_raisex, ex_try_, ex_pass, ex_brk, ex_ctn, ex_doc, xs_nil, xs_cons, xh_nil, xh_cons, xh_tup, gs_0, ss_0, ge_0, st_0, gs_1, ss_1, ge_1, st_1, gs_2, ss_2, ge_2, st_2, gs_3, ss_3, ge_3, st_3, gs_4, ss_4, ge_4, st_4, gs_5, ss_5, ge_5, st_5, gs_6, ss_6, ge_6, st_6, gs_7, ss_7, ge_7, st_7, gs_8, ss_8, ge_8, st_8, gs_9, ss_9, ge_9, st_9, gs_10, ss_10, ge_10, st_10, so_add, so_sub, so_mul, so_fdiv, so_mod, so_pow, so_eq, so_ne, so_lt, so_le, so_gt, so_ge, so_in, so_nin, so_is, so_isn, d_add, d_addt, d_addl, d_sub, d_mul, d_div, d_mod, d_lt, d_cmp, b_lent, b_lenl, b_lenf, b_abs, b_int, b_intb, b_listl, b_listf, b_listt, b_tupl, b_tupt, b_max2, b_min2, b_all, b_any, b_isi, b_dict, b_listd, b_sorted, b_min1, t_bl, t_int, t_non, t_lst, t_tup, l_tup, l_lst, l_fz, m_app, m_popat, ol_0, ol_1, ol_2, ol_3, ol_4, ol_5, ol_6, ol_7, ol_8, ol_9, ol_10, nd_0, nd_1, nd_0_1, nd_0_2, nd_0_3, nd_0_4, nd_0_5, nd_0_6, nd_0_7, nd_1_0, nd_1_2, nd_1_3, nd_1_4, nd_1_5, nd_1_6, nd_1_7, nd_2_0, nd_2_1, nd_2_3, nd_2_4, nd_2_5, nd_2_6, nd_2_7, nd_3_0, nd_3_1, nd_3_2, nd_3_4, nd_3_5, nd_3_6, nd_3_7, nd_4_0, nd_4_1, nd_4_2, nd_4_3, nd_4_5, nd_4_6, nd_4_7, nd_5_0, nd_5_1, nd_5_2, nd_5_3, nd_5_4, nd_5_6, nd_5_7, nd_6_0, nd_6_1, nd_6_2, nd_6_3, nd_6_4, nd_6_5, nd_6_7, nd_7_0, nd_7_1, nd_7_2, nd_7_3, nd_7_4, nd_7_5, nd_7_6, kb_NoneType_int, kb_NoneType_bool, kb_NoneType_tuple, kb_NoneType_str, kb_NoneType_list, kb_NoneType_dict, kb_bool_int, kb_bool_bool, kb_bool_tuple, kb_bool_str, kb_bool_list, kb_bool_dict, kb_int_int, kb_int_bool, kb_int_tuple, kb_int_str, kb_int_list, kb_int_dict, kb_str_int, kb_str_bool, kb_str_tuple, kb_str_str, kb_str_list, kb_str_dict, kb_tuple_int, kb_tuple_bool, kb_tuple_tuple, kb_tuple_str, kb_tuple_list, kb_tuple_dict, kb_list_int, kb_list_bool, kb_list_tuple, kb_list_str, kb_list_list, kb_list_dict, kb_dict_int, kb_dict_bool, kb_dict_tuple, kb_dict_str, kb_dict_list, kb_dict_dict, it_val, it_enum, it_zip, ow_nil, ow_cons, sn_n, sn_s, le_2, le_3, okb, okt, exb, ext_, sq_nx, sq_rt, sq_ex, ac_nx, ac_rt, ac_ex, fr_n, fr_s, fr_o, oo_n, oo_s, oo_i, oo_b, fin, argF, consF, slotF, ioF, tupF, lstF, dctF, twoF, oneF, chainF, notF, ifF, andF, orF, slF, biF, callG, mthF, pmF, lcF, yesF, varT, readVar, moveVar, setFs, parFs, subFs, dropFs, ifFs, forFs, retFs, raiseFs, raisexFs, mkF, mkxF, htFs, tryFs, hdFs, seqFs, walF, subF, nmF, unpF, putT, putTs, onBl, Ar.get, gets, valsOf, ofRes, mkSl, callF, ioArg, ioArgs, hold1, holds, back, assignT, assignT.assignN, wipeE, putBack, unlock, SR.calm, SR.onEnv, srcOf, seqD, ixR, Option.bind_some, Option.map_some, Option.bind_none, Option.map_none, List.map_cons, List.map_nil, List.cons_append, List.nil_append, if_true, if_false, reduceIte, Bool.false_eq_true, Bool.true_and, Bool.and_true, Option.isSome_some, List.contains_nil, Bool.not_false, Bool.not_true, tyO, tyD, neD, eqD, isNoneB, isLst, e1, td_3, f2]
  have sa : assignT [some ⟨.io, d⟩, x1, x2] (.int 3) (.nm 1) = some [some ⟨.io, d⟩, shS (.int 3), x2] := by simp only [ev_int, ev_str, ev_bl, ev_non, ev_bty, ev_gc, ev_mov, ev_tup, ev_lst, ev_dct, ev_odc, ev_op2, ev_ch, ev_neg, ev_and, ev_or, ev_ife, ev_sub, ev_sl, ev_bi, ev_call, ev_mth, ev_pm, ev_lc, ev_mk, ev_mkx, ev_fld, ev_isx, ev_join, ev_var, ev_varT, ev_notT, ev_notF, ea_e, ea_s, ea_io, es_nil, es_cons, eand_1, eand_2, eor_1, eor_2, ei_nil, ei_1, ex_set, ex_tgt, ex_par, ex_sub, ex_ex, ex_ifs, ex_for_, ex_whl, ex_whw, ex_ret, ex_retN, ex_raise, ex_raisex, ex_try_, ex_pass, ex_brk, ex_ctn, ex_doc, xs_nil, xs_cons, xh_nil, xh_cons, xh_tup, gs_0, ss_0, ge_0, st_0, gs_1, ss_1, ge_1, st_1, gs_2, ss_2, ge_2, st_2, gs_3, ss_3, ge_3, st_3, gs_4, ss_4, ge_4, st_4, gs_5, ss_5, ge_5, st_5, gs_6, ss_6, ge_6, st_6, gs_7, ss_7, ge_7, st_7, gs_8, ss_8, ge_8, st_8, gs_9, ss_9, ge_9, st_9, gs_10, ss_10, ge_10, st_10, so_add, so_sub, so_mul, so_fdiv, so_mod, so_pow, so_eq, so_ne, so_lt, so_le, so_gt, so_ge, so_in, so_nin, so_is, so_isn, d_add, d_addt, d_addl, d_sub, d_mul, d_div, d_mod, d_lt, d_cmp, b_lent, b_lenl, b_lenf, b_abs, b_int, b_intb, b_listl, b_listf, b_listt, b_tupl, b_tupt, b_max2, b_min2, b_all, b_any, b_isi, b_dict, b_listd, b_sorted, b_min1, t_bl, t_int, t_non, t_lst, t_tup, l_tup, l_lst, l_fz, m_app, m_popat, ol_0, ol_1, ol_2, ol_3, ol_4, ol_5, ol_6, ol_7, ol_8, ol_9, ol_10, nd_0, nd_1, nd_0_1, nd_0_2, nd_0_3, nd_0_4, nd_0_5, nd_0_6, nd_0_7, nd_1_0, nd_1_2, nd_1_3, nd_1_4, nd_1_5, nd_1_6, nd_1_7, nd_2_0, nd_2_1, nd_2_3, nd_2_4, nd_2_5, nd_2_6, nd_2_7, nd_3_0, nd_3_1, nd_3_2, nd_3_4, nd_3_5, nd_3_6, nd_3_7, nd_4_0, nd_4_1, nd_4_2, nd_4_3, nd_4_5, nd_4_6, nd_4_7, nd_5_0, nd_5_1, nd_5_2, nd_5_3, nd_5_4, nd_5_6, nd_5_7, nd_6_0, nd_6_1, nd_6_2, nd_6_3, nd_6_4, nd_6_5, nd_6_7, nd_7_0, nd_7_1, nd_7_2, nd_7_3, nd_7_4, nd_7_5, nd_7_6, kb_NoneType_int, kb_NoneType_bool, kb_NoneType_tuple, kb_NoneType_str, kb_NoneType_list, kb_NoneType_dict, kb_bool_int, kb_bool_bool, kb_bool_tuple, kb_bool_str, kb_bool_list, kb_bool_dict, kb_int_int, kb_int_bool, kb_int_tuple, kb_int_str, kb_int_list, kb_int_dict, kb_str_int, kb_str_bool, kb_str_tuple, kb_str_str, kb_str_list, kb_str_dict, kb_tuple_int, kb_tuple_bool, kb_tuple_tuple, kb_tuple_str, kb_tuple_list, kb_tuple_dict, kb_list_int, kb_list_bool, kb_list_tuple, kb_list_str, kb_list_list, kb_list_dict, kb_dict_int, kb_dict_bool, kb_dict_tuple, kb_dict_str, kb_dict_list, kb_dict_dict, it_val, it_enum, it_zip, ow_nil, ow_cons, sn_n, sn_s, le_2, le_3, okb, okt, exb, ext_, sq_nx, sq_rt, sq_ex, ac_nx, ac_rt, ac_ex, fr_n, fr_s, fr_o, oo_n, oo_s, oo_i, oo_b, fin, argF, consF, slotF, ioF, tupF, lstF, dctF, twoF, oneF, chainF, notF, ifF, andF, orF, slF, biF, callG, mthF, pmF, lcF, yesF, varT, readVar, moveVar, setFs, parFs, subFs, dropFs, ifFs, forFs, retFs, raiseFs, raisexFs, mkF, mkxF, htFs, tryFs, hdFs, seqFs, walF, subF, nmF, unpF, putT, putTs, onBl, Ar.get, gets, valsOf, ofRes, mkSl, callF, ioArg, ioArgs, hold1, holds, back, assignT, assignT.assignN, wipeE, putBack, unlock, SR.calm, SR.onEnv, srcOf, seqD, ixR, Option.bind_some, Option.map_some, Option.bind_none, Option.map_none, List.map_cons, List.map_nil, List.cons_append, List.nil_append, if_true, if_false, reduceIte, Bool.false_eq_true, Bool.true_and, Bool.and_true, Option.isSome_some, List.contains_nil, Bool.not_false, Bool.not_true, tyO, tyD, neD, eqD, isNoneB, isLst, f1]
  unfold foTurn mBody
  rw [sa]
  dsimp only
  rw [seq_go st]
  exact mr_3
theorem td_4 {n : Nat} {w : Str} : run Pg (n + 3) 3 [⟨.sh, .int 4⟩, ⟨.sh, .str w⟩] = .ok (.exc 5 []) .sh [none, none] := by rfl
theorem mr_4 {n : Nat} {d : D} : exSs Pg.gcs (run Pg (n + 3)) Pg.isa (.cons (.ifs (.op2 .ne (.e (.call 6 (.cons (.s 2) .nil) [])) (.e (.call 8 (.cons (.e (.ife (.op2 .lt (.s 1) (.e (.int 10))) (.tup (.cons (.e (.var 1)) (.cons (.e (.int 19)) .nil))) (.tup (.cons (.e (.int 19)) .nil)))) (.cons (.e (.int 20)) .nil)) []))) 
    (.cons (.ret (.bl false)) .nil) .nil) (.cons (.ifs (.op2 .ne (.e (.call 7 (.cons (.s 2) .nil) [])) (.e (.call 8 (.cons (.e (.tup (.cons (.e (.int 0)) .nil))) (.cons (.e (.int 8)) .nil)) []))) 
    (.cons (.ret (.bl false)) .nil) .nil) .nil)) [some ⟨.io, d⟩, shS (.int 4), shS (.exc 5 [])] = .nx [some ⟨.io, d⟩, shS (.int 4), shS (.exc 5 [])] := by rfl
theorem mt_4 {n k : Nat} {d : D} {x1 x2 : Option Sl} (R : Reel k d) (hk : k + 20 ≤ 2 ^ 40) (f1 : free x1 = true) (f2 : free x2 = true) : ∃ d', foTurn (.nm 1) (mBody n) (.int 4) [some ⟨.io, d⟩, x1, x2] = .nx [some ⟨.io, d'⟩, shS (.int 4), shS (.exc 5 [])] ∧ Reel (k + 13) d' := by
  obtain ⟨w, d', e1, W, R1⟩ := word_ok (n := n) R hk
  refine ⟨d', ?_, R1⟩
  have st : exS Pg.gcs (run Pg (n + 3)) Pg.isa (.set 2 (.call 3 (.cons (.s 1) (.cons (.e (.call 11 (.cons (.io 0) .nil) [])) .nil)) [])) [some ⟨.io, d⟩, shS (.int 4), x2] = .nx [some ⟨.io, d'⟩, shS (.int 4), shS (.exc 5 [])] := by
    simp only [ev_int, ev_str, ev_bl, ev_non, ev_bty, ev_gc, ev_mov, ev_tup, ev_lst, ev_dct, ev_odc, ev_op2, ev_ch, ev_neg, ev_and, ev_or, ev_ife, ev_sub, ev_sl, ev_bi, ev_call, ev_mth, ev_pm, ev_lc, ev_mk, ev_mkx, ev_fld, ev_isx, ev_join, ev_var, ev_varT, ev_notT, ev_notF, ea_e, ea_s, ea_io, es_nil, es_cons, eand_1, eand_2, eor_1, eor_2, ei_nil, ei_1, ex_set, ex_tgt, ex_par, ex_sub, ex_ex, ex_ifs, ex_for_, ex_whl, ex_whw, ex_ret, ex_retN, ex_raise, ex_raisex, ex_try_, ex_pass, ex_brk, ex_ctn, ex_doc, xs_nil, xs_cons, xh_nil, xh_cons, xh_tup, gs_0, ss_0, ge_0, st_0, gs_1, ss_1, ge_1, st_1, gs_2, ss_2, ge_2, st_2, gs_3, ss_3, ge_3, st_3, gs_4, ss_4, ge_4, st_4, gs_5, ss_5, ge_5, st_5, gs_6, ss_6, ge_6, st_6, gs_7, ss_7, ge_7, st_7, gs_8, ss_8, ge_8, st_8, gs_9, ss_9, ge_9, st_9, gs_10, ss_10, ge_10, st_10, so_add, so_sub, so_mul, so_fdiv, so_mod, so_pow, so_eq, so_ne, so_lt, so_le, so_gt, so_ge, so_in, so_nin, so_is, so_isn, d_add, d_addt, d_addl, d_sub, d_mul, d_div, d_mod, d_lt, d_cmp, b_lent, b_lenl, b_lenf, b_abs, b_int, b_intb, b_listl, b_listf, b_listt, b_tupl, b_tupt, b_max2, b_min2, b_all, b_any, b_isi, b_dict, b_listd, b_sorted, b_min1, t_bl, t_int, t_non, t_lst, t_tup, l_tup, l_lst, l_fz, m_app, m_popat, ol_0, ol_1, ol_2, ol_3, ol_4, ol_5, ol_6, ol_7, ol_8, ol_9, ol_10, nd_0, nd_1, nd_0_1, nd_0_2, nd_0_3, nd_0_4, nd_0_5, nd_0_6, nd_0_7, nd_1_0, nd_1_2, nd_1_3, nd_1_4, nd_1_5, nd_1_6, nd_1_7, nd_2_0, nd_2_1, nd_2_3, nd_2_4, nd_2_5, nd_2_6, nd_2_7, nd_3_0, nd_3_1, nd_3_2, nd_3_4, nd_3_5, nd_3_6, nd_3_7, nd_4_0, nd_4_1, nd_4_2, nd_4_3, nd_4_5, nd_4_6, nd_4_7, nd_5_0, nd_5_1, nd_5_2, nd_5_3, nd_5_4, nd_5_6, nd_5_7, nd_6_0, nd_6_1, nd_6_2, nd_6_3, nd_6_4, nd_6_5, nd_6_7, nd_7_0, nd_7_1, nd_7_2, nd_7_3, nd_7_4, nd_7_5, nd_7_6, kb_NoneType_int, kb_NoneType_bool, kb_NoneType_tuple, kb_NoneType_str, kb_NoneType_list, kb_NoneType_dict, kb_bool_int, kb_bool_bool, kb_bool_tuple, kb_bool_str, kb_bool_list, kb_bool_dict, kb_int_int, kb_int_bool, kb_int_tuple, kb_int_str, kb_int_list, kb_int_dict, kb_str_int, kb_str_bool, kb_str_tuple, kb_str_str, kb_str_list, kb_str_dict, kb_tuple_int, kb_tuple_bool, kb_tuple_tuple, kb_tuple_str, kb_tuple_list, kb_tuple_dict, kb_list_int, kb_list_bool, kb_list_tuple, kb_list_str, kb_list_list, kb_list_dict, kb_dict_int, kb_dict_bool, kb_dict_tuple, kb_dict_str, kb_dict_list, kb_dict_dict, it_val, it_enum, it_zip, ow_nil, ow_cons, sn_n, sn_s, le_2, le_3, okb, okt, exb, ext_, sq_nx, sq_rt, sq_ex, ac_nx, ac_rt, ac_ex, fr_n, fr_s, fr_o, oo_n, oo_s, oo_i, oo_b, fin, argF, consF, slotF, ioF, tupF, lstF, dctF, twoF, oneF, chainF, notF, ifF, andF, orF, slF, biF, callG, mthF, pmF, lcF, yesF, varT, readVar, moveVar, setFs, parFs, subFs, dropFs, ifFs, forFs, retFs, raiseFs, raisexFs, mkF, mkxF, htFs, tryFs, hdFs, seqFs, walF, subF, nmF, unpF, putT, putTs, onBl, Ar.get, gets, valsOf, ofRes, mkSl, callF, ioArg, ioArgs, hold1, holds, back, assignT, assignT.assignN, wipeE, putBack, unlock, SR.calm, SR.onEnv, srcOf, seqD, ixR, Option.bind_some, Option.map_some, Option.bind_none, Option.map_none, List.map_cons, List.map_nil, List.cons_append, List.nil_append, if_true, if_false, reduceIte, Bool.false_eq_true, Bool.true_and, Bool.and_true, Option.isSome_some, List.contains_nil, Bool.not_false, Bool.not_true, tyO, tyD, neD, eqD, isNoneB, isLst, e1, td_4, f2]
  have sa : assignT [some ⟨.io, d⟩, x1, x2] (.int 4) (.nm 1) = some [some ⟨.io, d⟩, shS (.int 4), x2] := by simp only [ev_int, ev_str, ev_bl, ev_non, ev_bty, ev_gc, ev_mov, ev_tup, ev_lst, ev_dct, ev_odc, ev_op2, ev_ch, ev_neg, ev_and, ev_or, ev_ife, ev_sub, ev_sl, ev_bi, ev_call, ev_mth, ev_pm, ev_lc, ev_mk, ev_mkx, ev_fld, ev_isx, ev_join, ev_var, ev_varT, ev_notT, ev_notF, ea_e, ea_s, ea_io, es_nil, es_cons, eand_1, eand_2, eor_1, eor_2, ei_nil, ei_1, ex_set, ex_tgt, ex_par, ex_sub, ex_ex, ex_ifs, ex_for_, ex_whl, ex_whw, ex_ret, ex_retN, ex_raise, ex_raisex, ex_try_, ex_pass, ex_brk, ex_ctn, ex_doc, xs_nil, xs_cons, xh_nil, xh_cons, xh_tup, gs_0, ss_0, ge_0, st_0, gs_1, ss_1, ge_1, st_1, gs_2, ss_2, ge_2, st_2, gs_3, ss_3, ge_3, st_3, gs_4, ss_4, ge_4, st_4, gs_5, ss_5, ge_5, st_5, gs_6, ss_6, ge_6, st_6, gs_7, ss_7, ge_7, st_7, gs_8, ss_8, ge_8, st_8, gs_9, ss_9, ge_9, st_9, gs_10, ss_10, ge_10, st_10, so_add, so_sub, so_mul, so_fdiv, so_mod, so_pow, so_eq, so_ne, so_lt, so_le, so_gt, so_ge, so_in, so_nin, so_is, so_isn, d_add, d_addt, d_addl, d_sub, d_mul, d_div, d_mod, d_lt, d_cmp, b_lent, b_lenl, b_lenf, b_abs, b_int, b_intb, b_listl, b_listf, b_listt, b_tupl, b_tupt, b_max2, b_min2, b_all, b_any, b_isi, b_dict, b_listd, b_sorted, b_min1, t_bl, t_int, t_non, t_lst, t_tup, l_tup, l_lst, l_fz, m_app, m_popat, ol_0, ol_1, ol_2, ol_3, ol_4, ol_5, ol_6, ol_7, ol_8, ol_9, ol_10, nd_0, nd_1, nd_0_1, nd_0_2, nd_0_3, nd_0_4, nd_0_5, nd_0_6, nd_0_7, nd_1_0, nd_1_2, nd_1_3, nd_1_4, nd_1_5, nd_1_6, nd_1_7, nd_2_0, nd_2_1, nd_2_3, nd_2_4, nd_2_5, nd_2_6, nd_2_7, nd_3_0, nd_3_1, nd_3_2, nd_3_4, nd_3_5, nd_3_6, nd_3_7, nd_4_0, nd_4_1, nd_4_2, nd_4_3, nd_4_5, nd_4_6, nd_4_7, nd_5_0, nd_5_1, nd_5_2, nd_5_3, nd_5_4, nd_5_6, nd_5_7, nd_6_0, nd_6_1, nd_6_2, nd_6_3, nd_6_4, nd_6_5, nd_6_7, nd_7_0, nd_7_1, nd_7_2, nd_7_3, nd_7_4, nd_7_5, nd_7_6, kb_NoneType_int, kb_NoneType_bool, kb_NoneType_tuple, kb_NoneType_str, kb_NoneType_list, kb_NoneType_dict, kb_bool_int, kb_bool_bool, kb_bool_tuple, kb_bool_str, kb_bool_list, kb_bool_dict, kb_int_int, kb_int_bool, kb_int_tuple, kb_int_str, kb_int_list, kb_int_dict, kb_str_int, kb_str_bool, kb_str_tuple, kb_str_str, kb_str_list, kb_str_dict, kb_tuple_int, kb_tuple_bool, kb_tuple_tuple, kb_tuple_str, kb_tuple_list, kb_tuple_dict, kb_list_int, kb_list_bool, kb_list_tuple, kb_list_str, kb_list_list, kb_list_dict, kb_dict_int, kb_dict_bool, kb_dict_tuple, kb_dict_str, kb_dict_list, kb_dict_dict, it_val, it_enum, it_zip, ow_nil, ow_cons, sn_n, sn_s, le_2, le_3, okb, okt, exb, ext_, sq_nx, sq_rt, sq_ex, ac_nx, ac_rt, ac_ex, fr_n, fr_s, fr_o, oo_n, oo_s, oo_i, oo_b, fin, argF, consF, slotF, ioF, tupF, lstF, dctF, twoF, oneF, chainF, notF, ifF, andF, orF, slF, biF, callG, mthF, pmF, lcF, yesF, varT, readVar, moveVar, setFs, parFs, subFs, dropFs, ifFs, forFs, retFs, raiseFs, raisexFs, mkF, mkxF, htFs, tryFs, hdFs, seqFs, walF, subF, nmF, unpF, putT, putTs, onBl, Ar.get, gets, valsOf, ofRes, mkSl, callF, ioArg, ioArgs, hold1, holds, back, assignT, assignT.assignN, wipeE, putBack, unlock, SR.calm, SR.onEnv, srcOf, seqD, ixR, Option.bind_some, Option.map_some, Option.bind_none, Option.map_none, List.map_cons, List.map_nil, List.cons_append, List.nil_append, if_true, if_false, reduceIte, Bool.false_eq_true, Bool.true_and, Bool.and_true, Option.isSome_some, List.contains_nil, Bool.not_false, Bool.not_true, tyO, tyD, neD, eqD, isNoneB, isLst, f1]
  unfold foTurn mBody
  rw [sa]
  dsimp only
  rw [seq_go st]
  exact mr_4
theorem td_5 {n : Nat} {w : Str} : run Pg (n + 3) 3 [⟨.sh, .int 5⟩, ⟨.sh, .str w⟩] = .ok (.exc 6 []) .sh [none, none] := by rfl
theorem mr_5 {n : Nat} {d : D} : exSs Pg.gcs (run Pg (n + 3)) Pg.isa (.cons (.ifs (.op2 .ne (.e (.call 6 (.cons (.s 2) .nil) [])) (.e (.call 8 (.cons (.e (.ife (.op2 .lt (.s 1) (.e (.int 10))) (.tup (.cons (.e (.var 1)) (.cons (.e (.int 19)) .nil))) (.tup (.cons (.e (.int 19)) .nil)))) (.cons (.e (.int 20)) .nil)) []))) 
    (.cons (.ret (.bl false)) .nil) .nil) (.cons (.ifs (.op2 .ne (.e (.call 7 (.cons (.s 2) .nil) [])) (.e (.call 8 (.cons (.e (.tup (.cons (.e (.int 0)) .nil))) (.cons (.e (.int 8)) .nil)) []))) 
    (.cons (.ret (.bl false)) .nil) .nil) .nil)) [some ⟨.io, d⟩, shS (.int 5), shS (.exc 6 [])] = .nx [some ⟨.io, d⟩, shS (.int 5), shS (.exc 6 [])] := by rfl
theorem mt_5 {n k : Nat} {d : D} {x1 x2 : Option Sl} (R : Reel k d) (hk : k + 20 ≤ 2 ^ 40) (f1 : free x1 = true) (f2 : free x2 = true) : ∃ d', foTurn (.nm 1) (mBody n) (.int 5) [some ⟨.io, d⟩, x1, x2] = .nx [some ⟨.io, d'⟩, shS (.int 5), shS (.exc 6 [])] ∧ Reel (k + 13) d' := by
  obtain ⟨w, d', e1, W, R1⟩ := word_ok (n := n) R hk
  refine ⟨d', ?_, R1⟩
  have st : exS Pg.gcs (run Pg (n + 3)) Pg.isa (.set 2 (.call 3 (.cons (.s 1) (.cons (.e (.call 11 (.cons (.io 0) .nil) [])) .nil)) [])) [some ⟨.io, d⟩, shS (.int 5), x2] = .nx [some ⟨.io, d'⟩, shS (.int 5), shS (.exc 6 [])] := by
    simp only [ev_int, ev_str, ev_bl, ev_non, ev_bty, ev_gc, ev_mov, ev_tup, ev_lst, ev_dct, ev_odc, ev_op2, ev_ch, ev_neg, ev_and, ev_or, ev_ife, ev_sub, ev_sl, ev_bi, ev_call, ev_mth, ev_pm, ev_lc, ev_mk, ev_mkx, ev_fld, ev_isx, ev_join, ev_var, ev_varT, ev_notT, ev_notF, ea_e, ea_s, ea_io, es_nil, es_cons, eand_1, eand_2, eor_1, eor_2, ei_nil, ei_1, ex_set, ex_tgt, ex_par, ex_sub, ex_ex, ex_ifs, ex_for_, ex_whl, ex_whw, ex_ret, ex_retN, ex_raise, ex_raisex, ex_try_, ex_pass, ex_brk, ex_ctn, ex_doc, xs_nil, xs_cons, xh_nil, xh_cons, xh_tup, gs_0, ss_0, ge_0, st_0, gs_1, ss_1, ge_1, st_1, gs_2, ss_2, ge_2, st_2, gs_3, ss_3, ge_3, st_3, gs_4, ss_4, ge_4, st_4, gs_5, ss_5, ge_5, st_5, gs_6, ss_6, ge_6, st_6, gs_7, ss_7, ge_7, st_7, gs_8, ss_8, ge_8, st_8, gs_9, ss_9, ge_9, st_9, gs_10, ss_10, ge_10, st_10, so_add, so_sub, so_mul, so_fdiv, so_mod, so_pow, so_eq, so_ne, so_lt, so_le, so_gt, so_ge, so_in, so_nin, so_is, so_isn, d_add, d_addt, d_addl, d_sub, d_mul, d_div, d_mod, d_lt, d_cmp, b_lent, b_lenl, b_lenf, b_abs, b_int, b_intb, b_listl, b_listf, b_listt, b_tupl, b_tupt, b_max2, b_min2, b_all, b_any, b_isi, b_dict, b_listd, b_sorted, b_min1, t_bl, t_int, t_non, t_lst, t_tup, l_tup, l_lst, l_fz, m_app, m_popat, ol_0, ol_1, ol_2, ol_3, ol_4, ol_5, ol_6, ol_7, ol_8, ol_9, ol_10, nd_0, nd_1, nd_0_1, nd_0_2, nd_0_3, nd_0_4, nd_0_5, nd_0_6, nd_0_7, nd_1_0, nd_1_2, nd_1_3, nd_1_4, nd_1_5, nd_1_6, nd_1_7, nd_2_0, nd_2_1, nd_2_3, nd_2_4, nd_2_5, nd_2_6, nd_2_7, nd_3_0, nd_3_1, nd_3_2, nd_3_4, nd_3_5, nd_3_6, nd_3_7, nd_4_0, nd_4_1, nd_4_2, nd_4_3, nd_4_5, nd_4_6, nd_4_7, nd_5_0, nd_5_1, nd_5_2, nd_5_3, nd_5_4, nd_5_6, nd_5_7, nd_6_0, nd_6_1, nd_6_2, nd_6_3, nd_6_4, nd_6_5, nd_6_7, nd_7_0, nd_7_1, nd_7_2, nd_7_3, nd_7_4, nd_7_5, nd_7_6, kb_NoneType_int, kb_NoneType_bool, kb_NoneType_tuple, kb_NoneType_str, kb_NoneType_list, kb_NoneType_dict, kb_bool_int, kb_bool_bool, kb_bool_tuple, kb_bool_str, kb_bool_list, kb_bool_dict, kb_int_int, kb_int_bool, kb_int_tuple, kb_int_str, kb_int_list, kb_int_dict, kb_str_int, kb_str_bool, kb_str_tuple, kb_str_str, kb_str_list, kb_str_dict, kb_tuple_int, kb_tuple_bool, kb_tuple_tuple, kb_tuple_str, kb_tuple_list, kb_tuple_dict, kb_list_int, kb_list_bool, kb_list_tuple, kb_list_str, kb_list_list, kb_list_dict, kb_dict_int, kb_dict_bool, kb_dict_tuple, kb_dict_str, kb_dict_list, kb_dict_dict, it_val, it_enum, it_zip, ow_nil, ow_cons, sn_n, sn_s, le_2, le_3, okb, okt, exb, ext_, sq_nx, sq_rt, sq_ex, ac_nx, ac_rt, ac_ex, fr_n, fr_s, fr_o, oo_n, oo_s, oo_i, oo_b, fin, argF, consF, slotF, ioF, tupF, lstF, dctF, twoF, oneF, chainF, notF, ifF, andF, orF, slF, biF, callG, mthF, pmF, lcF, yesF, varT, readVar, moveVar, setFs, parFs, subFs, dropFs, ifFs, forFs, retFs, raiseFs, raisexFs, mkF, mkxF, htFs, tryFs, hdFs, seqFs, walF, subF, nmF, unpF, putT, putTs, onBl, Ar.get, gets, valsOf, ofRes, mkSl, callF, ioArg, ioArgs, hold1, holds, back, assignT, assignT.assignN, wipeE, putBack, unlock, SR.calm, SR.onEnv, srcOf, seqD, ixR, Option.bind_some, Option.map_some, Option.bind_none, Option.map_none, List.map_cons, List.map_nil, List.cons_append, List.nil_append, if_true, if_false, reduceIte, Bool.false_eq_true, Bool.true_and, Bool.and_true, Option.isSome_some, List.contains_nil, Bool.not_false, Bool.not_true, tyO, tyD, neD, eqD, isNoneB, isLst, e1, td_5, f2]
  have sa : assignT [some ⟨.io, d⟩, x1, x2] (.int 5) (.nm 1) = some [some ⟨.io, d⟩, shS (.int 5), x2] := by simp only [ev_int, ev_str, ev_bl, ev_non, ev_bty, ev_gc, ev_mov, ev_tup, ev_lst, ev_dct, ev_odc, ev_op2, ev_ch, ev_neg, ev_and, ev_or, ev_ife, ev_sub, ev_sl, ev_bi, ev_call, ev_mth, ev_pm, ev_lc, ev_mk, ev_mkx, ev_fld, ev_isx, ev_join, ev_var, ev_varT, ev_notT, ev_notF, ea_e, ea_s, ea_io, es_nil, es_cons, eand_1, eand_2, eor_1, eor_2, ei_nil, ei_1, ex_set, ex_tgt, ex_par, ex_sub, ex_ex, ex_ifs, ex_for_, ex_whl, ex_whw, ex_ret, ex_retN, ex_raise, ex_raisex, ex_try_, ex_pass, ex_brk, ex_ctn, ex_doc, xs_nil, xs_cons, xh_nil, xh_cons, xh_tup, gs_0, ss_0, ge_0, st_0, gs_1, ss_1, ge_1, st_1, gs_2, ss_2, ge_2, st_2, gs_3, ss_3, ge_3, st_3, gs_4, ss_4, ge_4, st_4, gs_5, ss_5, ge_5, st_5, gs_6, ss_6, ge_6, st_6, gs_7, ss_7, ge_7, st_7, gs_8, ss_8, ge_8, st_8, gs_9, ss_9, ge_9, st_9, gs_10, ss_10, ge_10, st_10, so_add, so_sub, so_mul, so_fdiv, so_mod, so_pow, so_eq, so_ne, so_lt, so_le, so_gt, so_ge, so_in, so_nin, so_is, so_isn, d_add, d_addt, d_addl, d_sub, d_mul, d_div, d_mod, d_lt, d_cmp, b_lent, b_lenl, b_lenf, b_abs, b_int, b_intb, b_listl, b_listf, b_listt, b_tupl, b_tupt, b_max2, b_min2, b_all, b_any, b_isi, b_dict, b_listd, b_sorted, b_min1, t_bl, t_int, t_non, t_lst, t_tup, l_tup, l_lst, l_fz, m_app, m_popat, ol_0, ol_1, ol_2, ol_3, ol_4, ol_5, ol_6, ol_7, ol_8, ol_9, ol_10, nd_0, nd_1, nd_0_1, nd_0_2, nd_0_3, nd_0_4, nd_0_5, nd_0_6, nd_0_7, nd_1_0, nd_1_2, nd_1_3, nd_1_4, nd_1_5, nd_1_6, nd_1_7, nd_2_0, nd_2_1, nd_2_3, nd_2_4, nd_2_5, nd_2_6, nd_2_7, nd_3_0, nd_3_1, nd_3_2, nd_3_4, nd_3_5, nd_3_6, nd_3_7, nd_4_0, nd_4_1, nd_4_2, nd_4_3, nd_4_5, nd_4_6, nd_4_7, nd_5_0, nd_5_1, nd_5_2, nd_5_3, nd_5_4, nd_5_6, nd_5_7, nd_6_0, nd_6_1, nd_6_2, nd_6_3, nd_6_4, nd_6_5, nd_6_7, nd_7_0, nd_7_1, nd_7_2, nd_7_3, nd_7_4, nd_7_5, nd_7_6, kb_NoneType_int, kb_NoneType_bool, kb_NoneType_tuple, kb_NoneType_str, kb_NoneType_list, kb_NoneType_dict, kb_bool_int, kb_bool_bool, kb_bool_tuple, kb_bool_str, kb_bool_list, kb_bool_dict, kb_int_int, kb_int_bool, kb_int_tuple, kb_int_str, kb_int_list, kb_int_dict, kb_str_int, kb_str_bool, kb_str_tuple, kb_str_str, kb_str_list, kb_str_dict, kb_tuple_int, kb_tuple_bool, kb_tuple_tuple, kb_tuple_str, kb_tuple_list, kb_tuple_dict, kb_list_int, kb_list_bool, kb_list_tuple, kb_list_str, kb_list_list, kb_list_dict, kb_dict_int, kb_dict_bool, kb_dict_tuple, kb_dict_str, kb_dict_list, kb_dict_dict, it_val, it_enum, it_zip, ow_nil, ow_cons, sn_n, sn_s, le_2, le_3, okb, okt, exb, ext_, sq_nx, sq_rt, sq_ex, ac_nx, ac_rt, ac_ex, fr_n, fr_s, fr_o, oo_n, oo_s, oo_i, oo_b, fin, argF, consF, slotF, ioF, tupF, lstF, dctF, twoF, oneF, chainF, notF, ifF, andF, orF, slF, biF, callG, mthF, pmF, lcF, yesF, varT, readVar, moveVar, setFs, parFs, subFs, dropFs, ifFs, forFs, retFs, raiseFs, raisexFs, mkF, mkxF, htFs, tryFs, hdFs, seqFs, walF, subF, nmF, unpF, putT, putTs, onBl, Ar.get, gets, valsOf, ofRes, mkSl, callF, ioArg, ioArgs, hold1, holds, back, assignT, assignT.assignN, wipeE, putBack, unlock, SR.calm, SR.onEnv, srcOf, seqD, ixR, Option.bind_some, Option.map_some, Option.bind_none, Option.map_none, List.map_cons, List.map_nil, List.cons_append, List.nil_append, if_true, if_false, reduceIte, Bool.false_eq_true, Bool.true_and, Bool.and_true, Option.isSome_some, List.contains_nil, Bool.not_false, Bool.not_true, tyO, tyD, neD, eqD, isNoneB, isLst, f1]
  unfold foTurn mBody
  rw [sa]
  dsimp only
  rw [seq_go st]
  exact mr_5
theorem td_6 {n : Nat} {w : Str} : run Pg (n + 3) 3 [⟨.sh, .int 6⟩, ⟨.sh, .str w⟩] = .ok (.exc 7 []) .sh [none, none] := by rfl
theorem mr_6 {n : Nat} {d : D} : exSs Pg.gcs (run Pg (n + 3)) Pg.isa (.cons (.ifs (.op2 .ne (.e (.call 6 (.cons (.s 2) .nil) [])) (.e (.call 8 (.cons (.e (.ife (.op2 .lt (.s 1) (.e (.int 10))) (.tup (.cons (.e (.var 1)) (.cons (.e (.int 19)) .nil))) (.tup (.cons (.e (.int 19)) .nil)))) (.cons (.e (.int 20)) .nil)) []))) 
    (.cons (.ret (.bl false)) .nil) .nil) (.cons (.ifs (.op2 .ne (.e (.call 7 (.cons (.s 2) .nil) [])) (.e (.call 8 (.cons (.e (.tup (.cons (.e (.int 0)) .nil))) (.cons (.e (.int 8)) .nil)) []))) 
    (.cons (.ret (.bl false)) .nil) .nil) .nil)) [some ⟨.io, d⟩, shS (.int 6), shS (.exc 7 [])] = .nx [some ⟨.io, d⟩, shS (.int 6), shS (.exc 7 [])] := by rfl
theorem mt_6 {n k : Nat} {d : D} {x1 x2 : Option Sl} (R : Reel k d) (hk : k + 20 ≤ 2 ^ 40) (f1 : free x1 = true) (f2 : free x2 = true) : ∃ d', foTurn (.nm 1) (mBody n) (.int 6) [some ⟨.io, d⟩, x1, x2] = .nx [some ⟨.io, d'⟩, shS (.int 6), shS (.exc 7 [])] ∧ Reel (k + 13) d' := by
  obtain ⟨w, d', e1, W, R1⟩ := word_ok (n := n) R hk
  refine ⟨d', ?_, R1⟩
  have st : exS Pg.gcs (run Pg (n + 3)) Pg.isa (.set 2 (.call 3 (.cons (.s 1) (.cons (.e (.call 11 (.cons (.io 0) .nil) [])) .nil)) [])) [some ⟨.io, d⟩, shS (.int 6), x2] = .nx [some ⟨.io, d'⟩, shS (.int 6), shS (.exc 7 [])] := by
    simp only [ev_int, ev_str, ev_bl, ev_non, ev_bty, ev_gc, ev_mov, ev_tup, ev_lst, ev_dct, ev_odc, ev_op2, ev_ch, ev_neg, ev_and, ev_or, ev_ife, ev_sub, ev_sl, ev_bi, ev_call, ev_mth, ev_pm, ev_lc, ev_mk, ev_mkx, ev_fld, ev_isx, ev_join, ev_var, ev_varT, ev_notT, ev_notF, ea_e, ea_s, ea_io, es_nil, es_cons, eand_1, eand_2, eor_1, eor_2, ei_nil, ei_1, ex_set, ex_tgt, ex_par, ex_sub, ex_ex, ex_ifs, ex_for_, ex_whl, ex_whw, ex_ret, ex_retN, ex_raise, ex_raisex, ex_try_, ex_pass, ex_brk, ex_ctn, ex_doc, xs_nil, xs_cons, xh_nil, xh_cons, xh_tup, gs_0, ss_0, ge_0, st_0, gs_1, ss_1, ge_1, st_1, gs_2, ss_2, ge_2, st_2, gs_3, ss_3, ge_3, st_3, gs_4, ss_4, ge_4, st_4, gs_5, ss_5, ge_5, st_5, gs_6, ss_6, ge_6, st_6, gs_7, ss_7, ge_7, st_7, gs_8, ss_8, ge_8, st_8, gs_9, ss_9, ge_9, st_9, gs_10, ss_10, ge_10, st_10, so_add, so_sub, so_mul, so_fdiv, so_mod, so_pow, so_eq, so_ne, so_lt, so_le, so_gt, so_ge, so_in, so_nin, so_is, so_isn, d_add, d_addt, d_addl, d_sub, d_mul, d_div, d_mod, d_lt, d_cmp, b_lent, b_lenl, b_lenf, b_abs, b_int, b_intb, b_listl, b_listf, b_listt, b_tupl, b_tupt, b_max2, b_min2, b_all, b_any, b_isi, b_dict, b_listd, b_sorted, b_min1, t_bl, t_int, t_non, t_lst, t_tup, l_tup, l_lst, l_fz, m_app, m_popat, ol_0, ol_1, ol_2, ol_3, ol_4, ol_5, ol_6, ol_7, ol_8, ol_9, ol_10, nd_0, nd_1, nd_0_1, nd_0_2, nd_0_3, nd_0_4, nd_0_5, nd_0_6, nd_0_7, nd_1_0, nd_1_2, nd_1_3, nd_1_4, nd_1_5, nd_1_6, nd_1_7, nd_2_0, nd_2_1, nd_2_3, nd_2_4, nd_2_5, nd_2_6, nd_2_7, nd_3_0, nd_3_1, nd_3_2, nd_3_4, nd_3_5, nd_3_6, nd_3_7, nd_4_0, nd_4_1, nd_4_2, nd_4_3, nd_4_5, nd_4_6, nd_4_7, nd_5_0, nd_5_1, nd_5_2, nd_5_3, nd_5_4, nd_5_6, nd_5_7, nd_6_0, nd_6_1, nd_6_2, nd_6_3, nd_6_4, nd_6_5, nd_6_7, nd_7_0, nd_7_1, nd_7_2, nd_7_3, nd_7_4, nd_7_5, nd_7_6, kb_NoneType_int, kb_NoneType_bool, kb_NoneType_tuple, kb_NoneType_str, kb_NoneType_list, kb_NoneType_dict, kb_bool_int, kb_bool_bool, kb_bool_tuple, kb_bool_str, kb_bool_list, kb_bool_dict, kb_int_int, kb_int_bool, kb_int_tuple, kb_int_str, kb_int_list, kb_int_dict, kb_str_int, kb_str_bool, kb_str_tuple, kb_str_str, kb_str_list, kb_str_dict, kb_tuple_int, kb_tuple_bool, kb_tuple_tuple, kb_tuple_str, kb_tuple_list, kb_tuple_dict, kb_list_int, kb_list_bool, kb_list_tuple, kb_list_str, kb_list_list, kb_list_dict, kb_dict_int, kb_dict_bool, kb_dict_tuple, kb_dict_str, kb_dict_list, kb_dict_dict, it_val, it_enum, it_zip, ow_nil, ow_cons, sn_n, sn_s, le_2, le_3, okb, okt, exb, ext_, sq_nx, sq_rt, sq_ex, ac_nx, ac_rt, ac_ex, fr_n, fr_s, fr_o, oo_n, oo_s, oo_i, oo_b, fin, argF, consF, slotF, ioF, tupF, lstF, dctF, twoF, oneF, chainF, notF, ifF, andF, orF, slF, biF, callG, mthF, pmF, lcF, yesF, varT, readVar, moveVar, setFs, parFs, subFs, dropFs, ifFs, forFs, retFs, raiseFs, raisexFs, mkF, mkxF, htFs, tryFs, hdFs, seqFs, walF, subF, nmF, unpF, putT, putTs, onBl, Ar.get, gets, valsOf, ofRes, mkSl, callF, ioArg, ioArgs, hold1, holds, back, assignT, assignT.assignN, wipeE, putBack, unlock, SR.calm, SR.onEnv, srcOf, seqD, ixR, Option.bind_some, Option.map_some, Option.bind_none, Option.map_none, List.map_cons, List.map_nil, List.cons_append, List.nil_append, if_true, if_false, reduceIte, Bool.false_eq_true, Bool.true_and, Bool.and_true, Option.isSome_some, List.contains_nil, Bool.not_false, Bool.not_true, tyO, tyD, neD, eqD, isNoneB, isLst, e1, td_6, f2]
  have sa : assignT [some ⟨.io, d⟩, x1, x2] (.int 6) (.nm 1) = some [some ⟨.io, d⟩, shS (.int 6), x2] := by simp only [ev_int, ev_str, ev_bl, ev_non, ev_bty, ev_gc, ev_mov, ev_tup, ev_lst, ev_dct, ev_odc, ev_op2, ev_ch, ev_neg, ev_and, ev_or, ev_ife, ev_sub, ev_sl, ev_bi, ev_call, ev_mth, ev_pm, ev_lc, ev_mk, ev_mkx, ev_fld, ev_isx, ev_join, ev_var, ev_varT, ev_notT, ev_notF, ea_e, ea_s, ea_io, es_nil, es_cons, eand_1, eand_2, eor_1, eor_2, ei_nil, ei_1, ex_set, ex_tgt, ex_par, ex_sub, ex_ex, ex_ifs, ex_for_, ex_whl, ex_whw, ex_ret, ex_retN, ex_raise, ex_raisex, ex_try_, ex_pass, ex_brk, ex_ctn, ex_doc, xs_nil, xs_cons, xh_nil, xh_cons, xh_tup, gs_0, ss_0, ge_0, st_0, gs_1, ss_1, ge_1, st_1, gs_2, ss_2, ge_2, st_2, gs_3, ss_3, ge_3, st_3, gs_4, ss_4, ge_4, st_4, gs_5, ss_5, ge_5, st_5, gs_6, ss_6, ge_6, st_6, gs_7, ss_7, ge_7, st_7, gs_8, ss_8, ge_8, st_8, gs_9, ss_9, ge_9, st_9, gs_10, ss_10, ge_10, st_10, so_add, so_sub, so_mul, so_fdiv, so_mod, so_pow, so_eq, so_ne, so_lt, so_le, so_gt, so_ge, so_in, so_nin, so_is, so_isn, d_add, d_addt, d_addl, d_sub, d_mul, d_div, d_mod, d_lt, d_cmp, b_lent, b_lenl, b_lenf, b_abs, b_int, b_intb, b_listl, b_listf, b_listt, b_tupl, b_tupt, b_max2, b_min2, b_all, b_any, b_isi, b_dict, b_listd, b_sorted, b_min1, t_bl, t_int, t_non, t_lst, t_tup, l_tup, l_lst, l_fz, m_app, m_popat, ol_0, ol_1, ol_2, ol_3, ol_4, ol_5, ol_6, ol_7, ol_8, ol_9, ol_10, nd_0, nd_1, nd_0_1, nd_0_2, nd_0_3, nd_0_4, nd_0_5, nd_0_6, nd_0_7, nd_1_0, nd_1_2, nd_1_3, nd_1_4, nd_1_5, nd_1_6, nd_1_7, nd_2_0, nd_2_1, nd_2_3, nd_2_4, nd_2_5, nd_2_6, nd_2_7, nd_3_0, nd_3_1, nd_3_2, nd_3_4, nd_3_5, nd_3_6, nd_3_7, nd_4_0, nd_4_1, nd_4_2, nd_4_3, nd_4_5, nd_4_6, nd_4_7, nd_5_0, nd_5_1, nd_5_2, nd_5_3, nd_5_4, nd_5_6, nd_5_7, nd_6_0, nd_6_1, nd_6_2, nd_6_3, nd_6_4, nd_6_5, nd_6_7, nd_7_0, nd_7_1, nd_7_2, nd_7_3, nd_7_4, nd_7_5, nd_7_6, kb_NoneType_int, kb_NoneType_bool, kb_NoneType_tuple, kb_NoneType_str, kb_NoneType_list, kb_NoneType_dict, kb_bool_int, kb_bool_bool, kb_bool_tuple, kb_bool_str, kb_bool_list, kb_bool_dict, kb_int_int, kb_int_bool, kb_int_tuple, kb_int_str, kb_int_list, kb_int_dict, kb_str_int, kb_str_bool, kb_str_tuple, kb_str_str, kb_str_list, kb_str_dict, kb_tuple_int, kb_tuple_bool, kb_tuple_tuple, kb_tuple_str, kb_tuple_list, kb_tuple_dict, kb_list_int, kb_list_bool, kb_list_tuple, kb_list_str, kb_list_list, kb_list_dict, kb_dict_int, kb_dict_bool, kb_dict_tuple, kb_dict_str, kb_dict_list, kb_dict_dict, it_val, it_enum, it_zip, ow_nil, ow_cons, sn_n, sn_s, le_2, le_3, okb, okt, exb, ext_, sq_nx, sq_rt, sq_ex, ac_nx, ac_rt, ac_ex, fr_n, fr_s, fr_o, oo_n, oo_s, oo_i, oo_b, fin, argF, consF, slotF, ioF, tupF, lstF, dctF, twoF, oneF, chainF, notF, ifF, andF, orF, slF, biF, callG, mthF, pmF, lcF, yesF, varT, readVar, moveVar, setFs, parFs, subFs, dropFs, ifFs, forFs, retFs, raiseFs, raisexFs, mkF, mkxF, htFs, tryFs, hdFs, seqFs, walF, subF, nmF, unpF, putT, putTs, onBl, Ar.get, gets, valsOf, ofRes, mkSl, callF, ioArg, ioArgs, hold1, holds, back, assignT, assignT.assignN, wipeE, putBack, unlock, SR.calm, SR.onEnv, srcOf, seqD, ixR, Option.bind_some, Option.map_some, Option.bind_none, Option.map_none, List.map_cons, List.map_nil, List.cons_append, List.nil_append, if_true, if_false, reduceIte, Bool.false_eq_true, Bool.true_and, Bool.and_true, Option.isSome_some, List.contains_nil, Bool.not_false, Bool.not_true, tyO, tyD, neD, eqD, isNoneB, isLst, f1]
  unfold foTurn mBody
  rw [sa]
  dsimp only
  rw [seq_go st]
  exact mr_6
theorem td_7 {n : Nat} {w : Str} : run Pg (n + 3) 3 [⟨.sh, .int 7⟩, ⟨.sh, .str w⟩] = .ok (.exc 8 []) .sh [none, none] := by rfl
theorem mr_7 {n : Nat} {d : D} : exSs Pg.gcs (run Pg (n + 3)) Pg.isa (.cons (.ifs (.op2 .ne (.e (.call 6 (.cons (.s 2) .nil) [])) (.e (.call 8 (.cons (.e (.ife (.op2 .lt (.s 1) (.e (.int 10))) (.tup (.cons (.e (.var 1)) (.cons (.e (.int 19)) .nil))) (.tup (.cons (.e (.int 19)) .nil)))) (.cons (.e (.int 20)) .nil)) []))) 
    (.cons (.ret (.bl false)) .nil) .nil) (.cons (.ifs (.op2 .ne (.e (.call 7 (.cons (.s 2) .nil) [])) (.e (.call 8 (.cons (.e (.tup (.cons (.e (.int 0)) .nil))) (.cons (.e (.int 8)) .nil)) []))) 
    (.cons (.ret (.bl false)) .nil) .nil) .nil)) [some ⟨.io, d⟩, shS (.int 7), shS (.exc 8 [])] = .nx [some ⟨.io, d⟩, shS (.int 7), shS (.exc 8 [])] := by rfl
theorem mt_7 {n k : Nat} {d : D} {x1 x2 : Option Sl} (R : Reel k d) (hk : k + 20 ≤ 2 ^ 40) (f1 : free x1 = true) (f2 : free x2 = true) : ∃ d', foTurn (.nm 1) (mBody n) (.int 7) [some ⟨.io, d⟩, x1, x2] = .nx [some ⟨.io, d'⟩, shS (.int 7), shS (.exc 8 [])] ∧ Reel (k + 13) d' := by
  obtain ⟨w, d', e1, W, R1⟩ := word_ok (n := n) R hk
  refine ⟨d', ?_, R1⟩
  have st : exS Pg.gcs (run Pg (n + 3)) Pg.isa (.set 2 (.call 3 (.cons (.s 1) (.cons (.e (.call 11 (.cons (.io 0) .nil) [])) .nil)) [])) [some ⟨.io, d⟩, shS (.int 7), x2] = .nx [some ⟨.io, d'⟩, shS (.int 7), shS (.exc 8 [])] := by
    simp only [ev_int, ev_str, ev_bl, ev_non, ev_bty, ev_gc, ev_mov, ev_tup, ev_lst, ev_dct, ev_odc, ev_op2, ev_ch, ev_neg, ev_and, ev_or, ev_ife, ev_sub, ev_sl, ev_bi, ev_call, ev_mth, ev_pm, ev_lc, ev_mk, ev_mkx, ev_fld, ev_isx, ev_join, ev_var, ev_varT, ev_notT, ev_notF, ea_e, ea_s, ea_io, es_nil, es_cons, eand_1, eand_2, eor_1, eor_2, ei_nil, ei_1, ex_set, ex_tgt, ex_par, ex_sub, ex_ex, ex_ifs, ex_for_, ex_whl, ex_whw, ex_ret, ex_retN, ex_raise, ex_raisex, ex_try_, ex_pass, ex_brk, ex_ctn, ex_doc, xs_nil, xs_cons, xh_nil, xh_cons, xh_tup, gs_0, ss_0, ge_0, st_0, gs_1, ss_1, ge_1, st_1, gs_2, ss_2, ge_2, st_2, gs_3, ss_3, ge_3, st_3, gs_4, ss_4, ge_4, st_4, gs_5, ss_5, ge_5, st_5, gs_6, ss_6, ge_6, st_6, gs_7, ss_7, ge_7, st_7, gs_8, ss_8, ge_8, st_8, gs_9, ss_9, ge_9, st_9, gs_10, ss_10, ge_10, st_10, so_add, so_sub, so_mul, so_fdiv, so_mod, so_pow, so_eq, so_ne, so_lt, so_le, so_gt, so_ge, so_in, so_nin, so_is, so_isn, d_add, d_addt, d_addl, d_sub, d_mul, d_div, d_mod, d_lt, d_cmp, b_lent, b_lenl, b_lenf, b_abs, b_int, b_intb, b_listl, b_listf, b_listt, b_tupl, b_tupt, b_max2, b_min2, b_all, b_any, b_isi, b_dict, b_listd, b_sorted, b_min1, t_bl, t_int, t_non, t_lst, t_tup, l_tup, l_lst, l_fz, m_app, m_popat, ol_0, ol_1, ol_2, ol_3, ol_4, ol_5, ol_6, ol_7, ol_8, ol_9, ol_10, nd_0, nd_1, nd_0_1, nd_0_2, nd_0_3, nd_0_4, nd_0_5, nd_0_6, nd_0_7, nd_1_0, nd_1_2, nd_1_3, nd_1_4, nd_1_5, nd_1_6, nd_1_7, nd_2_0, nd_2_1, nd_2_3, nd_2_4, nd_2_5, nd_2_6, nd_2_7, nd_3_0, nd_3_1, nd_3_2, nd_3_4, nd_3_5, nd_3_6, nd_3_7, nd_4_0, nd_4_1, nd_4_2, nd_4_3, nd_4_5, nd_4_6, nd_4_7, nd_5_0, nd_5_1, nd_5_2, nd_5_3, nd_5_4, nd_5_6, nd_5_7, nd_6_0, nd_6_1, nd_6_2, nd_6_3, nd_6_4, nd_6_5, nd_6_7, nd_7_0, nd_7_1, nd_7_2, nd_7_3, nd_7_4, nd_7_5, nd_7_6, kb_NoneType_int, kb_NoneType_bool, kb_NoneType_tuple, kb_NoneType_str, kb_NoneType_list, kb_NoneType_dict, kb_bool_int, kb_bool_bool, kb_bool_tuple, kb_bool_str, kb_bool_list, kb_bool_dict, kb_int_int, kb_int_bool, kb_int_tuple, kb_int_str, kb_int_list, kb_int_dict, kb_str_int, kb_str_bool, kb_str_tuple, kb_str_str, kb_str_list, kb_str_dict, kb_tuple_int, kb_tuple_bool, kb_tuple_tuple, kb_tuple_str, kb_tuple_list, kb_tuple_dict, kb_list_int, kb_list_bool, kb_list_tuple, kb_list_str, kb_list_list, kb_list_dict, kb_dict_int, kb_dict_bool, kb_dict_tuple, kb_dict_str, kb_dict_list, kb_dict_dict, it_val, it_enum, it_zip, ow_nil, ow_cons, sn_n, sn_s, le_2, le_3, okb, okt, exb, ext_, sq_nx, sq_rt, sq_ex, ac_nx, ac_rt, ac_ex, fr_n, fr_s, fr_o, oo_n, oo_s, oo_i, oo_b, fin, argF, consF, slotF, ioF, tupF, lstF, dctF, twoF, oneF, chainF, notF, ifF, andF, orF, slF, biF, callG, mthF, pmF, lcF, yesF, varT, readVar, moveVar, setFs, parFs, subFs, dropFs, ifFs, forFs, retFs, raiseFs, raisexFs, mkF, mkxF, htFs, tryFs, hdFs, seqFs, walF, subF, nmF, unpF, putT, putTs, onBl, Ar.get, gets, valsOf, ofRes, mkSl, callF, ioArg, ioArgs, hold1, holds, back, assignT, assignT.assignN, wipeE, putBack, unlock, SR.calm, SR.onEnv, srcOf, seqD, ixR, Option.bind_some, Option.map_some, Option.bind_none, Option.map_none, List.map_cons, List.map_nil, List.cons_append, List.nil_append, if_true, if_false, reduceIte, Bool.false_eq_true, Bool.true_and, Bool.and_true, Option.isSome_some, List.contains_nil, Bool.not_false, Bool.not_true, tyO, tyD, neD, eqD, isNoneB, isLst, e1, td_7, f2]
  have sa : assignT [some ⟨.io, d⟩, x1, x2] (.int 7) (.nm 1) = some [some ⟨.io, d⟩, shS (.int 7), x2] := by simp only [ev_int, ev_str, ev_bl, ev_non, ev_bty, ev_gc, ev_mov, ev_tup, ev_lst, ev_dct, ev_odc, ev_op2, ev_ch, ev_neg, ev_and, ev_or, ev_ife, ev_sub, ev_sl, ev_bi, ev_call, ev_mth, ev_pm, ev_lc, ev_mk, ev_mkx, ev_fld, ev_isx, ev_join, ev_var, ev_varT, ev_notT, ev_notF, ea_e, ea_s, ea_io, es_nil, es_cons, eand_1, eand_2, eor_1, eor_2, ei_nil, ei_1, ex_set, ex_tgt, ex_par, ex_sub, ex_ex, ex_ifs, ex_for_, ex_whl, ex_whw, ex_ret, ex_retN, ex_raise, ex_raisex, ex_try_, ex_pass, ex_brk, ex_ctn, ex_doc, xs_nil, xs_cons, xh_nil, xh_cons, xh_tup, gs_0, ss_0, ge_0, st_0, gs_1, ss_1, ge_1, st_1, gs_2, ss_2, ge_2, st_2, gs_3, ss_3, ge_3, st_3, gs_4, ss_4, ge_4, st_4, gs_5, ss_5, ge_5, st_5, gs_6, ss_6, ge_6, st_6, gs_7, ss_7, ge_7, st_7, gs_8, ss_8, ge_8, st_8, gs_9, ss_9, ge_9, st_9, gs_10, ss_10, ge_10, st_10, so_add, so_sub, so_mul, so_fdiv, so_mod, so_pow, so_eq, so_ne, so_lt, so_le, so_gt, so_ge, so_in, so_nin, so_is, so_isn, d_add, d_addt, d_addl, d_sub, d_mul, d_div, d_mod, d_lt, d_cmp, b_lent, b_lenl, b_lenf, b_abs, b_int, b_intb, b_listl, b_listf, b_listt, b_tupl, b_tupt, b_max2, b_min2, b_all, b_any, b_isi, b_dict, b_listd, b_sorted, b_min1, t_bl, t_int, t_non, t_lst, t_tup, l_tup, l_lst, l_fz, m_app, m_popat, ol_0, ol_1, ol_2, ol_3, ol_4, ol_5, ol_6, ol_7, ol_8, ol_9, ol_10, nd_0, nd_1, nd_0_1, nd_0_2, nd_0_3, nd_0_4, nd_0_5, nd_0_6, nd_0_7, nd_1_0, nd_1_2, nd_1_3, nd_1_4, nd_1_5, nd_1_6, nd_1_7, nd_2_0, nd_2_1, nd_2_3, nd_2_4, nd_2_5, nd_2_6, nd_2_7, nd_3_0, nd_3_1, nd_3_2, nd_3_4, nd_3_5, nd_3_6, nd_3_7, nd_4_0, nd_4_1, nd_4_2, nd_4_3, nd_4_5, nd_4_6, nd_4_7, nd_5_0, nd_5_1, nd_5_2, nd_5_3, nd_5_4, nd_5_6, nd_5_7, nd_6_0, nd_6_1, nd_6_2, nd_6_3, nd_6_4, nd_6_5, nd_6_7, nd_7_0, nd_7_1, nd_7_2, nd_7_3, nd_7_4, nd_7_5, nd_7_6, kb_NoneType_int, kb_NoneType_bool, kb_NoneType_tuple, kb_NoneType_str, kb_NoneType_list, kb_NoneType_dict, kb_bool_int, kb_bool_bool, kb_bool_tuple, kb_bool_str, kb_bool_list, kb_bool_dict, kb_int_int, kb_int_bool, kb_int_tuple, kb_int_str, kb_int_list, kb_int_dict, kb_str_int, kb_str_bool, kb_str_tuple, kb_str_str, kb_str_list, kb_str_dict, kb_tuple_int, kb_tuple_bool, kb_tuple_tuple, kb_tuple_str, kb_tuple_list, kb_tuple_dict, kb_list_int, kb_list_bool, kb_list_tuple, kb_list_str, kb_list_list, kb_list_dict, kb_dict_int, kb_dict_bool, kb_dict_tuple, kb_dict_str, kb_dict_list, kb_dict_dict, it_val, it_enum, it_zip, ow_nil, ow_cons, sn_n, sn_s, le_2, le_3, okb, okt, exb, ext_, sq_nx, sq_rt, sq_ex, ac_nx, ac_rt, ac_ex, fr_n, fr_s, fr_o, oo_n, oo_s, oo_i, oo_b, fin, argF, consF, slotF, ioF, tupF, lstF, dctF, twoF, oneF, chainF, notF, ifF, andF, orF, slF, biF, callG, mthF, pmF, lcF, yesF, varT, readVar, moveVar, setFs, parFs, subFs, dropFs, ifFs, forFs, retFs, raiseFs, raisexFs, mkF, mkxF, htFs, tryFs, hdFs, seqFs, walF, subF, nmF, unpF, putT, putTs, onBl, Ar.get, gets, valsOf, ofRes, mkSl, callF, ioArg, ioArgs, hold1, holds, back, assignT, assignT.assignN, wipeE, putBack, unlock, SR.calm, SR.onEnv, srcOf, seqD, ixR, Option.bind_some, Option.map_some, Option.bind_none, Option.map_none, List.map_cons, List.map_nil, List.cons_append, List.nil_append, if_true, if_false, reduceIte, Bool.false_eq_true, Bool.true_and, Bool.and_true, Option.isSome_some, List.contains_nil, Bool.not_false, Bool.not_true, tyO, tyD, neD, eqD, isNoneB, isLst, f1]
  unfold foTurn mBody
  rw [sa]
  dsimp only
  rw [seq_go st]
  exact mr_7
theorem td_8 {n : Nat} {w : Str} : run Pg (n + 3) 3 [⟨.sh, .int 8⟩, ⟨.sh, .str w⟩] = .ok (.exc 9 []) .sh [none, none] := by rfl
theorem mr_8 {n : Nat} {d : D} : exSs Pg.gcs (run Pg (n + 3)) Pg.isa (.cons (.ifs (.op2 .ne (.e (.call 6 (.cons (.s 2) .nil) [])) (.e (.call 8 (.cons (.e (.ife (.op2 .lt (.s 1) (.e (.int 10))) (.tup (.cons (.e (.var 1)) (.cons (.e (.int 19)) .nil))) (.tup (.cons (.e (.int 19)) .nil)))) (.cons (.e (.int 20)) .nil)) []))) 
    (.cons (.ret (.bl false)) .nil) .nil) (.cons (.ifs (.op2 .ne (.e (.call 7 (.cons (.s 2) .nil) [])) (.e (.call 8 (.cons (.e (.tup (.cons (.e (.int 0)) .nil))) (.cons (.e (.int 8)) .nil)) []))) 
    (.cons (.ret (.bl false)) .nil) .nil) .nil)) [some ⟨.io, d⟩, shS (.int 8), shS (.exc 9 [])] = .nx [some ⟨.io, d⟩, shS (.int 8), shS (.exc 9 [])] := by rfl
theorem mt_8 {n k : Nat} {d : D} {x1 x2 : Option Sl} (R : Reel k d) (hk : k + 20 ≤ 2 ^ 40) (f1 : free x1 = true) (f2 : free x2 = true) : ∃ d', foTurn (.nm 1) (mBody n) (.int 8) [some ⟨.io, d⟩, x1, x2] = .nx [some ⟨.io, d'⟩, shS (.int 8), shS (.exc 9 [])] ∧ Reel (k + 13) d' := by
  obtain ⟨w, d', e1, W, R1⟩ := word_ok (n := n) R hk
  refine ⟨d', ?_, R1⟩
  have st : exS Pg.gcs (run Pg (n + 3)) Pg.isa (.set 2 (.call 3 (.cons (.s 1) (.cons (.e (.call 11 (.cons (.io 0) .nil) [])) .nil)) [])) [some ⟨.io, d⟩, shS (.int 8), x2] = .nx [some ⟨.io, d'⟩, shS (.int 8), shS (.exc 9 [])] := by
    simp only [ev_int, ev_str, ev_bl, ev_non, ev_bty, ev_gc, ev_mov, ev_tup, ev_lst, ev_dct, ev_odc, ev_op2, ev_ch, ev_neg, ev_and, ev_or, ev_ife, ev_sub, ev_sl, ev_bi, ev_call, ev_mth, ev_pm, ev_lc, ev_mk, ev_mkx, ev_fld, ev_isx, ev_join, ev_var, ev_varT, ev_notT, ev_notF, ea_e, ea_s, ea_io, es_nil, es_cons, eand_1, eand_2, eor_1, eor_2, ei_nil, ei_1, ex_set, ex_tgt, ex_par, ex_sub, ex_ex, ex_ifs, ex_for_, ex_whl, ex_whw, ex_ret, ex_retN, ex_raise, ex_raisex, ex_try_, ex_pass, ex_brk, ex_ctn, ex_doc, xs_nil, xs_cons, xh_nil, xh_cons, xh_tup, gs_0, ss_0, ge_0, st_0, gs_1, ss_1, ge_1, st_1, gs_2, ss_2, ge_2, st_2, gs_3, ss_3, ge_3, st_3, gs_4, ss_4, ge_4, st_4, gs_5, ss_5, ge_5, st_5, gs_6, ss_6, ge_6, st_6, gs_7, ss_7, ge_7, st_7, gs_8, ss_8, ge_8, st_8, gs_9, ss_9, ge_9, st_9, gs_10, ss_10, ge_10, st_10, so_add, so_sub, so_mul, so_fdiv, so_mod, so_pow, so_eq, so_ne, so_lt, so_le, so_gt, so_ge, so_in, so_nin, so_is, so_isn, d_add, d_addt, d_addl, d_sub, d_mul, d_div, d_mod, d_lt, d_cmp, b_lent, b_lenl, b_lenf, b_abs, b_int, b_intb, b_listl, b_listf, b_listt, b_tupl, b_tupt, b_max2, b_min2, b_all, b_any, b_isi, b_dict, b_listd, b_sorted, b_min1, t_bl, t_int, t_non, t_lst, t_tup, l_tup, l_lst, l_fz, m_app, m_popat, ol_0, ol_1, ol_2, ol_3, ol_4, ol_5, ol_6, ol_7, ol_8, ol_9, ol_10, nd_0, nd_1, nd_0_1, nd_0_2, nd_0_3, nd_0_4, nd_0_5, nd_0_6, nd_0_7, nd_1_0, nd_1_2, nd_1_3, nd_1_4, nd_1_5, nd_1_6, nd_1_7, nd_2_0, nd_2_1, nd_2_3, nd_2_4, nd_2_5, nd_2_6, nd_2_7, nd_3_0, nd_3_1, nd_3_2, nd_3_4, nd_3_5, nd_3_6, nd_3_7, nd_4_0, nd_4_1, nd_4_2, nd_4_3, nd_4_5, nd_4_6, nd_4_7, nd_5_0, nd_5_1, nd_5_2, nd_5_3, nd_5_4, nd_5_6, nd_5_7, nd_6_0, nd_6_1, nd_6_2, nd_6_3, nd_6_4, nd_6_5, nd_6_7, nd_7_0, nd_7_1, nd_7_2, nd_7_3, nd_7_4, nd_7_5, nd_7_6, kb_NoneType_int, kb_NoneType_bool, kb_NoneType_tuple, kb_NoneType_str, kb_NoneType_list, kb_NoneType_dict, kb_bool_int, kb_bool_bool, kb_bool_tuple, kb_bool_str, kb_bool_list, kb_bool_dict, kb_int_int, kb_int_bool, kb_int_tuple, kb_int_str, kb_int_list, kb_int_dict, kb_str_int, kb_str_bool, kb_str_tuple, kb_str_str, kb_str_list, kb_str_dict, kb_tuple_int, kb_tuple_bool, kb_tuple_tuple, kb_tuple_str, kb_tuple_list, kb_tuple_dict, kb_list_int, kb_list_bool, kb_list_tuple, kb_list_str, kb_list_list, kb_list_dict, kb_dict_int, kb_dict_bool, kb_dict_tuple, kb_dict_str, kb_dict_list, kb_dict_dict, it_val, it_enum, it_zip, ow_nil, ow_cons, sn_n, sn_s, le_2, le_3, okb, okt, exb, ext_, sq_nx, sq_rt, sq_ex, ac_nx, ac_rt, ac_ex, fr_n, fr_s, fr_o, oo_n, oo_s, oo_i, oo_b, fin, argF, consF, slotF, ioF, tupF, lstF, dctF, twoF, oneF, chainF, notF, ifF, andF, orF, slF, biF, callG, mthF, pmF, lcF, yesF, varT, readVar, moveVar, setFs, parFs, subFs, dropFs, ifFs, forFs, retFs, raiseFs, raisexFs, mkF, mkxF, htFs, tryFs, hdFs, seqFs, walF, subF, nmF, unpF, putT, putTs, onBl, Ar.get, gets, valsOf, ofRes, mkSl, callF, ioArg, ioArgs, hold1, holds, back, assignT, assignT.assignN, wipeE, putBack, unlock, SR.calm, SR.onEnv, srcOf, seqD, ixR, Option.bind_some, Option.map_some, Option.bind_none, Option.map_none, List.map_cons, List.map_nil, List.cons_append, List.nil_append, if_true, if_false, reduceIte, Bool.false_eq_true, Bool.true_and, Bool.and_true, Option.isSome_some, List.contains_nil, Bool.not_false, Bool.not_true, tyO, tyD, neD, eqD, isNoneB, isLst, e1, td_8, f2]
  have sa : assignT [some ⟨.io, d⟩, x1, x2] (.int 8) (.nm 1) = some [some ⟨.io, d⟩, shS (.int 8), x2] := by simp only [ev_int, ev_str, ev_bl, ev_non, ev_bty, ev_gc, ev_mov, ev_tup, ev_lst, ev_dct, ev_odc, ev_op2, ev_ch, ev_neg, ev_and, ev_or, ev_ife, ev_sub, ev_sl, ev_bi, ev_call, ev_mth, ev_pm, ev_lc, ev_mk, ev_mkx, ev_fld, ev_isx, ev_join, ev_var, ev_varT, ev_notT, ev_notF, ea_e, ea_s, ea_io, es_nil, es_cons, eand_1, eand_2, eor_1, eor_2, ei_nil, ei_1, ex_set, ex_tgt, ex_par, ex_sub, ex_ex, ex_ifs, ex_for_, ex_whl, ex_whw, ex_ret, ex_retN, ex_raise, ex_raisex, ex_try_, ex_pass, ex_brk, ex_ctn, ex_doc, xs_nil, xs_cons, xh_nil, xh_cons, xh_tup, gs_0, ss_0, ge_0, st_0, gs_1, ss_1, ge_1, st_1, gs_2, ss_2, ge_2, st_2, gs_3, ss_3, ge_3, st_3, gs_4, ss_4, ge_4, st_4, gs_5, ss_5, ge_5, st_5, gs_6, ss_6, ge_6, st_6, gs_7, ss_7, ge_7, st_7, gs_8, ss_8, ge_8, st_8, gs_9, ss_9, ge_9, st_9, gs_10, ss_10, ge_10, st_10, so_add, so_sub, so_mul, so_fdiv, so_mod, so_pow, so_eq, so_ne, so_lt, so_le, so_gt, so_ge, so_in, so_nin, so_is, so_isn, d_add, d_addt, d_addl, d_sub, d_mul, d_div, d_mod, d_lt, d_cmp, b_lent, b_lenl, b_lenf, b_abs, b_int, b_intb, b_listl, b_listf, b_listt, b_tupl, b_tupt, b_max2, b_min2, b_all, b_any, b_isi, b_dict, b_listd, b_sorted, b_min1, t_bl, t_int, t_non, t_lst, t_tup, l_tup, l_lst, l_fz, m_app, m_popat, ol_0, ol_1, ol_2, ol_3, ol_4, ol_5, ol_6, ol_7, ol_8, ol_9, ol_10, nd_0, nd_1, nd_0_1, nd_0_2, nd_0_3, nd_0_4, nd_0_5, nd_0_6, nd_0_7, nd_1_0, nd_1_2, nd_1_3, nd_1_4, nd_1_5, nd_1_6, nd_1_7, nd_2_0, nd_2_1, nd_2_3, nd_2_4, nd_2_5, nd_2_6, nd_2_7, nd_3_0, nd_3_1, nd_3_2, nd_3_4, nd_3_5, nd_3_6, nd_3_7, nd_4_0, nd_4_1, nd_4_2, nd_4_3, nd_4_5, nd_4_6, nd_4_7, nd_5_0, nd_5_1, nd_5_2, nd_5_3, nd_5_4, nd_5_6, nd_5_7, nd_6_0, nd_6_1, nd_6_2, nd_6_3, nd_6_4, nd_6_5, nd_6_7, nd_7_0, nd_7_1, nd_7_2, nd_7_3, nd_7_4, nd_7_5, nd_7_6, kb_NoneType_int, kb_NoneType_bool, kb_NoneType_tuple, kb_NoneType_str, kb_NoneType_list, kb_NoneType_dict, kb_bool_int, kb_bool_bool, kb_bool_tuple, kb_bool_str, kb_bool_list, kb_bool_dict, kb_int_int, kb_int_bool, kb_int_tuple, kb_int_str, kb_int_list, kb_int_dict, kb_str_int, kb_str_bool, kb_str_tuple, kb_str_str, kb_str_list, kb_str_dict, kb_tuple_int, kb_tuple_bool, kb_tuple_tuple, kb_tuple_str, kb_tuple_list, kb_tuple_dict, kb_list_int, kb_list_bool, kb_list_tuple, kb_list_str, kb_list_list, kb_list_dict, kb_dict_int, kb_dict_bool, kb_dict_tuple, kb_dict_str, kb_dict_list, kb_dict_dict, it_val, it_enum, it_zip, ow_nil, ow_cons, sn_n, sn_s, le_2, le_3, okb, okt, exb, ext_, sq_nx, sq_rt, sq_ex, ac_nx, ac_rt, ac_ex, fr_n, fr_s, fr_o, oo_n, oo_s, oo_i, oo_b, fin, argF, consF, slotF, ioF, tupF, lstF, dctF, twoF, oneF, chainF, notF, ifF, andF, orF, slF, biF, callG, mthF, pmF, lcF, yesF, varT, readVar, moveVar, setFs, parFs, subFs, dropFs, ifFs, forFs, retFs, raiseFs, raisexFs, mkF, mkxF, htFs, tryFs, hdFs, seqFs, walF, subF, nmF, unpF, putT, putTs, onBl, Ar.get, gets, valsOf, ofRes, mkSl, callF, ioArg, ioArgs, hold1, holds, back, assignT, assignT.assignN, wipeE, putBack, unlock, SR.calm, SR.onEnv, srcOf, seqD, ixR, Option.bind_some, Option.map_some, Option.bind_none, Option.map_none, List.map_cons, List.map_nil, List.cons_append, List.nil_append, if_true, if_false, reduceIte, Bool.false_eq_true, Bool.true_and, Bool.and_true, Option.isSome_some, List.contains_nil, Bool.not_false, Bool.not_true, tyO, tyD, neD, eqD, isNoneB, isLst, f1]
  unfold foTurn mBody
  rw [sa]
  dsimp only
  rw [seq_go st]
  exact mr_8
theorem td_9 {n : Nat} {w : Str} : run Pg (n + 3) 3 [⟨.sh, .int 9⟩, ⟨.sh, .str w⟩] = .ok (.exc 10 []) .sh [none, none] := by rfl
theorem mr_9 {n : Nat} {d : D} : exSs Pg.gcs (run Pg (n + 3)) Pg.isa (.cons (.ifs (.op2 .ne (.e (.call 6 (.cons (.s 2) .nil) [])) (.e (.call 8 (.cons (.e (.ife (.op2 .lt (.s 1) (.e (.int 10))) (.tup (.cons (.e (.var 1)) (.cons (.e (.int 19)) .nil))) (.tup (.cons (.e (.int 19)) .nil)))) (.cons (.e (.int 20)) .nil)) []))) 
    (.cons (.ret (.bl false)) .nil) .nil) (.cons (.ifs (.op2 .ne (.e (.call 7 (.cons (.s 2) .nil) [])) (.e (.call 8 (.cons (.e (.tup (.cons (.e (.int 0)) .nil))) (.cons (.e (.int 8)) .nil)) []))) 
    (.cons (.ret (.bl false)) .nil) .nil) .nil)) [some ⟨.io, d⟩, shS (.int 9), shS (.exc 10 [])] = .nx [some ⟨.io, d⟩, shS (.int 9), shS (.exc 10 [])] := by rfl
theorem mt_9 {n k : Nat} {d : D} {x1 x2 : Option Sl} (R : Reel k d) (hk : k + 20 ≤ 2 ^ 40) (f1 : free x1 = true) (f2 : free x2 = true) : ∃ d', foTurn (.nm 1) (mBody n) (.int 9) [some ⟨.io, d⟩, x1, x2] = .nx [some ⟨.io, d'⟩, shS (.int 9), shS (.exc 10 [])] ∧ Reel (k + 13) d' := by
  obtain ⟨w, d', e1, W, R1⟩ := word_ok (n := n) R hk
  refine ⟨d', ?_, R1⟩
  have st : exS Pg.gcs (run Pg (n + 3)) Pg.isa (.set 2 (.call 3 (.cons (.s 1) (.cons (.e (.call 11 (.cons (.io 0) .nil) [])) .nil)) [])) [some ⟨.io, d⟩, shS (.int 9), x2] = .nx [some ⟨.io, d'⟩, shS (.int 9), shS (.exc 10 [])] := by
    simp only [ev_int, ev_str, ev_bl, ev_non, ev_bty, ev_gc, ev_mov, ev_tup, ev_lst, ev_dct, ev_odc, ev_op2, ev_ch, ev_neg, ev_and, ev_or, ev_ife, ev_sub, ev_sl, ev_bi, ev_call, ev_mth, ev_pm, ev_lc, ev_mk, ev_mkx, ev_fld, ev_isx, ev_join, ev_var, ev_varT, ev_notT, ev_notF, ea_e, ea_s, ea_io, es_nil, es_cons, eand_1, eand_2, eor_1, eor_2, ei_nil, ei_1, ex_set, ex_tgt, ex_par, ex_sub, ex_ex, ex_ifs, ex_for_, ex_whl, ex_whw, ex_ret, ex_retN, ex_raise, ex_raisex, ex_try_, ex_pass, ex_brk, ex_ctn, ex_doc, xs_nil, xs_cons, xh_nil, xh_cons, xh_tup, gs_0, ss_0, ge_0, st_0, gs_1, ss_1, ge_1, st_1, gs_2, ss_2, ge_2, st_2, gs_3, ss_3, ge_3, st_3, gs_4, ss_4, ge_4, st_4, gs_5, ss_5, ge_5, st_5, gs_6, ss_6, ge_6, st_6, gs_7, ss_7, ge_7, st_7, gs_8, ss_8, ge_8, st_8, gs_9, ss_9, ge_9, st_9, gs_10, ss_10, ge_10, st_10, so_add, so_sub, so_mul, so_fdiv, so_mod, so_pow, so_eq, so_ne, so_lt, so_le, so_gt, so_ge, so_in, so_nin, so_is, so_isn, d_add, d_addt, d_addl, d_sub, d_mul, d_div, d_mod, d_lt, d_cmp, b_lent, b_lenl, b_lenf, b_abs, b_int, b_intb, b_listl, b_listf, b_listt, b_tupl, b_tupt, b_max2, b_min2, b_all, b_any, b_isi, b_dict, b_listd, b_sorted, b_min1, t_bl, t_int, t_non, t_lst, t_tup, l_tup, l_lst, l_fz, m_app, m_popat, ol_0, ol_1, ol_2, ol_3, ol_4, ol_5, ol_6, ol_7, ol_8, ol_9, ol_10, nd_0, nd_1, nd_0_1, nd_0_2, nd_0_3, nd_0_4, nd_0_5, nd_0_6, nd_0_7, nd_1_0, nd_1_2, nd_1_3, nd_1_4, nd_1_5, nd_1_6, nd_1_7, nd_2_0, nd_2_1, nd_2_3, nd_2_4, nd_2_5, nd_2_6, nd_2_7, nd_3_0, nd_3_1, nd_3_2, nd_3_4, nd_3_5, nd_3_6, nd_3_7, nd_4_0, nd_4_1, nd_4_2, nd_4_3, nd_4_5, nd_4_6, nd_4_7, nd_5_0, nd_5_1, nd_5_2, nd_5_3, nd_5_4, nd_5_6, nd_5_7, nd_6_0, nd_6_1, nd_6_2, nd_6_3, nd_6_4, nd_6_5, nd_6_7, nd_7_0, nd_7_1, nd_7_2, nd_7_3, nd_7_4, nd_7_5, nd_7_6, kb_NoneType_int, kb_NoneType_bool, kb_NoneType_tuple, kb_NoneType_str, kb_NoneType_list, kb_NoneType_dict, kb_bool_int, kb_bool_bool, kb_bool_tuple, kb_bool_str, kb_bool_list, kb_bool_dict, kb_int_int, kb_int_bool, kb_int_tuple, kb_int_str, kb_int_list, kb_int_dict, kb_str_int, kb_str_bool, kb_str_tuple, kb_str_str, kb_str_list, kb_str_dict, kb_tuple_int, kb_tuple_bool, kb_tuple_tuple, kb_tuple_str, kb_tuple_list, kb_tuple_dict, kb_list_int, kb_list_bool, kb_list_tuple, kb_list_str, kb_list_list, kb_list_dict, kb_dict_int, kb_dict_bool, kb_dict_tuple, kb_dict_str, kb_dict_list, kb_dict_dict, it_val, it_enum, it_zip, ow_nil, ow_cons, sn_n, sn_s, le_2, le_3, okb, okt, exb, ext_, sq_nx, sq_rt, sq_ex, ac_nx, ac_rt, ac_ex, fr_n, fr_s, fr_o, oo_n, oo_s, oo_i, oo_b, fin, argF, consF, slotF, ioF, tupF, lstF, dctF, twoF, oneF, chainF, notF, ifF, andF, orF, slF, biF, callG, mthF, pmF, lcF, yesF, varT, readVar, moveVar, setFs, parFs, subFs, dropFs, ifFs, forFs, retFs, raiseFs, raisexFs, mkF, mkxF, htFs, tryFs, hdFs, seqFs, walF, subF, nmF, unpF, putT, putTs, onBl, Ar.get, gets, valsOf, ofRes, mkSl, callF, ioArg, ioArgs, hold1, holds, back, assignT, assignT.assignN, wipeE, putBack, unlock, SR.calm, SR.onEnv, srcOf, seqD, ixR, Option.bind_some, Option.map_some, Option.bind_none, Option.map_none, List.map_cons, List.map_nil, List.cons_append, List.nil_append, if_true, if_false, reduceIte, Bool.false_eq_true, Bool.true_and, Bool.and_true, Option.isSome_some, List.contains_nil, Bool.not_false, Bool.not_true, tyO, tyD, neD, eqD, isNoneB, isLst, e1, td_9, f2]
  have sa : assignT [some ⟨.io, d⟩, x1, x2] (.int 9) (.nm 1) = some [some ⟨.io, d⟩, shS (.int 9), x2] := by simp only [ev_int, ev_str, ev_bl, ev_non, ev_bty, ev_gc, ev_mov, ev_tup, ev_lst, ev_dct, ev_odc, ev_op2, ev_ch, ev_neg, ev_and, ev_or, ev_ife, ev_sub, ev_sl, ev_bi, ev_call, ev_mth, ev_pm, ev_lc, ev_mk, ev_mkx, ev_fld, ev_isx, ev_join, ev_var, ev_varT, ev_notT, ev_notF, ea_e, ea_s, ea_io, es_nil, es_cons, eand_1, eand_2, eor_1, eor_2, ei_nil, ei_1, ex_set, ex_tgt, ex_par, ex_sub, ex_ex, ex_ifs, ex_for_, ex_whl, ex_whw, ex_ret, ex_retN, ex_raise, ex_raisex, ex_try_, ex_pass, ex_brk, ex_ctn, ex_doc, xs_nil, xs_cons, xh_nil, xh_cons, xh_tup, gs_0, ss_0, ge_0, st_0, gs_1, ss_1, ge_1, st_1, gs_2, ss_2, ge_2, st_2, gs_3, ss_3, ge_3, st_3, gs_4, ss_4, ge_4, st_4, gs_5, ss_5, ge_5, st_5, gs_6, ss_6, ge_6, st_6, gs_7, ss_7, ge_7, st_7, gs_8, ss_8, ge_8, st_8, gs_9, ss_9, ge_9, st_9, gs_10, ss_10, ge_10, st_10, so_add, so_sub, so_mul, so_fdiv, so_mod, so_pow, so_eq, so_ne, so_lt, so_le, so_gt, so_ge, so_in, so_nin, so_is, so_isn, d_add, d_addt, d_addl, d_sub, d_mul, d_div, d_mod, d_lt, d_cmp, b_lent, b_lenl, b_lenf, b_abs, b_int, b_intb, b_listl, b_listf, b_listt, b_tupl, b_tupt, b_max2, b_min2, b_all, b_any, b_isi, b_dict, b_listd, b_sorted, b_min1, t_bl, t_int, t_non, t_lst, t_tup, l_tup, l_lst, l_fz, m_app, m_popat, ol_0, ol_1, ol_2, ol_3, ol_4, ol_5, ol_6, ol_7, ol_8, ol_9, ol_10, nd_0, nd_1, nd_0_1, nd_0_2, nd_0_3, nd_0_4, nd_0_5, nd_0_6, nd_0_7, nd_1_0, nd_1_2, nd_1_3, nd_1_4, nd_1_5, nd_1_6, nd_1_7, nd_2_0, nd_2_1, nd_2_3, nd_2_4, nd_2_5, nd_2_6, nd_2_7, nd_3_0, nd_3_1, nd_3_2, nd_3_4, nd_3_5, nd_3_6, nd_3_7, nd_4_0, nd_4_1, nd_4_2, nd_4_3, nd_4_5, nd_4_6, nd_4_7, nd_5_0, nd_5_1, nd_5_2, nd_5_3, nd_5_4, nd_5_6, nd_5_7, nd_6_0, nd_6_1, nd_6_2, nd_6_3, nd_6_4, nd_6_5, nd_6_7, nd_7_0, nd_7_1, nd_7_2, nd_7_3, nd_7_4, nd_7_5, nd_7_6, kb_NoneType_int, kb_NoneType_bool, kb_NoneType_tuple, kb_NoneType_str, kb_NoneType_list, kb_NoneType_dict, kb_bool_int, kb_bool_bool, kb_bool_tuple, kb_bool_str, kb_bool_list, kb_bool_dict, kb_int_int, kb_int_bool, kb_int_tuple, kb_int_str, kb_int_list, kb_int_dict, kb_str_int, kb_str_bool, kb_str_tuple, kb_str_str, kb_str_list, kb_str_dict, kb_tuple_int, kb_tuple_bool, kb_tuple_tuple, kb_tuple_str, kb_tuple_list, kb_tuple_dict, kb_list_int, kb_list_bool, kb_list_tuple, kb_list_str, kb_list_list, kb_list_dict, kb_dict_int, kb_dict_bool, kb_dict_tuple, kb_dict_str, kb_dict_list, kb_dict_dict, it_val, it_enum, it_zip, ow_nil, ow_cons, sn_n, sn_s, le_2, le_3, okb, okt, exb, ext_, sq_nx, sq_rt, sq_ex, ac_nx, ac_rt, ac_ex, fr_n, fr_s, fr_o, oo_n, oo_s, oo_i, oo_b, fin, argF, consF, slotF, ioF, tupF, lstF, dctF, twoF, oneF, chainF, notF, ifF, andF, orF, slF, biF, callG, mthF, pmF, lcF, yesF, varT, readVar, moveVar, setFs, parFs, subFs, dropFs, ifFs, forFs, retFs, raiseFs, raisexFs, mkF, mkxF, htFs, tryFs, hdFs, seqFs, walF, subF, nmF, unpF, putT, putTs, onBl, Ar.get, gets, valsOf, ofRes, mkSl, callF, ioArg, ioArgs, hold1, holds, back, assignT, assignT.assignN, wipeE, putBack, unlock, SR.calm, SR.onEnv, srcOf, seqD, ixR, Option.bind_some, Option.map_some, Option.bind_none, Option.map_none, List.map_cons, List.map_nil, List.cons_append, List.nil_append, if_true, if_false, reduceIte, Bool.false_eq_true, Bool.true_and, Bool.and_true, Option.isSome_some, List.contains_nil, Bool.not_false, Bool.not_true, tyO, tyD, neD, eqD, isNoneB, isLst, f1]
  unfold foTurn mBody
  rw [sa]
  dsimp only
  rw [seq_go st]
  exact mr_9
theorem td_10 {n : Nat} {w : Str} : run Pg (n + 3) 3 [⟨.sh, .int 10⟩, ⟨.sh, .str w⟩] = .ok (.exc 0 []) .sh [none, none] := by rfl
theorem mr_10 {n : Nat} {d : D} : exSs Pg.gcs (run Pg (n + 3)) Pg.isa (.cons (.ifs (.op2 .ne (.e (.call 6 (.cons (.s 2) .nil) [])) (.e (.call 8 (.cons (.e (.ife (.op2 .lt (.s 1) (.e (.int 10))) (.tup (.cons (.e (.var 1)) (.cons (.e (.int 19)) .nil))) (.tup (.cons (.e (.int 19)) .nil)))) (.cons (.e (.int 20)) .nil)) []))) 
    (.cons (.ret (.bl false)) .nil) .nil) (.cons (.ifs (.op2 .ne (.e (.call 7 (.cons (.s 2) .nil) [])) (.e (.call 8 (.cons (.e (.tup (.cons (.e (.int 0)) .nil))) (.cons (.e (.int 8)) .nil)) []))) 
    (.cons (.ret (.bl false)) .nil) .nil) .nil)) [some ⟨.io, d⟩, shS (.int 10), shS (.exc 0 [])] = .nx [some ⟨.io, d⟩, shS (.int 10), shS (.exc 0 [])] := by rfl
theorem mt_10 {n k : Nat} {d : D} {x1 x2 : Option Sl} (R : Reel k d) (hk : k + 20 ≤ 2 ^ 40) (f1 : free x1 = true) (f2 : free x2 = true) : ∃ d', foTurn (.nm 1) (mBody n) (.int 10) [some ⟨.io, d⟩, x1, x2] = .nx [some ⟨.io, d'⟩, shS (.int 10), shS (.exc 0 [])] ∧ Reel (k + 13) d' := by
  obtain ⟨w, d', e1, W, R1⟩ := word_ok (n := n) R hk
  refine ⟨d', ?_, R1⟩
  have st : exS Pg.gcs (run Pg (n + 3)) Pg.isa (.set 2 (.call 3 (.cons (.s 1) (.cons (.e (.call 11 (.cons (.io 0) .nil) [])) .nil)) [])) [some ⟨.io, d⟩, shS (.int 10), x2] = .nx [some ⟨.io, d'⟩, shS (.int 10), shS (.exc 0 [])] := by
    simp only [ev_int, ev_str, ev_bl, ev_non, ev_bty, ev_gc, ev_mov, ev_tup, ev_lst, ev_dct, ev_odc, ev_op2, ev_ch, ev_neg, ev_and, ev_or, ev_ife, ev_sub, ev_sl, ev_bi, ev_call, ev_mth, ev_pm, ev_lc, ev_mk, ev_mkx, ev_fld, ev_isx, ev_join, ev_var, ev_varT, ev_notT, ev_notF, ea_e, ea_s, ea_io, es_nil, es_cons, eand_1, eand_2, eor_1, eor_2, ei_nil, ei_1, ex_set, ex_tgt, ex_par, ex_sub, ex_ex, ex_ifs, ex_for_, ex_whl, ex_whw, ex_ret, ex_retN, ex_raise, ex_raisex, ex_try_, ex_pass, ex_brk, ex_ctn, ex_doc, xs_nil, xs_cons, xh_nil, xh_cons, xh_tup, gs_0, ss_0, ge_0, st_0, gs_1, ss_1, ge_1, st_1, gs_2, ss_2, ge_2, st_2, gs_3, ss_3, ge_3, st_3, gs_4, ss_4, ge_4, st_4, gs_5, ss_5, ge_5, st_5, gs_6, ss_6, ge_6, st_6, gs_7, ss_7, ge_7, st_7, gs_8, ss_8, ge_8, st_8, gs_9, ss_9, ge_9, st_9, gs_10, ss_10, ge_10, st_10, so_add, so_sub, so_mul, so_fdiv, so_mod, so_pow, so_eq, so_ne, so_lt, so_le, so_gt, so_ge, so_in, so_nin, so_is, so_isn, d_add, d_addt, d_addl, d_sub, d_mul, d_div, d_mod, d_lt, d_cmp, b_lent, b_lenl, b_lenf, b_abs, b_int, b_intb, b_listl, b_listf, b_listt, b_tupl, b_tupt, b_max2, b_min2, b_all, b_any, b_isi, b_dict, b_listd, b_sorted, b_min1, t_bl, t_int, t_non, t_lst, t_tup, l_tup, l_lst, l_fz, m_app, m_popat, ol_0, ol_1, ol_2, ol_3, ol_4, ol_5, ol_6, ol_7, ol_8, ol_9, ol_10, nd_0, nd_1, nd_0_1, nd_0_2, nd_0_3, nd_0_4, nd_0_5, nd_0_6, nd_0_7, nd_1_0, nd_1_2, nd_1_3, nd_1_4, nd_1_5, nd_1_6, nd_1_7, nd_2_0, nd_2_1, nd_2_3, nd_2_4, nd_2_5, nd_2_6, nd_2_7, nd_3_0, nd_3_1, nd_3_2, nd_3_4, nd_3_5, nd_3_6, nd_3_7, nd_4_0, nd_4_1, nd_4_2, nd_4_3, nd_4_5, nd_4_6, nd_4_7, nd_5_0, nd_5_1, nd_5_2, nd_5_3, nd_5_4, nd_5_6, nd_5_7, nd_6_0, nd_6_1, nd_6_2, nd_6_3, nd_6_4, nd_6_5, nd_6_7, nd_7_0, nd_7_1, nd_7_2, nd_7_3, nd_7_4, nd_7_5, nd_7_6, kb_NoneType_int, kb_NoneType_bool, kb_NoneType_tuple, kb_NoneType_str, kb_NoneType_list, kb_NoneType_dict, kb_bool_int, kb_bool_bool, kb_bool_tuple, kb_bool_str, kb_bool_list, kb_bool_dict, kb_int_int, kb_int_bool, kb_int_tuple, kb_int_str, kb_int_list, kb_int_dict, kb_str_int, kb_str_bool, kb_str_tuple, kb_str_str, kb_str_list, kb_str_dict, kb_tuple_int, kb_tuple_bool, kb_tuple_tuple, kb_tuple_str, kb_tuple_list, kb_tuple_dict, kb_list_int, kb_list_bool, kb_list_tuple, kb_list_str, kb_list_list, kb_list_dict, kb_dict_int, kb_dict_bool, kb_dict_tuple, kb_dict_str, kb_dict_list, kb_dict_dict, it_val, it_enum, it_zip, ow_nil, ow_cons, sn_n, sn_s, le_2, le_3, okb, okt, exb, ext_, sq_nx, sq_rt, sq_ex, ac_nx, ac_rt, ac_ex, fr_n, fr_s, fr_o, oo_n, oo_s, oo_i, oo_b, fin, argF, consF, slotF, ioF, tupF, lstF, dctF, twoF, oneF, chainF, notF, ifF, andF, orF, slF, biF, callG, mthF, pmF, lcF, yesF, varT, readVar, moveVar, setFs, parFs, subFs, dropFs, ifFs, forFs, retFs, raiseFs, raisexFs, mkF, mkxF, htFs, tryFs, hdFs, seqFs, walF, subF, nmF, unpF, putT, putTs, onBl, Ar.get, gets, valsOf, ofRes, mkSl, callF, ioArg, ioArgs, hold1, holds, back, assignT, assignT.assignN, wipeE, putBack, unlock, SR.calm, SR.onEnv, srcOf, seqD, ixR, Option.bind_some, Option.map_some, Option.bind_none, Option.map_none, List.map_cons, List.map_nil, List.cons_append, List.nil_append, if_true, if_false, reduceIte, Bool.false_eq_true, Bool.true_and, Bool.and_true, Option.isSome_some, List.contains_nil, Bool.not_false, Bool.not_true, tyO, tyD, neD, eqD, isNoneB, isLst, e1, td_10, f2]
  have sa : assignT [some ⟨.io, d⟩, x1, x2] (.int 10) (.nm 1) = some [some ⟨.io, d⟩, shS (.int 10), x2] := by simp only [ev_int, ev_str, ev_bl, ev_non, ev_bty, ev_gc, ev_mov, ev_tup, ev_lst, ev_dct, ev_odc, ev_op2, ev_ch, ev_neg, ev_and, ev_or, ev_ife, ev_sub, ev_sl, ev_bi, ev_call, ev_mth, ev_pm, ev_lc, ev_mk, ev_mkx, ev_fld, ev_isx, ev_join, ev_var, ev_varT, ev_notT, ev_notF, ea_e, ea_s, ea_io, es_nil, es_cons, eand_1, eand_2, eor_1, eor_2, ei_nil, ei_1, ex_set, ex_tgt, ex_par, ex_sub, ex_ex, ex_ifs, ex_for_, ex_whl, ex_whw, ex_ret, ex_retN, ex_raise, ex_raisex, ex_try_, ex_pass, ex_brk, ex_ctn, ex_doc, xs_nil, xs_cons, xh_nil, xh_cons, xh_tup, gs_0, ss_0, ge_0, st_0, gs_1, ss_1, ge_1, st_1, gs_2, ss_2, ge_2, st_2, gs_3, ss_3, ge_3, st_3, gs_4, ss_4, ge_4, st_4, gs_5, ss_5, ge_5, st_5, gs_6, ss_6, ge_6, st_6, gs_7, ss_7, ge_7, st_7, gs_8, ss_8, ge_8, st_8, gs_9, ss_9, ge_9, st_9, gs_10, ss_10, ge_10, st_10, so_add, so_sub, so_mul, so_fdiv, so_mod, so_pow, so_eq, so_ne, so_lt, so_le, so_gt, so_ge, so_in, so_nin, so_is, so_isn, d_add, d_addt, d_addl, d_sub, d_mul, d_div, d_mod, d_lt, d_cmp, b_lent, b_lenl, b_lenf, b_abs, b_int, b_intb, b_listl, b_listf, b_listt, b_tupl, b_tupt, b_max2, b_min2, b_all, b_any, b_isi, b_dict, b_listd, b_sorted, b_min1, t_bl, t_int, t_non, t_lst, t_tup, l_tup, l_lst, l_fz, m_app, m_popat, ol_0, ol_1, ol_2, ol_3, ol_4, ol_5, ol_6, ol_7, ol_8, ol_9, ol_10, nd_0, nd_1, nd_0_1, nd_0_2, nd_0_3, nd_0_4, nd_0_5, nd_0_6, nd_0_7, nd_1_0, nd_1_2, nd_1_3, nd_1_4, nd_1_5, nd_1_6, nd_1_7, nd_2_0, nd_2_1, nd_2_3, nd_2_4, nd_2_5, nd_2_6, nd_2_7, nd_3_0, nd_3_1, nd_3_2, nd_3_4, nd_3_5, nd_3_6, nd_3_7, nd_4_0, nd_4_1, nd_4_2, nd_4_3, nd_4_5, nd_4_6, nd_4_7, nd_5_0, nd_5_1, nd_5_2, nd_5_3, nd_5_4, nd_5_6, nd_5_7, nd_6_0, nd_6_1, nd_6_2, nd_6_3, nd_6_4, nd_6_5, nd_6_7, nd_7_0, nd_7_1, nd_7_2, nd_7_3, nd_7_4, nd_7_5, nd_7_6, kb_NoneType_int, kb_NoneType_bool, kb_NoneType_tuple, kb_NoneType_str, kb_NoneType_list, kb_NoneType_dict, kb_bool_int, kb_bool_bool, kb_bool_tuple, kb_bool_str, kb_bool_list, kb_bool_dict, kb_int_int, kb_int_bool, kb_int_tuple, kb_int_str, kb_int_list, kb_int_dict, kb_str_int, kb_str_bool, kb_str_tuple, kb_str_str, kb_str_list, kb_str_dict, kb_tuple_int, kb_tuple_bool, kb_tuple_tuple, kb_tuple_str, kb_tuple_list, kb_tuple_dict, kb_list_int, kb_list_bool, kb_list_tuple, kb_list_str, kb_list_list, kb_list_dict, kb_dict_int, kb_dict_bool, kb_dict_tuple, kb_dict_str, kb_dict_list, kb_dict_dict, it_val, it_enum, it_zip, ow_nil, ow_cons, sn_n, sn_s, le_2, le_3, okb, okt, exb, ext_, sq_nx, sq_rt, sq_ex, ac_nx, ac_rt, ac_ex, fr_n, fr_s, fr_o, oo_n, oo_s, oo_i, oo_b, fin, argF, consF, slotF, ioF, tupF, lstF, dctF, twoF, oneF, chainF, notF, ifF, andF, orF, slF, biF, callG, mthF, pmF, lcF, yesF, varT, readVar, moveVar, setFs, parFs, subFs, dropFs, ifFs, forFs, retFs, raiseFs, raisexFs, mkF, mkxF, htFs, tryFs, hdFs, seqFs, walF, subF, nmF, unpF, putT, putTs, onBl, Ar.get, gets, valsOf, ofRes, mkSl, callF, ioArg, ioArgs, hold1, holds, back, assignT, assignT.assignN, wipeE, putBack, unlock, SR.calm, SR.onEnv, srcOf, seqD, ixR, Option.bind_some, Option.map_some, Option.bind_none, Option.map_none, List.map_cons, List.map_nil, List.cons_append, List.nil_append, if_true, if_false, reduceIte, Bool.false_eq_true, Bool.true_and, Bool.and_true, Option.isSome_some, List.contains_nil, Bool.not_false, Bool.not_true, tyO, tyD, neD, eqD, isNoneB, isLst, f1]
  unfold foTurn mBody
  rw [sa]
  dsimp only
  rw [seq_go st]
  exact mr_10
theorem rng11 : rngD 0 11 = [.int 0, .int 1, .int 2, .int 3, .int 4, .int 5, .int 6, .int 7, .int 8, .int 9, .int 10] := by rfl
theorem rng9 : rngD 0 9 = [.int 0, .int 1, .int 2, .int 3, .int 4, .int 5, .int 6, .int 7, .int 8] := by rfl
theorem msgs_ok {n k : Nat} {d : D} (R : Reel k d) (hk : k + 1000 ≤ 2 ^ 40) : ∃ d', run Pg (n + 4) 13 [⟨.io, d⟩] = .ok (.bl true) .sh [some ⟨.io, d'⟩] ∧ Reel (k + 200) d' := by
  obtain ⟨d1, t0, R1⟩ := mt_0 (n := n) (x1 := none) (x2 := none) R (by omega) rfl rfl
  obtain ⟨d2, t1, R2⟩ := mt_1 (n := n) (x1 := shS (.int 0)) (x2 := shS (.exc 1 [])) R1 (by omega) rfl rfl
  obtain ⟨d3, t2, R3⟩ := mt_2 (n := n) (x1 := shS (.int 1)) (x2 := shS (.exc 2 [])) R2 (by omega) rfl rfl
  obtain ⟨d4, t3, R4⟩ := mt_3 (n := n) (x1 := shS (.int 2)) (x2 := shS (.exc 3 [])) R3 (by omega) rfl rfl
  obtain ⟨d5, t4, R5⟩ := mt_4 (n := n) (x1 := shS (.int 3)) (x2 := shS (.exc 4 [])) R4 (by omega) rfl rfl
  obtain ⟨d6, t5, R6⟩ := mt_5 (n := n) (x1 := shS (.int 4)) (x2 := shS (.exc 5 [])) R5 (by omega) rfl rfl
  obtain ⟨d7, t6, R7⟩ := mt_6 (n := n) (x1 := shS (.int 5)) (x2 := shS (.exc 6 [])) R6 (by omega) rfl rfl
  obtain ⟨d8, t7, R8⟩ := mt_7 (n := n) (x1 := shS (.int 6)) (x2 := shS (.exc 7 [])) R7 (by omega) rfl rfl
  obtain ⟨d9, t8, R9⟩ := mt_8 (n := n) (x1 := shS (.int 7)) (x2 := shS (.exc 8 [])) R8 (by omega) rfl rfl
  obtain ⟨d10, t9, R10⟩ := mt_9 (n := n) (x1 := shS (.int 8)) (x2 := shS (.exc 9 [])) R9 (by omega) rfl rfl
  obtain ⟨d11, t10, R11⟩ := mt_10 (n := n) (x1 := shS (.int 9)) (x2 := shS (.exc 10 [])) R10 (by omega) rfl rfl
  refine ⟨d11, ?_, R11.up (by omega)⟩
  have fl : forLoop (.nm 1) (mBody n) (rngD 0 11) [some ⟨.io, d⟩, none, none] = .nx [some ⟨.io, d11⟩, shS (.int 10), shS (.exc 0 [])] := by
    rw [rng11, for_nx t0, for_nx t1, for_nx t2, for_nx t3, for_nx t4, for_nx t5, for_nx t6, for_nx t7, for_nx t8, for_nx t9, for_nx t10, forLoop]
  unfold mBody at fl
  simp only [r13, b13, ev_int, ev_str, ev_bl, ev_non, ev_bty, ev_gc, ev_mov, ev_tup, ev_lst, ev_dct, ev_odc, ev_op2, ev_ch, ev_neg, ev_and, ev_or, ev_ife, ev_sub, ev_sl, ev_bi, ev_call, ev_mth, ev_pm, ev_lc, ev_mk, ev_mkx, ev_fld, ev_isx, ev_join, ev_var, ev_varT, ev_notT, ev_notF, ea_e, ea_s, ea_io, es_nil, es_cons, eand_1, eand_2, eor_1, eor_2, ei_nil, ei_1, ex_set, ex_tgt, ex_par, ex_sub, ex_ex, ex_ifs, ex_for_, ex_whl, ex_whw, ex_ret, ex_retN, ex_raise, ex_raisex, ex_try_, ex_pass, ex_brk, ex_ctn, ex_doc, xs_nil, xs_cons, xh_nil, xh_cons, xh_tup, gs_0, ss_0, ge_0, st_0, gs_1, ss_1, ge_1, st_1, gs_2, ss_2, ge_2, st_2, gs_3, ss_3, ge_3, st_3, gs_4, ss_4, ge_4, st_4, gs_5, ss_5, ge_5, st_5, gs_6, ss_6, ge_6, st_6, gs_7, ss_7, ge_7, st_7, gs_8, ss_8, ge_8, st_8, gs_9, ss_9, ge_9, st_9, gs_10, ss_10, ge_10, st_10, so_add, so_sub, so_mul, so_fdiv, so_mod, so_pow, so_eq, so_ne, so_lt, so_le, so_gt, so_ge, so_in, so_nin, so_is, so_isn, d_add, d_addt, d_addl, d_sub, d_mul, d_div, d_mod, d_lt, d_cmp, b_lent, b_lenl, b_lenf, b_abs, b_int, b_intb, b_listl, b_listf, b_listt, b_tupl, b_tupt, b_max2, b_min2, b_all, b_any, b_isi, b_dict, b_listd, b_sorted, b_min1, t_bl, t_int, t_non, t_lst, t_tup, l_tup, l_lst, l_fz, m_app, m_popat, ol_0, ol_1, ol_2, ol_3, ol_4, ol_5, ol_6, ol_7, ol_8, ol_9, ol_10, nd_0, nd_1, nd_0_1, nd_0_2, nd_0_3, nd_0_4, nd_0_5, nd_0_6, nd_0_7, nd_1_0, nd_1_2, nd_1_3, nd_1_4, nd_1_5, nd_1_6, nd_1_7, nd_2_0, nd_2_1, nd_2_3, nd_2_4, nd_2_5, nd_2_6, nd_2_7, nd_3_0, nd_3_1, nd_3_2, nd_3_4, nd_3_5, nd_3_6, nd_3_7, nd_4_0, nd_4_1, nd_4_2, nd_4_3, nd_4_5, nd_4_6, nd_4_7, nd_5_0, nd_5_1, nd_5_2, nd_5_3, nd_5_4, nd_5_6, nd_5_7, nd_6_0, nd_6_1, nd_6_2, nd_6_3, nd_6_4, nd_6_5, nd_6_7, nd_7_0, nd_7_1, nd_7_2, nd_7_3, nd_7_4, nd_7_5, nd_7_6, kb_NoneType_int, kb_NoneType_bool, kb_NoneType_tuple, kb_NoneType_str, kb_NoneType_list, kb_NoneType_dict, kb_bool_int, kb_bool_bool, kb_bool_tuple, kb_bool_str, kb_bool_list, kb_bool_dict, kb_int_int, kb_int_bool, kb_int_tuple, kb_int_str, kb_int_list, kb_int_dict, kb_str_int, kb_str_bool, kb_str_tuple, kb_str_str, kb_str_list, kb_str_dict, kb_tuple_int, kb_tuple_bool, kb_tuple_tuple, kb_tuple_str, kb_tuple_list, kb_tuple_dict, kb_list_int, kb_list_bool, kb_list_tuple, kb_list_str, kb_list_list, kb_list_dict, kb_dict_int, kb_dict_bool, kb_dict_tuple, kb_dict_str, kb_dict_list, kb_dict_dict, it_val, it_enum, it_zip, ow_nil, ow_cons, sn_n, sn_s, le_2, le_3, okb, okt, exb, ext_, sq_nx, sq_rt, sq_ex, ac_nx, ac_rt, ac_ex, fr_n, fr_s, fr_o, oo_n, oo_s, oo_i, oo_b, fin, argF, consF, slotF, ioF, tupF, lstF, dctF, twoF, oneF, chainF, notF, ifF, andF, orF, slF, biF, callG, mthF, pmF, lcF, yesF, varT, readVar, moveVar, setFs, parFs, subFs, dropFs, ifFs, forFs, retFs, raiseFs, raisexFs, mkF, mkxF, htFs, tryFs, hdFs, seqFs, walF, subF, nmF, unpF, putT, putTs, onBl, Ar.get, gets, valsOf, ofRes, mkSl, callF, ioArg, ioArgs, hold1, holds, back, assignT, assignT.assignN, wipeE, putBack, unlock, SR.calm, SR.onEnv, srcOf, seqD, ixR, Option.bind_some, Option.map_some, Option.bind_none, Option.map_none, List.map_cons, List.map_nil, List.cons_append, List.nil_append, if_true, if_false, reduceIte, Bool.false_eq_true, Bool.true_and, Bool.and_true, Option.isSome_some, List.contains_nil, Bool.not_false, Bool.not_true, tyO, tyD, neD, eqD, isNoneB, isLst, it_rng1 (j := 11) (ρ := [some ⟨.io, d⟩, none, none]) (m := .sh) (small_nat (by omega)), it11, fl]
end K00

set_option Elab.async false
set_option linter.all false
set_option maxRecDepth 100000
set_option maxHeartbeats 4000000
namespace K00
open PySem DI
abbrev py : Option Sl := some ⟨.ow, .lst [.tup [.int 0], .tup [.int 0], .tup [.int 0], .tup [.int 1, .int 3], .tup [.int 3], .tup [.int 2, .int 3], .tup [.int 5, .int 6], .tup [.int 7], .tup [.int 4, .int 6]]⟩
abbrev wo : Option Sl := some ⟨.ow, .lst [.str "deal", .str "deal", .str "deal", .str "key", .str "row", .str "other", .str "other", .str "other", .str "zero"]⟩
def kBody (n : Nat) : DI.Env → SR := exSs Pg.gcs (run Pg (n + 4)) Pg.isa (.cons (.par 6 7 (.call 12 (.cons (.io 0) .nil) []) (.call 12 (.cons (.io 0) .nil) [])) 
   (.cons (.set 4 (.call 4 (.cons (.s 3) (.cons (.s 6) .nil)) [])) 
   (.cons (.set 5 (.call 4 (.cons (.s 3) (.cons (.s 7) .nil)) [])) 
   (.cons (.ifs (.or (.cons (.e (.op2 .ne (.e (.bi .repr (.cons (.e (.call 5 (.cons (.s 3) (.cons (.s 4) .nil)) [])) .nil))) (.e (.bi .repr (.cons (.s 6) .nil))))) (.cons (.e (.op2 .ne (.e (.bi .repr (.cons (.e (.call 5 (.cons (.s 3) (.cons (.s 5) .nil)) [])) .nil))) (.e (.bi .repr (.cons (.s 7) .nil))))) .nil))) 
    (.cons (.ret (.bl false)) .nil) .nil) 
   (.cons (.ifs (.op2 .ne (.e (.call 6 (.cons (.s 4) .nil) [])) (.e (.call 8 (.cons (.e (.ife (.op2 .lt (.s 3) (.e (.int 3))) (.tup (.cons (.e (.op2 .add (.e (.int 10)) (.s 3))) (.cons (.e (.int 19)) .nil))) (.tup (.cons (.e (.op2 .add (.e (.int 10)) (.s 3))) .nil)))) (.cons (.e (.int 20)) .nil)) []))) 
    (.cons (.ret (.bl false)) .nil) .nil) 
   (.cons (.ifs (.or (.cons (.e (.op2 .ne (.e (.call 7 (.cons (.s 4) .nil) [])) (.e (.call 8 (.cons (.e (.sub (.s 1) (.s 3))) (.cons (.e (.int 8)) .nil)) [])))) (.cons (.e (.op2 .ne (.e (.call 10 (.cons (.s 3) (.cons (.s 6) .nil)) [])) (.e (.sub (.s 2) (.s 3))))) .nil))) 
    (.cons (.ret (.bl false)) .nil) .nil) .nil))))))
theorem ke_0 {n : Nat} {v : D} : run Pg (n + 4) 4 [⟨.sh, .int 0⟩, ⟨.sh, v⟩] = .ok (.exc 11 [("line", v)]) .sh [none, none] := by rfl
theorem kp_0 {n : Nat} {v : D} : run Pg (n + 4) 5 [⟨.sh, .int 0⟩, ⟨.sh, (.exc 11 [("line", v)])⟩] = .ok v .sh [none, none] := by rfl
theorem kr_0 {n : Nat} {d v u : D} : exSs Pg.gcs (run Pg (n + 4)) Pg.isa (.cons (.ifs (.op2 .ne (.e (.call 6 (.cons (.s 4) .nil) [])) (.e (.call 8 (.cons (.e (.ife (.op2 .lt (.s 3) (.e (.int 3))) (.tup (.cons (.e (.op2 .add (.e (.int 10)) (.s 3))) (.cons (.e (.int 19)) .nil))) (.tup (.cons (.e (.op2 .add (.e (.int 10)) (.s 3))) .nil)))) (.cons (.e (.int 20)) .nil)) []))) 
    (.cons (.ret (.bl false)) .nil) .nil) (.cons (.ifs (.or (.cons (.e (.op2 .ne (.e (.call 7 (.cons (.s 4) .nil) [])) (.e (.call 8 (.cons (.e (.sub (.s 1) (.s 3))) (.cons (.e (.int 8)) .nil)) [])))) (.cons (.e (.op2 .ne (.e (.call 10 (.cons (.s 3) (.cons (.s 6) .nil)) [])) (.e (.sub (.s 2) (.s 3))))) .nil))) 
    (.cons (.ret (.bl false)) .nil) .nil) .nil)) [some ⟨.io, d⟩, py, wo, shS (.int 0), shS (.exc 11 [("line", v)]), shS (.exc 11 [("line", u)]), shS v, shS u] = .nx [some ⟨.io, d⟩, py, wo, shS (.int 0), shS (.exc 11 [("line", v)]), shS (.exc 11 [("line", u)]), shS v, shS u] := by rfl
theorem kt_0 {n k : Nat} {d : D} {x3 x4 x5 x6 x7 : Option Sl} (R : Reel k d) (hk : k + 200 ≤ 2 ^ 40) (f3 : free x3 = true) (f4 : free x4 = true) (f5 : free x5 = true) (f6 : free x6 = true) (f7 : free x7 = true) :
    ∃ d' v u, foTurn (.nm 3) (kBody n) (.int 0) [some ⟨.io, d⟩, py, wo, x3, x4, x5, x6, x7] = .nx [some ⟨.io, d'⟩, py, wo, shS (.int 0), shS (.exc 11 [("line", v)]), shS (.exc 11 [("line", u)]), shS v, shS u] ∧ Reel (k + 60) d' := by
  obtain ⟨v, d1, e1, ⟨x, V1⟩, R1⟩ := value_ok (n := n) R (by omega)
  obtain ⟨u, d2, e2, ⟨y, V2⟩, R2⟩ := value_ok (n := n) R1 (by omega)
  refine ⟨d2, v, u, ?_, R2⟩
  have sa : assignT [some ⟨.io, d⟩, py, wo, x3, x4, x5, x6, x7] (.int 0) (.nm 3) = some [some ⟨.io, d⟩, py, wo, shS (.int 0), x4, x5, x6, x7] := by simp only [ev_int, ev_str, ev_bl, ev_non, ev_bty, ev_gc, ev_mov, ev_tup, ev_lst, ev_dct, ev_odc, ev_op2, ev_ch, ev_neg, ev_and, ev_or, ev_ife, ev_sub, ev_sl, ev_bi, ev_call, ev_mth, ev_pm, ev_lc, ev_mk, ev_mkx, ev_fld, ev_isx, ev_join, ev_var, ev_varT, ev_notT, ev_notF, ea_e, ea_s, ea_io, es_nil, es_cons, eand_1, eand_2, eor_1, eor_2, ei_nil, ei_1, ex_set, ex_tgt, ex_par, ex_sub, ex_ex, ex_ifs, ex_for_, ex_whl, ex_whw, ex_ret, ex_retN, ex_raise, ex_raisex, ex_try_, ex_pass, ex_brk, ex_ctn, ex_doc, xs_nil, xs_cons, xh_nil, xh_cons, xh_tup, gs_0, ss_0, ge_0, st_0, gs_1, ss_1, ge_1, st_1, gs_2, ss_2, ge_2, st_2, gs_3, ss_3, ge_3, st_3, gs_4, ss_4, ge_4, st_4, gs_5, ss_5, ge_5, st_5, gs_6, ss_6, ge_6, st_6, gs_7, ss_7, ge_7, st_7, gs_8, ss_8, ge_8, st_8, gs_9, ss_9, ge_9, st_9, gs_10, ss_10, ge_10, st_10, so_add, so_sub, so_mul, so_fdiv, so_mod, so_pow, so_eq, so_ne, so_lt, so_le, so_gt, so_ge, so_in, so_nin, so_is, so_isn, d_add, d_addt, d_addl, d_sub, d_mul, d_div, d_mod, d_lt, d_cmp, b_lent, b_lenl, b_lenf, b_abs, b_int, b_intb, b_listl, b_listf, b_listt, b_tupl, b_tupt, b_max2, b_min2, b_all, b_any, b_isi, b_dict, b_listd, b_sorted, b_min1, t_bl, t_int, t_non, t_lst, t_tup, l_tup, l_lst, l_fz, m_app, m_popat, ol_0, ol_1, ol_2, ol_3, ol_4, ol_5, ol_6, ol_7, ol_8, ol_9, ol_10, nd_0, nd_1, nd_0_1, nd_0_2, nd_0_3, nd_0_4, nd_0_5, nd_0_6, nd_0_7, nd_1_0, nd_1_2, nd_1_3, nd_1_4, nd_1_5, nd_1_6, nd_1_7, nd_2_0, nd_2_1, nd_2_3, nd_2_4, nd_2_5, nd_2_6, nd_2_7, nd_3_0, nd_3_1, nd_3_2, nd_3_4, nd_3_5, nd_3_6, nd_3_7, nd_4_0, nd_4_1, nd_4_2, nd_4_3, nd_4_5, nd_4_6, nd_4_7, nd_5_0, nd_5_1, nd_5_2, nd_5_3, nd_5_4, nd_5_6, nd_5_7, nd_6_0, nd_6_1, nd_6_2, nd_6_3, nd_6_4, nd_6_5, nd_6_7, nd_7_0, nd_7_1, nd_7_2, nd_7_3, nd_7_4, nd_7_5, nd_7_6, kb_NoneType_int, kb_NoneType_bool, kb_NoneType_tuple, kb_NoneType_str, kb_NoneType_list, kb_NoneType_dict, kb_bool_int, kb_bool_bool, kb_bool_tuple, kb_bool_str, kb_bool_list, kb_bool_dict, kb_int_int, kb_int_bool, kb_int_tuple, kb_int_str, kb_int_list, kb_int_dict, kb_str_int, kb_str_bool, kb_str_tuple, kb_str_str, kb_str_list, kb_str_dict, kb_tuple_int, kb_tuple_bool, kb_tuple_tuple, kb_tuple_str, kb_tuple_list, kb_tuple_dict, kb_list_int, kb_list_bool, kb_list_tuple, kb_list_str, kb_list_list, kb_list_dict, kb_dict_int, kb_dict_bool, kb_dict_tuple, kb_dict_str, kb_dict_list, kb_dict_dict, it_val, it_enum, it_zip, ow_nil, ow_cons, sn_n, sn_s, le_2, le_3, okb, okt, exb, ext_, sq_nx, sq_rt, sq_ex, ac_nx, ac_rt, ac_ex, fr_n, fr_s, fr_o, oo_n, oo_s, oo_i, oo_b, fin, argF, consF, slotF, ioF, tupF, lstF, dctF, twoF, oneF, chainF, notF, ifF, andF, orF, slF, biF, callG, mthF, pmF, lcF, yesF, varT, readVar, moveVar, setFs, parFs, subFs, dropFs, ifFs, forFs, retFs, raiseFs, raisexFs, mkF, mkxF, htFs, tryFs, hdFs, seqFs, walF, subF, nmF, unpF, putT, putTs, onBl, Ar.get, gets, valsOf, ofRes, mkSl, callF, ioArg, ioArgs, hold1, holds, back, assignT, assignT.assignN, wipeE, putBack, unlock, SR.calm, SR.onEnv, srcOf, seqD, ixR, Option.bind_some, Option.map_some, Option.bind_none, Option.map_none, List.map_cons, List.map_nil, List.cons_append, List.nil_append, if_true, if_false, reduceIte, Bool.false_eq_true, Bool.true_and, Bool.and_true, Option.isSome_some, List.contains_nil, Bool.not_false, Bool.not_true, tyO, tyD, neD, eqD, isNoneB, isLst, f3]
  have s0 : exS Pg.gcs (run Pg (n + 4)) Pg.isa (.par 6 7 (.call 12 (.cons (.io 0) .nil) []) (.call 12 (.cons (.io 0) .nil) [])) [some ⟨.io, d⟩, py, wo, shS (.int 0), x4, x5, x6, x7] = .nx [some ⟨.io, d2⟩, py, wo, shS (.int 0), x4, x5, shS v, shS u] := by
    simp only [ev_int, ev_str, ev_bl, ev_non, ev_bty, ev_gc, ev_mov, ev_tup, ev_lst, ev_dct, ev_odc, ev_op2, ev_ch, ev_neg, ev_and, ev_or, ev_ife, ev_sub, ev_sl, ev_bi, ev_call, ev_mth, ev_pm, ev_lc, ev_mk, ev_mkx, ev_fld, ev_isx, ev_join, ev_var, ev_varT, ev_notT, ev_notF, ea_e, ea_s, ea_io, es_nil, es_cons, eand_1, eand_2, eor_1, eor_2, ei_nil, ei_1, ex_set, ex_tgt, ex_par, ex_sub, ex_ex, ex_ifs, ex_for_, ex_whl, ex_whw, ex_ret, ex_retN, ex_raise, ex_raisex, ex_try_, ex_pass, ex_brk, ex_ctn, ex_doc, xs_nil, xs_cons, xh_nil, xh_cons, xh_tup, gs_0, ss_0, ge_0, st_0, gs_1, ss_1, ge_1, st_1, gs_2, ss_2, ge_2, st_2, gs_3, ss_3, ge_3, st_3, gs_4, ss_4, ge_4, st_4, gs_5, ss_5, ge_5, st_5, gs_6, ss_6, ge_6, st_6, gs_7, ss_7, ge_7, st_7, gs_8, ss_8, ge_8, st_8, gs_9, ss_9, ge_9, st_9, gs_10, ss_10, ge_10, st_10, so_add, so_sub, so_mul, so_fdiv, so_mod, so_pow, so_eq, so_ne, so_lt, so_le, so_gt, so_ge, so_in, so_nin, so_is, so_isn, d_add, d_addt, d_addl, d_sub, d_mul, d_div, d_mod, d_lt, d_cmp, b_lent, b_lenl, b_lenf, b_abs, b_int, b_intb, b_listl, b_listf, b_listt, b_tupl, b_tupt, b_max2, b_min2, b_all, b_any, b_isi, b_dict, b_listd, b_sorted, b_min1, t_bl, t_int, t_non, t_lst, t_tup, l_tup, l_lst, l_fz, m_app, m_popat, ol_0, ol_1, ol_2, ol_3, ol_4, ol_5, ol_6, ol_7, ol_8, ol_9, ol_10, nd_0, nd_1, nd_0_1, nd_0_2, nd_0_3, nd_0_4, nd_0_5, nd_0_6, nd_0_7, nd_1_0, nd_1_2, nd_1_3, nd_1_4, nd_1_5, nd_1_6, nd_1_7, nd_2_0, nd_2_1, nd_2_3, nd_2_4, nd_2_5, nd_2_6, nd_2_7, nd_3_0, nd_3_1, nd_3_2, nd_3_4, nd_3_5, nd_3_6, nd_3_7, nd_4_0, nd_4_1, nd_4_2, nd_4_3, nd_4_5, nd_4_6, nd_4_7, nd_5_0, nd_5_1, nd_5_2, nd_5_3, nd_5_4, nd_5_6, nd_5_7, nd_6_0, nd_6_1, nd_6_2, nd_6_3, nd_6_4, nd_6_5, nd_6_7, nd_7_0, nd_7_1, nd_7_2, nd_7_3, nd_7_4, nd_7_5, nd_7_6, kb_NoneType_int, kb_NoneType_bool, kb_NoneType_tuple, kb_NoneType_str, kb_NoneType_list, kb_NoneType_dict, kb_bool_int, kb_bool_bool, kb_bool_tuple, kb_bool_str, kb_bool_list, kb_bool_dict, kb_int_int, kb_int_bool, kb_int_tuple, kb_int_str, kb_int_list, kb_int_dict, kb_str_int, kb_str_bool, kb_str_tuple, kb_str_str, kb_str_list, kb_str_dict, kb_tuple_int, kb_tuple_bool, kb_tuple_tuple, kb_tuple_str, kb_tuple_list, kb_tuple_dict, kb_list_int, kb_list_bool, kb_list_tuple, kb_list_str, kb_list_list, kb_list_dict, kb_dict_int, kb_dict_bool, kb_dict_tuple, kb_dict_str, kb_dict_list, kb_dict_dict, it_val, it_enum, it_zip, ow_nil, ow_cons, sn_n, sn_s, le_2, le_3, okb, okt, exb, ext_, sq_nx, sq_rt, sq_ex, ac_nx, ac_rt, ac_ex, fr_n, fr_s, fr_o, oo_n, oo_s, oo_i, oo_b, fin, argF, consF, slotF, ioF, tupF, lstF, dctF, twoF, oneF, chainF, notF, ifF, andF, orF, slF, biF, callG, mthF, pmF, lcF, yesF, varT, readVar, moveVar, setFs, parFs, subFs, dropFs, ifFs, forFs, retFs, raiseFs, raisexFs, mkF, mkxF, htFs, tryFs, hdFs, seqFs, walF, subF, nmF, unpF, putT, putTs, onBl, Ar.get, gets, valsOf, ofRes, mkSl, callF, ioArg, ioArgs, hold1, holds, back, assignT, assignT.assignN, wipeE, putBack, unlock, SR.calm, SR.onEnv, srcOf, seqD, ixR, Option.bind_some, Option.map_some, Option.bind_none, Option.map_none, List.map_cons, List.map_nil, List.cons_append, List.nil_append, if_true, if_false, reduceIte, Bool.false_eq_true, Bool.true_and, Bool.and_true, Option.isSome_some, List.contains_nil, Bool.not_false, Bool.not_true, tyO, tyD, neD, eqD, isNoneB, isLst, e1, e2, f6, f7]
  have s1 : exS Pg.gcs (run Pg (n + 4)) Pg.isa (.set 4 (.call 4 (.cons (.s 3) (.cons (.s 6) .nil)) [])) [some ⟨.io, d2⟩, py, wo, shS (.int 0), x4, x5, shS v, shS u] = .nx [some ⟨.io, d2⟩, py, wo, shS (.int 0), shS (.exc 11 [("line", v)]), x5, shS v, shS u] := by
    simp only [ev_int, ev_str, ev_bl, ev_non, ev_bty, ev_gc, ev_mov, ev_tup, ev_lst, ev_dct, ev_odc, ev_op2, ev_ch, ev_neg, ev_and, ev_or, ev_ife, ev_sub, ev_sl, ev_bi, ev_call, ev_mth, ev_pm, ev_lc, ev_mk, ev_mkx, ev_fld, ev_isx, ev_join, ev_var, ev_varT, ev_notT, ev_notF, ea_e, ea_s, ea_io, es_nil, es_cons, eand_1, eand_2, eor_1, eor_2, ei_nil, ei_1, ex_set, ex_tgt, ex_par, ex_sub, ex_ex, ex_ifs, ex_for_, ex_whl, ex_whw, ex_ret, ex_retN, ex_raise, ex_raisex, ex_try_, ex_pass, ex_brk, ex_ctn, ex_doc, xs_nil, xs_cons, xh_nil, xh_cons, xh_tup, gs_0, ss_0, ge_0, st_0, gs_1, ss_1, ge_1, st_1, gs_2, ss_2, ge_2, st_2, gs_3, ss_3, ge_3, st_3, gs_4, ss_4, ge_4, st_4, gs_5, ss_5, ge_5, st_5, gs_6, ss_6, ge_6, st_6, gs_7, ss_7, ge_7, st_7, gs_8, ss_8, ge_8, st_8, gs_9, ss_9, ge_9, st_9, gs_10, ss_10, ge_10, st_10, so_add, so_sub, so_mul, so_fdiv, so_mod, so_pow, so_eq, so_ne, so_lt, so_le, so_gt, so_ge, so_in, so_nin, so_is, so_isn, d_add, d_addt, d_addl, d_sub, d_mul, d_div, d_mod, d_lt, d_cmp, b_lent, b_lenl, b_lenf, b_abs, b_int, b_intb, b_listl, b_listf, b_listt, b_tupl, b_tupt, b_max2, b_min2, b_all, b_any, b_isi, b_dict, b_listd, b_sorted, b_min1, t_bl, t_int, t_non, t_lst, t_tup, l_tup, l_lst, l_fz, m_app, m_popat, ol_0, ol_1, ol_2, ol_3, ol_4, ol_5, ol_6, ol_7, ol_8, ol_9, ol_10, nd_0, nd_1, nd_0_1, nd_0_2, nd_0_3, nd_0_4, nd_0_5, nd_0_6, nd_0_7, nd_1_0, nd_1_2, nd_1_3, nd_1_4, nd_1_5, nd_1_6, nd_1_7, nd_2_0, nd_2_1, nd_2_3, nd_2_4, nd_2_5, nd_2_6, nd_2_7, nd_3_0, nd_3_1, nd_3_2, nd_3_4, nd_3_5, nd_3_6, nd_3_7, nd_4_0, nd_4_1, nd_4_2, nd_4_3, nd_4_5, nd_4_6, nd_4_7, nd_5_0, nd_5_1, nd_5_2, nd_5_3, nd_5_4, nd_5_6, nd_5_7, nd_6_0, nd_6_1, nd_6_2, nd_6_3, nd_6_4, nd_6_5, nd_6_7, nd_7_0, nd_7_1, nd_7_2, nd_7_3, nd_7_4, nd_7_5, nd_7_6, kb_NoneType_int, kb_NoneType_bool, kb_NoneType_tuple, kb_NoneType_str, kb_NoneType_list, kb_NoneType_dict, kb_bool_int, kb_bool_bool, kb_bool_tuple, kb_bool_str, kb_bool_list, kb_bool_dict, kb_int_int, kb_int_bool, kb_int_tuple, kb_int_str, kb_int_list, kb_int_dict, kb_str_int, kb_str_bool, kb_str_tuple, kb_str_str, kb_str_list, kb_str_dict, kb_tuple_int, kb_tuple_bool, kb_tuple_tuple, kb_tuple_str, kb_tuple_list, kb_tuple_dict, kb_list_int, kb_list_bool, kb_list_tuple, kb_list_str, kb_list_list, kb_list_dict, kb_dict_int, kb_dict_bool, kb_dict_tuple, kb_dict_str, kb_dict_list, kb_dict_dict, it_val, it_enum, it_zip, ow_nil, ow_cons, sn_n, sn_s, le_2, le_3, okb, okt, exb, ext_, sq_nx, sq_rt, sq_ex, ac_nx, ac_rt, ac_ex, fr_n, fr_s, fr_o, oo_n, oo_s, oo_i, oo_b, fin, argF, consF, slotF, ioF, tupF, lstF, dctF, twoF, oneF, chainF, notF, ifF, andF, orF, slF, biF, callG, mthF, pmF, lcF, yesF, varT, readVar, moveVar, setFs, parFs, subFs, dropFs, ifFs, forFs, retFs, raiseFs, raisexFs, mkF, mkxF, htFs, tryFs, hdFs, seqFs, walF, subF, nmF, unpF, putT, putTs, onBl, Ar.get, gets, valsOf, ofRes, mkSl, callF, ioArg, ioArgs, hold1, holds, back, assignT, assignT.assignN, wipeE, putBack, unlock, SR.calm, SR.onEnv, srcOf, seqD, ixR, Option.bind_some, Option.map_some, Option.bind_none, Option.map_none, List.map_cons, List.map_nil, List.cons_append, List.nil_append, if_true, if_false, reduceIte, Bool.false_eq_true, Bool.true_and, Bool.and_true, Option.isSome_some, List.contains_nil, Bool.not_false, Bool.not_true, tyO, tyD, neD, eqD, isNoneB, isLst, ke_0, f4]
  have s2 : exS Pg.gcs (run Pg (n + 4)) Pg.isa (.set 5 (.call 4 (.cons (.s 3) (.cons (.s 7) .nil)) [])) [some ⟨.io, d2⟩, py, wo, shS (.int 0), shS (.exc 11 [("line", v)]), x5, shS v, shS u] = .nx [some ⟨.io, d2⟩, py, wo, shS (.int 0), shS (.exc 11 [("line", v)]), shS (.exc 11 [("line", u)]), shS v, shS u] := by
    simp only [ev_int, ev_str, ev_bl, ev_non, ev_bty, ev_gc, ev_mov, ev_tup, ev_lst, ev_dct, ev_odc, ev_op2, ev_ch, ev_neg, ev_and, ev_or, ev_ife, ev_sub, ev_sl, ev_bi, ev_call, ev_mth, ev_pm, ev_lc, ev_mk, ev_mkx, ev_fld, ev_isx, ev_join, ev_var, ev_varT, ev_notT, ev_notF, ea_e, ea_s, ea_io, es_nil, es_cons, eand_1, eand_2, eor_1, eor_2, ei_nil, ei_1, ex_set, ex_tgt, ex_par, ex_sub, ex_ex, ex_ifs, ex_for_, ex_whl, ex_whw, ex_ret, ex_retN, ex_raise, ex_raisex, ex_try_, ex_pass, ex_brk, ex_ctn, ex_doc, xs_nil, xs_cons, xh_nil, xh_cons, xh_tup, gs_0, ss_0, ge_0, st_0, gs_1, ss_1, ge_1, st_1, gs_2, ss_2, ge_2, st_2, gs_3, ss_3, ge_3, st_3, gs_4, ss_4, ge_4, st_4, gs_5, ss_5, ge_5, st_5, gs_6, ss_6, ge_6, st_6, gs_7, ss_7, ge_7, st_7, gs_8, ss_8, ge_8, st_8, gs_9, ss_9, ge_9, st_9, gs_10, ss_10, ge_10, st_10, so_add, so_sub, so_mul, so_fdiv, so_mod, so_pow, so_eq, so_ne, so_lt, so_le, so_gt, so_ge, so_in, so_nin, so_is, so_isn, d_add, d_addt, d_addl, d_sub, d_mul, d_div, d_mod, d_lt, d_cmp, b_lent, b_lenl, b_lenf, b_abs, b_int, b_intb, b_listl, b_listf, b_listt, b_tupl, b_tupt, b_max2, b_min2, b_all, b_any, b_isi, b_dict, b_listd, b_sorted, b_min1, t_bl, t_int, t_non, t_lst, t_tup, l_tup, l_lst, l_fz, m_app, m_popat, ol_0, ol_1, ol_2, ol_3, ol_4, ol_5, ol_6, ol_7, ol_8, ol_9, ol_10, nd_0, nd_1, nd_0_1, nd_0_2, nd_0_3, nd_0_4, nd_0_5, nd_0_6, nd_0_7, nd_1_0, nd_1_2, nd_1_3, nd_1_4, nd_1_5, nd_1_6, nd_1_7, nd_2_0, nd_2_1, nd_2_3, nd_2_4, nd_2_5, nd_2_6, nd_2_7, nd_3_0, nd_3_1, nd_3_2, nd_3_4, nd_3_5, nd_3_6, nd_3_7, nd_4_0, nd_4_1, nd_4_2, nd_4_3, nd_4_5, nd_4_6, nd_4_7, nd_5_0, nd_5_1, nd_5_2, nd_5_3, nd_5_4, nd_5_6, nd_5_7, nd_6_0, nd_6_1, nd_6_2, nd_6_3, nd_6_4, nd_6_5, nd_6_7, nd_7_0, nd_7_1, nd_7_2, nd_7_3, nd_7_4, nd_7_5, nd_7_6, kb_NoneType_int, kb_NoneType_bool, kb_NoneType_tuple, kb_NoneType_str, kb_NoneType_list, kb_NoneType_dict, kb_bool_int, kb_bool_bool, kb_bool_tuple, kb_bool_str, kb_bool_list, kb_bool_dict, kb_int_int, kb_int_bool, kb_int_tuple, kb_int_str, kb_int_list, kb_int_dict, kb_str_int, kb_str_bool, kb_str_tuple, kb_str_str, kb_str_list, kb_str_dict, kb_tuple_int, kb_tuple_bool, kb_tuple_tuple, kb_tuple_str, kb_tuple_list, kb_tuple_dict, kb_list_int, kb_list_bool, kb_list_tuple, kb_list_str, kb_list_list, kb_list_dict, kb_dict_int, kb_dict_bool, kb_dict_tuple, kb_dict_str, kb_dict_list, kb_dict_dict, it_val, it_enum, it_zip, ow_nil, ow_cons, sn_n, sn_s, le_2, le_3, okb, okt, exb, ext_, sq_nx, sq_rt, sq_ex, ac_nx, ac_rt, ac_ex, fr_n, fr_s, fr_o, oo_n, oo_s, oo_i, oo_b, fin, argF, consF, slotF, ioF, tupF, lstF, dctF, twoF, oneF, chainF, notF, ifF, andF, orF, slF, biF, callG, mthF, pmF, lcF, yesF, varT, readVar, moveVar, setFs, parFs, subFs, dropFs, ifFs, forFs, retFs, raiseFs, raisexFs, mkF, mkxF, htFs, tryFs, hdFs, seqFs, walF, subF, nmF, unpF, putT, putTs, onBl, Ar.get, gets, valsOf, ofRes, mkSl, callF, ioArg, ioArgs, hold1, holds, back, assignT, assignT.assignN, wipeE, putBack, unlock, SR.calm, SR.onEnv, srcOf, seqD, ixR, Option.bind_some, Option.map_some, Option.bind_none, Option.map_none, List.map_cons, List.map_nil, List.cons_append, List.nil_append, if_true, if_false, reduceIte, Bool.false_eq_true, Bool.true_and, Bool.and_true, Option.isSome_some, List.contains_nil, Bool.not_false, Bool.not_true, tyO, tyD, neD, eqD, isNoneB, isLst, ke_0, f5]
  have s3 : exS Pg.gcs (run Pg (n + 4)) Pg.isa (.ifs (.or (.cons (.e (.op2 .ne (.e (.bi .repr (.cons (.e (.call 5 (.cons (.s 3) (.cons (.s 4) .nil)) [])) .nil))) (.e (.bi .repr (.cons (.s 6) .nil))))) (.cons (.e (.op2 .ne (.e (.bi .repr (.cons (.e (.call 5 (.cons (.s 3) (.cons (.s 5) .nil)) [])) .nil))) (.e (.bi .repr (.cons (.s 7) .nil))))) .nil))) 
    (.cons (.ret (.bl false)) .nil) .nil) [some ⟨.io, d2⟩, py, wo, shS (.int 0), shS (.exc 11 [("line", v)]), shS (.exc 11 [("line", u)]), shS v, shS u] = .nx [some ⟨.io, d2⟩, py, wo, shS (.int 0), shS (.exc 11 [("line", v)]), shS (.exc 11 [("line", u)]), shS v, shS u] := by
    simp only [ev_int, ev_str, ev_bl, ev_non, ev_bty, ev_gc, ev_mov, ev_tup, ev_lst, ev_dct, ev_odc, ev_op2, ev_ch, ev_neg, ev_and, ev_or, ev_ife, ev_sub, ev_sl, ev_bi, ev_call, ev_mth, ev_pm, ev_lc, ev_mk, ev_mkx, ev_fld, ev_isx, ev_join, ev_var, ev_varT, ev_notT, ev_notF, ea_e, ea_s, ea_io, es_nil, es_cons, eand_1, eand_2, eor_1, eor_2, ei_nil, ei_1, ex_set, ex_tgt, ex_par, ex_sub, ex_ex, ex_ifs, ex_for_, ex_whl, ex_whw, ex_ret, ex_retN, ex_raise, ex_raisex, ex_try_, ex_pass, ex_brk, ex_ctn, ex_doc, xs_nil, xs_cons, xh_nil, xh_cons, xh_tup, gs_0, ss_0, ge_0, st_0, gs_1, ss_1, ge_1, st_1, gs_2, ss_2, ge_2, st_2, gs_3, ss_3, ge_3, st_3, gs_4, ss_4, ge_4, st_4, gs_5, ss_5, ge_5, st_5, gs_6, ss_6, ge_6, st_6, gs_7, ss_7, ge_7, st_7, gs_8, ss_8, ge_8, st_8, gs_9, ss_9, ge_9, st_9, gs_10, ss_10, ge_10, st_10, so_add, so_sub, so_mul, so_fdiv, so_mod, so_pow, so_eq, so_ne, so_lt, so_le, so_gt, so_ge, so_in, so_nin, so_is, so_isn, d_add, d_addt, d_addl, d_sub, d_mul, d_div, d_mod, d_lt, d_cmp, b_lent, b_lenl, b_lenf, b_abs, b_int, b_intb, b_listl, b_listf, b_listt, b_tupl, b_tupt, b_max2, b_min2, b_all, b_any, b_isi, b_dict, b_listd, b_sorted, b_min1, t_bl, t_int, t_non, t_lst, t_tup, l_tup, l_lst, l_fz, m_app, m_popat, ol_0, ol_1, ol_2, ol_3, ol_4, ol_5, ol_6, ol_7, ol_8, ol_9, ol_10, nd_0, nd_1, nd_0_1, nd_0_2, nd_0_3, nd_0_4, nd_0_5, nd_0_6, nd_0_7, nd_1_0, nd_1_2, nd_1_3, nd_1_4, nd_1_5, nd_1_6, nd_1_7, nd_2_0, nd_2_1, nd_2_3, nd_2_4, nd_2_5, nd_2_6, nd_2_7, nd_3_0, nd_3_1, nd_3_2, nd_3_4, nd_3_5, nd_3_6, nd_3_7, nd_4_0, nd_4_1, nd_4_2, nd_4_3, nd_4_5, nd_4_6, nd_4_7, nd_5_0, nd_5_1, nd_5_2, nd_5_3, nd_5_4, nd_5_6, nd_5_7, nd_6_0, nd_6_1, nd_6_2, nd_6_3, nd_6_4, nd_6_5, nd_6_7, nd_7_0, nd_7_1, nd_7_2, nd_7_3, nd_7_4, nd_7_5, nd_7_6, kb_NoneType_int, kb_NoneType_bool, kb_NoneType_tuple, kb_NoneType_str, kb_NoneType_list, kb_NoneType_dict, kb_bool_int, kb_bool_bool, kb_bool_tuple, kb_bool_str, kb_bool_list, kb_bool_dict, kb_int_int, kb_int_bool, kb_int_tuple, kb_int_str, kb_int_list, kb_int_dict, kb_str_int, kb_str_bool, kb_str_tuple, kb_str_str, kb_str_list, kb_str_dict, kb_tuple_int, kb_tuple_bool, kb_tuple_tuple, kb_tuple_str, kb_tuple_list, kb_tuple_dict, kb_list_int, kb_list_bool, kb_list_tuple, kb_list_str, kb_list_list, kb_list_dict, kb_dict_int, kb_dict_bool, kb_dict_tuple, kb_dict_str, kb_dict_list, kb_dict_dict, it_val, it_enum, it_zip, ow_nil, ow_cons, sn_n, sn_s, le_2, le_3, okb, okt, exb, ext_, sq_nx, sq_rt, sq_ex, ac_nx, ac_rt, ac_ex, fr_n, fr_s, fr_o, oo_n, oo_s, oo_i, oo_b, fin, argF, consF, slotF, ioF, tupF, lstF, dctF, twoF, oneF, chainF, notF, ifF, andF, orF, slF, biF, callG, mthF, pmF, lcF, yesF, varT, readVar, moveVar, setFs, parFs, subFs, dropFs, ifFs, forFs, retFs, raiseFs, raisexFs, mkF, mkxF, htFs, tryFs, hdFs, seqFs, walF, subF, nmF, unpF, putT, putTs, onBl, Ar.get, gets, valsOf, ofRes, mkSl, callF, ioArg, ioArgs, hold1, holds, back, assignT, assignT.assignN, wipeE, putBack, unlock, SR.calm, SR.onEnv, srcOf, seqD, ixR, Option.bind_some, Option.map_some, Option.bind_none, Option.map_none, List.map_cons, List.map_nil, List.cons_append, List.nil_append, if_true, if_false, reduceIte, Bool.false_eq_true, Bool.true_and, Bool.and_true, Option.isSome_some, List.contains_nil, Bool.not_false, Bool.not_true, tyO, tyD, neD, eqD, isNoneB, isLst, kp_0, V1, V2, eq_str]
  unfold foTurn kBody
  rw [sa]
  dsimp only
  rw [seq_go s0, seq_go s1, seq_go s2, seq_go s3]
  exact kr_0
theorem ke_1 {n : Nat} {v : D} : run Pg (n + 4) 4 [⟨.sh, .int 1⟩, ⟨.sh, v⟩] = .ok (.exc 12 [("constraint", v)]) .sh [none, none] := by rfl
theorem kp_1 {n : Nat} {v : D} : run Pg (n + 4) 5 [⟨.sh, .int 1⟩, ⟨.sh, (.exc 12 [("constraint", v)])⟩] = .ok v .sh [none, none] := by rfl
theorem kr_1 {n : Nat} {d v u : D} : exSs Pg.gcs (run Pg (n + 4)) Pg.isa (.cons (.ifs (.op2 .ne (.e (.call 6 (.cons (.s 4) .nil) [])) (.e (.call 8 (.cons (.e (.ife (.op2 .lt (.s 3) (.e (.int 3))) (.tup (.cons (.e (.op2 .add (.e (.int 10)) (.s 3))) (.cons (.e (.int 19)) .nil))) (.tup (.cons (.e (.op2 .add (.e (.int 10)) (.s 3))) .nil)))) (.cons (.e (.int 20)) .nil)) []))) 
    (.cons (.ret (.bl false)) .nil) .nil) (.cons (.ifs (.or (.cons (.e (.op2 .ne (.e (.call 7 (.cons (.s 4) .nil) [])) (.e (.call 8 (.cons (.e (.sub (.s 1) (.s 3))) (.cons (.e (.int 8)) .nil)) [])))) (.cons (.e (.op2 .ne (.e (.call 10 (.cons (.s 3) (.cons (.s 6) .nil)) [])) (.e (.sub (.s 2) (.s 3))))) .nil))) 
    (.cons (.ret (.bl false)) .nil) .nil) .nil)) [some ⟨.io, d⟩, py, wo, shS (.int 1), shS (.exc 12 [("constraint", v)]), shS (.exc 12 [("constraint", u)]), shS v, shS u] = .nx [some ⟨.io, d⟩, py, wo, shS (.int 1), shS (.exc 12 [("constraint", v)]), shS (.exc 12 [("constraint", u)]), shS v, shS u] := by rfl
theorem kt_1 {n k : Nat} {d : D} {x3 x4 x5 x6 x7 : Option Sl} (R : Reel k d) (hk : k + 200 ≤ 2 ^ 40) (f3 : free x3 = true) (f4 : free x4 = true) (f5 : free x5 = true) (f6 : free x6 = true) (f7 : free x7 = true) :
    ∃ d' v u, foTurn (.nm 3) (kBody n) (.int 1) [some ⟨.io, d⟩, py, wo, x3, x4, x5, x6, x7] = .nx [some ⟨.io, d'⟩, py, wo, shS (.int 1), shS (.exc 12 [("constraint", v)]), shS (.exc 12 [("constraint", u)]), shS v, shS u] ∧ Reel (k + 60) d' := by
  obtain ⟨v, d1, e1, ⟨x, V1⟩, R1⟩ := value_ok (n := n) R (by omega)
  obtain ⟨u, d2, e2, ⟨y, V2⟩, R2⟩ := value_ok (n := n) R1 (by omega)
  refine ⟨d2, v, u, ?_, R2⟩
  have sa : assignT [some ⟨.io, d⟩, py, wo, x3, x4, x5, x6, x7] (.int 1) (.nm 3) = some [some ⟨.io, d⟩, py, wo, shS (.int 1), x4, x5, x6, x7] := by simp only [ev_int, ev_str, ev_bl, ev_non, ev_bty, ev_gc, ev_mov, ev_tup, ev_lst, ev_dct, ev_odc, ev_op2, ev_ch, ev_neg, ev_and, ev_or, ev_ife, ev_sub, ev_sl, ev_bi, ev_call, ev_mth, ev_pm, ev_lc, ev_mk, ev_mkx, ev_fld, ev_isx, ev_join, ev_var, ev_varT, ev_notT, ev_notF, ea_e, ea_s, ea_io, es_nil, es_cons, eand_1, eand_2, eor_1, eor_2, ei_nil, ei_1, ex_set, ex_tgt, ex_par, ex_sub, ex_ex, ex_ifs, ex_for_, ex_whl, ex_whw, ex_ret, ex_retN, ex_raise, ex_raisex, ex_try_, ex_pass, ex_brk, ex_ctn, ex_doc, xs_nil, xs_cons, xh_nil, xh_cons, xh_tup, gs_0, ss_0, ge_0, st_0, gs_1, ss_1, ge_1, st_1, gs_2, ss_2, ge_2, st_2, gs_3, ss_3, ge_3, st_3, gs_4, ss_4, ge_4, st_4, gs_5, ss_5, ge_5, st_5, gs_6, ss_6, ge_6, st_6, gs_7, ss_7, ge_7, st_7, gs_8, ss_8, ge_8, st_8, gs_9, ss_9, ge_9, st_9, gs_10, ss_10, ge_10, st_10, so_add, so_sub, so_mul, so_fdiv, so_mod, so_pow, so_eq, so_ne, so_lt, so_le, so_gt, so_ge, so_in, so_nin, so_is, so_isn, d_add, d_addt, d_addl, d_sub, d_mul, d_div, d_mod, d_lt, d_cmp, b_lent, b_lenl, b_lenf, b_abs, b_int, b_intb, b_listl, b_listf, b_listt, b_tupl, b_tupt, b_max2, b_min2, b_all, b_any, b_isi, b_dict, b_listd, b_sorted, b_min1, t_bl, t_int, t_non, t_lst, t_tup, l_tup, l_lst, l_fz, m_app, m_popat, ol_0, ol_1, ol_2, ol_3, ol_4, ol_5, ol_6, ol_7, ol_8, ol_9, ol_10, nd_0, nd_1, nd_0_1, nd_0_2, nd_0_3, nd_0_4, nd_0_5, nd_0_6, nd_0_7, nd_1_0, nd_1_2, nd_1_3, nd_1_4, nd_1_5, nd_1_6, nd_1_7, nd_2_0, nd_2_1, nd_2_3, nd_2_4, nd_2_5, nd_2_6, nd_2_7, nd_3_0, nd_3_1, nd_3_2, nd_3_4, nd_3_5, nd_3_6, nd_3_7, nd_4_0, nd_4_1, nd_4_2, nd_4_3, nd_4_5, nd_4_6, nd_4_7, nd_5_0, nd_5_1, nd_5_2, nd_5_3, nd_5_4, nd_5_6, nd_5_7, nd_6_0, nd_6_1, nd_6_2, nd_6_3, nd_6_4, nd_6_5, nd_6_7, nd_7_0, nd_7_1, nd_7_2, nd_7_3, nd_7_4, nd_7_5, nd_7_6, kb_NoneType_int, kb_NoneType_bool, kb_NoneType_tuple, kb_NoneType_str, kb_NoneType_list, kb_NoneType_dict, kb_bool_int, kb_bool_bool, kb_bool_tuple, kb_bool_str, kb_bool_list, kb_bool_dict, kb_int_int, kb_int_bool, kb_int_tuple, kb_int_str, kb_int_list, kb_int_dict, kb_str_int, kb_str_bool, kb_str_tuple, kb_str_str, kb_str_list, kb_str_dict, kb_tuple_int, kb_tuple_bool, kb_tuple_tuple, kb_tuple_str, kb_tuple_list, kb_tuple_dict, kb_list_int, kb_list_bool, kb_list_tuple, kb_list_str, kb_list_list, kb_list_dict, kb_dict_int, kb_dict_bool, kb_dict_tuple, kb_dict_str, kb_dict_list, kb_dict_dict, it_val, it_enum, it_zip, ow_nil, ow_cons, sn_n, sn_s, le_2, le_3, okb, okt, exb, ext_, sq_nx, sq_rt, sq_ex, ac_nx, ac_rt, ac_ex, fr_n, fr_s, fr_o, oo_n, oo_s, oo_i, oo_b, fin, argF, consF, slotF, ioF, tupF, lstF, dctF, twoF, oneF, chainF, notF, ifF, andF, orF, slF, biF, callG, mthF, pmF, lcF, yesF, varT, readVar, moveVar, setFs, parFs, subFs, dropFs, ifFs, forFs, retFs, raiseFs, raisexFs, mkF, mkxF, htFs, tryFs, hdFs, seqFs, walF, subF, nmF, unpF, putT, putTs, onBl, Ar.get, gets, valsOf, ofRes, mkSl, callF, ioArg, ioArgs, hold1, holds, back, assignT, assignT.assignN, wipeE, putBack, unlock, SR.calm, SR.onEnv, srcOf, seqD, ixR, Option.bind_some, Option.map_some, Option.bind_none, Option.map_none, List.map_cons, List.map_nil, List.cons_append, List.nil_append, if_true, if_false, reduceIte, Bool.false_eq_true, Bool.true_and, Bool.and_true, Option.isSome_some, List.contains_nil, Bool.not_false, Bool.not_true, tyO, tyD, neD, eqD, isNoneB, isLst, f3]
  have s0 : exS Pg.gcs (run Pg (n + 4)) Pg.isa (.par 6 7 (.call 12 (.cons (.io 0) .nil) []) (.call 12 (.cons (.io 0) .nil) [])) [some ⟨.io, d⟩, py, wo, shS (.int 1), x4, x5, x6, x7] = .nx [some ⟨.io, d2⟩, py, wo, shS (.int 1), x4, x5, shS v, shS u] := by
    simp only [ev_int, ev_str, ev_bl, ev_non, ev_bty, ev_gc, ev_mov, ev_tup, ev_lst, ev_dct, ev_odc, ev_op2, ev_ch, ev_neg, ev_and, ev_or, ev_ife, ev_sub, ev_sl, ev_bi, ev_call, ev_mth, ev_pm, ev_lc, ev_mk, ev_mkx, ev_fld, ev_isx, ev_join, ev_var, ev_varT, ev_notT, ev_notF, ea_e, ea_s, ea_io, es_nil, es_cons, eand_1, eand_2, eor_1, eor_2, ei_nil, ei_1, ex_set, ex_tgt, ex_par, ex_sub, ex_ex, ex_ifs, ex_for_, ex_whl, ex_whw, ex_ret, ex_retN, ex_raise, ex_raisex, ex_try_, ex_pass, ex_brk, ex_ctn, ex_doc, xs_nil, xs_cons, xh_nil, xh_cons, xh_tup, gs_0, ss_0, ge_0, st_0, gs_1, ss_1, ge_1, st_1, gs_2, ss_2, ge_2, st_2, gs_3, ss_3, ge_3, st_3, gs_4, ss_4, ge_4, st_4, gs_5, ss_5, ge_5, st_5, gs_6, ss_6, ge_6, st_6, gs_7, ss_7, ge_7, st_7, gs_8, ss_8, ge_8, st_8, gs_9, ss_9, ge_9, st_9, gs_10, ss_10, ge_10, st_10, so_add, so_sub, so_mul, so_fdiv, so_mod, so_pow, so_eq, so_ne, so_lt, so_le, so_gt, so_ge, so_in, so_nin, so_is, so_isn, d_add, d_addt, d_addl, d_sub, d_mul, d_div, d_mod, d_lt, d_cmp, b_lent, b_lenl, b_lenf, b_abs, b_int, b_intb, b_listl, b_listf, b_listt, b_tupl, b_tupt, b_max2, b_min2, b_all, b_any, b_isi, b_dict, b_listd, b_sorted, b_min1, t_bl, t_int, t_non, t_lst, t_tup, l_tup, l_lst, l_fz, m_app, m_popat, ol_0, ol_1, ol_2, ol_3, ol_4, ol_5, ol_6, ol_7, ol_8, ol_9, ol_10, nd_0, nd_1, nd_0_1, nd_0_2, nd_0_3, nd_0_4, nd_0_5, nd_0_6, nd_0_7, nd_1_0, nd_1_2, nd_1_3, nd_1_4, nd_1_5, nd_1_6, nd_1_7, nd_2_0, nd_2_1, nd_2_3, nd_2_4, nd_2_5, nd_2_6, nd_2_7, nd_3_0, nd_3_1, nd_3_2, nd_3_4, nd_3_5, nd_3_6, nd_3_7, nd_4_0, nd_4_1, nd_4_2, nd_4_3, nd_4_5, nd_4_6, nd_4_7, nd_5_0, nd_5_1, nd_5_2, nd_5_3, nd_5_4, nd_5_6, nd_5_7, nd_6_0, nd_6_1, nd_6_2, nd_6_3, nd_6_4, nd_6_5, nd_6_7, nd_7_0, nd_7_1, nd_7_2, nd_7_3, nd_7_4, nd_7_5, nd_7_6, kb_NoneType_int, kb_NoneType_bool, kb_NoneType_tuple, kb_NoneType_str, kb_NoneType_list, kb_NoneType_dict, kb_bool_int, kb_bool_bool, kb_bool_tuple, kb_bool_str, kb_bool_list, kb_bool_dict, kb_int_int, kb_int_bool, kb_int_tuple, kb_int_str, kb_int_list, kb_int_dict, kb_str_int, kb_str_bool, kb_str_tuple, kb_str_str, kb_str_list, kb_str_dict, kb_tuple_int, kb_tuple_bool, kb_tuple_tuple, kb_tuple_str, kb_tuple_list, kb_tuple_dict, kb_list_int, kb_list_bool, kb_list_tuple, kb_list_str, kb_list_list, kb_list_dict, kb_dict_int, kb_dict_bool, kb_dict_tuple, kb_dict_str, kb_dict_list, kb_dict_dict, it_val, it_enum, it_zip, ow_nil, ow_cons, sn_n, sn_s, le_2, le_3, okb, okt, exb, ext_, sq_nx, sq_rt, sq_ex, ac_nx, ac_rt, ac_ex, fr_n, fr_s, fr_o, oo_n, oo_s, oo_i, oo_b, fin, argF, consF, slotF, ioF, tupF, lstF, dctF, twoF, oneF, chainF, notF, ifF, andF, orF, slF, biF, callG, mthF, pmF, lcF, yesF, varT, readVar, moveVar, setFs, parFs, subFs, dropFs, ifFs, forFs, retFs, raiseFs, raisexFs, mkF, mkxF, htFs, tryFs, hdFs, seqFs, walF, subF, nmF, unpF, putT, putTs, onBl, Ar.get, gets, valsOf, ofRes, mkSl, callF, ioArg, ioArgs, hold1, holds, back, assignT, assignT.assignN, wipeE, putBack, unlock, SR.calm, SR.onEnv, srcOf, seqD, ixR, Option.bind_some, Option.map_some, Option.bind_none, Option.map_none, List.map_cons, List.map_nil, List.cons_append, List.nil_append, if_true, if_false, reduceIte, Bool.false_eq_true, Bool.true_and, Bool.and_true, Option.isSome_some, List.contains_nil, Bool.not_false, Bool.not_true, tyO, tyD, neD, eqD, isNoneB, isLst, e1, e2, f6, f7]
  have s1 : exS Pg.gcs (run Pg (n + 4)) Pg.isa (.set 4 (.call 4 (.cons (.s 3) (.cons (.s 6) .nil)) [])) [some ⟨.io, d2⟩, py, wo, shS (.int 1), x4, x5, shS v, shS u] = .nx [some ⟨.io, d2⟩, py, wo, shS (.int 1), shS (.exc 12 [("constraint", v)]), x5, shS v, shS u] := by
    simp only [ev_int, ev_str, ev_bl, ev_non, ev_bty, ev_gc, ev_mov, ev_tup, ev_lst, ev_dct, ev_odc, ev_op2, ev_ch, ev_neg, ev_and, ev_or, ev_ife, ev_sub, ev_sl, ev_bi, ev_call, ev_mth, ev_pm, ev_lc, ev_mk, ev_mkx, ev_fld, ev_isx, ev_join, ev_var, ev_varT, ev_notT, ev_notF, ea_e, ea_s, ea_io, es_nil, es_cons, eand_1, eand_2, eor_1, eor_2, ei_nil, ei_1, ex_set, ex_tgt, ex_par, ex_sub, ex_ex, ex_ifs, ex_for_, ex_whl, ex_whw, ex_ret, ex_retN, ex_raise, ex_raisex, ex_try_, ex_pass, ex_brk, ex_ctn, ex_doc, xs_nil, xs_cons, xh_nil, xh_cons, xh_tup, gs_0, ss_0, ge_0, st_0, gs_1, ss_1, ge_1, st_1, gs_2, ss_2, ge_2, st_2, gs_3, ss_3, ge_3, st_3, gs_4, ss_4, ge_4, st_4, gs_5, ss_5, ge_5, st_5, gs_6, ss_6, ge_6, st_6, gs_7, ss_7, ge_7, st_7, gs_8, ss_8, ge_8, st_8, gs_9, ss_9, ge_9, st_9, gs_10, ss_10, ge_10, st_10, so_add, so_sub, so_mul, so_fdiv, so_mod, so_pow, so_eq, so_ne, so_lt, so_le, so_gt, so_ge, so_in, so_nin, so_is, so_isn, d_add, d_addt, d_addl, d_sub, d_mul, d_div, d_mod, d_lt, d_cmp, b_lent, b_lenl, b_lenf, b_abs, b_int, b_intb, b_listl, b_listf, b_listt, b_tupl, b_tupt, b_max2, b_min2, b_all, b_any, b_isi, b_dict, b_listd, b_sorted, b_min1, t_bl, t_int, t_non, t_lst, t_tup, l_tup, l_lst, l_fz, m_app, m_popat, ol_0, ol_1, ol_2, ol_3, ol_4, ol_5, ol_6, ol_7, ol_8, ol_9, ol_10, nd_0, nd_1, nd_0_1, nd_0_2, nd_0_3, nd_0_4, nd_0_5, nd_0_6, nd_0_7, nd_1_0, nd_1_2, nd_1_3, nd_1_4, nd_1_5, nd_1_6, nd_1_7, nd_2_0, nd_2_1, nd_2_3, nd_2_4, nd_2_5, nd_2_6, nd_2_7, nd_3_0, nd_3_1, nd_3_2, nd_3_4, nd_3_5, nd_3_6, nd_3_7, nd_4_0, nd_4_1, nd_4_2, nd_4_3, nd_4_5, nd_4_6, nd_4_7, nd_5_0, nd_5_1, nd_5_2, nd_5_3, nd_5_4, nd_5_6, nd_5_7, nd_6_0, nd_6_1, nd_6_2, nd_6_3, nd_6_4, nd_6_5, nd_6_7, nd_7_0, nd_7_1, nd_7_2, nd_7_3, nd_7_4, nd_7_5, nd_7_6, kb_NoneType_int, kb_NoneType_bool, kb_NoneType_tuple, kb_NoneType_str, kb_NoneType_list, kb_NoneType_dict, kb_bool_int, kb_bool_bool, kb_bool_tuple, kb_bool_str, kb_bool_list, kb_bool_dict, kb_int_int, kb_int_bool, kb_int_tuple, kb_int_str, kb_int_list, kb_int_dict, kb_str_int, kb_str_bool, kb_str_tuple, kb_str_str, kb_str_list, kb_str_dict, kb_tuple_int, kb_tuple_bool, kb_tuple_tuple, kb_tuple_str, kb_tuple_list, kb_tuple_dict, kb_list_int, kb_list_bool, kb_list_tuple, kb_list_str, kb_list_list, kb_list_dict, kb_dict_int, kb_dict_bool, kb_dict_tuple, kb_dict_str, kb_dict_list, kb_dict_dict, it_val, it_enum, it_zip, ow_nil, ow_cons, sn_n, sn_s, le_2, le_3, okb, okt, exb, ext_, sq_nx, sq_rt, sq_ex, ac_nx, ac_rt, ac_ex, fr_n, fr_s, fr_o, oo_n, oo_s, oo_i, oo_b, fin, argF, consF, slotF, ioF, tupF, lstF, dctF, twoF, oneF, chainF, notF, ifF, andF, orF, slF, biF, callG, mthF, pmF, lcF, yesF, varT, readVar, moveVar, setFs, parFs, subFs, dropFs, ifFs, forFs, retFs, raiseFs, raisexFs, mkF, mkxF, htFs, tryFs, hdFs, seqFs, walF, subF, nmF, unpF, putT, putTs, onBl, Ar.get, gets, valsOf, ofRes, mkSl, callF, ioArg, ioArgs, hold1, holds, back, assignT, assignT.assignN, wipeE, putBack, unlock, SR.calm, SR.onEnv, srcOf, seqD, ixR, Option.bind_some, Option.map_some, Option.bind_none, Option.map_none, List.map_cons, List.map_nil, List.cons_append, List.nil_append, if_true, if_false, reduceIte, Bool.false_eq_true, Bool.true_and, Bool.and_true, Option.isSome_some, List.contains_nil, Bool.not_false, Bool.not_true, tyO, tyD, neD, eqD, isNoneB, isLst, ke_1, f4]
  have s2 : exS Pg.gcs (run Pg (n + 4)) Pg.isa (.set 5 (.call 4 (.cons (.s 3) (.cons (.s 7) .nil)) [])) [some ⟨.io, d2⟩, py, wo, shS (.int 1), shS (.exc 12 [("constraint", v)]), x5, shS v, shS u] = .nx [some ⟨.io, d2⟩, py, wo, shS (.int 1), shS (.exc 12 [("constraint", v)]), shS (.exc 12 [("constraint", u)]), shS v, shS u] := by
    simp only [ev_int, ev_str, ev_bl, ev_non, ev_bty, ev_gc, ev_mov, ev_tup, ev_lst, ev_dct, ev_odc, ev_op2, ev_ch, ev_neg, ev_and, ev_or, ev_ife, ev_sub, ev_sl, ev_bi, ev_call, ev_mth, ev_pm, ev_lc, ev_mk, ev_mkx, ev_fld, ev_isx, ev_join, ev_var, ev_varT, ev_notT, ev_notF, ea_e, ea_s, ea_io, es_nil, es_cons, eand_1, eand_2, eor_1, eor_2, ei_nil, ei_1, ex_set, ex_tgt, ex_par, ex_sub, ex_ex, ex_ifs, ex_for_, ex_whl, ex_whw, ex_ret, ex_retN, ex_raise, ex_raisex, ex_try_, ex_pass, ex_brk, ex_ctn, ex_doc, xs_nil, xs_cons, xh_nil, xh_cons, xh_tup, gs_0, ss_0, ge_0, st_0, gs_1, ss_1, ge_1, st_1, gs_2, ss_2, ge_2, st_2, gs_3, ss_3, ge_3, st_3, gs_4, ss_4, ge_4, st_4, gs_5, ss_5, ge_5, st_5, gs_6, ss_6, ge_6, st_6, gs_7, ss_7, ge_7, st_7, gs_8, ss_8, ge_8, st_8, gs_9, ss_9, ge_9, st_9, gs_10, ss_10, ge_10, st_10, so_add, so_sub, so_mul, so_fdiv, so_mod, so_pow, so_eq, so_ne, so_lt, so_le, so_gt, so_ge, so_in, so_nin, so_is, so_isn, d_add, d_addt, d_addl, d_sub, d_mul, d_div, d_mod, d_lt, d_cmp, b_lent, b_lenl, b_lenf, b_abs, b_int, b_intb, b_listl, b_listf, b_listt, b_tupl, b_tupt, b_max2, b_min2, b_all, b_any, b_isi, b_dict, b_listd, b_sorted, b_min1, t_bl, t_int, t_non, t_lst, t_tup, l_tup, l_lst, l_fz, m_app, m_popat, ol_0, ol_1, ol_2, ol_3, ol_4, ol_5, ol_6, ol_7, ol_8, ol_9, ol_10, nd_0, nd_1, nd_0_1, nd_0_2, nd_0_3, nd_0_4, nd_0_5, nd_0_6, nd_0_7, nd_1_0, nd_1_2, nd_1_3, nd_1_4, nd_1_5, nd_1_6, nd_1_7, nd_2_0, nd_2_1, nd_2_3, nd_2_4, nd_2_5, nd_2_6, nd_2_7, nd_3_0, nd_3_1, nd_3_2, nd_3_4, nd_3_5, nd_3_6, nd_3_7, nd_4_0, nd_4_1, nd_4_2, nd_4_3, nd_4_5, nd_4_6, nd_4_7, nd_5_0, nd_5_1, nd_5_2, nd_5_3, nd_5_4, nd_5_6, nd_5_7, nd_6_0, nd_6_1, nd_6_2, nd_6_3, nd_6_4, nd_6_5, nd_6_7, nd_7_0, nd_7_1, nd_7_2, nd_7_3, nd_7_4, nd_7_5, nd_7_6, kb_NoneType_int, kb_NoneType_bool, kb_NoneType_tuple, kb_NoneType_str, kb_NoneType_list, kb_NoneType_dict, kb_bool_int, kb_bool_bool, kb_bool_tuple, kb_bool_str, kb_bool_list, kb_bool_dict, kb_int_int, kb_int_bool, kb_int_tuple, kb_int_str, kb_int_list, kb_int_dict, kb_str_int, kb_str_bool, kb_str_tuple, kb_str_str, kb_str_list, kb_str_dict, kb_tuple_int, kb_tuple_bool, kb_tuple_tuple, kb_tuple_str, kb_tuple_list, kb_tuple_dict, kb_list_int, kb_list_bool, kb_list_tuple, kb_list_str, kb_list_list, kb_list_dict, kb_dict_int, kb_dict_bool, kb_dict_tuple, kb_dict_str, kb_dict_list, kb_dict_dict, it_val, it_enum, it_zip, ow_nil, ow_cons, sn_n, sn_s, le_2, le_3, okb, okt, exb, ext_, sq_nx, sq_rt, sq_ex, ac_nx, ac_rt, ac_ex, fr_n, fr_s, fr_o, oo_n, oo_s, oo_i, oo_b, fin, argF, consF, slotF, ioF, tupF, lstF, dctF, twoF, oneF, chainF, notF, ifF, andF, orF, slF, biF, callG, mthF, pmF, lcF, yesF, varT, readVar, moveVar, setFs, parFs, subFs, dropFs, ifFs, forFs, retFs, raiseFs, raisexFs, mkF, mkxF, htFs, tryFs, hdFs, seqFs, walF, subF, nmF, unpF, putT, putTs, onBl, Ar.get, gets, valsOf, ofRes, mkSl, callF, ioArg, ioArgs, hold1, holds, back, assignT, assignT.assignN, wipeE, putBack, unlock, SR.calm, SR.onEnv, srcOf, seqD, ixR, Option.bind_some, Option.map_some, Option.bind_none, Option.map_none, List.map_cons, List.map_nil, List.cons_append, List.nil_append, if_true, if_false, reduceIte, Bool.false_eq_true, Bool.true_and, Bool.and_true, Option.isSome_some, List.contains_nil, Bool.not_false, Bool.not_true, tyO, tyD, neD, eqD, isNoneB, isLst, ke_1, f5]
  have s3 : exS Pg.gcs (run Pg (n + 4)) Pg.isa (.ifs (.or (.cons (.e (.op2 .ne (.e (.bi .repr (.cons (.e (.call 5 (.cons (.s 3) (.cons (.s 4) .nil)) [])) .nil))) (.e (.bi .repr (.cons (.s 6) .nil))))) (.cons (.e (.op2 .ne (.e (.bi .repr (.cons (.e (.call 5 (.cons (.s 3) (.cons (.s 5) .nil)) [])) .nil))) (.e (.bi .repr (.cons (.s 7) .nil))))) .nil))) 
    (.cons (.ret (.bl false)) .nil) .nil) [some ⟨.io, d2⟩, py, wo, shS (.int 1), shS (.exc 12 [("constraint", v)]), shS (.exc 12 [("constraint", u)]), shS v, shS u] = .nx [some ⟨.io, d2⟩, py, wo, shS (.int 1), shS (.exc 12 [("constraint", v)]), shS (.exc 12 [("constraint", u)]), shS v, shS u] := by
    simp only [ev_int, ev_str, ev_bl, ev_non, ev_bty, ev_gc, ev_mov, ev_tup, ev_lst, ev_dct, ev_odc, ev_op2, ev_ch, ev_neg, ev_and, ev_or, ev_ife, ev_sub, ev_sl, ev_bi, ev_call, ev_mth, ev_pm, ev_lc, ev_mk, ev_mkx, ev_fld, ev_isx, ev_join, ev_var, ev_varT, ev_notT, ev_notF, ea_e, ea_s, ea_io, es_nil, es_cons, eand_1, eand_2, eor_1, eor_2, ei_nil, ei_1, ex_set, ex_tgt, ex_par, ex_sub, ex_ex, ex_ifs, ex_for_, ex_whl, ex_whw, ex_ret, ex_retN, ex_raise, ex_raisex, ex_try_, ex_pass, ex_brk, ex_ctn, ex_doc, xs_nil, xs_cons, xh_nil, xh_cons, xh_tup, gs_0, ss_0, ge_0, st_0, gs_1, ss_1, ge_1, st_1, gs_2, ss_2, ge_2, st_2, gs_3, ss_3, ge_3, st_3, gs_4, ss_4, ge_4, st_4, gs_5, ss_5, ge_5, st_5, gs_6, ss_6, ge_6, st_6, gs_7, ss_7, ge_7, st_7, gs_8, ss_8, ge_8, st_8, gs_9, ss_9, ge_9, st_9, gs_10, ss_10, ge_10, st_10, so_add, so_sub, so_mul, so_fdiv, so_mod, so_pow, so_eq, so_ne, so_lt, so_le, so_gt, so_ge, so_in, so_nin, so_is, so_isn, d_add, d_addt, d_addl, d_sub, d_mul, d_div, d_mod, d_lt, d_cmp, b_lent, b_lenl, b_lenf, b_abs, b_int, b_intb, b_listl, b_listf, b_listt, b_tupl, b_tupt, b_max2, b_min2, b_all, b_any, b_isi, b_dict, b_listd, b_sorted, b_min1, t_bl, t_int, t_non, t_lst, t_tup, l_tup, l_lst, l_fz, m_app, m_popat, ol_0, ol_1, ol_2, ol_3, ol_4, ol_5, ol_6, ol_7, ol_8, ol_9, ol_10, nd_0, nd_1, nd_0_1, nd_0_2, nd_0_3, nd_0_4, nd_0_5, nd_0_6, nd_0_7, nd_1_0, nd_1_2, nd_1_3, nd_1_4, nd_1_5, nd_1_6, nd_1_7, nd_2_0, nd_2_1, nd_2_3, nd_2_4, nd_2_5, nd_2_6, nd_2_7, nd_3_0, nd_3_1, nd_3_2, nd_3_4, nd_3_5, nd_3_6, nd_3_7, nd_4_0, nd_4_1, nd_4_2, nd_4_3, nd_4_5, nd_4_6, nd_4_7, nd_5_0, nd_5_1, nd_5_2, nd_5_3, nd_5_4, nd_5_6, nd_5_7, nd_6_0, nd_6_1, nd_6_2, nd_6_3, nd_6_4, nd_6_5, nd_6_7, nd_7_0, nd_7_1, nd_7_2, nd_7_3, nd_7_4, nd_7_5, nd_7_6, kb_NoneType_int, kb_NoneType_bool, kb_NoneType_tuple, kb_NoneType_str, kb_NoneType_list, kb_NoneType_dict, kb_bool_int, kb_bool_bool, kb_bool_tuple, kb_bool_str, kb_bool_list, kb_bool_dict, kb_int_int, kb_int_bool, kb_int_tuple, kb_int_str, kb_int_list, kb_int_dict, kb_str_int, kb_str_bool, kb_str_tuple, kb_str_str, kb_str_list, kb_str_dict, kb_tuple_int, kb_tuple_bool, kb_tuple_tuple, kb_tuple_str, kb_tuple_list, kb_tuple_dict, kb_list_int, kb_list_bool, kb_list_tuple, kb_list_str, kb_list_list, kb_list_dict, kb_dict_int, kb_dict_bool, kb_dict_tuple, kb_dict_str, kb_dict_list, kb_dict_dict, it_val, it_enum, it_zip, ow_nil, ow_cons, sn_n, sn_s, le_2, le_3, okb, okt, exb, ext_, sq_nx, sq_rt, sq_ex, ac_nx, ac_rt, ac_ex, fr_n, fr_s, fr_o, oo_n, oo_s, oo_i, oo_b, fin, argF, consF, slotF, ioF, tupF, lstF, dctF, twoF, oneF, chainF, notF, ifF, andF, orF, slF, biF, callG, mthF, pmF, lcF, yesF, varT, readVar, moveVar, setFs, parFs, subFs, dropFs, ifFs, forFs, retFs, raiseFs, raisexFs, mkF, mkxF, htFs, tryFs, hdFs, seqFs, walF, subF, nmF, unpF, putT, putTs, onBl, Ar.get, gets, valsOf, ofRes, mkSl, callF, ioArg, ioArgs, hold1, holds, back, assignT, assignT.assignN, wipeE, putBack, unlock, SR.calm, SR.onEnv, srcOf, seqD, ixR, Option.bind_some, Option.map_some, Option.bind_none, Option.map_none, List.map_cons, List.map_nil, List.cons_append, List.nil_append, if_true, if_false, reduceIte, Bool.false_eq_true, Bool.true_and, Bool.and_true, Option.isSome_some, List.contains_nil, Bool.not_false, Bool.not_true, tyO, tyD, neD, eqD, isNoneB, isLst, kp_1, V1, V2, eq_str]
  unfold foTurn kBody
  rw [sa]
  dsimp only
  rw [seq_go s0, seq_go s1, seq_go s2, seq_go s3]
  exact kr_1
theorem ke_2 {n : Nat} {v : D} : run Pg (n + 4) 4 [⟨.sh, .int 2⟩, ⟨.sh, v⟩] = .ok (.exc 13 [("reason", v)]) .sh [none, none] := by rfl
theorem kp_2 {n : Nat} {v : D} : run Pg (n + 4) 5 [⟨.sh, .int 2⟩, ⟨.sh, (.exc 13 [("reason", v)])⟩] = .ok v .sh [none, none] := by rfl
theorem kr_2 {n : Nat} {d v u : D} : exSs Pg.gcs (run Pg (n + 4)) Pg.isa (.cons (.ifs (.op2 .ne (.e (.call 6 (.cons (.s 4) .nil) [])) (.e (.call 8 (.cons (.e (.ife (.op2 .lt (.s 3) (.e (.int 3))) (.tup (.cons (.e (.op2 .add (.e (.int 10)) (.s 3))) (.cons (.e (.int 19)) .nil))) (.tup (.cons (.e (.op2 .add (.e (.int 10)) (.s 3))) .nil)))) (.cons (.e (.int 20)) .nil)) []))) 
    (.cons (.ret (.bl false)) .nil) .nil) (.cons (.ifs (.or (.cons (.e (.op2 .ne (.e (.call 7 (.cons (.s 4) .nil) [])) (.e (.call 8 (.cons (.e (.sub (.s 1) (.s 3))) (.cons (.e (.int 8)) .nil)) [])))) (.cons (.e (.op2 .ne (.e (.call 10 (.cons (.s 3) (.cons (.s 6) .nil)) [])) (.e (.sub (.s 2) (.s 3))))) .nil))) 
    (.cons (.ret (.bl false)) .nil) .nil) .nil)) [some ⟨.io, d⟩, py, wo, shS (.int 2), shS (.exc 13 [("reason", v)]), shS (.exc 13 [("reason", u)]), shS v, shS u] = .nx [some ⟨.io, d⟩, py, wo, shS (.int 2), shS (.exc 13 [("reason", v)]), shS (.exc 13 [("reason", u)]), shS v, shS u] := by rfl
theorem kt_2 {n k : Nat} {d : D} {x3 x4 x5 x6 x7 : Option Sl} (R : Reel k d) (hk : k + 200 ≤ 2 ^ 40) (f3 : free x3 = true) (f4 : free x4 = true) (f5 : free x5 = true) (f6 : free x6 = true) (f7 : free x7 = true) :
    ∃ d' v u, foTurn (.nm 3) (kBody n) (.int 2) [some ⟨.io, d⟩, py, wo, x3, x4, x5, x6, x7] = .nx [some ⟨.io, d'⟩, py, wo, shS (.int 2), shS (.exc 13 [("reason", v)]), shS (.exc 13 [("reason", u)]), shS v, shS u] ∧ Reel (k + 60) d' := by
  obtain ⟨v, d1, e1, ⟨x, V1⟩, R1⟩ := value_ok (n := n) R (by omega)
  obtain ⟨u, d2, e2, ⟨y, V2⟩, R2⟩ := value_ok (n := n) R1 (by omega)
  refine ⟨d2, v, u, ?_, R2⟩
  have sa : assignT [some ⟨.io, d⟩, py, wo, x3, x4, x5, x6, x7] (.int 2) (.nm 3) = some [some ⟨.io, d⟩, py, wo, shS (.int 2), x4, x5, x6, x7] := by simp only [ev_int, ev_str, ev_bl, ev_non, ev_bty, ev_gc, ev_mov, ev_tup, ev_lst, ev_dct, ev_odc, ev_op2, ev_ch, ev_neg, ev_and, ev_or, ev_ife, ev_sub, ev_sl, ev_bi, ev_call, ev_mth, ev_pm, ev_lc, ev_mk, ev_mkx, ev_fld, ev_isx, ev_join, ev_var, ev_varT, ev_notT, ev_notF, ea_e, ea_s, ea_io, es_nil, es_cons, eand_1, eand_2, eor_1, eor_2, ei_nil, ei_1, ex_set, ex_tgt, ex_par, ex_sub, ex_ex, ex_ifs, ex_for_, ex_whl, ex_whw, ex_ret, ex_retN, ex_raise, ex_raisex, ex_try_, ex_pass, ex_brk, ex_ctn, ex_doc, xs_nil, xs_cons, xh_nil, xh_cons, xh_tup, gs_0, ss_0, ge_0, st_0, gs_1, ss_1, ge_1, st_1, gs_2, ss_2, ge_2, st_2, gs_3, ss_3, ge_3, st_3, gs_4, ss_4, ge_4, st_4, gs_5, ss_5, ge_5, st_5, gs_6, ss_6, ge_6, st_6, gs_7, ss_7, ge_7, st_7, gs_8, ss_8, ge_8, st_8, gs_9, ss_9, ge_9, st_9, gs_10, ss_10, ge_10, st_10, so_add, so_sub, so_mul, so_fdiv, so_mod, so_pow, so_eq, so_ne, so_lt, so_le, so_gt, so_ge, so_in, so_nin, so_is, so_isn, d_add, d_addt, d_addl, d_sub, d_mul, d_div, d_mod, d_lt, d_cmp, b_lent, b_lenl, b_lenf, b_abs, b_int, b_intb, b_listl, b_listf, b_listt, b_tupl, b_tupt, b_max2, b_min2, b_all, b_any, b_isi, b_dict, b_listd, b_sorted, b_min1, t_bl, t_int, t_non, t_lst, t_tup, l_tup, l_lst, l_fz, m_app, m_popat, ol_0, ol_1, ol_2, ol_3, ol_4, ol_5, ol_6, ol_7, ol_8, ol_9, ol_10, nd_0, nd_1, nd_0_1, nd_0_2, nd_0_3, nd_0_4, nd_0_5, nd_0_6, nd_0_7, nd_1_0, nd_1_2, nd_1_3, nd_1_4, nd_1_5, nd_1_6, nd_1_7, nd_2_0, nd_2_1, nd_2_3, nd_2_4, nd_2_5, nd_2_6, nd_2_7, nd_3_0, nd_3_1, nd_3_2, nd_3_4, nd_3_5, nd_3_6, nd_3_7, nd_4_0, nd_4_1, nd_4_2, nd_4_3, nd_4_5, nd_4_6, nd_4_7, nd_5_0, nd_5_1, nd_5_2, nd_5_3, nd_5_4, nd_5_6, nd_5_7, nd_6_0, nd_6_1, nd_6_2, nd_6_3, nd_6_4, nd_6_5, nd_6_7, nd_7_0, nd_7_1, nd_7_2, nd_7_3, nd_7_4, nd_7_5, nd_7_6, kb_NoneType_int, kb_NoneType_bool, kb_NoneType_tuple, kb_NoneType_str, kb_NoneType_list, kb_NoneType_dict, kb_bool_int, kb_bool_bool, kb_bool_tuple, kb_bool_str, kb_bool_list, kb_bool_dict, kb_int_int, kb_int_bool, kb_int_tuple, kb_int_str, kb_int_list, kb_int_dict, kb_str_int, kb_str_bool, kb_str_tuple, kb_str_str, kb_str_list, kb_str_dict, kb_tuple_int, kb_tuple_bool, kb_tuple_tuple, kb_tuple_str, kb_tuple_list, kb_tuple_dict, kb_list_int, kb_list_bool, kb_list_tuple, kb_list_str, kb_list_list, kb_list_dict, kb_dict_int, kb_dict_bool, kb_dict_tuple, kb_dict_str, kb_dict_list, kb_dict_dict, it_val, it_enum, it_zip, ow_nil, ow_cons, sn_n, sn_s, le_2, le_3, okb, okt, exb, ext_, sq_nx, sq_rt, sq_ex, ac_nx, ac_rt, ac_ex, fr_n, fr_s, fr_o, oo_n, oo_s, oo_i, oo_b, fin, argF, consF, slotF, ioF, tupF, lstF, dctF, twoF, oneF, chainF, notF, ifF, andF, orF, slF, biF, callG, mthF, pmF, lcF, yesF, varT, readVar, moveVar, setFs, parFs, subFs, dropFs, ifFs, forFs, retFs, raiseFs, raisexFs, mkF, mkxF, htFs, tryFs, hdFs, seqFs, walF, subF, nmF, unpF, putT, putTs, onBl, Ar.get, gets, valsOf, ofRes, mkSl, callF, ioArg, ioArgs, hold1, holds, back, assignT, assignT.assignN, wipeE, putBack, unlock, SR.calm, SR.onEnv, srcOf, seqD, ixR, Option.bind_some, Option.map_some, Option.bind_none, Option.map_none, List.map_cons, List.map_nil, List.cons_append, List.nil_append, if_true, if_false, reduceIte, Bool.false_eq_true, Bool.true_and, Bool.and_true, Option.isSome_some, List.contains_nil, Bool.not_false, Bool.not_true, tyO, tyD, neD, eqD, isNoneB, isLst, f3]
  have s0 : exS Pg.gcs (run Pg (n + 4)) Pg.isa (.par 6 7 (.call 12 (.cons (.io 0) .nil) []) (.call 12 (.cons (.io 0) .nil) [])) [some ⟨.io, d⟩, py, wo, shS (.int 2), x4, x5, x6, x7] = .nx [some ⟨.io, d2⟩, py, wo, shS (.int 2), x4, x5, shS v, shS u] := by
    simp only [ev_int, ev_str, ev_bl, ev_non, ev_bty, ev_gc, ev_mov, ev_tup, ev_lst, ev_dct, ev_odc, ev_op2, ev_ch, ev_neg, ev_and, ev_or, ev_ife, ev_sub, ev_sl, ev_bi, ev_call, ev_mth, ev_pm, ev_lc, ev_mk, ev_mkx, ev_fld, ev_isx, ev_join, ev_var, ev_varT, ev_notT, ev_notF, ea_e, ea_s, ea_io, es_nil, es_cons, eand_1, eand_2, eor_1, eor_2, ei_nil, ei_1, ex_set, ex_tgt, ex_par, ex_sub, ex_ex, ex_ifs, ex_for_, ex_whl, ex_whw, ex_ret, ex_retN, ex_raise, ex_raisex, ex_try_, ex_pass, ex_brk, ex_ctn, ex_doc, xs_nil, xs_cons, xh_nil, xh_cons, xh_tup, gs_0, ss_0, ge_0, st_0, gs_1, ss_1, ge_1, st_1, gs_2, ss_2, ge_2, st_2, gs_3, ss_3, ge_3, st_3, gs_4, ss_4, ge_4, st_4, gs_5, ss_5, ge_5, st_5, gs_6, ss_6, ge_6, st_6, gs_7, ss_7, ge_7, st_7, gs_8, ss_8, ge_8, st_8, gs_9, ss_9, ge_9, st_9, gs_10, ss_10, ge_10, st_10, so_add, so_sub, so_mul, so_fdiv, so_mod, so_pow, so_eq, so_ne, so_lt, so_le, so_gt, so_ge, so_in, so_nin, so_is, so_isn, d_add, d_addt, d_addl, d_sub, d_mul, d_div, d_mod, d_lt, d_cmp, b_lent, b_lenl, b_lenf, b_abs, b_int, b_intb, b_listl, b_listf, b_listt, b_tupl, b_tupt, b_max2, b_min2, b_all, b_any, b_isi, b_dict, b_listd, b_sorted, b_min1, t_bl, t_int, t_non, t_lst, t_tup, l_tup, l_lst, l_fz, m_app, m_popat, ol_0, ol_1, ol_2, ol_3, ol_4, ol_5, ol_6, ol_7, ol_8, ol_9, ol_10, nd_0, nd_1, nd_0_1, nd_0_2, nd_0_3, nd_0_4, nd_0_5, nd_0_6, nd_0_7, nd_1_0, nd_1_2, nd_1_3, nd_1_4, nd_1_5, nd_1_6, nd_1_7, nd_2_0, nd_2_1, nd_2_3, nd_2_4, nd_2_5, nd_2_6, nd_2_7, nd_3_0, nd_3_1, nd_3_2, nd_3_4, nd_3_5, nd_3_6, nd_3_7, nd_4_0, nd_4_1, nd_4_2, nd_4_3, nd_4_5, nd_4_6, nd_4_7, nd_5_0, nd_5_1, nd_5_2, nd_5_3, nd_5_4, nd_5_6, nd_5_7, nd_6_0, nd_6_1, nd_6_2, nd_6_3, nd_6_4, nd_6_5, nd_6_7, nd_7_0, nd_7_1, nd_7_2, nd_7_3, nd_7_4, nd_7_5, nd_7_6, kb_NoneType_int, kb_NoneType_bool, kb_NoneType_tuple, kb_NoneType_str, kb_NoneType_list, kb_NoneType_dict, kb_bool_int, kb_bool_bool, kb_bool_tuple, kb_bool_str, kb_bool_list, kb_bool_dict, kb_int_int, kb_int_bool, kb_int_tuple, kb_int_str, kb_int_list, kb_int_dict, kb_str_int, kb_str_bool, kb_str_tuple, kb_str_str, kb_str_list, kb_str_dict, kb_tuple_int, kb_tuple_bool, kb_tuple_tuple, kb_tuple_str, kb_tuple_list, kb_tuple_dict, kb_list_int, kb_list_bool, kb_list_tuple, kb_list_str, kb_list_list, kb_list_dict, kb_dict_int, kb_dict_bool, kb_dict_tuple, kb_dict_str, kb_dict_list, kb_dict_dict, it_val, it_enum, it_zip, ow_nil, ow_cons, sn_n, sn_s, le_2, le_3, okb, okt, exb, ext_, sq_nx, sq_rt, sq_ex, ac_nx, ac_rt, ac_ex, fr_n, fr_s, fr_o, oo_n, oo_s, oo_i, oo_b, fin, argF, consF, slotF, ioF, tupF, lstF, dctF, twoF, oneF, chainF, notF, ifF, andF, orF, slF, biF, callG, mthF, pmF, lcF, yesF, varT, readVar, moveVar, setFs, parFs, subFs, dropFs, ifFs, forFs, retFs, raiseFs, raisexFs, mkF, mkxF, htFs, tryFs, hdFs, seqFs, walF, subF, nmF, unpF, putT, putTs, onBl, Ar.get, gets, valsOf, ofRes, mkSl, callF, ioArg, ioArgs, hold1, holds, back, assignT, assignT.assignN, wipeE, putBack, unlock, SR.calm, SR.onEnv, srcOf, seqD, ixR, Option.bind_some, Option.map_some, Option.bind_none, Option.map_none, List.map_cons, List.map_nil, List.cons_append, List.nil_append, if_true, if_false, reduceIte, Bool.false_eq_true, Bool.true_and, Bool.and_true, Option.isSome_some, List.contains_nil, Bool.not_false, Bool.not_true, tyO, tyD, neD, eqD, isNoneB, isLst, e1, e2, f6, f7]
  have s1 : exS Pg.gcs (run Pg (n + 4)) Pg.isa (.set 4 (.call 4 (.cons (.s 3) (.cons (.s 6) .nil)) [])) [some ⟨.io, d2⟩, py, wo, shS (.int 2), x4, x5, shS v, shS u] = .nx [some ⟨.io, d2⟩, py, wo, shS (.int 2), shS (.exc 13 [("reason", v)]), x5, shS v, shS u] := by
    simp only [ev_int, ev_str, ev_bl, ev_non, ev_bty, ev_gc, ev_mov, ev_tup, ev_lst, ev_dct, ev_odc, ev_op2, ev_ch, ev_neg, ev_and, ev_or, ev_ife, ev_sub, ev_sl, ev_bi, ev_call, ev_mth, ev_pm, ev_lc, ev_mk, ev_mkx, ev_fld, ev_isx, ev_join, ev_var, ev_varT, ev_notT, ev_notF, ea_e, ea_s, ea_io, es_nil, es_cons, eand_1, eand_2, eor_1, eor_2, ei_nil, ei_1, ex_set, ex_tgt, ex_par, ex_sub, ex_ex, ex_ifs, ex_for_, ex_whl, ex_whw, ex_ret, ex_retN, ex_raise, ex_raisex, ex_try_, ex_pass, ex_brk, ex_ctn, ex_doc, xs_nil, xs_cons, xh_nil, xh_cons, xh_tup, gs_0, ss_0, ge_0, st_0, gs_1, ss_1, ge_1, st_1, gs_2, ss_2, ge_2, st_2, gs_3, ss_3, ge_3, st_3, gs_4, ss_4, ge_4, st_4, gs_5, ss_5, ge_5, st_5, gs_6, ss_6, ge_6, st_6, gs_7, ss_7, ge_7, st_7, gs_8, ss_8, ge_8, st_8, gs_9, ss_9, ge_9, st_9, gs_10, ss_10, ge_10, st_10, so_add, so_sub, so_mul, so_fdiv, so_mod, so_pow, so_eq, so_ne, so_lt, so_le, so_gt, so_ge, so_in, so_nin, so_is, so_isn, d_add, d_addt, d_addl, d_sub, d_mul, d_div, d_mod, d_lt, d_cmp, b_lent, b_lenl, b_lenf, b_abs, b_int, b_intb, b_listl, b_listf, b_listt, b_tupl, b_tupt, b_max2, b_min2, b_all, b_any, b_isi, b_dict, b_listd, b_sorted, b_min1, t_bl, t_int, t_non, t_lst, t_tup, l_tup, l_lst, l_fz, m_app, m_popat, ol_0, ol_1, ol_2, ol_3, ol_4, ol_5, ol_6, ol_7, ol_8, ol_9, ol_10, nd_0, nd_1, nd_0_1, nd_0_2, nd_0_3, nd_0_4, nd_0_5, nd_0_6, nd_0_7, nd_1_0, nd_1_2, nd_1_3, nd_1_4, nd_1_5, nd_1_6, nd_1_7, nd_2_0, nd_2_1, nd_2_3, nd_2_4, nd_2_5, nd_2_6, nd_2_7, nd_3_0, nd_3_1, nd_3_2, nd_3_4, nd_3_5, nd_3_6, nd_3_7, nd_4_0, nd_4_1, nd_4_2, nd_4_3, nd_4_5, nd_4_6, nd_4_7, nd_5_0, nd_5_1, nd_5_2, nd_5_3, nd_5_4, nd_5_6, nd_5_7, nd_6_0, nd_6_1, nd_6_2, nd_6_3, nd_6_4, nd_6_5, nd_6_7, nd_7_0, nd_7_1, nd_7_2, nd_7_3, nd_7_4, nd_7_5, nd_7_6, kb_NoneType_int, kb_NoneType_bool, kb_NoneType_tuple, kb_NoneType_str, kb_NoneType_list, kb_NoneType_dict, kb_bool_int, kb_bool_bool, kb_bool_tuple, kb_bool_str, kb_bool_list, kb_bool_dict, kb_int_int, kb_int_bool, kb_int_tuple, kb_int_str, kb_int_list, kb_int_dict, kb_str_int, kb_str_bool, kb_str_tuple, kb_str_str, kb_str_list, kb_str_dict, kb_tuple_int, kb_tuple_bool, kb_tuple_tuple, kb_tuple_str, kb_tuple_list, kb_tuple_dict, kb_list_int, kb_list_bool, kb_list_tuple, kb_list_str, kb_list_list, kb_list_dict, kb_dict_int, kb_dict_bool, kb_dict_tuple, kb_dict_str, kb_dict_list, kb_dict_dict, it_val, it_enum, it_zip, ow_nil, ow_cons, sn_n, sn_s, le_2, le_3, okb, okt, exb, ext_, sq_nx, sq_rt, sq_ex, ac_nx, ac_rt, ac_ex, fr_n, fr_s, fr_o, oo_n, oo_s, oo_i, oo_b, fin, argF, consF, slotF, ioF, tupF, lstF, dctF, twoF, oneF, chainF, notF, ifF, andF, orF, slF, biF, callG, mthF, pmF, lcF, yesF, varT, readVar, moveVar, setFs, parFs, subFs, dropFs, ifFs, forFs, retFs, raiseFs, raisexFs, mkF, mkxF, htFs, tryFs, hdFs, seqFs, walF, subF, nmF, unpF, putT, putTs, onBl, Ar.get, gets, valsOf, ofRes, mkSl, callF, ioArg, ioArgs, hold1, holds, back, assignT, assignT.assignN, wipeE, putBack, unlock, SR.calm, SR.onEnv, srcOf, seqD, ixR, Option.bind_some, Option.map_some, Option.bind_none, Option.map_none, List.map_cons, List.map_nil, List.cons_append, List.nil_append, if_true, if_false, reduceIte, Bool.false_eq_true, Bool.true_and, Bool.and_true, Option.isSome_some, List.contains_nil, Bool.not_false, Bool.not_true, tyO, tyD, neD, eqD, isNoneB, isLst, ke_2, f4]
  have s2 : exS Pg.gcs (run Pg (n + 4)) Pg.isa (.set 5 (.call 4 (.cons (.s 3) (.cons (.s 7) .nil)) [])) [some ⟨.io, d2⟩, py, wo, shS (.int 2), shS (.exc 13 [("reason", v)]), x5, shS v, shS u] = .nx [some ⟨.io, d2⟩, py, wo, shS (.int 2), shS (.exc 13 [("reason", v)]), shS (.exc 13 [("reason", u)]), shS v, shS u] := by
    simp only [ev_int, ev_str, ev_bl, ev_non, ev_bty, ev_gc, ev_mov, ev_tup, ev_lst, ev_dct, ev_odc, ev_op2, ev_ch, ev_neg, ev_and, ev_or, ev_ife, ev_sub, ev_sl, ev_bi, ev_call, ev_mth, ev_pm, ev_lc, ev_mk, ev_mkx, ev_fld, ev_isx, ev_join, ev_var, ev_varT, ev_notT, ev_notF, ea_e, ea_s, ea_io, es_nil, es_cons, eand_1, eand_2, eor_1, eor_2, ei_nil, ei_1, ex_set, ex_tgt, ex_par, ex_sub, ex_ex, ex_ifs, ex_for_, ex_whl, ex_whw, ex_ret, ex_retN, ex_raise, ex_raisex, ex_try_, ex_pass, ex_brk, ex_ctn, ex_doc, xs_nil, xs_cons, xh_nil, xh_cons, xh_tup, gs_0, ss_0, ge_0, st_0, gs_1, ss_1, ge_1, st_1, gs_2, ss_2, ge_2, st_2, gs_3, ss_3, ge_3, st_3, gs_4, ss_4, ge_4, st_4, gs_5, ss_5, ge_5, st_5, gs_6, ss_6, ge_6, st_6, gs_7, ss_7, ge_7, st_7, gs_8, ss_8, ge_8, st_8, gs_9, ss_9, ge_9, st_9, gs_10, ss_10, ge_10, st_10, so_add, so_sub, so_mul, so_fdiv, so_mod, so_pow, so_eq, so_ne, so_lt, so_le, so_gt, so_ge, so_in, so_nin, so_is, so_isn, d_add, d_addt, d_addl, d_sub, d_mul, d_div, d_mod, d_lt, d_cmp, b_lent, b_lenl, b_lenf, b_abs, b_int, b_intb, b_listl, b_listf, b_listt, b_tupl, b_tupt, b_max2, b_min2, b_all, b_any, b_isi, b_dict, b_listd, b_sorted, b_min1, t_bl, t_int, t_non, t_lst, t_tup, l_tup, l_lst, l_fz, m_app, m_popat, ol_0, ol_1, ol_2, ol_3, ol_4, ol_5, ol_6, ol_7, ol_8, ol_9, ol_10, nd_0, nd_1, nd_0_1, nd_0_2, nd_0_3, nd_0_4, nd_0_5, nd_0_6, nd_0_7, nd_1_0, nd_1_2, nd_1_3, nd_1_4, nd_1_5, nd_1_6, nd_1_7, nd_2_0, nd_2_1, nd_2_3, nd_2_4, nd_2_5, nd_2_6, nd_2_7, nd_3_0, nd_3_1, nd_3_2, nd_3_4, nd_3_5, nd_3_6, nd_3_7, nd_4_0, nd_4_1, nd_4_2, nd_4_3, nd_4_5, nd_4_6, nd_4_7, nd_5_0, nd_5_1, nd_5_2, nd_5_3, nd_5_4, nd_5_6, nd_5_7, nd_6_0, nd_6_1, nd_6_2, nd_6_3, nd_6_4, nd_6_5, nd_6_7, nd_7_0, nd_7_1, nd_7_2, nd_7_3, nd_7_4, nd_7_5, nd_7_6, kb_NoneType_int, kb_NoneType_bool, kb_NoneType_tuple, kb_NoneType_str, kb_NoneType_list, kb_NoneType_dict, kb_bool_int, kb_bool_bool, kb_bool_tuple, kb_bool_str, kb_bool_list, kb_bool_dict, kb_int_int, kb_int_bool, kb_int_tuple, kb_int_str, kb_int_list, kb_int_dict, kb_str_int, kb_str_bool, kb_str_tuple, kb_str_str, kb_str_list, kb_str_dict, kb_tuple_int, kb_tuple_bool, kb_tuple_tuple, kb_tuple_str, kb_tuple_list, kb_tuple_dict, kb_list_int, kb_list_bool, kb_list_tuple, kb_list_str, kb_list_list, kb_list_dict, kb_dict_int, kb_dict_bool, kb_dict_tuple, kb_dict_str, kb_dict_list, kb_dict_dict, it_val, it_enum, it_zip, ow_nil, ow_cons, sn_n, sn_s, le_2, le_3, okb, okt, exb, ext_, sq_nx, sq_rt, sq_ex, ac_nx, ac_rt, ac_ex, fr_n, fr_s, fr_o, oo_n, oo_s, oo_i, oo_b, fin, argF, consF, slotF, ioF, tupF, lstF, dctF, twoF, oneF, chainF, notF, ifF, andF, orF, slF, biF, callG, mthF, pmF, lcF, yesF, varT, readVar, moveVar, setFs, parFs, subFs, dropFs, ifFs, forFs, retFs, raiseFs, raisexFs, mkF, mkxF, htFs, tryFs, hdFs, seqFs, walF, subF, nmF, unpF, putT, putTs, onBl, Ar.get, gets, valsOf, ofRes, mkSl, callF, ioArg, ioArgs, hold1, holds, back, assignT, assignT.assignN, wipeE, putBack, unlock, SR.calm, SR.onEnv, srcOf, seqD, ixR, Option.bind_some, Option.map_some, Option.bind_none, Option.map_none, List.map_cons, List.map_nil, List.cons_append, List.nil_append, if_true, if_false, reduceIte, Bool.false_eq_true, Bool.true_and, Bool.and_true, Option.isSome_some, List.contains_nil, Bool.not_false, Bool.not_true, tyO, tyD, neD, eqD, isNoneB, isLst, ke_2, f5]
  have s3 : exS Pg.gcs (run Pg (n + 4)) Pg.isa (.ifs (.or (.cons (.e (.op2 .ne (.e (.bi .repr (.cons (.e (.call 5 (.cons (.s 3) (.cons (.s 4) .nil)) [])) .nil))) (.e (.bi .repr (.cons (.s 6) .nil))))) (.cons (.e (.op2 .ne (.e (.bi .repr (.cons (.e (.call 5 (.cons (.s 3) (.cons (.s 5) .nil)) [])) .nil))) (.e (.bi .repr (.cons (.s 7) .nil))))) .nil))) 
    (.cons (.ret (.bl false)) .nil) .nil) [some ⟨.io, d2⟩, py, wo, shS (.int 2), shS (.exc 13 [("reason", v)]), shS (.exc 13 [("reason", u)]), shS v, shS u] = .nx [some ⟨.io, d2⟩, py, wo, shS (.int 2), shS (.exc 13 [("reason", v)]), shS (.exc 13 [("reason", u)]), shS v, shS u] := by
    simp only [ev_int, ev_str, ev_bl, ev_non, ev_bty, ev_gc, ev_mov, ev_tup, ev_lst, ev_dct, ev_odc, ev_op2, ev_ch, ev_neg, ev_and, ev_or, ev_ife, ev_sub, ev_sl, ev_bi, ev_call, ev_mth, ev_pm, ev_lc, ev_mk, ev_mkx, ev_fld, ev_isx, ev_join, ev_var, ev_varT, ev_notT, ev_notF, ea_e, ea_s, ea_io, es_nil, es_cons, eand_1, eand_2, eor_1, eor_2, ei_nil, ei_1, ex_set, ex_tgt, ex_par, ex_sub, ex_ex, ex_ifs, ex_for_, ex_whl, ex_whw, ex_ret, ex_retN, ex_raise, ex_raisex, ex_try_, ex_pass, ex_brk, ex_ctn, ex_doc, xs_nil, xs_cons, xh_nil, xh_cons, xh_tup, gs_0, ss_0, ge_0, st_0, gs_1, ss_1, ge_1, st_1, gs_2, ss_2, ge_2, st_2, gs_3, ss_3, ge_3, st_3, gs_4, ss_4, ge_4, st_4, gs_5, ss_5, ge_5, st_5, gs_6, ss_6, ge_6, st_6, gs_7, ss_7, ge_7, st_7, gs_8, ss_8, ge_8, st_8, gs_9, ss_9, ge_9, st_9, gs_10, ss_10, ge_10, st_10, so_add, so_sub, so_mul, so_fdiv, so_mod, so_pow, so_eq, so_ne, so_lt, so_le, so_gt, so_ge, so_in, so_nin, so_is, so_isn, d_add, d_addt, d_addl, d_sub, d_mul, d_div, d_mod, d_lt, d_cmp, b_lent, b_lenl, b_lenf, b_abs, b_int, b_intb, b_listl, b_listf, b_listt, b_tupl, b_tupt, b_max2, b_min2, b_all, b_any, b_isi, b_dict, b_listd, b_sorted, b_min1, t_bl, t_int, t_non, t_lst, t_tup, l_tup, l_lst, l_fz, m_app, m_popat, ol_0, ol_1, ol_2, ol_3, ol_4, ol_5, ol_6, ol_7, ol_8, ol_9, ol_10, nd_0, nd_1, nd_0_1, nd_0_2, nd_0_3, nd_0_4, nd_0_5, nd_0_6, nd_0_7, nd_1_0, nd_1_2, nd_1_3, nd_1_4, nd_1_5, nd_1_6, nd_1_7, nd_2_0, nd_2_1, nd_2_3, nd_2_4, nd_2_5, nd_2_6, nd_2_7, nd_3_0, nd_3_1, nd_3_2, nd_3_4, nd_3_5, nd_3_6, nd_3_7, nd_4_0, nd_4_1, nd_4_2, nd_4_3, nd_4_5, nd_4_6, nd_4_7, nd_5_0, nd_5_1, nd_5_2, nd_5_3, nd_5_4, nd_5_6, nd_5_7, nd_6_0, nd_6_1, nd_6_2, nd_6_3, nd_6_4, nd_6_5, nd_6_7, nd_7_0, nd_7_1, nd_7_2, nd_7_3, nd_7_4, nd_7_5, nd_7_6, kb_NoneType_int, kb_NoneType_bool, kb_NoneType_tuple, kb_NoneType_str, kb_NoneType_list, kb_NoneType_dict, kb_bool_int, kb_bool_bool, kb_bool_tuple, kb_bool_str, kb_bool_list, kb_bool_dict, kb_int_int, kb_int_bool, kb_int_tuple, kb_int_str, kb_int_list, kb_int_dict, kb_str_int, kb_str_bool, kb_str_tuple, kb_str_str, kb_str_list, kb_str_dict, kb_tuple_int, kb_tuple_bool, kb_tuple_tuple, kb_tuple_str, kb_tuple_list, kb_tuple_dict, kb_list_int, kb_list_bool, kb_list_tuple, kb_list_str, kb_list_list, kb_list_dict, kb_dict_int, kb_dict_bool, kb_dict_tuple, kb_dict_str, kb_dict_list, kb_dict_dict, it_val, it_enum, it_zip, ow_nil, ow_cons, sn_n, sn_s, le_2, le_3, okb, okt, exb, ext_, sq_nx, sq_rt, sq_ex, ac_nx, ac_rt, ac_ex, fr_n, fr_s, fr_o, oo_n, oo_s, oo_i, oo_b, fin, argF, consF, slotF, ioF, tupF, lstF, dctF, twoF, oneF, chainF, notF, ifF, andF, orF, slF, biF, callG, mthF, pmF, lcF, yesF, varT, readVar, moveVar, setFs, parFs, subFs, dropFs, ifFs, forFs, retFs, raiseFs, raisexFs, mkF, mkxF, htFs, tryFs, hdFs, seqFs, walF, subF, nmF, unpF, putT, putTs, onBl, Ar.get, gets, valsOf, ofRes, mkSl, callF, ioArg, ioArgs, hold1, holds, back, assignT, assignT.assignN, wipeE, putBack, unlock, SR.calm, SR.onEnv, srcOf, seqD, ixR, Option.bind_some, Option.map_some, Option.bind_none, Option.map_none, List.map_cons, List.map_nil, List.cons_append, List.nil_append, if_true, if_false, reduceIte, Bool.false_eq_true, Bool.true_and, Bool.and_true, Option.isSome_some, List.contains_nil, Bool.not_false, Bool.not_true, tyO, tyD, neD, eqD, isNoneB, isLst, kp_2, V1, V2, eq_str]
  unfold foTurn kBody
  rw [sa]
  dsimp only
  rw [seq_go s0, seq_go s1, seq_go s2, seq_go s3]
  exact kr_2
theorem ke_3 {n : Nat} {v : D} : run Pg (n + 4) 4 [⟨.sh, .int 3⟩, ⟨.sh, v⟩] = .ok (.exc 14 [("name", v)]) .sh [none, none] := by rfl
theorem kp_3 {n : Nat} {v : D} : run Pg (n + 4) 5 [⟨.sh, .int 3⟩, ⟨.sh, (.exc 14 [("name", v)])⟩] = .ok v .sh [none, none] := by rfl
theorem kr_3 {n : Nat} {d v u : D} : exSs Pg.gcs (run Pg (n + 4)) Pg.isa (.cons (.ifs (.op2 .ne (.e (.call 6 (.cons (.s 4) .nil) [])) (.e (.call 8 (.cons (.e (.ife (.op2 .lt (.s 3) (.e (.int 3))) (.tup (.cons (.e (.op2 .add (.e (.int 10)) (.s 3))) (.cons (.e (.int 19)) .nil))) (.tup (.cons (.e (.op2 .add (.e (.int 10)) (.s 3))) .nil)))) (.cons (.e (.int 20)) .nil)) []))) 
    (.cons (.ret (.bl false)) .nil) .nil) (.cons (.ifs (.or (.cons (.e (.op2 .ne (.e (.call 7 (.cons (.s 4) .nil) [])) (.e (.call 8 (.cons (.e (.sub (.s 1) (.s 3))) (.cons (.e (.int 8)) .nil)) [])))) (.cons (.e (.op2 .ne (.e (.call 10 (.cons (.s 3) (.cons (.s 6) .nil)) [])) (.e (.sub (.s 2) (.s 3))))) .nil))) 
    (.cons (.ret (.bl false)) .nil) .nil) .nil)) [some ⟨.io, d⟩, py, wo, shS (.int 3), shS (.exc 14 [("name", v)]), shS (.exc 14 [("name", u)]), shS v, shS u] = .nx [some ⟨.io, d⟩, py, wo, shS (.int 3), shS (.exc 14 [("name", v)]), shS (.exc 14 [("name", u)]), shS v, shS u] := by rfl
theorem kt_3 {n k : Nat} {d : D} {x3 x4 x5 x6 x7 : Option Sl} (R : Reel k d) (hk : k + 200 ≤ 2 ^ 40) (f3 : free x3 = true) (f4 : free x4 = true) (f5 : free x5 = true) (f6 : free x6 = true) (f7 : free x7 = true) :
    ∃ d' v u, foTurn (.nm 3) (kBody n) (.int 3) [some ⟨.io, d⟩, py, wo, x3, x4, x5, x6, x7] = .nx [some ⟨.io, d'⟩, py, wo, shS (.int 3), shS (.exc 14 [("name", v)]), shS (.exc 14 [("name", u)]), shS v, shS u] ∧ Reel (k + 60) d' := by
  obtain ⟨v, d1, e1, ⟨x, V1⟩, R1⟩ := value_ok (n := n) R (by omega)
  obtain ⟨u, d2, e2, ⟨y, V2⟩, R2⟩ := value_ok (n := n) R1 (by omega)
  refine ⟨d2, v, u, ?_, R2⟩
  have sa : assignT [some ⟨.io, d⟩, py, wo, x3, x4, x5, x6, x7] (.int 3) (.nm 3) = some [some ⟨.io, d⟩, py, wo, shS (.int 3), x4, x5, x6, x7] := by simp only [ev_int, ev_str, ev_bl, ev_non, ev_bty, ev_gc, ev_mov, ev_tup, ev_lst, ev_dct, ev_odc, ev_op2, ev_ch, ev_neg, ev_and, ev_or, ev_ife, ev_sub, ev_sl, ev_bi, ev_call, ev_mth, ev_pm, ev_lc, ev_mk, ev_mkx, ev_fld, ev_isx, ev_join, ev_var, ev_varT, ev_notT, ev_notF, ea_e, ea_s, ea_io, es_nil, es_cons, eand_1, eand_2, eor_1, eor_2, ei_nil, ei_1, ex_set, ex_tgt, ex_par, ex_sub, ex_ex, ex_ifs, ex_for_, ex_whl, ex_whw, ex_ret, ex_retN, ex_raise, ex_raisex, ex_try_, ex_pass, ex_brk, ex_ctn, ex_doc, xs_nil, xs_cons, xh_nil, xh_cons, xh_tup, gs_0, ss_0, ge_0, st_0, gs_1, ss_1, ge_1, st_1, gs_2, ss_2, ge_2, st_2, gs_3, ss_3, ge_3, st_3, gs_4, ss_4, ge_4, st_4, gs_5, ss_5, ge_5, st_5, gs_6, ss_6, ge_6, st_6, gs_7, ss_7, ge_7, st_7, gs_8, ss_8, ge_8, st_8, gs_9, ss_9, ge_9, st_9, gs_10, ss_10, ge_10, st_10, so_add, so_sub, so_mul, so_fdiv, so_mod, so_pow, so_eq, so_ne, so_lt, so_le, so_gt, so_ge, so_in, so_nin, so_is, so_isn, d_add, d_addt, d_addl, d_sub, d_mul, d_div, d_mod, d_lt, d_cmp, b_lent, b_lenl, b_lenf, b_abs, b_int, b_intb, b_listl, b_listf, b_listt, b_tupl, b_tupt, b_max2, b_min2, b_all, b_any, b_isi, b_dict, b_listd, b_sorted, b_min1, t_bl, t_int, t_non, t_lst, t_tup, l_tup, l_lst, l_fz, m_app, m_popat, ol_0, ol_1, ol_2, ol_3, ol_4, ol_5, ol_6, ol_7, ol_8, ol_9, ol_10, nd_0, nd_1, nd_0_1, nd_0_2, nd_0_3, nd_0_4, nd_0_5, nd_0_6, nd_0_7, nd_1_0, nd_1_2, nd_1_3, nd_1_4, nd_1_5, nd_1_6, nd_1_7, nd_2_0, nd_2_1, nd_2_3, nd_2_4, nd_2_5, nd_2_6, nd_2_7, nd_3_0, nd_3_1, nd_3_2, nd_3_4, nd_3_5, nd_3_6, nd_3_7, nd_4_0, nd_4_1, nd_4_2, nd_4_3, nd_4_5, nd_4_6, nd_4_7, nd_5_0, nd_5_1, nd_5_2, nd_5_3, nd_5_4, nd_5_6, nd_5_7, nd_6_0, nd_6_1, nd_6_2, nd_6_3, nd_6_4, nd_6_5, nd_6_7, nd_7_0, nd_7_1, nd_7_2, nd_7_3, nd_7_4, nd_7_5, nd_7_6, kb_NoneType_int, kb_NoneType_bool, kb_NoneType_tuple, kb_NoneType_str, kb_NoneType_list, kb_NoneType_dict, kb_bool_int, kb_bool_bool, kb_bool_tuple, kb_bool_str, kb_bool_list, kb_bool_dict, kb_int_int, kb_int_bool, kb_int_tuple, kb_int_str, kb_int_list, kb_int_dict, kb_str_int, kb_str_bool, kb_str_tuple, kb_str_str, kb_str_list, kb_str_dict, kb_tuple_int, kb_tuple_bool, kb_tuple_tuple, kb_tuple_str, kb_tuple_list, kb_tuple_dict, kb_list_int, kb_list_bool, kb_list_tuple, kb_list_str, kb_list_list, kb_list_dict, kb_dict_int, kb_dict_bool, kb_dict_tuple, kb_dict_str, kb_dict_list, kb_dict_dict, it_val, it_enum, it_zip, ow_nil, ow_cons, sn_n, sn_s, le_2, le_3, okb, okt, exb, ext_, sq_nx, sq_rt, sq_ex, ac_nx, ac_rt, ac_ex, fr_n, fr_s, fr_o, oo_n, oo_s, oo_i, oo_b, fin, argF, consF, slotF, ioF, tupF, lstF, dctF, twoF, oneF, chainF, notF, ifF, andF, orF, slF, biF, callG, mthF, pmF, lcF, yesF, varT, readVar, moveVar, setFs, parFs, subFs, dropFs, ifFs, forFs, retFs, raiseFs, raisexFs, mkF, mkxF, htFs, tryFs, hdFs, seqFs, walF, subF, nmF, unpF, putT, putTs, onBl, Ar.get, gets, valsOf, ofRes, mkSl, callF, ioArg, ioArgs, hold1, holds, back, assignT, assignT.assignN, wipeE, putBack, unlock, SR.calm, SR.onEnv, srcOf, seqD, ixR, Option.bind_some, Option.map_some, Option.bind_none, Option.map_none, List.map_cons, List.map_nil, List.cons_append, List.nil_append, if_true, if_false, reduceIte, Bool.false_eq_true, Bool.true_and, Bool.and_true, Option.isSome_some, List.contains_nil, Bool.not_false, Bool.not_true, tyO, tyD, neD, eqD, isNoneB, isLst, f3]
  have s0 : exS Pg.gcs (run Pg (n + 4)) Pg.isa (.par 6 7 (.call 12 (.cons (.io 0) .nil) []) (.call 12 (.cons (.io 0) .nil) [])) [some ⟨.io, d⟩, py, wo, shS (.int 3), x4, x5, x6, x7] = .nx [some ⟨.io, d2⟩, py, wo, shS (.int 3), x4, x5, shS v, shS u] := by
    simp only [ev_int, ev_str, ev_bl, ev_non, ev_bty, ev_gc, ev_mov, ev_tup, ev_lst, ev_dct, ev_odc, ev_op2, ev_ch, ev_neg, ev_and, ev_or, ev_ife, ev_sub, ev_sl, ev_bi, ev_call, ev_mth, ev_pm, ev_lc, ev_mk, ev_mkx, ev_fld, ev_isx, ev_join, ev_var, ev_varT, ev_notT, ev_notF, ea_e, ea_s, ea_io, es_nil, es_cons, eand_1, eand_2, eor_1, eor_2, ei_nil, ei_1, ex_set, ex_tgt, ex_par, ex_sub, ex_ex, ex_ifs, ex_for_, ex_whl, ex_whw, ex_ret, ex_retN, ex_raise, ex_raisex, ex_try_, ex_pass, ex_brk, ex_ctn, ex_doc, xs_nil, xs_cons, xh_nil, xh_cons, xh_tup, gs_0, ss_0, ge_0, st_0, gs_1, ss_1, ge_1, st_1, gs_2, ss_2, ge_2, st_2, gs_3, ss_3, ge_3, st_3, gs_4, ss_4, ge_4, st_4, gs_5, ss_5, ge_5, st_5, gs_6, ss_6, ge_6, st_6, gs_7, ss_7, ge_7, st_7, gs_8, ss_8, ge_8, st_8, gs_9, ss_9, ge_9, st_9, gs_10, ss_10, ge_10, st_10, so_add, so_sub, so_mul, so_fdiv, so_mod, so_pow, so_eq, so_ne, so_lt, so_le, so_gt, so_ge, so_in, so_nin, so_is, so_isn, d_add, d_addt, d_addl, d_sub, d_mul, d_div, d_mod, d_lt, d_cmp, b_lent, b_lenl, b_lenf, b_abs, b_int, b_intb, b_listl, b_listf, b_listt, b_tupl, b_tupt, b_max2, b_min2, b_all, b_any, b_isi, b_dict, b_listd, b_sorted, b_min1, t_bl, t_int, t_non, t_lst, t_tup, l_tup, l_lst, l_fz, m_app, m_popat, ol_0, ol_1, ol_2, ol_3, ol_4, ol_5, ol_6, ol_7, ol_8, ol_9, ol_10, nd_0, nd_1, nd_0_1, nd_0_2, nd_0_3, nd_0_4, nd_0_5, nd_0_6, nd_0_7, nd_1_0, nd_1_2, nd_1_3, nd_1_4, nd_1_5, nd_1_6, nd_1_7, nd_2_0, nd_2_1, nd_2_3, nd_2_4, nd_2_5, nd_2_6, nd_2_7, nd_3_0, nd_3_1, nd_3_2, nd_3_4, nd_3_5, nd_3_6, nd_3_7, nd_4_0, nd_4_1, nd_4_2, nd_4_3, nd_4_5, nd_4_6, nd_4_7, nd_5_0, nd_5_1, nd_5_2, nd_5_3, nd_5_4, nd_5_6, nd_5_7, nd_6_0, nd_6_1, nd_6_2, nd_6_3, nd_6_4, nd_6_5, nd_6_7, nd_7_0, nd_7_1, nd_7_2, nd_7_3, nd_7_4, nd_7_5, nd_7_6, kb_NoneType_int, kb_NoneType_bool, kb_NoneType_tuple, kb_NoneType_str, kb_NoneType_list, kb_NoneType_dict, kb_bool_int, kb_bool_bool, kb_bool_tuple, kb_bool_str, kb_bool_list, kb_bool_dict, kb_int_int, kb_int_bool, kb_int_tuple, kb_int_str, kb_int_list, kb_int_dict, kb_str_int, kb_str_bool, kb_str_tuple, kb_str_str, kb_str_list, kb_str_dict, kb_tuple_int, kb_tuple_bool, kb_tuple_tuple, kb_tuple_str, kb_tuple_list, kb_tuple_dict, kb_list_int, kb_list_bool, kb_list_tuple, kb_list_str, kb_list_list, kb_list_dict, kb_dict_int, kb_dict_bool, kb_dict_tuple, kb_dict_str, kb_dict_list, kb_dict_dict, it_val, it_enum, it_zip, ow_nil, ow_cons, sn_n, sn_s, le_2, le_3, okb, okt, exb, ext_, sq_nx, sq_rt, sq_ex, ac_nx, ac_rt, ac_ex, fr_n, fr_s, fr_o, oo_n, oo_s, oo_i, oo_b, fin, argF, consF, slotF, ioF, tupF, lstF, dctF, twoF, oneF, chainF, notF, ifF, andF, orF, slF, biF, callG, mthF, pmF, lcF, yesF, varT, readVar, moveVar, setFs, parFs, subFs, dropFs, ifFs, forFs, retFs, raiseFs, raisexFs, mkF, mkxF, htFs, tryFs, hdFs, seqFs, walF, subF, nmF, unpF, putT, putTs, onBl, Ar.get, gets, valsOf, ofRes, mkSl, callF, ioArg, ioArgs, hold1, holds, back, assignT, assignT.assignN, wipeE, putBack, unlock, SR.calm, SR.onEnv, srcOf, seqD, ixR, Option.bind_some, Option.map_some, Option.bind_none, Option.map_none, List.map_cons, List.map_nil, List.cons_append, List.nil_append, if_true, if_false, reduceIte, Bool.false_eq_true, Bool.true_and, Bool.and_true, Option.isSome_some, List.contains_nil, Bool.not_false, Bool.not_true, tyO, tyD, neD, eqD, isNoneB, isLst, e1, e2, f6, f7]
  have s1 : exS Pg.gcs (run Pg (n + 4)) Pg.isa (.set 4 (.call 4 (.cons (.s 3) (.cons (.s 6) .nil)) [])) [some ⟨.io, d2⟩, py, wo, shS (.int 3), x4, x5, shS v, shS u] = .nx [some ⟨.io, d2⟩, py, wo, shS (.int 3), shS (.exc 14 [("name", v)]), x5, shS v, shS u] := by
    simp only [ev_int, ev_str, ev_bl, ev_non, ev_bty, ev_gc, ev_mov, ev_tup, ev_lst, ev_dct, ev_odc, ev_op2, ev_ch, ev_neg, ev_and, ev_or, ev_ife, ev_sub, ev_sl, ev_bi, ev_call, ev_mth, ev_pm, ev_lc, ev_mk, ev_mkx, ev_fld, ev_isx, ev_join, ev_var, ev_varT, ev_notT, ev_notF, ea_e, ea_s, ea_io, es_nil, es_cons, eand_1, eand_2, eor_1, eor_2, ei_nil, ei_1, ex_set, ex_tgt, ex_par, ex_sub, ex_ex, ex_ifs, ex_for_, ex_whl, ex_whw, ex_ret, ex_retN, ex_raise, ex_raisex, ex_try_, ex_pass, ex_brk, ex_ctn, ex_doc, xs_nil, xs_cons, xh_nil, xh_cons, xh_tup, gs_0, ss_0, ge_0, st_0, gs_1, ss_1, ge_1, st_1, gs_2, ss_2, ge_2, st_2, gs_3, ss_3, ge_3, st_3, gs_4, ss_4, ge_4, st_4, gs_5, ss_5, ge_5, st_5, gs_6, ss_6, ge_6, st_6, gs_7, ss_7, ge_7, st_7, gs_8, ss_8, ge_8, st_8, gs_9, ss_9, ge_9, st_9, gs_10, ss_10, ge_10, st_10, so_add, so_sub, so_mul, so_fdiv, so_mod, so_pow, so_eq, so_ne, so_lt, so_le, so_gt, so_ge, so_in, so_nin, so_is, so_isn, d_add, d_addt, d_addl, d_sub, d_mul, d_div, d_mod, d_lt, d_cmp, b_lent, b_lenl, b_lenf, b_abs, b_int, b_intb, b_listl, b_listf, b_listt, b_tupl, b_tupt, b_max2, b_min2, b_all, b_any, b_isi, b_dict, b_listd, b_sorted, b_min1, t_bl, t_int, t_non, t_lst, t_tup, l_tup, l_lst, l_fz, m_app, m_popat, ol_0, ol_1, ol_2, ol_3, ol_4, ol_5, ol_6, ol_7, ol_8, ol_9, ol_10, nd_0, nd_1, nd_0_1, nd_0_2, nd_0_3, nd_0_4, nd_0_5, nd_0_6, nd_0_7, nd_1_0, nd_1_2, nd_1_3, nd_1_4, nd_1_5, nd_1_6, nd_1_7, nd_2_0, nd_2_1, nd_2_3, nd_2_4, nd_2_5, nd_2_6, nd_2_7, nd_3_0, nd_3_1, nd_3_2, nd_3_4, nd_3_5, nd_3_6, nd_3_7, nd_4_0, nd_4_1, nd_4_2, nd_4_3, nd_4_5, nd_4_6, nd_4_7, nd_5_0, nd_5_1, nd_5_2, nd_5_3, nd_5_4, nd_5_6, nd_5_7, nd_6_0, nd_6_1, nd_6_2, nd_6_3, nd_6_4, nd_6_5, nd_6_7, nd_7_0, nd_7_1, nd_7_2, nd_7_3, nd_7_4, nd_7_5, nd_7_6, kb_NoneType_int, kb_NoneType_bool, kb_NoneType_tuple, kb_NoneType_str, kb_NoneType_list, kb_NoneType_dict, kb_bool_int, kb_bool_bool, kb_bool_tuple, kb_bool_str, kb_bool_list, kb_bool_dict, kb_int_int, kb_int_bool, kb_int_tuple, kb_int_str, kb_int_list, kb_int_dict, kb_str_int, kb_str_bool, kb_str_tuple, kb_str_str, kb_str_list, kb_str_dict, kb_tuple_int, kb_tuple_bool, kb_tuple_tuple, kb_tuple_str, kb_tuple_list, kb_tuple_dict, kb_list_int, kb_list_bool, kb_list_tuple, kb_list_str, kb_list_list, kb_list_dict, kb_dict_int, kb_dict_bool, kb_dict_tuple, kb_dict_str, kb_dict_list, kb_dict_dict, it_val, it_enum, it_zip, ow_nil, ow_cons, sn_n, sn_s, le_2, le_3, okb, okt, exb, ext_, sq_nx, sq_rt, sq_ex, ac_nx, ac_rt, ac_ex, fr_n, fr_s, fr_o, oo_n, oo_s, oo_i, oo_b, fin, argF, consF, slotF, ioF, tupF, lstF, dctF, twoF, oneF, chainF, notF, ifF, andF, orF, slF, biF, callG, mthF, pmF, lcF, yesF, varT, readVar, moveVar, setFs, parFs, subFs, dropFs, ifFs, forFs, retFs, raiseFs, raisexFs, mkF, mkxF, htFs, tryFs, hdFs, seqFs, walF, subF, nmF, unpF, putT, putTs, onBl, Ar.get, gets, valsOf, ofRes, mkSl, callF, ioArg, ioArgs, hold1, holds, back, assignT, assignT.assignN, wipeE, putBack, unlock, SR.calm, SR.onEnv, srcOf, seqD, ixR, Option.bind_some, Option.map_some, Option.bind_none, Option.map_none, List.map_cons, List.map_nil, List.cons_append, List.nil_append, if_true, if_false, reduceIte, Bool.false_eq_true, Bool.true_and, Bool.and_true, Option.isSome_some, List.contains_nil, Bool.not_false, Bool.not_true, tyO, tyD, neD, eqD, isNoneB, isLst, ke_3, f4]
  have s2 : exS Pg.gcs (run Pg (n + 4)) Pg.isa (.set 5 (.call 4 (.cons (.s 3) (.cons (.s 7) .nil)) [])) [some ⟨.io, d2⟩, py, wo, shS (.int 3), shS (.exc 14 [("name", v)]), x5, shS v, shS u] = .nx [some ⟨.io, d2⟩, py, wo, shS (.int 3), shS (.exc 14 [("name", v)]), shS (.exc 14 [("name", u)]), shS v, shS u] := by
    simp only [ev_int, ev_str, ev_bl, ev_non, ev_bty, ev_gc, ev_mov, ev_tup, ev_lst, ev_dct, ev_odc, ev_op2, ev_ch, ev_neg, ev_and, ev_or, ev_ife, ev_sub, ev_sl, ev_bi, ev_call, ev_mth, ev_pm, ev_lc, ev_mk, ev_mkx, ev_fld, ev_isx, ev_join, ev_var, ev_varT, ev_notT, ev_notF, ea_e, ea_s, ea_io, es_nil, es_cons, eand_1, eand_2, eor_1, eor_2, ei_nil, ei_1, ex_set, ex_tgt, ex_par, ex_sub, ex_ex, ex_ifs, ex_for_, ex_whl, ex_whw, ex_ret, ex_retN, ex_raise, ex_raisex, ex_try_, ex_pass, ex_brk, ex_ctn, ex_doc, xs_nil, xs_cons, xh_nil, xh_cons, xh_tup, gs_0, ss_0, ge_0, st_0, gs_1, ss_1, ge_1, st_1, gs_2, ss_2, ge_2, st_2, gs_3, ss_3, ge_3, st_3, gs_4, ss_4, ge_4, st_4, gs_5, ss_5, ge_5, st_5, gs_6, ss_6, ge_6, st_6, gs_7, ss_7, ge_7, st_7, gs_8, ss_8, ge_8, st_8, gs_9, ss_9, ge_9, st_9, gs_10, ss_10, ge_10, st_10, so_add, so_sub, so_mul, so_fdiv, so_mod, so_pow, so_eq, so_ne, so_lt, so_le, so_gt, so_ge, so_in, so_nin, so_is, so_isn, d_add, d_addt, d_addl, d_sub, d_mul, d_div, d_mod, d_lt, d_cmp, b_lent, b_lenl, b_lenf, b_abs, b_int, b_intb, b_listl, b_listf, b_listt, b_tupl, b_tupt, b_max2, b_min2, b_all, b_any, b_isi, b_dict, b_listd, b_sorted, b_min1, t_bl, t_int, t_non, t_lst, t_tup, l_tup, l_lst, l_fz, m_app, m_popat, ol_0, ol_1, ol_2, ol_3, ol_4, ol_5, ol_6, ol_7, ol_8, ol_9, ol_10, nd_0, nd_1, nd_0_1, nd_0_2, nd_0_3, nd_0_4, nd_0_5, nd_0_6, nd_0_7, nd_1_0, nd_1_2, nd_1_3, nd_1_4, nd_1_5, nd_1_6, nd_1_7, nd_2_0, nd_2_1, nd_2_3, nd_2_4, nd_2_5, nd_2_6, nd_2_7, nd_3_0, nd_3_1, nd_3_2, nd_3_4, nd_3_5, nd_3_6, nd_3_7, nd_4_0, nd_4_1, nd_4_2, nd_4_3, nd_4_5, nd_4_6, nd_4_7, nd_5_0, nd_5_1, nd_5_2, nd_5_3, nd_5_4, nd_5_6, nd_5_7, nd_6_0, nd_6_1, nd_6_2, nd_6_3, nd_6_4, nd_6_5, nd_6_7, nd_7_0, nd_7_1, nd_7_2, nd_7_3, nd_7_4, nd_7_5, nd_7_6, kb_NoneType_int, kb_NoneType_bool, kb_NoneType_tuple, kb_NoneType_str, kb_NoneType_list, kb_NoneType_dict, kb_bool_int, kb_bool_bool, kb_bool_tuple, kb_bool_str, kb_bool_list, kb_bool_dict, kb_int_int, kb_int_bool, kb_int_tuple, kb_int_str, kb_int_list, kb_int_dict, kb_str_int, kb_str_bool, kb_str_tuple, kb_str_str, kb_str_list, kb_str_dict, kb_tuple_int, kb_tuple_bool, kb_tuple_tuple, kb_tuple_str, kb_tuple_list, kb_tuple_dict, kb_list_int, kb_list_bool, kb_list_tuple, kb_list_str, kb_list_list, kb_list_dict, kb_dict_int, kb_dict_bool, kb_dict_tuple, kb_dict_str, kb_dict_list, kb_dict_dict, it_val, it_enum, it_zip, ow_nil, ow_cons, sn_n, sn_s, le_2, le_3, okb, okt, exb, ext_, sq_nx, sq_rt, sq_ex, ac_nx, ac_rt, ac_ex, fr_n, fr_s, fr_o, oo_n, oo_s, oo_i, oo_b, fin, argF, consF, slotF, ioF, tupF, lstF, dctF, twoF, oneF, chainF, notF, ifF, andF, orF, slF, biF, callG, mthF, pmF, lcF, yesF, varT, readVar, moveVar, setFs, parFs, subFs, dropFs, ifFs, forFs, retFs, raiseFs, raisexFs, mkF, mkxF, htFs, tryFs, hdFs, seqFs, walF, subF, nmF, unpF, putT, putTs, onBl, Ar.get, gets, valsOf, ofRes, mkSl, callF, ioArg, ioArgs, hold1, holds, back, assignT, assignT.assignN, wipeE, putBack, unlock, SR.calm, SR.onEnv, srcOf, seqD, ixR, Option.bind_some, Option.map_some, Option.bind_none, Option.map_none, List.map_cons, List.map_nil, List.cons_append, List.nil_append, if_true, if_false, reduceIte, Bool.false_eq_true, Bool.true_and, Bool.and_true, Option.isSome_some, List.contains_nil, Bool.not_false, Bool.not_true, tyO, tyD, neD, eqD, isNoneB, isLst, ke_3, f5]
  have s3 : exS Pg.gcs (run Pg (n + 4)) Pg.isa (.ifs (.or (.cons (.e (.op2 .ne (.e (.bi .repr (.cons (.e (.call 5 (.cons (.s 3) (.cons (.s 4) .nil)) [])) .nil))) (.e (.bi .repr (.cons (.s 6) .nil))))) (.cons (.e (.op2 .ne (.e (.bi .repr (.cons (.e (.call 5 (.cons (.s 3) (.cons (.s 5) .nil)) [])) .nil))) (.e (.bi .repr (.cons (.s 7) .nil))))) .nil))) 
    (.cons (.ret (.bl false)) .nil) .nil) [some ⟨.io, d2⟩, py, wo, shS (.int 3), shS (.exc 14 [("name", v)]), shS (.exc 14 [("name", u)]), shS v, shS u] = .nx [some ⟨.io, d2⟩, py, wo, shS (.int 3), shS (.exc 14 [("name", v)]), shS (.exc 14 [("name", u)]), shS v, shS u] := by
    simp only [ev_int, ev_str, ev_bl, ev_non, ev_bty, ev_gc, ev_mov, ev_tup, ev_lst, ev_dct, ev_odc, ev_op2, ev_ch, ev_neg, ev_and, ev_or, ev_ife, ev_sub, ev_sl, ev_bi, ev_call, ev_mth, ev_pm, ev_lc, ev_mk, ev_mkx, ev_fld, ev_isx, ev_join, ev_var, ev_varT, ev_notT, ev_notF, ea_e, ea_s, ea_io, es_nil, es_cons, eand_1, eand_2, eor_1, eor_2, ei_nil, ei_1, ex_set, ex_tgt, ex_par, ex_sub, ex_ex, ex_ifs, ex_for_, ex_whl, ex_whw, ex_ret, ex_retN, ex_raise, ex_raisex, ex_try_, ex_pass, ex_brk, ex_ctn, ex_doc, xs_nil, xs_cons, xh_nil, xh_cons, xh_tup, gs_0, ss_0, ge_0, st_0, gs_1, ss_1, ge_1, st_1, gs_2, ss_2, ge_2, st_2, gs_3, ss_3, ge_3, st_3, gs_4, ss_4, ge_4, st_4, gs_5, ss_5, ge_5, st_5, gs_6, ss_6, ge_6, st_6, gs_7, ss_7, ge_7, st_7, gs_8, ss_8, ge_8, st_8, gs_9, ss_9, ge_9, st_9, gs_10, ss_10, ge_10, st_10, so_add, so_sub, so_mul, so_fdiv, so_mod, so_pow, so_eq, so_ne, so_lt, so_le, so_gt, so_ge, so_in, so_nin, so_is, so_isn, d_add, d_addt, d_addl, d_sub, d_mul, d_div, d_mod, d_lt, d_cmp, b_lent, b_lenl, b_lenf, b_abs, b_int, b_intb, b_listl, b_listf, b_listt, b_tupl, b_tupt, b_max2, b_min2, b_all, b_any, b_isi, b_dict, b_listd, b_sorted, b_min1, t_bl, t_int, t_non, t_lst, t_tup, l_tup, l_lst, l_fz, m_app, m_popat, ol_0, ol_1, ol_2, ol_3, ol_4, ol_5, ol_6, ol_7, ol_8, ol_9, ol_10, nd_0, nd_1, nd_0_1, nd_0_2, nd_0_3, nd_0_4, nd_0_5, nd_0_6, nd_0_7, nd_1_0, nd_1_2, nd_1_3, nd_1_4, nd_1_5, nd_1_6, nd_1_7, nd_2_0, nd_2_1, nd_2_3, nd_2_4, nd_2_5, nd_2_6, nd_2_7, nd_3_0, nd_3_1, nd_3_2, nd_3_4, nd_3_5, nd_3_6, nd_3_7, nd_4_0, nd_4_1, nd_4_2, nd_4_3, nd_4_5, nd_4_6, nd_4_7, nd_5_0, nd_5_1, nd_5_2, nd_5_3, nd_5_4, nd_5_6, nd_5_7, nd_6_0, nd_6_1, nd_6_2, nd_6_3, nd_6_4, nd_6_5, nd_6_7, nd_7_0, nd_7_1, nd_7_2, nd_7_3, nd_7_4, nd_7_5, nd_7_6, kb_NoneType_int, kb_NoneType_bool, kb_NoneType_tuple, kb_NoneType_str, kb_NoneType_list, kb_NoneType_dict, kb_bool_int, kb_bool_bool, kb_bool_tuple, kb_bool_str, kb_bool_list, kb_bool_dict, kb_int_int, kb_int_bool, kb_int_tuple, kb_int_str, kb_int_list, kb_int_dict, kb_str_int, kb_str_bool, kb_str_tuple, kb_str_str, kb_str_list, kb_str_dict, kb_tuple_int, kb_tuple_bool, kb_tuple_tuple, kb_tuple_str, kb_tuple_list, kb_tuple_dict, kb_list_int, kb_list_bool, kb_list_tuple, kb_list_str, kb_list_list, kb_list_dict, kb_dict_int, kb_dict_bool, kb_dict_tuple, kb_dict_str, kb_dict_list, kb_dict_dict, it_val, it_enum, it_zip, ow_nil, ow_cons, sn_n, sn_s, le_2, le_3, okb, okt, exb, ext_, sq_nx, sq_rt, sq_ex, ac_nx, ac_rt, ac_ex, fr_n, fr_s, fr_o, oo_n, oo_s, oo_i, oo_b, fin, argF, consF, slotF, ioF, tupF, lstF, dctF, twoF, oneF, chainF, notF, ifF, andF, orF, slF, biF, callG, mthF, pmF, lcF, yesF, varT, readVar, moveVar, setFs, parFs, subFs, dropFs, ifFs, forFs, retFs, raiseFs, raisexFs, mkF, mkxF, htFs, tryFs, hdFs, seqFs, walF, subF, nmF, unpF, putT, putTs, onBl, Ar.get, gets, valsOf, ofRes, mkSl, callF, ioArg, ioArgs, hold1, holds, back, assignT, assignT.assignN, wipeE, putBack, unlock, SR.calm, SR.onEnv, srcOf, seqD, ixR, Option.bind_some, Option.map_some, Option.bind_none, Option.map_none, List.map_cons, List.map_nil, List.cons_append, List.nil_append, if_true, if_false, reduceIte, Bool.false_eq_true, Bool.true_and, Bool.and_true, Option.isSome_some, List.contains_nil, Bool.not_false, Bool.not_true, tyO, tyD, neD, eqD, isNoneB, isLst, kp_3, V1, V2, eq_str]
  unfold foTurn kBody
  rw [sa]
  dsimp only
  rw [seq_go s0, seq_go s1, seq_go s2, seq_go s3]
  exact kr_3
theorem ke_4 {n : Nat} {v : D} : run Pg (n + 4) 4 [⟨.sh, .int 4⟩, ⟨.sh, v⟩] = .ok (.exc 15 [("row", v)]) .sh [none, none] := by rfl
theorem kp_4 {n : Nat} {v : D} : run Pg (n + 4) 5 [⟨.sh, .int 4⟩, ⟨.sh, (.exc 15 [("row", v)])⟩] = .ok v .sh [none, none] := by rfl
theorem kr_4 {n : Nat} {d v u : D} : exSs Pg.gcs (run Pg (n + 4)) Pg.isa (.cons (.ifs (.op2 .ne (.e (.call 6 (.cons (.s 4) .nil) [])) (.e (.call 8 (.cons (.e (.ife (.op2 .lt (.s 3) (.e (.int 3))) (.tup (.cons (.e (.op2 .add (.e (.int 10)) (.s 3))) (.cons (.e (.int 19)) .nil))) (.tup (.cons (.e (.op2 .add (.e (.int 10)) (.s 3))) .nil)))) (.cons (.e (.int 20)) .nil)) []))) 
    (.cons (.ret (.bl false)) .nil) .nil) (.cons (.ifs (.or (.cons (.e (.op2 .ne (.e (.call 7 (.cons (.s 4) .nil) [])) (.e (.call 8 (.cons (.e (.sub (.s 1) (.s 3))) (.cons (.e (.int 8)) .nil)) [])))) (.cons (.e (.op2 .ne (.e (.call 10 (.cons (.s 3) (.cons (.s 6) .nil)) [])) (.e (.sub (.s 2) (.s 3))))) .nil))) 
    (.cons (.ret (.bl false)) .nil) .nil) .nil)) [some ⟨.io, d⟩, py, wo, shS (.int 4), shS (.exc 15 [("row", v)]), shS (.exc 15 [("row", u)]), shS v, shS u] = .nx [some ⟨.io, d⟩, py, wo, shS (.int 4), shS (.exc 15 [("row", v)]), shS (.exc 15 [("row", u)]), shS v, shS u] := by rfl
theorem kt_4 {n k : Nat} {d : D} {x3 x4 x5 x6 x7 : Option Sl} (R : Reel k d) (hk : k + 200 ≤ 2 ^ 40) (f3 : free x3 = true) (f4 : free x4 = true) (f5 : free x5 = true) (f6 : free x6 = true) (f7 : free x7 = true) :
    ∃ d' v u, foTurn (.nm 3) (kBody n) (.int 4) [some ⟨.io, d⟩, py, wo, x3, x4, x5, x6, x7] = .nx [some ⟨.io, d'⟩, py, wo, shS (.int 4), shS (.exc 15 [("row", v)]), shS (.exc 15 [("row", u)]), shS v, shS u] ∧ Reel (k + 60) d' := by
  obtain ⟨v, d1, e1, ⟨x, V1⟩, R1⟩ := value_ok (n := n) R (by omega)
  obtain ⟨u, d2, e2, ⟨y, V2⟩, R2⟩ := value_ok (n := n) R1 (by omega)
  refine ⟨d2, v, u, ?_, R2⟩
  have sa : assignT [some ⟨.io, d⟩, py, wo, x3, x4, x5, x6, x7] (.int 4) (.nm 3) = some [some ⟨.io, d⟩, py, wo, shS (.int 4), x4, x5, x6, x7] := by simp only [ev_int, ev_str, ev_bl, ev_non, ev_bty, ev_gc, ev_mov, ev_tup, ev_lst, ev_dct, ev_odc, ev_op2, ev_ch, ev_neg, ev_and, ev_or, ev_ife, ev_sub, ev_sl, ev_bi, ev_call, ev_mth, ev_pm, ev_lc, ev_mk, ev_mkx, ev_fld, ev_isx, ev_join, ev_var, ev_varT, ev_notT, ev_notF, ea_e, ea_s, ea_io, es_nil, es_cons, eand_1, eand_2, eor_1, eor_2, ei_nil, ei_1, ex_set, ex_tgt, ex_par, ex_sub, ex_ex, ex_ifs, ex_for_, ex_whl, ex_whw, ex_ret, ex_retN, ex_raise, ex_raisex, ex_try_, ex_pass, ex_brk, ex_ctn, ex_doc, xs_nil, xs_cons, xh_nil, xh_cons, xh_tup, gs_0, ss_0, ge_0, st_0, gs_1, ss_1, ge_1, st_1, gs_2, ss_2, ge_2, st_2, gs_3, ss_3, ge_3, st_3, gs_4, ss_4, ge_4, st_4, gs_5, ss_5, ge_5, st_5, gs_6, ss_6, ge_6, st_6, gs_7, ss_7, ge_7, st_7, gs_8, ss_8, ge_8, st_8, gs_9, ss_9, ge_9, st_9, gs_10, ss_10, ge_10, st_10, so_add, so_sub, so_mul, so_fdiv, so_mod, so_pow, so_eq, so_ne, so_lt, so_le, so_gt, so_ge, so_in, so_nin, so_is, so_isn, d_add, d_addt, d_addl, d_sub, d_mul, d_div, d_mod, d_lt, d_cmp, b_lent, b_lenl, b_lenf, b_abs, b_int, b_intb, b_listl, b_listf, b_listt, b_tupl, b_tupt, b_max2, b_min2, b_all, b_any, b_isi, b_dict, b_listd, b_sorted, b_min1, t_bl, t_int, t_non, t_lst, t_tup, l_tup, l_lst, l_fz, m_app, m_popat, ol_0, ol_1, ol_2, ol_3, ol_4, ol_5, ol_6, ol_7, ol_8, ol_9, ol_10, nd_0, nd_1, nd_0_1, nd_0_2, nd_0_3, nd_0_4, nd_0_5, nd_0_6, nd_0_7, nd_1_0, nd_1_2, nd_1_3, nd_1_4, nd_1_5, nd_1_6, nd_1_7, nd_2_0, nd_2_1, nd_2_3, nd_2_4, nd_2_5, nd_2_6, nd_2_7, nd_3_0, nd_3_1, nd_3_2, nd_3_4, nd_3_5, nd_3_6, nd_3_7, nd_4_0, nd_4_1, nd_4_2, nd_4_3, nd_4_5, nd_4_6, nd_4_7, nd_5_0, nd_5_1, nd_5_2, nd_5_3, nd_5_4, nd_5_6, nd_5_7, nd_6_0, nd_6_1, nd_6_2, nd_6_3, nd_6_4, nd_6_5, nd_6_7, nd_7_0, nd_7_1, nd_7_2, nd_7_3, nd_7_4, nd_7_5, nd_7_6, kb_NoneType_int, kb_NoneType_bool, kb_NoneType_tuple, kb_NoneType_str, kb_NoneType_list, kb_NoneType_dict, kb_bool_int, kb_bool_bool, kb_bool_tuple, kb_bool_str, kb_bool_list, kb_bool_dict, kb_int_int, kb_int_bool, kb_int_tuple, kb_int_str, kb_int_list, kb_int_dict, kb_str_int, kb_str_bool, kb_str_tuple, kb_str_str, kb_str_list, kb_str_dict, kb_tuple_int, kb_tuple_bool, kb_tuple_tuple, kb_tuple_str, kb_tuple_list, kb_tuple_dict, kb_list_int, kb_list_bool, kb_list_tuple, kb_list_str, kb_list_list, kb_list_dict, kb_dict_int, kb_dict_bool, kb_dict_tuple, kb_dict_str, kb_dict_list, kb_dict_dict, it_val, it_enum, it_zip, ow_nil, ow_cons, sn_n, sn_s, le_2, le_3, okb, okt, exb, ext_, sq_nx, sq_rt, sq_ex, ac_nx, ac_rt, ac_ex, fr_n, fr_s, fr_o, oo_n, oo_s, oo_i, oo_b, fin, argF, consF, slotF, ioF, tupF, lstF, dctF, twoF, oneF, chainF, notF, ifF, andF, orF, slF, biF, callG, mthF, pmF, lcF, yesF, varT, readVar, moveVar, setFs, parFs, subFs, dropFs, ifFs, forFs, retFs, raiseFs, raisexFs, mkF, mkxF, htFs, tryFs, hdFs, seqFs, walF, subF, nmF, unpF, putT, putTs, onBl, Ar.get, gets, valsOf, ofRes, mkSl, callF, ioArg, ioArgs, hold1, holds, back, assignT, assignT.assignN, wipeE, putBack, unlock, SR.calm, SR.onEnv, srcOf, seqD, ixR, Option.bind_some, Option.map_some, Option.bind_none, Option.map_none, List.map_cons, List.map_nil, List.cons_append, List.nil_append, if_true, if_false, reduceIte, Bool.false_eq_true, Bool.true_and, Bool.and_true, Option.isSome_some, List.contains_nil, Bool.not_false, Bool.not_true, tyO, tyD, neD, eqD, isNoneB, isLst, f3]
  have s0 : exS Pg.gcs (run Pg (n + 4)) Pg.isa (.par 6 7 (.call 12 (.cons (.io 0) .nil) []) (.call 12 (.cons (.io 0) .nil) [])) [some ⟨.io, d⟩, py, wo, shS (.int 4), x4, x5, x6, x7] = .nx [some ⟨.io, d2⟩, py, wo, shS (.int 4), x4, x5, shS v, shS u] := by
    simp only [ev_int, ev_str, ev_bl, ev_non, ev_bty, ev_gc, ev_mov, ev_tup, ev_lst, ev_dct, ev_odc, ev_op2, ev_ch, ev_neg, ev_and, ev_or, ev_ife, ev_sub, ev_sl, ev_bi, ev_call, ev_mth, ev_pm, ev_lc, ev_mk, ev_mkx, ev_fld, ev_isx, ev_join, ev_var, ev_varT, ev_notT, ev_notF, ea_e, ea_s, ea_io, es_nil, es_cons, eand_1, eand_2, eor_1, eor_2, ei_nil, ei_1, ex_set, ex_tgt, ex_par, ex_sub, ex_ex, ex_ifs, ex_for_, ex_whl, ex_whw, ex_ret, ex_retN, ex_raise, ex_raisex, ex_try_, ex_pass, ex_brk, ex_ctn, ex_doc, xs_nil, xs_cons, xh_nil, xh_cons, xh_tup, gs_0, ss_0, ge_0, st_0, gs_1, ss_1, ge_1, st_1, gs_2, ss_2, ge_2, st_2, gs_3, ss_3, ge_3, st_3, gs_4, ss_4, ge_4, st_4, gs_5, ss_5, ge_5, st_5, gs_6, ss_6, ge_6, st_6, gs_7, ss_7, ge_7, st_7, gs_8, ss_8, ge_8, st_8, gs_9, ss_9, ge_9, st_9, gs_10, ss_10, ge_10, st_10, so_add, so_sub, so_mul, so_fdiv, so_mod, so_pow, so_eq, so_ne, so_lt, so_le, so_gt, so_ge, so_in, so_nin, so_is, so_isn, d_add, d_addt, d_addl, d_sub, d_mul, d_div, d_mod, d_lt, d_cmp, b_lent, b_lenl, b_lenf, b_abs, b_int, b_intb, b_listl, b_listf, b_listt, b_tupl, b_tupt, b_max2, b_min2, b_all, b_any, b_isi, b_dict, b_listd, b_sorted, b_min1, t_bl, t_int, t_non, t_lst, t_tup, l_tup, l_lst, l_fz, m_app, m_popat, ol_0, ol_1, ol_2, ol_3, ol_4, ol_5, ol_6, ol_7, ol_8, ol_9, ol_10, nd_0, nd_1, nd_0_1, nd_0_2, nd_0_3, nd_0_4, nd_0_5, nd_0_6, nd_0_7, nd_1_0, nd_1_2, nd_1_3, nd_1_4, nd_1_5, nd_1_6, nd_1_7, nd_2_0, nd_2_1, nd_2_3, nd_2_4, nd_2_5, nd_2_6, nd_2_7, nd_3_0, nd_3_1, nd_3_2, nd_3_4, nd_3_5, nd_3_6, nd_3_7, nd_4_0, nd_4_1, nd_4_2, nd_4_3, nd_4_5, nd_4_6, nd_4_7, nd_5_0, nd_5_1, nd_5_2, nd_5_3, nd_5_4, nd_5_6, nd_5_7, nd_6_0, nd_6_1, nd_6_2, nd_6_3, nd_6_4, nd_6_5, nd_6_7, nd_7_0, nd_7_1, nd_7_2, nd_7_3, nd_7_4, nd_7_5, nd_7_6, kb_NoneType_int, kb_NoneType_bool, kb_NoneType_tuple, kb_NoneType_str, kb_NoneType_list, kb_NoneType_dict, kb_bool_int, kb_bool_bool, kb_bool_tuple, kb_bool_str, kb_bool_list, kb_bool_dict, kb_int_int, kb_int_bool, kb_int_tuple, kb_int_str, kb_int_list, kb_int_dict, kb_str_int, kb_str_bool, kb_str_tuple, kb_str_str, kb_str_list, kb_str_dict, kb_tuple_int, kb_tuple_bool, kb_tuple_tuple, kb_tuple_str, kb_tuple_list, kb_tuple_dict, kb_list_int, kb_list_bool, kb_list_tuple, kb_list_str, kb_list_list, kb_list_dict, kb_dict_int, kb_dict_bool, kb_dict_tuple, kb_dict_str, kb_dict_list, kb_dict_dict, it_val, it_enum, it_zip, ow_nil, ow_cons, sn_n, sn_s, le_2, le_3, okb, okt, exb, ext_, sq_nx, sq_rt, sq_ex, ac_nx, ac_rt, ac_ex, fr_n, fr_s, fr_o, oo_n, oo_s, oo_i, oo_b, fin, argF, consF, slotF, ioF, tupF, lstF, dctF, twoF, oneF, chainF, notF, ifF, andF, orF, slF, biF, callG, mthF, pmF, lcF, yesF, varT, readVar, moveVar, setFs, parFs, subFs, dropFs, ifFs, forFs, retFs, raiseFs, raisexFs, mkF, mkxF, htFs, tryFs, hdFs, seqFs, walF, subF, nmF, unpF, putT, putTs, onBl, Ar.get, gets, valsOf, ofRes, mkSl, callF, ioArg, ioArgs, hold1, holds, back, assignT, assignT.assignN, wipeE, putBack, unlock, SR.calm, SR.onEnv, srcOf, seqD, ixR, Option.bind_some, Option.map_some, Option.bind_none, Option.map_none, List.map_cons, List.map_nil, List.cons_append, List.nil_append, if_true, if_false, reduceIte, Bool.false_eq_true, Bool.true_and, Bool.and_true, Option.isSome_some, List.contains_nil, Bool.not_false, Bool.not_true, tyO, tyD, neD, eqD, isNoneB, isLst, e1, e2, f6, f7]
  have s1 : exS Pg.gcs (run Pg (n + 4)) Pg.isa (.set 4 (.call 4 (.cons (.s 3) (.cons (.s 6) .nil)) [])) [some ⟨.io, d2⟩, py, wo, shS (.int 4), x4, x5, shS v, shS u] = .nx [some ⟨.io, d2⟩, py, wo, shS (.int 4), shS (.exc 15 [("row", v)]), x5, shS v, shS u] := by
    simp only [ev_int, ev_str, ev_bl, ev_non, ev_bty, ev_gc, ev_mov, ev_tup, ev_lst, ev_dct, ev_odc, ev_op2, ev_ch, ev_neg, ev_and, ev_or, ev_ife, ev_sub, ev_sl, ev_bi, ev_call, ev_mth, ev_pm, ev_lc, ev_mk, ev_mkx, ev_fld, ev_isx, ev_join, ev_var, ev_varT, ev_notT, ev_notF, ea_e, ea_s, ea_io, es_nil, es_cons, eand_1, eand_2, eor_1, eor_2, ei_nil, ei_1, ex_set, ex_tgt, ex_par, ex_sub, ex_ex, ex_ifs, ex_for_, ex_whl, ex_whw, ex_ret, ex_retN, ex_raise, ex_raisex, ex_try_, ex_pass, ex_brk, ex_ctn, ex_doc, xs_nil, xs_cons, xh_nil, xh_cons, xh_tup, gs_0, ss_0, ge_0, st_0, gs_1, ss_1, ge_1, st_1, gs_2, ss_2, ge_2, st_2, gs_3, ss_3, ge_3, st_3, gs_4, ss_4, ge_4, st_4, gs_5, ss_5, ge_5, st_5, gs_6, ss_6, ge_6, st_6, gs_7, ss_7, ge_7, st_7, gs_8, ss_8, ge_8, st_8, gs_9, ss_9, ge_9, st_9, gs_10, ss_10, ge_10, st_10, so_add, so_sub, so_mul, so_fdiv, so_mod, so_pow, so_eq, so_ne, so_lt, so_le, so_gt, so_ge, so_in, so_nin, so_is, so_isn, d_add, d_addt, d_addl, d_sub, d_mul, d_div, d_mod, d_lt, d_cmp, b_lent, b_lenl, b_lenf, b_abs, b_int, b_intb, b_listl, b_listf, b_listt, b_tupl, b_tupt, b_max2, b_min2, b_all, b_any, b_isi, b_dict, b_listd, b_sorted, b_min1, t_bl, t_int, t_non, t_lst, t_tup, l_tup, l_lst, l_fz, m_app, m_popat, ol_0, ol_1, ol_2, ol_3, ol_4, ol_5, ol_6, ol_7, ol_8, ol_9, ol_10, nd_0, nd_1, nd_0_1, nd_0_2, nd_0_3, nd_0_4, nd_0_5, nd_0_6, nd_0_7, nd_1_0, nd_1_2, nd_1_3, nd_1_4, nd_1_5, nd_1_6, nd_1_7, nd_2_0, nd_2_1, nd_2_3, nd_2_4, nd_2_5, nd_2_6, nd_2_7, nd_3_0, nd_3_1, nd_3_2, nd_3_4, nd_3_5, nd_3_6, nd_3_7, nd_4_0, nd_4_1, nd_4_2, nd_4_3, nd_4_5, nd_4_6, nd_4_7, nd_5_0, nd_5_1, nd_5_2, nd_5_3, nd_5_4, nd_5_6, nd_5_7, nd_6_0, nd_6_1, nd_6_2, nd_6_3, nd_6_4, nd_6_5, nd_6_7, nd_7_0, nd_7_1, nd_7_2, nd_7_3, nd_7_4, nd_7_5, nd_7_6, kb_NoneType_int, kb_NoneType_bool, kb_NoneType_tuple, kb_NoneType_str, kb_NoneType_list, kb_NoneType_dict, kb_bool_int, kb_bool_bool, kb_bool_tuple, kb_bool_str, kb_bool_list, kb_bool_dict, kb_int_int, kb_int_bool, kb_int_tuple, kb_int_str, kb_int_list, kb_int_dict, kb_str_int, kb_str_bool, kb_str_tuple, kb_str_str, kb_str_list, kb_str_dict, kb_tuple_int, kb_tuple_bool, kb_tuple_tuple, kb_tuple_str, kb_tuple_list, kb_tuple_dict, kb_list_int, kb_list_bool, kb_list_tuple, kb_list_str, kb_list_list, kb_list_dict, kb_dict_int, kb_dict_bool, kb_dict_tuple, kb_dict_str, kb_dict_list, kb_dict_dict, it_val, it_enum, it_zip, ow_nil, ow_cons, sn_n, sn_s, le_2, le_3, okb, okt, exb, ext_, sq_nx, sq_rt, sq_ex, ac_nx, ac_rt, ac_ex, fr_n, fr_s, fr_o, oo_n, oo_s, oo_i, oo_b, fin, argF, consF, slotF, ioF, tupF, lstF, dctF, twoF, oneF, chainF, notF, ifF, andF, orF, slF, biF, callG, mthF, pmF, lcF, yesF, varT, readVar, moveVar, setFs, parFs, subFs, dropFs, ifFs, forFs, retFs, raiseFs, raisexFs, mkF, mkxF, htFs, tryFs, hdFs, seqFs, walF, subF, nmF, unpF, putT, putTs, onBl, Ar.get, gets, valsOf, ofRes, mkSl, callF, ioArg, ioArgs, hold1, holds, back, assignT, assignT.assignN, wipeE, putBack, unlock, SR.calm, SR.onEnv, srcOf, seqD, ixR, Option.bind_some, Option.map_some, Option.bind_none, Option.map_none, List.map_cons, List.map_nil, List.cons_append, List.nil_append, if_true, if_false, reduceIte, Bool.false_eq_true, Bool.true_and, Bool.and_true, Option.isSome_some, List.contains_nil, Bool.not_false, Bool.not_true, tyO, tyD, neD, eqD, isNoneB, isLst, ke_4, f4]
  have s2 : exS Pg.gcs (run Pg (n + 4)) Pg.isa (.set 5 (.call 4 (.cons (.s 3) (.cons (.s 7) .nil)) [])) [some ⟨.io, d2⟩, py, wo, shS (.int 4), shS (.exc 15 [("row", v)]), x5, shS v, shS u] = .nx [some ⟨.io, d2⟩, py, wo, shS (.int 4), shS (.exc 15 [("row", v)]), shS (.exc 15 [("row", u)]), shS v, shS u] := by
    simp only [ev_int, ev_str, ev_bl, ev_non, ev_bty, ev_gc, ev_mov, ev_tup, ev_lst, ev_dct, ev_odc, ev_op2, ev_ch, ev_neg, ev_and, ev_or, ev_ife, ev_sub, ev_sl, ev_bi, ev_call, ev_mth, ev_pm, ev_lc, ev_mk, ev_mkx, ev_fld, ev_isx, ev_join, ev_var, ev_varT, ev_notT, ev_notF, ea_e, ea_s, ea_io, es_nil, es_cons, eand_1, eand_2, eor_1, eor_2, ei_nil, ei_1, ex_set, ex_tgt, ex_par, ex_sub, ex_ex, ex_ifs, ex_for_, ex_whl, ex_whw, ex_ret, ex_retN, ex_raise, ex_raisex, ex_try_, ex_pass, ex_brk, ex_ctn, ex_doc, xs_nil, xs_cons, xh_nil, xh_cons, xh_tup, gs_0, ss_0, ge_0, st_0, gs_1, ss_1, ge_1, st_1, gs_2, ss_2, ge_2, st_2, gs_3, ss_3, ge_3, st_3, gs_4, ss_4, ge_4, st_4, gs_5, ss_5, ge_5, st_5, gs_6, ss_6, ge_6, st_6, gs_7, ss_7, ge_7, st_7, gs_8, ss_8, ge_8, st_8, gs_9, ss_9, ge_9, st_9, gs_10, ss_10, ge_10, st_10, so_add, so_sub, so_mul, so_fdiv, so_mod, so_pow, so_eq, so_ne, so_lt, so_le, so_gt, so_ge, so_in, so_nin, so_is, so_isn, d_add, d_addt, d_addl, d_sub, d_mul, d_div, d_mod, d_lt, d_cmp, b_lent, b_lenl, b_lenf, b_abs, b_int, b_intb, b_listl, b_listf, b_listt, b_tupl, b_tupt, b_max2, b_min2, b_all, b_any, b_isi, b_dict, b_listd, b_sorted, b_min1, t_bl, t_int, t_non, t_lst, t_tup, l_tup, l_lst, l_fz, m_app, m_popat, ol_0, ol_1, ol_2, ol_3, ol_4, ol_5, ol_6, ol_7, ol_8, ol_9, ol_10, nd_0, nd_1, nd_0_1, nd_0_2, nd_0_3, nd_0_4, nd_0_5, nd_0_6, nd_0_7, nd_1_0, nd_1_2, nd_1_3, nd_1_4, nd_1_5, nd_1_6, nd_1_7, nd_2_0, nd_2_1, nd_2_3, nd_2_4, nd_2_5, nd_2_6, nd_2_7, nd_3_0, nd_3_1, nd_3_2, nd_3_4, nd_3_5, nd_3_6, nd_3_7, nd_4_0, nd_4_1, nd_4_2, nd_4_3, nd_4_5, nd_4_6, nd_4_7, nd_5_0, nd_5_1, nd_5_2, nd_5_3, nd_5_4, nd_5_6, nd_5_7, nd_6_0, nd_6_1, nd_6_2, nd_6_3, nd_6_4, nd_6_5, nd_6_7, nd_7_0, nd_7_1, nd_7_2, nd_7_3, nd_7_4, nd_7_5, nd_7_6, kb_NoneType_int, kb_NoneType_bool, kb_NoneType_tuple, kb_NoneType_str, kb_NoneType_list, kb_NoneType_dict, kb_bool_int, kb_bool_bool, kb_bool_tuple, kb_bool_str, kb_bool_list, kb_bool_dict, kb_int_int, kb_int_bool, kb_int_tuple, kb_int_str, kb_int_list, kb_int_dict, kb_str_int, kb_str_bool, kb_str_tuple, kb_str_str, kb_str_list, kb_str_dict, kb_tuple_int, kb_tuple_bool, kb_tuple_tuple, kb_tuple_str, kb_tuple_list, kb_tuple_dict, kb_list_int, kb_list_bool, kb_list_tuple, kb_list_str, kb_list_list, kb_list_dict, kb_dict_int, kb_dict_bool, kb_dict_tuple, kb_dict_str, kb_dict_list, kb_dict_dict, it_val, it_enum, it_zip, ow_nil, ow_cons, sn_n, sn_s, le_2, le_3, okb, okt, exb, ext_, sq_nx, sq_rt, sq_ex, ac_nx, ac_rt, ac_ex, fr_n, fr_s, fr_o, oo_n, oo_s, oo_i, oo_b, fin, argF, consF, slotF, ioF, tupF, lstF, dctF, twoF, oneF, chainF, notF, ifF, andF, orF, slF, biF, callG, mthF, pmF, lcF, yesF, varT, readVar, moveVar, setFs, parFs, subFs, dropFs, ifFs, forFs, retFs, raiseFs, raisexFs, mkF, mkxF, htFs, tryFs, hdFs, seqFs, walF, subF, nmF, unpF, putT, putTs, onBl, Ar.get, gets, valsOf, ofRes, mkSl, callF, ioArg, ioArgs, hold1, holds, back, assignT, assignT.assignN, wipeE, putBack, unlock, SR.calm, SR.onEnv, srcOf, seqD, ixR, Option.bind_some, Option.map_some, Option.bind_none, Option.map_none, List.map_cons, List.map_nil, List.cons_append, List.nil_append, if_true, if_false, reduceIte, Bool.false_eq_true, Bool.true_and, Bool.and_true, Option.isSome_some, List.contains_nil, Bool.not_false, Bool.not_true, tyO, tyD, neD, eqD, isNoneB, isLst, ke_4, f5]
  have s3 : exS Pg.gcs (run Pg (n + 4)) Pg.isa (.ifs (.or (.cons (.e (.op2 .ne (.e (.bi .repr (.cons (.e (.call 5 (.cons (.s 3) (.cons (.s 4) .nil)) [])) .nil))) (.e (.bi .repr (.cons (.s 6) .nil))))) (.cons (.e (.op2 .ne (.e (.bi .repr (.cons (.e (.call 5 (.cons (.s 3) (.cons (.s 5) .nil)) [])) .nil))) (.e (.bi .repr (.cons (.s 7) .nil))))) .nil))) 
    (.cons (.ret (.bl false)) .nil) .nil) [some ⟨.io, d2⟩, py, wo, shS (.int 4), shS (.exc 15 [("row", v)]), shS (.exc 15 [("row", u)]), shS v, shS u] = .nx [some ⟨.io, d2⟩, py, wo, shS (.int 4), shS (.exc 15 [("row", v)]), shS (.exc 15 [("row", u)]), shS v, shS u] := by
    simp only [ev_int, ev_str, ev_bl, ev_non, ev_bty, ev_gc, ev_mov, ev_tup, ev_lst, ev_dct, ev_odc, ev_op2, ev_ch, ev_neg, ev_and, ev_or, ev_ife, ev_sub, ev_sl, ev_bi, ev_call, ev_mth, ev_pm, ev_lc, ev_mk, ev_mkx, ev_fld, ev_isx, ev_join, ev_var, ev_varT, ev_notT, ev_notF, ea_e, ea_s, ea_io, es_nil, es_cons, eand_1, eand_2, eor_1, eor_2, ei_nil, ei_1, ex_set, ex_tgt, ex_par, ex_sub, ex_ex, ex_ifs, ex_for_, ex_whl, ex_whw, ex_ret, ex_retN, ex_raise, ex_raisex, ex_try_, ex_pass, ex_brk, ex_ctn, ex_doc, xs_nil, xs_cons, xh_nil, xh_cons, xh_tup, gs_0, ss_0, ge_0, st_0, gs_1, ss_1, ge_1, st_1, gs_2, ss_2, ge_2, st_2, gs_3, ss_3, ge_3, st_3, gs_4, ss_4, ge_4, st_4, gs_5, ss_5, ge_5, st_5, gs_6, ss_6, ge_6, st_6, gs_7, ss_7, ge_7, st_7, gs_8, ss_8, ge_8, st_8, gs_9, ss_9, ge_9, st_9, gs_10, ss_10, ge_10, st_10, so_add, so_sub, so_mul, so_fdiv, so_mod, so_pow, so_eq, so_ne, so_lt, so_le, so_gt, so_ge, so_in, so_nin, so_is, so_isn, d_add, d_addt, d_addl, d_sub, d_mul, d_div, d_mod, d_lt, d_cmp, b_lent, b_lenl, b_lenf, b_abs, b_int, b_intb, b_listl, b_listf, b_listt, b_tupl, b_tupt, b_max2, b_min2, b_all, b_any, b_isi, b_dict, b_listd, b_sorted, b_min1, t_bl, t_int, t_non, t_lst, t_tup, l_tup, l_lst, l_fz, m_app, m_popat, ol_0, ol_1, ol_2, ol_3, ol_4, ol_5, ol_6, ol_7, ol_8, ol_9, ol_10, nd_0, nd_1, nd_0_1, nd_0_2, nd_0_3, nd_0_4, nd_0_5, nd_0_6, nd_0_7, nd_1_0, nd_1_2, nd_1_3, nd_1_4, nd_1_5, nd_1_6, nd_1_7, nd_2_0, nd_2_1, nd_2_3, nd_2_4, nd_2_5, nd_2_6, nd_2_7, nd_3_0, nd_3_1, nd_3_2, nd_3_4, nd_3_5, nd_3_6, nd_3_7, nd_4_0, nd_4_1, nd_4_2, nd_4_3, nd_4_5, nd_4_6, nd_4_7, nd_5_0, nd_5_1, nd_5_2, nd_5_3, nd_5_4, nd_5_6, nd_5_7, nd_6_0, nd_6_1, nd_6_2, nd_6_3, nd_6_4, nd_6_5, nd_6_7, nd_7_0, nd_7_1, nd_7_2, nd_7_3, nd_7_4, nd_7_5, nd_7_6, kb_NoneType_int, kb_NoneType_bool, kb_NoneType_tuple, kb_NoneType_str, kb_NoneType_list, kb_NoneType_dict, kb_bool_int, kb_bool_bool, kb_bool_tuple, kb_bool_str, kb_bool_list, kb_bool_dict, kb_int_int, kb_int_bool, kb_int_tuple, kb_int_str, kb_int_list, kb_int_dict, kb_str_int, kb_str_bool, kb_str_tuple, kb_str_str, kb_str_list, kb_str_dict, kb_tuple_int, kb_tuple_bool, kb_tuple_tuple, kb_tuple_str, kb_tuple_list, kb_tuple_dict, kb_list_int, kb_list_bool, kb_list_tuple, kb_list_str, kb_list_list, kb_list_dict, kb_dict_int, kb_dict_bool, kb_dict_tuple, kb_dict_str, kb_dict_list, kb_dict_dict, it_val, it_enum, it_zip, ow_nil, ow_cons, sn_n, sn_s, le_2, le_3, okb, okt, exb, ext_, sq_nx, sq_rt, sq_ex, ac_nx, ac_rt, ac_ex, fr_n, fr_s, fr_o, oo_n, oo_s, oo_i, oo_b, fin, argF, consF, slotF, ioF, tupF, lstF, dctF, twoF, oneF, chainF, notF, ifF, andF, orF, slF, biF, callG, mthF, pmF, lcF, yesF, varT, readVar, moveVar, setFs, parFs, subFs, dropFs, ifFs, forFs, retFs, raiseFs, raisexFs, mkF, mkxF, htFs, tryFs, hdFs, seqFs, walF, subF, nmF, unpF, putT, putTs, onBl, Ar.get, gets, valsOf, ofRes, mkSl, callF, ioArg, ioArgs, hold1, holds, back, assignT, assignT.assignN, wipeE, putBack, unlock, SR.calm, SR.onEnv, srcOf, seqD, ixR, Option.bind_some, Option.map_some, Option.bind_none, Option.map_none, List.map_cons, List.map_nil, List.cons_append, List.nil_append, if_true, if_false, reduceIte, Bool.false_eq_true, Bool.true_and, Bool.and_true, Option.isSome_some, List.contains_nil, Bool.not_false, Bool.not_true, tyO, tyD, neD, eqD, isNoneB, isLst, kp_4, V1, V2, eq_str]
  unfold foTurn kBody
  rw [sa]
  dsimp only
  rw [seq_go s0, seq_go s1, seq_go s2, seq_go s3]
  exact kr_4
theorem ke_5 {n : Nat} {v : D} : run Pg (n + 4) 4 [⟨.sh, .int 5⟩, ⟨.sh, v⟩] = .ok (.exc 16 [("many", v)]) .sh [none, none] := by rfl
theorem kp_5 {n : Nat} {v : D} : run Pg (n + 4) 5 [⟨.sh, .int 5⟩, ⟨.sh, (.exc 16 [("many", v)])⟩] = .ok v .sh [none, none] := by rfl
theorem kr_5 {n : Nat} {d v u : D} : exSs Pg.gcs (run Pg (n + 4)) Pg.isa (.cons (.ifs (.op2 .ne (.e (.call 6 (.cons (.s 4) .nil) [])) (.e (.call 8 (.cons (.e (.ife (.op2 .lt (.s 3) (.e (.int 3))) (.tup (.cons (.e (.op2 .add (.e (.int 10)) (.s 3))) (.cons (.e (.int 19)) .nil))) (.tup (.cons (.e (.op2 .add (.e (.int 10)) (.s 3))) .nil)))) (.cons (.e (.int 20)) .nil)) []))) 
    (.cons (.ret (.bl false)) .nil) .nil) (.cons (.ifs (.or (.cons (.e (.op2 .ne (.e (.call 7 (.cons (.s 4) .nil) [])) (.e (.call 8 (.cons (.e (.sub (.s 1) (.s 3))) (.cons (.e (.int 8)) .nil)) [])))) (.cons (.e (.op2 .ne (.e (.call 10 (.cons (.s 3) (.cons (.s 6) .nil)) [])) (.e (.sub (.s 2) (.s 3))))) .nil))) 
    (.cons (.ret (.bl false)) .nil) .nil) .nil)) [some ⟨.io, d⟩, py, wo, shS (.int 5), shS (.exc 16 [("many", v)]), shS (.exc 16 [("many", u)]), shS v, shS u] = .nx [some ⟨.io, d⟩, py, wo, shS (.int 5), shS (.exc 16 [("many", v)]), shS (.exc 16 [("many", u)]), shS v, shS u] := by rfl
theorem kt_5 {n k : Nat} {d : D} {x3 x4 x5 x6 x7 : Option Sl} (R : Reel k d) (hk : k + 200 ≤ 2 ^ 40) (f3 : free x3 = true) (f4 : free x4 = true) (f5 : free x5 = true) (f6 : free x6 = true) (f7 : free x7 = true) :
    ∃ d' v u, foTurn (.nm 3) (kBody n) (.int 5) [some ⟨.io, d⟩, py, wo, x3, x4, x5, x6, x7] = .nx [some ⟨.io, d'⟩, py, wo, shS (.int 5), shS (.exc 16 [("many", v)]), shS (.exc 16 [("many", u)]), shS v, shS u] ∧ Reel (k + 60) d' := by
  obtain ⟨v, d1, e1, ⟨x, V1⟩, R1⟩ := value_ok (n := n) R (by omega)
  obtain ⟨u, d2, e2, ⟨y, V2⟩, R2⟩ := value_ok (n := n) R1 (by omega)
  refine ⟨d2, v, u, ?_, R2⟩
  have sa : assignT [some ⟨.io, d⟩, py, wo, x3, x4, x5, x6, x7] (.int 5) (.nm 3) = some [some ⟨.io, d⟩, py, wo, shS (.int 5), x4, x5, x6, x7] := by simp only [ev_int, ev_str, ev_bl, ev_non, ev_bty, ev_gc, ev_mov, ev_tup, ev_lst, ev_dct, ev_odc, ev_op2, ev_ch, ev_neg, ev_and, ev_or, ev_ife, ev_sub, ev_sl, ev_bi, ev_call, ev_mth, ev_pm, ev_lc, ev_mk, ev_mkx, ev_fld, ev_isx, ev_join, ev_var, ev_varT, ev_notT, ev_notF, ea_e, ea_s, ea_io, es_nil, es_cons, eand_1, eand_2, eor_1, eor_2, ei_nil, ei_1, ex_set, ex_tgt, ex_par, ex_sub, ex_ex, ex_ifs, ex_for_, ex_whl, ex_whw, ex_ret, ex_retN, ex_raise, ex_raisex, ex_try_, ex_pass, ex_brk, ex_ctn, ex_doc, xs_nil, xs_cons, xh_nil, xh_cons, xh_tup, gs_0, ss_0, ge_0, st_0, gs_1, ss_1, ge_1, st_1, gs_2, ss_2, ge_2, st_2, gs_3, ss_3, ge_3, st_3, gs_4, ss_4, ge_4, st_4, gs_5, ss_5, ge_5, st_5, gs_6, ss_6, ge_6, st_6, gs_7, ss_7, ge_7, st_7, gs_8, ss_8, ge_8, st_8, gs_9, ss_9, ge_9, st_9, gs_10, ss_10, ge_10, st_10, so_add, so_sub, so_mul, so_fdiv, so_mod, so_pow, so_eq, so_ne, so_lt, so_le, so_gt, so_ge, so_in, so_nin, so_is, so_isn, d_add, d_addt, d_addl, d_sub, d_mul, d_div, d_mod, d_lt, d_cmp, b_lent, b_lenl, b_lenf, b_abs, b_int, b_intb, b_listl, b_listf, b_listt, b_tupl, b_tupt, b_max2, b_min2, b_all, b_any, b_isi, b_dict, b_listd, b_sorted, b_min1, t_bl, t_int, t_non, t_lst, t_tup, l_tup, l_lst, l_fz, m_app, m_popat, ol_0, ol_1, ol_2, ol_3, ol_4, ol_5, ol_6, ol_7, ol_8, ol_9, ol_10, nd_0, nd_1, nd_0_1, nd_0_2, nd_0_3, nd_0_4, nd_0_5, nd_0_6, nd_0_7, nd_1_0, nd_1_2, nd_1_3, nd_1_4, nd_1_5, nd_1_6, nd_1_7, nd_2_0, nd_2_1, nd_2_3, nd_2_4, nd_2_5, nd_2_6, nd_2_7, nd_3_0, nd_3_1, nd_3_2, nd_3_4, nd_3_5, nd_3_6, nd_3_7, nd_4_0, nd_4_1, nd_4_2, nd_4_3, nd_4_5, nd_4_6, nd_4_7, nd_5_0, nd_5_1, nd_5_2, nd_5_3, nd_5_4, nd_5_6, nd_5_7, nd_6_0, nd_6_1, nd_6_2, nd_6_3, nd_6_4, nd_6_5, nd_6_7, nd_7_0, nd_7_1, nd_7_2, nd_7_3, nd_7_4, nd_7_5, nd_7_6, kb_NoneType_int, kb_NoneType_bool, kb_NoneType_tuple, kb_NoneType_str, kb_NoneType_list, kb_NoneType_dict, kb_bool_int, kb_bool_bool, kb_bool_tuple, kb_bool_str, kb_bool_list, kb_bool_dict, kb_int_int, kb_int_bool, kb_int_tuple, kb_int_str, kb_int_list, kb_int_dict, kb_str_int, kb_str_bool, kb_str_tuple, kb_str_str, kb_str_list, kb_str_dict, kb_tuple_int, kb_tuple_bool, kb_tuple_tuple, kb_tuple_str, kb_tuple_list, kb_tuple_dict, kb_list_int, kb_list_bool, kb_list_tuple, kb_list_str, kb_list_list, kb_list_dict, kb_dict_int, kb_dict_bool, kb_dict_tuple, kb_dict_str, kb_dict_list, kb_dict_dict, it_val, it_enum, it_zip, ow_nil, ow_cons, sn_n, sn_s, le_2, le_3, okb, okt, exb, ext_, sq_nx, sq_rt, sq_ex, ac_nx, ac_rt, ac_ex, fr_n, fr_s, fr_o, oo_n, oo_s, oo_i, oo_b, fin, argF, consF, slotF, ioF, tupF, lstF, dctF, twoF, oneF, chainF, notF, ifF, andF, orF, slF, biF, callG, mthF, pmF, lcF, yesF, varT, readVar, moveVar, setFs, parFs, subFs, dropFs, ifFs, forFs, retFs, raiseFs, raisexFs, mkF, mkxF, htFs, tryFs, hdFs, seqFs, walF, subF, nmF, unpF, putT, putTs, onBl, Ar.get, gets, valsOf, ofRes, mkSl, callF, ioArg, ioArgs, hold1, holds, back, assignT, assignT.assignN, wipeE, putBack, unlock, SR.calm, SR.onEnv, srcOf, seqD, ixR, Option.bind_some, Option.map_some, Option.bind_none, Option.map_none, List.map_cons, List.map_nil, List.cons_append, List.nil_append, if_true, if_false, reduceIte, Bool.false_eq_true, Bool.true_and, Bool.and_true, Option.isSome_some, List.contains_nil, Bool.not_false, Bool.not_true, tyO, tyD, neD, eqD, isNoneB, isLst, f3]
  have s0 : exS Pg.gcs (run Pg (n + 4)) Pg.isa (.par 6 7 (.call 12 (.cons (.io 0) .nil) []) (.call 12 (.cons (.io 0) .nil) [])) [some ⟨.io, d⟩, py, wo, shS (.int 5), x4, x5, x6, x7] = .nx [some ⟨.io, d2⟩, py, wo, shS (.int 5), x4, x5, shS v, shS u] := by
    simp only [ev_int, ev_str, ev_bl, ev_non, ev_bty, ev_gc, ev_mov, ev_tup, ev_lst, ev_dct, ev_odc, ev_op2, ev_ch, ev_neg, ev_and, ev_or, ev_ife, ev_sub, ev_sl, ev_bi, ev_call, ev_mth, ev_pm, ev_lc, ev_mk, ev_mkx, ev_fld, ev_isx, ev_join, ev_var, ev_varT, ev_notT, ev_notF, ea_e, ea_s, ea_io, es_nil, es_cons, eand_1, eand_2, eor_1, eor_2, ei_nil, ei_1, ex_set, ex_tgt, ex_par, ex_sub, ex_ex, ex_ifs, ex_for_, ex_whl, ex_whw, ex_ret, ex_retN, ex_raise, ex_raisex, ex_try_, ex_pass, ex_brk, ex_ctn, ex_doc, xs_nil, xs_cons, xh_nil, xh_cons, xh_tup, gs_0, ss_0, ge_0, st_0, gs_1, ss_1, ge_1, st_1, gs_2, ss_2, ge_2, st_2, gs_3, ss_3, ge_3, st_3, gs_4, ss_4, ge_4, st_4, gs_5, ss_5, ge_5, st_5, gs_6, ss_6, ge_6, st_6, gs_7, ss_7, ge_7, st_7, gs_8, ss_8, ge_8, st_8, gs_9, ss_9, ge_9, st_9, gs_10, ss_10, ge_10, st_10, so_add, so_sub, so_mul, so_fdiv, so_mod, so_pow, so_eq, so_ne, so_lt, so_le, so_gt, so_ge, so_in, so_nin, so_is, so_isn, d_add, d_addt, d_addl, d_sub, d_mul, d_div, d_mod, d_lt, d_cmp, b_lent, b_lenl, b_lenf, b_abs, b_int, b_intb, b_listl, b_listf, b_listt, b_tupl, b_tupt, b_max2, b_min2, b_all, b_any, b_isi, b_dict, b_listd, b_sorted, b_min1, t_bl, t_int, t_non, t_lst, t_tup, l_tup, l_lst, l_fz, m_app, m_popat, ol_0, ol_1, ol_2, ol_3, ol_4, ol_5, ol_6, ol_7, ol_8, ol_9, ol_10, nd_0, nd_1, nd_0_1, nd_0_2, nd_0_3, nd_0_4, nd_0_5, nd_0_6, nd_0_7, nd_1_0, nd_1_2, nd_1_3, nd_1_4, nd_1_5, nd_1_6, nd_1_7, nd_2_0, nd_2_1, nd_2_3, nd_2_4, nd_2_5, nd_2_6, nd_2_7, nd_3_0, nd_3_1, nd_3_2, nd_3_4, nd_3_5, nd_3_6, nd_3_7, nd_4_0, nd_4_1, nd_4_2, nd_4_3, nd_4_5, nd_4_6, nd_4_7, nd_5_0, nd_5_1, nd_5_2, nd_5_3, nd_5_4, nd_5_6, nd_5_7, nd_6_0, nd_6_1, nd_6_2, nd_6_3, nd_6_4, nd_6_5, nd_6_7, nd_7_0, nd_7_1, nd_7_2, nd_7_3, nd_7_4, nd_7_5, nd_7_6, kb_NoneType_int, kb_NoneType_bool, kb_NoneType_tuple, kb_NoneType_str, kb_NoneType_list, kb_NoneType_dict, kb_bool_int, kb_bool_bool, kb_bool_tuple, kb_bool_str, kb_bool_list, kb_bool_dict, kb_int_int, kb_int_bool, kb_int_tuple, kb_int_str, kb_int_list, kb_int_dict, kb_str_int, kb_str_bool, kb_str_tuple, kb_str_str, kb_str_list, kb_str_dict, kb_tuple_int, kb_tuple_bool, kb_tuple_tuple, kb_tuple_str, kb_tuple_list, kb_tuple_dict, kb_list_int, kb_list_bool, kb_list_tuple, kb_list_str, kb_list_list, kb_list_dict, kb_dict_int, kb_dict_bool, kb_dict_tuple, kb_dict_str, kb_dict_list, kb_dict_dict, it_val, it_enum, it_zip, ow_nil, ow_cons, sn_n, sn_s, le_2, le_3, okb, okt, exb, ext_, sq_nx, sq_rt, sq_ex, ac_nx, ac_rt, ac_ex, fr_n, fr_s, fr_o, oo_n, oo_s, oo_i, oo_b, fin, argF, consF, slotF, ioF, tupF, lstF, dctF, twoF, oneF, chainF, notF, ifF, andF, orF, slF, biF, callG, mthF, pmF, lcF, yesF, varT, readVar, moveVar, setFs, parFs, subFs, dropFs, ifFs, forFs, retFs, raiseFs, raisexFs, mkF, mkxF, htFs, tryFs, hdFs, seqFs, walF, subF, nmF, unpF, putT, putTs, onBl, Ar.get, gets, valsOf, ofRes, mkSl, callF, ioArg, ioArgs, hold1, holds, back, assignT, assignT.assignN, wipeE, putBack, unlock, SR.calm, SR.onEnv, srcOf, seqD, ixR, Option.bind_some, Option.map_some, Option.bind_none, Option.map_none, List.map_cons, List.map_nil, List.cons_append, List.nil_append, if_true, if_false, reduceIte, Bool.false_eq_true, Bool.true_and, Bool.and_true, Option.isSome_some, List.contains_nil, Bool.not_false, Bool.not_true, tyO, tyD, neD, eqD, isNoneB, isLst, e1, e2, f6, f7]
  have s1 : exS Pg.gcs (run Pg (n + 4)) Pg.isa (.set 4 (.call 4 (.cons (.s 3) (.cons (.s 6) .nil)) [])) [some ⟨.io, d2⟩, py, wo, shS (.int 5), x4, x5, shS v, shS u] = .nx [some ⟨.io, d2⟩, py, wo, shS (.int 5), shS (.exc 16 [("many", v)]), x5, shS v, shS u] := by
    simp only [ev_int, ev_str, ev_bl, ev_non, ev_bty, ev_gc, ev_mov, ev_tup, ev_lst, ev_dct, ev_odc, ev_op2, ev_ch, ev_neg, ev_and, ev_or, ev_ife, ev_sub, ev_sl, ev_bi, ev_call, ev_mth, ev_pm, ev_lc, ev_mk, ev_mkx, ev_fld, ev_isx, ev_join, ev_var, ev_varT, ev_notT, ev_notF, ea_e, ea_s, ea_io, es_nil, es_cons, eand_1, eand_2, eor_1, eor_2, ei_nil, ei_1, ex_set, ex_tgt, ex_par, ex_sub, ex_ex, ex_ifs, ex_for_, ex_whl, ex_whw, ex_ret, ex_retN, ex_raise, ex_raisex, ex_try_, ex_pass, ex_brk, ex_ctn, ex_doc, xs_nil, xs_cons, xh_nil, xh_cons, xh_tup, gs_0, ss_0, ge_0, st_0, gs_1, ss_1, ge_1, st_1, gs_2, ss_2, ge_2, st_2, gs_3, ss_3, ge_3, st_3, gs_4, ss_4, ge_4, st_4, gs_5, ss_5, ge_5, st_5, gs_6, ss_6, ge_6, st_6, gs_7, ss_7, ge_7, st_7, gs_8, ss_8, ge_8, st_8, gs_9, ss_9, ge_9, st_9, gs_10, ss_10, ge_10, st_10, so_add, so_sub, so_mul, so_fdiv, so_mod, so_pow, so_eq, so_ne, so_lt, so_le, so_gt, so_ge, so_in, so_nin, so_is, so_isn, d_add, d_addt, d_addl, d_sub, d_mul, d_div, d_mod, d_lt, d_cmp, b_lent, b_lenl, b_lenf, b_abs, b_int, b_intb, b_listl, b_listf, b_listt, b_tupl, b_tupt, b_max2, b_min2, b_all, b_any, b_isi, b_dict, b_listd, b_sorted, b_min1, t_bl, t_int, t_non, t_lst, t_tup, l_tup, l_lst, l_fz, m_app, m_popat, ol_0, ol_1, ol_2, ol_3, ol_4, ol_5, ol_6, ol_7, ol_8, ol_9, ol_10, nd_0, nd_1, nd_0_1, nd_0_2, nd_0_3, nd_0_4, nd_0_5, nd_0_6, nd_0_7, nd_1_0, nd_1_2, nd_1_3, nd_1_4, nd_1_5, nd_1_6, nd_1_7, nd_2_0, nd_2_1, nd_2_3, nd_2_4, nd_2_5, nd_2_6, nd_2_7, nd_3_0, nd_3_1, nd_3_2, nd_3_4, nd_3_5, nd_3_6, nd_3_7, nd_4_0, nd_4_1, nd_4_2, nd_4_3, nd_4_5, nd_4_6, nd_4_7, nd_5_0, nd_5_1, nd_5_2, nd_5_3, nd_5_4, nd_5_6, nd_5_7, nd_6_0, nd_6_1, nd_6_2, nd_6_3, nd_6_4, nd_6_5, nd_6_7, nd_7_0, nd_7_1, nd_7_2, nd_7_3, nd_7_4, nd_7_5, nd_7_6, kb_NoneType_int, kb_NoneType_bool, kb_NoneType_tuple, kb_NoneType_str, kb_NoneType_list, kb_NoneType_dict, kb_bool_int, kb_bool_bool, kb_bool_tuple, kb_bool_str, kb_bool_list, kb_bool_dict, kb_int_int, kb_int_bool, kb_int_tuple, kb_int_str, kb_int_list, kb_int_dict, kb_str_int, kb_str_bool, kb_str_tuple, kb_str_str, kb_str_list, kb_str_dict, kb_tuple_int, kb_tuple_bool, kb_tuple_tuple, kb_tuple_str, kb_tuple_list, kb_tuple_dict, kb_list_int, kb_list_bool, kb_list_tuple, kb_list_str, kb_list_list, kb_list_dict, kb_dict_int, kb_dict_bool, kb_dict_tuple, kb_dict_str, kb_dict_list, kb_dict_dict, it_val, it_enum, it_zip, ow_nil, ow_cons, sn_n, sn_s, le_2, le_3, okb, okt, exb, ext_, sq_nx, sq_rt, sq_ex, ac_nx, ac_rt, ac_ex, fr_n, fr_s, fr_o, oo_n, oo_s, oo_i, oo_b, fin, argF, consF, slotF, ioF, tupF, lstF, dctF, twoF, oneF, chainF, notF, ifF, andF, orF, slF, biF, callG, mthF, pmF, lcF, yesF, varT, readVar, moveVar, setFs, parFs, subFs, dropFs, ifFs, forFs, retFs, raiseFs, raisexFs, mkF, mkxF, htFs, tryFs, hdFs, seqFs, walF, subF, nmF, unpF, putT, putTs, onBl, Ar.get, gets, valsOf, ofRes, mkSl, callF, ioArg, ioArgs, hold1, holds, back, assignT, assignT.assignN, wipeE, putBack, unlock, SR.calm, SR.onEnv, srcOf, seqD, ixR, Option.bind_some, Option.map_some, Option.bind_none, Option.map_none, List.map_cons, List.map_nil, List.cons_append, List.nil_append, if_true, if_false, reduceIte, Bool.false_eq_true, Bool.true_and, Bool.and_true, Option.isSome_some, List.contains_nil, Bool.not_false, Bool.not_true, tyO, tyD, neD, eqD, isNoneB, isLst, ke_5, f4]
  have s2 : exS Pg.gcs (run Pg (n + 4)) Pg.isa (.set 5 (.call 4 (.cons (.s 3) (.cons (.s 7) .nil)) [])) [some ⟨.io, d2⟩, py, wo, shS (.int 5), shS (.exc 16 [("many", v)]), x5, shS v, shS u] = .nx [some ⟨.io, d2⟩, py, wo, shS (.int 5), shS (.exc 16 [("many", v)]), shS (.exc 16 [("many", u)]), shS v, shS u] := by
    simp only [ev_int, ev_str, ev_bl, ev_non, ev_bty, ev_gc, ev_mov, ev_tup, ev_lst, ev_dct, ev_odc, ev_op2, ev_ch, ev_neg, ev_and, ev_or, ev_ife, ev_sub, ev_sl, ev_bi, ev_call, ev_mth, ev_pm, ev_lc, ev_mk, ev_mkx, ev_fld, ev_isx, ev_join, ev_var, ev_varT, ev_notT, ev_notF, ea_e, ea_s, ea_io, es_nil, es_cons, eand_1, eand_2, eor_1, eor_2, ei_nil, ei_1, ex_set, ex_tgt, ex_par, ex_sub, ex_ex, ex_ifs, ex_for_, ex_whl, ex_whw, ex_ret, ex_retN, ex_raise, ex_raisex, ex_try_, ex_pass, ex_brk, ex_ctn, ex_doc, xs_nil, xs_cons, xh_nil, xh_cons, xh_tup, gs_0, ss_0, ge_0, st_0, gs_1, ss_1, ge_1, st_1, gs_2, ss_2, ge_2, st_2, gs_3, ss_3, ge_3, st_3, gs_4, ss_4, ge_4, st_4, gs_5, ss_5, ge_5, st_5, gs_6, ss_6, ge_6, st_6, gs_7, ss_7, ge_7, st_7, gs_8, ss_8, ge_8, st_8, gs_9, ss_9, ge_9, st_9, gs_10, ss_10, ge_10, st_10, so_add, so_sub, so_mul, so_fdiv, so_mod, so_pow, so_eq, so_ne, so_lt, so_le, so_gt, so_ge, so_in, so_nin, so_is, so_isn, d_add, d_addt, d_addl, d_sub, d_mul, d_div, d_mod, d_lt, d_cmp, b_lent, b_lenl, b_lenf, b_abs, b_int, b_intb, b_listl, b_listf, b_listt, b_tupl, b_tupt, b_max2, b_min2, b_all, b_any, b_isi, b_dict, b_listd, b_sorted, b_min1, t_bl, t_int, t_non, t_lst, t_tup, l_tup, l_lst, l_fz, m_app, m_popat, ol_0, ol_1, ol_2, ol_3, ol_4, ol_5, ol_6, ol_7, ol_8, ol_9, ol_10, nd_0, nd_1, nd_0_1, nd_0_2, nd_0_3, nd_0_4, nd_0_5, nd_0_6, nd_0_7, nd_1_0, nd_1_2, nd_1_3, nd_1_4, nd_1_5, nd_1_6, nd_1_7, nd_2_0, nd_2_1, nd_2_3, nd_2_4, nd_2_5, nd_2_6, nd_2_7, nd_3_0, nd_3_1, nd_3_2, nd_3_4, nd_3_5, nd_3_6, nd_3_7, nd_4_0, nd_4_1, nd_4_2, nd_4_3, nd_4_5, nd_4_6, nd_4_7, nd_5_0, nd_5_1, nd_5_2, nd_5_3, nd_5_4, nd_5_6, nd_5_7, nd_6_0, nd_6_1, nd_6_2, nd_6_3, nd_6_4, nd_6_5, nd_6_7, nd_7_0, nd_7_1, nd_7_2, nd_7_3, nd_7_4, nd_7_5, nd_7_6, kb_NoneType_int, kb_NoneType_bool, kb_NoneType_tuple, kb_NoneType_str, kb_NoneType_list, kb_NoneType_dict, kb_bool_int, kb_bool_bool, kb_bool_tuple, kb_bool_str, kb_bool_list, kb_bool_dict, kb_int_int, kb_int_bool, kb_int_tuple, kb_int_str, kb_int_list, kb_int_dict, kb_str_int, kb_str_bool, kb_str_tuple, kb_str_str, kb_str_list, kb_str_dict, kb_tuple_int, kb_tuple_bool, kb_tuple_tuple, kb_tuple_str, kb_tuple_list, kb_tuple_dict, kb_list_int, kb_list_bool, kb_list_tuple, kb_list_str, kb_list_list, kb_list_dict, kb_dict_int, kb_dict_bool, kb_dict_tuple, kb_dict_str, kb_dict_list, kb_dict_dict, it_val, it_enum, it_zip, ow_nil, ow_cons, sn_n, sn_s, le_2, le_3, okb, okt, exb, ext_, sq_nx, sq_rt, sq_ex, ac_nx, ac_rt, ac_ex, fr_n, fr_s, fr_o, oo_n, oo_s, oo_i, oo_b, fin, argF, consF, slotF, ioF, tupF, lstF, dctF, twoF, oneF, chainF, notF, ifF, andF, orF, slF, biF, callG, mthF, pmF, lcF, yesF, varT, readVar, moveVar, setFs, parFs, subFs, dropFs, ifFs, forFs, retFs, raiseFs, raisexFs, mkF, mkxF, htFs, tryFs, hdFs, seqFs, walF, subF, nmF, unpF, putT, putTs, onBl, Ar.get, gets, valsOf, ofRes, mkSl, callF, ioArg, ioArgs, hold1, holds, back, assignT, assignT.assignN, wipeE, putBack, unlock, SR.calm, SR.onEnv, srcOf, seqD, ixR, Option.bind_some, Option.map_some, Option.bind_none, Option.map_none, List.map_cons, List.map_nil, List.cons_append, List.nil_append, if_true, if_false, reduceIte, Bool.false_eq_true, Bool.true_and, Bool.and_true, Option.isSome_some, List.contains_nil, Bool.not_false, Bool.not_true, tyO, tyD, neD, eqD, isNoneB, isLst, ke_5, f5]
  have s3 : exS Pg.gcs (run Pg (n + 4)) Pg.isa (.ifs (.or (.cons (.e (.op2 .ne (.e (.bi .repr (.cons (.e (.call 5 (.cons (.s 3) (.cons (.s 4) .nil)) [])) .nil))) (.e (.bi .repr (.cons (.s 6) .nil))))) (.cons (.e (.op2 .ne (.e (.bi .repr (.cons (.e (.call 5 (.cons (.s 3) (.cons (.s 5) .nil)) [])) .nil))) (.e (.bi .repr (.cons (.s 7) .nil))))) .nil))) 
    (.cons (.ret (.bl false)) .nil) .nil) [some ⟨.io, d2⟩, py, wo, shS (.int 5), shS (.exc 16 [("many", v)]), shS (.exc 16 [("many", u)]), shS v, shS u] = .nx [some ⟨.io, d2⟩, py, wo, shS (.int 5), shS (.exc 16 [("many", v)]), shS (.exc 16 [("many", u)]), shS v, shS u] := by
    simp only [ev_int, ev_str, ev_bl, ev_non, ev_bty, ev_gc, ev_mov, ev_tup, ev_lst, ev_dct, ev_odc, ev_op2, ev_ch, ev_neg, ev_and, ev_or, ev_ife, ev_sub, ev_sl, ev_bi, ev_call, ev_mth, ev_pm, ev_lc, ev_mk, ev_mkx, ev_fld, ev_isx, ev_join, ev_var, ev_varT, ev_notT, ev_notF, ea_e, ea_s, ea_io, es_nil, es_cons, eand_1, eand_2, eor_1, eor_2, ei_nil, ei_1, ex_set, ex_tgt, ex_par, ex_sub, ex_ex, ex_ifs, ex_for_, ex_whl, ex_whw, ex_ret, ex_retN, ex_raise, ex_raisex, ex_try_, ex_pass, ex_brk, ex_ctn, ex_doc, xs_nil, xs_cons, xh_nil, xh_cons, xh_tup, gs_0, ss_0, ge_0, st_0, gs_1, ss_1, ge_1, st_1, gs_2, ss_2, ge_2, st_2, gs_3, ss_3, ge_3, st_3, gs_4, ss_4, ge_4, st_4, gs_5, ss_5, ge_5, st_5, gs_6, ss_6, ge_6, st_6, gs_7, ss_7, ge_7, st_7, gs_8, ss_8, ge_8, st_8, gs_9, ss_9, ge_9, st_9, gs_10, ss_10, ge_10, st_10, so_add, so_sub, so_mul, so_fdiv, so_mod, so_pow, so_eq, so_ne, so_lt, so_le, so_gt, so_ge, so_in, so_nin, so_is, so_isn, d_add, d_addt, d_addl, d_sub, d_mul, d_div, d_mod, d_lt, d_cmp, b_lent, b_lenl, b_lenf, b_abs, b_int, b_intb, b_listl, b_listf, b_listt, b_tupl, b_tupt, b_max2, b_min2, b_all, b_any, b_isi, b_dict, b_listd, b_sorted, b_min1, t_bl, t_int, t_non, t_lst, t_tup, l_tup, l_lst, l_fz, m_app, m_popat, ol_0, ol_1, ol_2, ol_3, ol_4, ol_5, ol_6, ol_7, ol_8, ol_9, ol_10, nd_0, nd_1, nd_0_1, nd_0_2, nd_0_3, nd_0_4, nd_0_5, nd_0_6, nd_0_7, nd_1_0, nd_1_2, nd_1_3, nd_1_4, nd_1_5, nd_1_6, nd_1_7, nd_2_0, nd_2_1, nd_2_3, nd_2_4, nd_2_5, nd_2_6, nd_2_7, nd_3_0, nd_3_1, nd_3_2, nd_3_4, nd_3_5, nd_3_6, nd_3_7, nd_4_0, nd_4_1, nd_4_2, nd_4_3, nd_4_5, nd_4_6, nd_4_7, nd_5_0, nd_5_1, nd_5_2, nd_5_3, nd_5_4, nd_5_6, nd_5_7, nd_6_0, nd_6_1, nd_6_2, nd_6_3, nd_6_4, nd_6_5, nd_6_7, nd_7_0, nd_7_1, nd_7_2, nd_7_3, nd_7_4, nd_7_5, nd_7_6, kb_NoneType_int, kb_NoneType_bool, kb_NoneType_tuple, kb_NoneType_str, kb_NoneType_list, kb_NoneType_dict, kb_bool_int, kb_bool_bool, kb_bool_tuple, kb_bool_str, kb_bool_list, kb_bool_dict, kb_int_int, kb_int_bool, kb_int_tuple, kb_int_str, kb_int_list, kb_int_dict, kb_str_int, kb_str_bool, kb_str_tuple, kb_str_str, kb_str_list, kb_str_dict, kb_tuple_int, kb_tuple_bool, kb_tuple_tuple, kb_tuple_str, kb_tuple_list, kb_tuple_dict, kb_list_int, kb_list_bool, kb_list_tuple, kb_list_str, kb_list_list, kb_list_dict, kb_dict_int, kb_dict_bool, kb_dict_tuple, kb_dict_str, kb_dict_list, kb_dict_dict, it_val, it_enum, it_zip, ow_nil, ow_cons, sn_n, sn_s, le_2, le_3, okb, okt, exb, ext_, sq_nx, sq_rt, sq_ex, ac_nx, ac_rt, ac_ex, fr_n, fr_s, fr_o, oo_n, oo_s, oo_i, oo_b, fin, argF, consF, slotF, ioF, tupF, lstF, dctF, twoF, oneF, chainF, notF, ifF, andF, orF, slF, biF, callG, mthF, pmF, lcF, yesF, varT, readVar, moveVar, setFs, parFs, subFs, dropFs, ifFs, forFs, retFs, raiseFs, raisexFs, mkF, mkxF, htFs, tryFs, hdFs, seqFs, walF, subF, nmF, unpF, putT, putTs, onBl, Ar.get, gets, valsOf, ofRes, mkSl, callF, ioArg, ioArgs, hold1, holds, back, assignT, assignT.assignN, wipeE, putBack, unlock, SR.calm, SR.onEnv, srcOf, seqD, ixR, Option.bind_some, Option.map_some, Option.bind_none, Option.map_none, List.map_cons, List.map_nil, List.cons_append, List.nil_append, if_true, if_false, reduceIte, Bool.false_eq_true, Bool.true_and, Bool.and_true, Option.isSome_some, List.contains_nil, Bool.not_false, Bool.not_true, tyO, tyD, neD, eqD, isNoneB, isLst, kp_5, V1, V2, eq_str]
  unfold foTurn kBody
  rw [sa]
  dsimp only
  rw [seq_go s0, seq_go s1, seq_go s2, seq_go s3]
  exact kr_5
theorem ke_6 {n : Nat} {v : D} : run Pg (n + 4) 4 [⟨.sh, .int 6⟩, ⟨.sh, v⟩] = .ok (.exc 17 [("limit", v)]) .sh [none, none] := by rfl
theorem kp_6 {n : Nat} {v : D} : run Pg (n + 4) 5 [⟨.sh, .int 6⟩, ⟨.sh, (.exc 17 [("limit", v)])⟩] = .ok v .sh [none, none] := by rfl
theorem kr_6 {n : Nat} {d v u : D} : exSs Pg.gcs (run Pg (n + 4)) Pg.isa (.cons (.ifs (.op2 .ne (.e (.call 6 (.cons (.s 4) .nil) [])) (.e (.call 8 (.cons (.e (.ife (.op2 .lt (.s 3) (.e (.int 3))) (.tup (.cons (.e (.op2 .add (.e (.int 10)) (.s 3))) (.cons (.e (.int 19)) .nil))) (.tup (.cons (.e (.op2 .add (.e (.int 10)) (.s 3))) .nil)))) (.cons (.e (.int 20)) .nil)) []))) 
    (.cons (.ret (.bl false)) .nil) .nil) (.cons (.ifs (.or (.cons (.e (.op2 .ne (.e (.call 7 (.cons (.s 4) .nil) [])) (.e (.call 8 (.cons (.e (.sub (.s 1) (.s 3))) (.cons (.e (.int 8)) .nil)) [])))) (.cons (.e (.op2 .ne (.e (.call 10 (.cons (.s 3) (.cons (.s 6) .nil)) [])) (.e (.sub (.s 2) (.s 3))))) .nil))) 
    (.cons (.ret (.bl false)) .nil) .nil) .nil)) [some ⟨.io, d⟩, py, wo, shS (.int 6), shS (.exc 17 [("limit", v)]), shS (.exc 17 [("limit", u)]), shS v, shS u] = .nx [some ⟨.io, d⟩, py, wo, shS (.int 6), shS (.exc 17 [("limit", v)]), shS (.exc 17 [("limit", u)]), shS v, shS u] := by rfl
theorem kt_6 {n k : Nat} {d : D} {x3 x4 x5 x6 x7 : Option Sl} (R : Reel k d) (hk : k + 200 ≤ 2 ^ 40) (f3 : free x3 = true) (f4 : free x4 = true) (f5 : free x5 = true) (f6 : free x6 = true) (f7 : free x7 = true) :
    ∃ d' v u, foTurn (.nm 3) (kBody n) (.int 6) [some ⟨.io, d⟩, py, wo, x3, x4, x5, x6, x7] = .nx [some ⟨.io, d'⟩, py, wo, shS (.int 6), shS (.exc 17 [("limit", v)]), shS (.exc 17 [("limit", u)]), shS v, shS u] ∧ Reel (k + 60) d' := by
  obtain ⟨v, d1, e1, ⟨x, V1⟩, R1⟩ := value_ok (n := n) R (by omega)
  obtain ⟨u, d2, e2, ⟨y, V2⟩, R2⟩ := value_ok (n := n) R1 (by omega)
  refine ⟨d2, v, u, ?_, R2⟩
  have sa : assignT [some ⟨.io, d⟩, py, wo, x3, x4, x5, x6, x7] (.int 6) (.nm 3) = some [some ⟨.io, d⟩, py, wo, shS (.int 6), x4, x5, x6, x7] := by simp only [ev_int, ev_str, ev_bl, ev_non, ev_bty, ev_gc, ev_mov, ev_tup, ev_lst, ev_dct, ev_odc, ev_op2, ev_ch, ev_neg, ev_and, ev_or, ev_ife, ev_sub, ev_sl, ev_bi, ev_call, ev_mth, ev_pm, ev_lc, ev_mk, ev_mkx, ev_fld, ev_isx, ev_join, ev_var, ev_varT, ev_notT, ev_notF, ea_e, ea_s, ea_io, es_nil, es_cons, eand_1, eand_2, eor_1, eor_2, ei_nil, ei_1, ex_set, ex_tgt, ex_par, ex_sub, ex_ex, ex_ifs, ex_for_, ex_whl, ex_whw, ex_ret, ex_retN, ex_raise, ex_raisex, ex_try_, ex_pass, ex_brk, ex_ctn, ex_doc, xs_nil, xs_cons, xh_nil, xh_cons, xh_tup, gs_0, ss_0, ge_0, st_0, gs_1, ss_1, ge_1, st_1, gs_2, ss_2, ge_2, st_2, gs_3, ss_3, ge_3, st_3, gs_4, ss_4, ge_4, st_4, gs_5, ss_5, ge_5, st_5, gs_6, ss_6, ge_6, st_6, gs_7, ss_7, ge_7, st_7, gs_8, ss_8, ge_8, st_8, gs_9, ss_9, ge_9, st_9, gs_10, ss_10, ge_10, st_10, so_add, so_sub, so_mul, so_fdiv, so_mod, so_pow, so_eq, so_ne, so_lt, so_le, so_gt, so_ge, so_in, so_nin, so_is, so_isn, d_add, d_addt, d_addl, d_sub, d_mul, d_div, d_mod, d_lt, d_cmp, b_lent, b_lenl, b_lenf, b_abs, b_int, b_intb, b_listl, b_listf, b_listt, b_tupl, b_tupt, b_max2, b_min2, b_all, b_any, b_isi, b_dict, b_listd, b_sorted, b_min1, t_bl, t_int, t_non, t_lst, t_tup, l_tup, l_lst, l_fz, m_app, m_popat, ol_0, ol_1, ol_2, ol_3, ol_4, ol_5, ol_6, ol_7, ol_8, ol_9, ol_10, nd_0, nd_1, nd_0_1, nd_0_2, nd_0_3, nd_0_4, nd_0_5, nd_0_6, nd_0_7, nd_1_0, nd_1_2, nd_1_3, nd_1_4, nd_1_5, nd_1_6, nd_1_7, nd_2_0, nd_2_1, nd_2_3, nd_2_4, nd_2_5, nd_2_6, nd_2_7, nd_3_0, nd_3_1, nd_3_2, nd_3_4, nd_3_5, nd_3_6, nd_3_7, nd_4_0, nd_4_1, nd_4_2, nd_4_3, nd_4_5, nd_4_6, nd_4_7, nd_5_0, nd_5_1, nd_5_2, nd_5_3, nd_5_4, nd_5_6, nd_5_7, nd_6_0, nd_6_1, nd_6_2, nd_6_3, nd_6_4, nd_6_5, nd_6_7, nd_7_0, nd_7_1, nd_7_2, nd_7_3, nd_7_4, nd_7_5, nd_7_6, kb_NoneType_int, kb_NoneType_bool, kb_NoneType_tuple, kb_NoneType_str, kb_NoneType_list, kb_NoneType_dict, kb_bool_int, kb_bool_bool, kb_bool_tuple, kb_bool_str, kb_bool_list, kb_bool_dict, kb_int_int, kb_int_bool, kb_int_tuple, kb_int_str, kb_int_list, kb_int_dict, kb_str_int, kb_str_bool, kb_str_tuple, kb_str_str, kb_str_list, kb_str_dict, kb_tuple_int, kb_tuple_bool, kb_tuple_tuple, kb_tuple_str, kb_tuple_list, kb_tuple_dict, kb_list_int, kb_list_bool, kb_list_tuple, kb_list_str, kb_list_list, kb_list_dict, kb_dict_int, kb_dict_bool, kb_dict_tuple, kb_dict_str, kb_dict_list, kb_dict_dict, it_val, it_enum, it_zip, ow_nil, ow_cons, sn_n, sn_s, le_2, le_3, okb, okt, exb, ext_, sq_nx, sq_rt, sq_ex, ac_nx, ac_rt, ac_ex, fr_n, fr_s, fr_o, oo_n, oo_s, oo_i, oo_b, fin, argF, consF, slotF, ioF, tupF, lstF, dctF, twoF, oneF, chainF, notF, ifF, andF, orF, slF, biF, callG, mthF, pmF, lcF, yesF, varT, readVar, moveVar, setFs, parFs, subFs, dropFs, ifFs, forFs, retFs, raiseFs, raisexFs, mkF, mkxF, htFs, tryFs, hdFs, seqFs, walF, subF, nmF, unpF, putT, putTs, onBl, Ar.get, gets, valsOf, ofRes, mkSl, callF, ioArg, ioArgs, hold1, holds, back, assignT, assignT.assignN, wipeE, putBack, unlock, SR.calm, SR.onEnv, srcOf, seqD, ixR, Option.bind_some, Option.map_some, Option.bind_none, Option.map_none, List.map_cons, List.map_nil, List.cons_append, List.nil_append, if_true, if_false, reduceIte, Bool.false_eq_true, Bool.true_and, Bool.and_true, Option.isSome_some, List.contains_nil, Bool.not_false, Bool.not_true, tyO, tyD, neD, eqD, isNoneB, isLst, f3]
  have s0 : exS Pg.gcs (run Pg (n + 4)) Pg.isa (.par 6 7 (.call 12 (.cons (.io 0) .nil) []) (.call 12 (.cons (.io 0) .nil) [])) [some ⟨.io, d⟩, py, wo, shS (.int 6), x4, x5, x6, x7] = .nx [some ⟨.io, d2⟩, py, wo, shS (.int 6), x4, x5, shS v, shS u] := by
    simp only [ev_int, ev_str, ev_bl, ev_non, ev_bty, ev_gc, ev_mov, ev_tup, ev_lst, ev_dct, ev_odc, ev_op2, ev_ch, ev_neg, ev_and, ev_or, ev_ife, ev_sub, ev_sl, ev_bi, ev_call, ev_mth, ev_pm, ev_lc, ev_mk, ev_mkx, ev_fld, ev_isx, ev_join, ev_var, ev_varT, ev_notT, ev_notF, ea_e, ea_s, ea_io, es_nil, es_cons, eand_1, eand_2, eor_1, eor_2, ei_nil, ei_1, ex_set, ex_tgt, ex_par, ex_sub, ex_ex, ex_ifs, ex_for_, ex_whl, ex_whw, ex_ret, ex_retN, ex_raise, ex_raisex, ex_try_, ex_pass, ex_brk, ex_ctn, ex_doc, xs_nil, xs_cons, xh_nil, xh_cons, xh_tup, gs_0, ss_0, ge_0, st_0, gs_1, ss_1, ge_1, st_1, gs_2, ss_2, ge_2, st_2, gs_3, ss_3, ge_3, st_3, gs_4, ss_4, ge_4, st_4, gs_5, ss_5, ge_5, st_5, gs_6, ss_6, ge_6, st_6, gs_7, ss_7, ge_7, st_7, gs_8, ss_8, ge_8, st_8, gs_9, ss_9, ge_9, st_9, gs_10, ss_10, ge_10, st_10, so_add, so_sub, so_mul, so_fdiv, so_mod, so_pow, so_eq, so_ne, so_lt, so_le, so_gt, so_ge, so_in, so_nin, so_is, so_isn, d_add, d_addt, d_addl, d_sub, d_mul, d_div, d_mod, d_lt, d_cmp, b_lent, b_lenl, b_lenf, b_abs, b_int, b_intb, b_listl, b_listf, b_listt, b_tupl, b_tupt, b_max2, b_min2, b_all, b_any, b_isi, b_dict, b_listd, b_sorted, b_min1, t_bl, t_int, t_non, t_lst, t_tup, l_tup, l_lst, l_fz, m_app, m_popat, ol_0, ol_1, ol_2, ol_3, ol_4, ol_5, ol_6, ol_7, ol_8, ol_9, ol_10, nd_0, nd_1, nd_0_1, nd_0_2, nd_0_3, nd_0_4, nd_0_5, nd_0_6, nd_0_7, nd_1_0, nd_1_2, nd_1_3, nd_1_4, nd_1_5, nd_1_6, nd_1_7, nd_2_0, nd_2_1, nd_2_3, nd_2_4, nd_2_5, nd_2_6, nd_2_7, nd_3_0, nd_3_1, nd_3_2, nd_3_4, nd_3_5, nd_3_6, nd_3_7, nd_4_0, nd_4_1, nd_4_2, nd_4_3, nd_4_5, nd_4_6, nd_4_7, nd_5_0, nd_5_1, nd_5_2, nd_5_3, nd_5_4, nd_5_6, nd_5_7, nd_6_0, nd_6_1, nd_6_2, nd_6_3, nd_6_4, nd_6_5, nd_6_7, nd_7_0, nd_7_1, nd_7_2, nd_7_3, nd_7_4, nd_7_5, nd_7_6, kb_NoneType_int, kb_NoneType_bool, kb_NoneType_tuple, kb_NoneType_str, kb_NoneType_list, kb_NoneType_dict, kb_bool_int, kb_bool_bool, kb_bool_tuple, kb_bool_str, kb_bool_list, kb_bool_dict, kb_int_int, kb_int_bool, kb_int_tuple, kb_int_str, kb_int_list, kb_int_dict, kb_str_int, kb_str_bool, kb_str_tuple, kb_str_str, kb_str_list, kb_str_dict, kb_tuple_int, kb_tuple_bool, kb_tuple_tuple, kb_tuple_str, kb_tuple_list, kb_tuple_dict, kb_list_int, kb_list_bool, kb_list_tuple, kb_list_str, kb_list_list, kb_list_dict, kb_dict_int, kb_dict_bool, kb_dict_tuple, kb_dict_str, kb_dict_list, kb_dict_dict, it_val, it_enum, it_zip, ow_nil, ow_cons, sn_n, sn_s, le_2, le_3, okb, okt, exb, ext_, sq_nx, sq_rt, sq_ex, ac_nx, ac_rt, ac_ex, fr_n, fr_s, fr_o, oo_n, oo_s, oo_i, oo_b, fin, argF, consF, slotF, ioF, tupF, lstF, dctF, twoF, oneF, chainF, notF, ifF, andF, orF, slF, biF, callG, mthF, pmF, lcF, yesF, varT, readVar, moveVar, setFs, parFs, subFs, dropFs, ifFs, forFs, retFs, raiseFs, raisexFs, mkF, mkxF, htFs, tryFs, hdFs, seqFs, walF, subF, nmF, unpF, putT, putTs, onBl, Ar.get, gets, valsOf, ofRes, mkSl, callF, ioArg, ioArgs, hold1, holds, back, assignT, assignT.assignN, wipeE, putBack, unlock, SR.calm, SR.onEnv, srcOf, seqD, ixR, Option.bind_some, Option.map_some, Option.bind_none, Option.map_none, List.map_cons, List.map_nil, List.cons_append, List.nil_append, if_true, if_false, reduceIte, Bool.false_eq_true, Bool.true_and, Bool.and_true, Option.isSome_some, List.contains_nil, Bool.not_false, Bool.not_true, tyO, tyD, neD, eqD, isNoneB, isLst, e1, e2, f6, f7]
  have s1 : exS Pg.gcs (run Pg (n + 4)) Pg.isa (.set 4 (.call 4 (.cons (.s 3) (.cons (.s 6) .nil)) [])) [some ⟨.io, d2⟩, py, wo, shS (.int 6), x4, x5, shS v, shS u] = .nx [some ⟨.io, d2⟩, py, wo, shS (.int 6), shS (.exc 17 [("limit", v)]), x5, shS v, shS u] := by
    simp only [ev_int, ev_str, ev_bl, ev_non, ev_bty, ev_gc, ev_mov, ev_tup, ev_lst, ev_dct, ev_odc, ev_op2, ev_ch, ev_neg, ev_and, ev_or, ev_ife, ev_sub, ev_sl, ev_bi, ev_call, ev_mth, ev_pm, ev_lc, ev_mk, ev_mkx, ev_fld, ev_isx, ev_join, ev_var, ev_varT, ev_notT, ev_notF, ea_e, ea_s, ea_io, es_nil, es_cons, eand_1, eand_2, eor_1, eor_2, ei_nil, ei_1, ex_set, ex_tgt, ex_par, ex_sub, ex_ex, ex_ifs, ex_for_, ex_whl, ex_whw, ex_ret, ex_retN, ex_raise, ex_raisex, ex_try_, ex_pass, ex_brk, ex_ctn, ex_doc, xs_nil, xs_cons, xh_nil, xh_cons, xh_tup, gs_0, ss_0, ge_0, st_0, gs_1, ss_1, ge_1, st_1, gs_2, ss_2, ge_2, st_2, gs_3, ss_3, ge_3, st_3, gs_4, ss_4, ge_4, st_4, gs_5, ss_5, ge_5, st_5, gs_6, ss_6, ge_6, st_6, gs_7, ss_7, ge_7, st_7, gs_8, ss_8, ge_8, st_8, gs_9, ss_9, ge_9, st_9, gs_10, ss_10, ge_10, st_10, so_add, so_sub, so_mul, so_fdiv, so_mod, so_pow, so_eq, so_ne, so_lt, so_le, so_gt, so_ge, so_in, so_nin, so_is, so_isn, d_add, d_addt, d_addl, d_sub, d_mul, d_div, d_mod, d_lt, d_cmp, b_lent, b_lenl, b_lenf, b_abs, b_int, b_intb, b_listl, b_listf, b_listt, b_tupl, b_tupt, b_max2, b_min2, b_all, b_any, b_isi, b_dict, b_listd, b_sorted, b_min1, t_bl, t_int, t_non, t_lst, t_tup, l_tup, l_lst, l_fz, m_app, m_popat, ol_0, ol_1, ol_2, ol_3, ol_4, ol_5, ol_6, ol_7, ol_8, ol_9, ol_10, nd_0, nd_1, nd_0_1, nd_0_2, nd_0_3, nd_0_4, nd_0_5, nd_0_6, nd_0_7, nd_1_0, nd_1_2, nd_1_3, nd_1_4, nd_1_5, nd_1_6, nd_1_7, nd_2_0, nd_2_1, nd_2_3, nd_2_4, nd_2_5, nd_2_6, nd_2_7, nd_3_0, nd_3_1, nd_3_2, nd_3_4, nd_3_5, nd_3_6, nd_3_7, nd_4_0, nd_4_1, nd_4_2, nd_4_3, nd_4_5, nd_4_6, nd_4_7, nd_5_0, nd_5_1, nd_5_2, nd_5_3, nd_5_4, nd_5_6, nd_5_7, nd_6_0, nd_6_1, nd_6_2, nd_6_3, nd_6_4, nd_6_5, nd_6_7, nd_7_0, nd_7_1, nd_7_2, nd_7_3, nd_7_4, nd_7_5, nd_7_6, kb_NoneType_int, kb_NoneType_bool, kb_NoneType_tuple, kb_NoneType_str, kb_NoneType_list, kb_NoneType_dict, kb_bool_int, kb_bool_bool, kb_bool_tuple, kb_bool_str, kb_bool_list, kb_bool_dict, kb_int_int, kb_int_bool, kb_int_tuple, kb_int_str, kb_int_list, kb_int_dict, kb_str_int, kb_str_bool, kb_str_tuple, kb_str_str, kb_str_list, kb_str_dict, kb_tuple_int, kb_tuple_bool, kb_tuple_tuple, kb_tuple_str, kb_tuple_list, kb_tuple_dict, kb_list_int, kb_list_bool, kb_list_tuple, kb_list_str, kb_list_list, kb_list_dict, kb_dict_int, kb_dict_bool, kb_dict_tuple, kb_dict_str, kb_dict_list, kb_dict_dict, it_val, it_enum, it_zip, ow_nil, ow_cons, sn_n, sn_s, le_2, le_3, okb, okt, exb, ext_, sq_nx, sq_rt, sq_ex, ac_nx, ac_rt, ac_ex, fr_n, fr_s, fr_o, oo_n, oo_s, oo_i, oo_b, fin, argF, consF, slotF, ioF, tupF, lstF, dctF, twoF, oneF, chainF, notF, ifF, andF, orF, slF, biF, callG, mthF, pmF, lcF, yesF, varT, readVar, moveVar, setFs, parFs, subFs, dropFs, ifFs, forFs, retFs, raiseFs, raisexFs, mkF, mkxF, htFs, tryFs, hdFs, seqFs, walF, subF, nmF, unpF, putT, putTs, onBl, Ar.get, gets, valsOf, ofRes, mkSl, callF, ioArg, ioArgs, hold1, holds, back, assignT, assignT.assignN, wipeE, putBack, unlock, SR.calm, SR.onEnv, srcOf, seqD, ixR, Option.bind_some, Option.map_some, Option.bind_none, Option.map_none, List.map_cons, List.map_nil, List.cons_append, List.nil_append, if_true, if_false, reduceIte, Bool.false_eq_true, Bool.true_and, Bool.and_true, Option.isSome_some, List.contains_nil, Bool.not_false, Bool.not_true, tyO, tyD, neD, eqD, isNoneB, isLst, ke_6, f4]
  have s2 : exS Pg.gcs (run Pg (n + 4)) Pg.isa (.set 5 (.call 4 (.cons (.s 3) (.cons (.s 7) .nil)) [])) [some ⟨.io, d2⟩, py, wo, shS (.int 6), shS (.exc 17 [("limit", v)]), x5, shS v, shS u] = .nx [some ⟨.io, d2⟩, py, wo, shS (.int 6), shS (.exc 17 [("limit", v)]), shS (.exc 17 [("limit", u)]), shS v, shS u] := by
    simp only [ev_int, ev_str, ev_bl, ev_non, ev_bty, ev_gc, ev_mov, ev_tup, ev_lst, ev_dct, ev_odc, ev_op2, ev_ch, ev_neg, ev_and, ev_or, ev_ife, ev_sub, ev_sl, ev_bi, ev_call, ev_mth, ev_pm, ev_lc, ev_mk, ev_mkx, ev_fld, ev_isx, ev_join, ev_var, ev_varT, ev_notT, ev_notF, ea_e, ea_s, ea_io, es_nil, es_cons, eand_1, eand_2, eor_1, eor_2, ei_nil, ei_1, ex_set, ex_tgt, ex_par, ex_sub, ex_ex, ex_ifs, ex_for_, ex_whl, ex_whw, ex_ret, ex_retN, ex_raise, ex_raisex, ex_try_, ex_pass, ex_brk, ex_ctn, ex_doc, xs_nil, xs_cons, xh_nil, xh_cons, xh_tup, gs_0, ss_0, ge_0, st_0, gs_1, ss_1, ge_1, st_1, gs_2, ss_2, ge_2, st_2, gs_3, ss_3, ge_3, st_3, gs_4, ss_4, ge_4, st_4, gs_5, ss_5, ge_5, st_5, gs_6, ss_6, ge_6, st_6, gs_7, ss_7, ge_7, st_7, gs_8, ss_8, ge_8, st_8, gs_9, ss_9, ge_9, st_9, gs_10, ss_10, ge_10, st_10, so_add, so_sub, so_mul, so_fdiv, so_mod, so_pow, so_eq, so_ne, so_lt, so_le, so_gt, so_ge, so_in, so_nin, so_is, so_isn, d_add, d_addt, d_addl, d_sub, d_mul, d_div, d_mod, d_lt, d_cmp, b_lent, b_lenl, b_lenf, b_abs, b_int, b_intb, b_listl, b_listf, b_listt, b_tupl, b_tupt, b_max2, b_min2, b_all, b_any, b_isi, b_dict, b_listd, b_sorted, b_min1, t_bl, t_int, t_non, t_lst, t_tup, l_tup, l_lst, l_fz, m_app, m_popat, ol_0, ol_1, ol_2, ol_3, ol_4, ol_5, ol_6, ol_7, ol_8, ol_9, ol_10, nd_0, nd_1, nd_0_1, nd_0_2, nd_0_3, nd_0_4, nd_0_5, nd_0_6, nd_0_7, nd_1_0, nd_1_2, nd_1_3, nd_1_4, nd_1_5, nd_1_6, nd_1_7, nd_2_0, nd_2_1, nd_2_3, nd_2_4, nd_2_5, nd_2_6, nd_2_7, nd_3_0, nd_3_1, nd_3_2, nd_3_4, nd_3_5, nd_3_6, nd_3_7, nd_4_0, nd_4_1, nd_4_2, nd_4_3, nd_4_5, nd_4_6, nd_4_7, nd_5_0, nd_5_1, nd_5_2, nd_5_3, nd_5_4, nd_5_6, nd_5_7, nd_6_0, nd_6_1, nd_6_2, nd_6_3, nd_6_4, nd_6_5, nd_6_7, nd_7_0, nd_7_1, nd_7_2, nd_7_3, nd_7_4, nd_7_5, nd_7_6, kb_NoneType_int, kb_NoneType_bool, kb_NoneType_tuple, kb_NoneType_str, kb_NoneType_list, kb_NoneType_dict, kb_bool_int, kb_bool_bool, kb_bool_tuple, kb_bool_str, kb_bool_list, kb_bool_dict, kb_int_int, kb_int_bool, kb_int_tuple, kb_int_str, kb_int_list, kb_int_dict, kb_str_int, kb_str_bool, kb_str_tuple, kb_str_str, kb_str_list, kb_str_dict, kb_tuple_int, kb_tuple_bool, kb_tuple_tuple, kb_tuple_str, kb_tuple_list, kb_tuple_dict, kb_list_int, kb_list_bool, kb_list_tuple, kb_list_str, kb_list_list, kb_list_dict, kb_dict_int, kb_dict_bool, kb_dict_tuple, kb_dict_str, kb_dict_list, kb_dict_dict, it_val, it_enum, it_zip, ow_nil, ow_cons, sn_n, sn_s, le_2, le_3, okb, okt, exb, ext_, sq_nx, sq_rt, sq_ex, ac_nx, ac_rt, ac_ex, fr_n, fr_s, fr_o, oo_n, oo_s, oo_i, oo_b, fin, argF, consF, slotF, ioF, tupF, lstF, dctF, twoF, oneF, chainF, notF, ifF, andF, orF, slF, biF, callG, mthF, pmF, lcF, yesF, varT, readVar, moveVar, setFs, parFs, subFs, dropFs, ifFs, forFs, retFs, raiseFs, raisexFs, mkF, mkxF, htFs, tryFs, hdFs, seqFs, walF, subF, nmF, unpF, putT, putTs, onBl, Ar.get, gets, valsOf, ofRes, mkSl, callF, ioArg, ioArgs, hold1, holds, back, assignT, assignT.assignN, wipeE, putBack, unlock, SR.calm, SR.onEnv, srcOf, seqD, ixR, Option.bind_some, Option.map_some, Option.bind_none, Option.map_none, List.map_cons, List.map_nil, List.cons_append, List.nil_append, if_true, if_false, reduceIte, Bool.false_eq_true, Bool.true_and, Bool.and_true, Option.isSome_some, List.contains_nil, Bool.not_false, Bool.not_true, tyO, tyD, neD, eqD, isNoneB, isLst, ke_6, f5]
  have s3 : exS Pg.gcs (run Pg (n + 4)) Pg.isa (.ifs (.or (.cons (.e (.op2 .ne (.e (.bi .repr (.cons (.e (.call 5 (.cons (.s 3) (.cons (.s 4) .nil)) [])) .nil))) (.e (.bi .repr (.cons (.s 6) .nil))))) (.cons (.e (.op2 .ne (.e (.bi .repr (.cons (.e (.call 5 (.cons (.s 3) (.cons (.s 5) .nil)) [])) .nil))) (.e (.bi .repr (.cons (.s 7) .nil))))) .nil))) 
    (.cons (.ret (.bl false)) .nil) .nil) [some ⟨.io, d2⟩, py, wo, shS (.int 6), shS (.exc 17 [("limit", v)]), shS (.exc 17 [("limit", u)]), shS v, shS u] = .nx [some ⟨.io, d2⟩, py, wo, shS (.int 6), shS (.exc 17 [("limit", v)]), shS (.exc 17 [("limit", u)]), shS v, shS u] := by
    simp only [ev_int, ev_str, ev_bl, ev_non, ev_bty, ev_gc, ev_mov, ev_tup, ev_lst, ev_dct, ev_odc, ev_op2, ev_ch, ev_neg, ev_and, ev_or, ev_ife, ev_sub, ev_sl, ev_bi, ev_call, ev_mth, ev_pm, ev_lc, ev_mk, ev_mkx, ev_fld, ev_isx, ev_join, ev_var, ev_varT, ev_notT, ev_notF, ea_e, ea_s, ea_io, es_nil, es_cons, eand_1, eand_2, eor_1, eor_2, ei_nil, ei_1, ex_set, ex_tgt, ex_par, ex_sub, ex_ex, ex_ifs, ex_for_, ex_whl, ex_whw, ex_ret, ex_retN, ex_raise, ex_raisex, ex_try_, ex_pass, ex_brk, ex_ctn, ex_doc, xs_nil, xs_cons, xh_nil, xh_cons, xh_tup, gs_0, ss_0, ge_0, st_0, gs_1, ss_1, ge_1, st_1, gs_2, ss_2, ge_2, st_2, gs_3, ss_3, ge_3, st_3, gs_4, ss_4, ge_4, st_4, gs_5, ss_5, ge_5, st_5, gs_6, ss_6, ge_6, st_6, gs_7, ss_7, ge_7, st_7, gs_8, ss_8, ge_8, st_8, gs_9, ss_9, ge_9, st_9, gs_10, ss_10, ge_10, st_10, so_add, so_sub, so_mul, so_fdiv, so_mod, so_pow, so_eq, so_ne, so_lt, so_le, so_gt, so_ge, so_in, so_nin, so_is, so_isn, d_add, d_addt, d_addl, d_sub, d_mul, d_div, d_mod, d_lt, d_cmp, b_lent, b_lenl, b_lenf, b_abs, b_int, b_intb, b_listl, b_listf, b_listt, b_tupl, b_tupt, b_max2, b_min2, b_all, b_any, b_isi, b_dict, b_listd, b_sorted, b_min1, t_bl, t_int, t_non, t_lst, t_tup, l_tup, l_lst, l_fz, m_app, m_popat, ol_0, ol_1, ol_2, ol_3, ol_4, ol_5, ol_6, ol_7, ol_8, ol_9, ol_10, nd_0, nd_1, nd_0_1, nd_0_2, nd_0_3, nd_0_4, nd_0_5, nd_0_6, nd_0_7, nd_1_0, nd_1_2, nd_1_3, nd_1_4, nd_1_5, nd_1_6, nd_1_7, nd_2_0, nd_2_1, nd_2_3, nd_2_4, nd_2_5, nd_2_6, nd_2_7, nd_3_0, nd_3_1, nd_3_2, nd_3_4, nd_3_5, nd_3_6, nd_3_7, nd_4_0, nd_4_1, nd_4_2, nd_4_3, nd_4_5, nd_4_6, nd_4_7, nd_5_0, nd_5_1, nd_5_2, nd_5_3, nd_5_4, nd_5_6, nd_5_7, nd_6_0, nd_6_1, nd_6_2, nd_6_3, nd_6_4, nd_6_5, nd_6_7, nd_7_0, nd_7_1, nd_7_2, nd_7_3, nd_7_4, nd_7_5, nd_7_6, kb_NoneType_int, kb_NoneType_bool, kb_NoneType_tuple, kb_NoneType_str, kb_NoneType_list, kb_NoneType_dict, kb_bool_int, kb_bool_bool, kb_bool_tuple, kb_bool_str, kb_bool_list, kb_bool_dict, kb_int_int, kb_int_bool, kb_int_tuple, kb_int_str, kb_int_list, kb_int_dict, kb_str_int, kb_str_bool, kb_str_tuple, kb_str_str, kb_str_list, kb_str_dict, kb_tuple_int, kb_tuple_bool, kb_tuple_tuple, kb_tuple_str, kb_tuple_list, kb_tuple_dict, kb_list_int, kb_list_bool, kb_list_tuple, kb_list_str, kb_list_list, kb_list_dict, kb_dict_int, kb_dict_bool, kb_dict_tuple, kb_dict_str, kb_dict_list, kb_dict_dict, it_val, it_enum, it_zip, ow_nil, ow_cons, sn_n, sn_s, le_2, le_3, okb, okt, exb, ext_, sq_nx, sq_rt, sq_ex, ac_nx, ac_rt, ac_ex, fr_n, fr_s, fr_o, oo_n, oo_s, oo_i, oo_b, fin, argF, consF, slotF, ioF, tupF, lstF, dctF, twoF, oneF, chainF, notF, ifF, andF, orF, slF, biF, callG, mthF, pmF, lcF, yesF, varT, readVar, moveVar, setFs, parFs, subFs, dropFs, ifFs, forFs, retFs, raiseFs, raisexFs, mkF, mkxF, htFs, tryFs, hdFs, seqFs, walF, subF, nmF, unpF, putT, putTs, onBl, Ar.get, gets, valsOf, ofRes, mkSl, callF, ioArg, ioArgs, hold1, holds, back, assignT, assignT.assignN, wipeE, putBack, unlock, SR.calm, SR.onEnv, srcOf, seqD, ixR, Option.bind_some, Option.map_some, Option.bind_none, Option.map_none, List.map_cons, List.map_nil, List.cons_append, List.nil_append, if_true, if_false, reduceIte, Bool.false_eq_true, Bool.true_and, Bool.and_true, Option.isSome_some, List.contains_nil, Bool.not_false, Bool.not_true, tyO, tyD, neD, eqD, isNoneB, isLst, kp_6, V1, V2, eq_str]
  unfold foTurn kBody
  rw [sa]
  dsimp only
  rw [seq_go s0, seq_go s1, seq_go s2, seq_go s3]
  exact kr_6
theorem ke_7 {n : Nat} {v : D} : run Pg (n + 4) 4 [⟨.sh, .int 7⟩, ⟨.sh, v⟩] = .ok (.exc 18 [("value", v)]) .sh [none, none] := by rfl
theorem kp_7 {n : Nat} {v : D} : run Pg (n + 4) 5 [⟨.sh, .int 7⟩, ⟨.sh, (.exc 18 [("value", v)])⟩] = .ok v .sh [none, none] := by rfl
theorem kr_7 {n : Nat} {d v u : D} : exSs Pg.gcs (run Pg (n + 4)) Pg.isa (.cons (.ifs (.op2 .ne (.e (.call 6 (.cons (.s 4) .nil) [])) (.e (.call 8 (.cons (.e (.ife (.op2 .lt (.s 3) (.e (.int 3))) (.tup (.cons (.e (.op2 .add (.e (.int 10)) (.s 3))) (.cons (.e (.int 19)) .nil))) (.tup (.cons (.e (.op2 .add (.e (.int 10)) (.s 3))) .nil)))) (.cons (.e (.int 20)) .nil)) []))) 
    (.cons (.ret (.bl false)) .nil) .nil) (.cons (.ifs (.or (.cons (.e (.op2 .ne (.e (.call 7 (.cons (.s 4) .nil) [])) (.e (.call 8 (.cons (.e (.sub (.s 1) (.s 3))) (.cons (.e (.int 8)) .nil)) [])))) (.cons (.e (.op2 .ne (.e (.call 10 (.cons (.s 3) (.cons (.s 6) .nil)) [])) (.e (.sub (.s 2) (.s 3))))) .nil))) 
    (.cons (.ret (.bl false)) .nil) .nil) .nil)) [some ⟨.io, d⟩, py, wo, shS (.int 7), shS (.exc 18 [("value", v)]), shS (.exc 18 [("value", u)]), shS v, shS u] = .nx [some ⟨.io, d⟩, py, wo, shS (.int 7), shS (.exc 18 [("value", v)]), shS (.exc 18 [("value", u)]), shS v, shS u] := by rfl
theorem kt_7 {n k : Nat} {d : D} {x3 x4 x5 x6 x7 : Option Sl} (R : Reel k d) (hk : k + 200 ≤ 2 ^ 40) (f3 : free x3 = true) (f4 : free x4 = true) (f5 : free x5 = true) (f6 : free x6 = true) (f7 : free x7 = true) :
    ∃ d' v u, foTurn (.nm 3) (kBody n) (.int 7) [some ⟨.io, d⟩, py, wo, x3, x4, x5, x6, x7] = .nx [some ⟨.io, d'⟩, py, wo, shS (.int 7), shS (.exc 18 [("value", v)]), shS (.exc 18 [("value", u)]), shS v, shS u] ∧ Reel (k + 60) d' := by
  obtain ⟨v, d1, e1, ⟨x, V1⟩, R1⟩ := value_ok (n := n) R (by omega)
  obtain ⟨u, d2, e2, ⟨y, V2⟩, R2⟩ := value_ok (n := n) R1 (by omega)
  refine ⟨d2, v, u, ?_, R2⟩
  have sa : assignT [some ⟨.io, d⟩, py, wo, x3, x4, x5, x6, x7] (.int 7) (.nm 3) = some [some ⟨.io, d⟩, py, wo, shS (.int 7), x4, x5, x6, x7] := by simp only [ev_int, ev_str, ev_bl, ev_non, ev_bty, ev_gc, ev_mov, ev_tup, ev_lst, ev_dct, ev_odc, ev_op2, ev_ch, ev_neg, ev_and, ev_or, ev_ife, ev_sub, ev_sl, ev_bi, ev_call, ev_mth, ev_pm, ev_lc, ev_mk, ev_mkx, ev_fld, ev_isx, ev_join, ev_var, ev_varT, ev_notT, ev_notF, ea_e, ea_s, ea_io, es_nil, es_cons, eand_1, eand_2, eor_1, eor_2, ei_nil, ei_1, ex_set, ex_tgt, ex_par, ex_sub, ex_ex, ex_ifs, ex_for_, ex_whl, ex_whw, ex_ret, ex_retN, ex_raise, ex_raisex, ex_try_, ex_pass, ex_brk, ex_ctn, ex_doc, xs_nil, xs_cons, xh_nil, xh_cons, xh_tup, gs_0, ss_0, ge_0, st_0, gs_1, ss_1, ge_1, st_1, gs_2, ss_2, ge_2, st_2, gs_3, ss_3, ge_3, st_3, gs_4, ss_4, ge_4, st_4, gs_5, ss_5, ge_5, st_5, gs_6, ss_6, ge_6, st_6, gs_7, ss_7, ge_7, st_7, gs_8, ss_8, ge_8, st_8, gs_9, ss_9, ge_9, st_9, gs_10, ss_10, ge_10, st_10, so_add, so_sub, so_mul, so_fdiv, so_mod, so_pow, so_eq, so_ne, so_lt, so_le, so_gt, so_ge, so_in, so_nin, so_is, so_isn, d_add, d_addt, d_addl, d_sub, d_mul, d_div, d_mod, d_lt, d_cmp, b_lent, b_lenl, b_lenf, b_abs, b_int, b_intb, b_listl, b_listf, b_listt, b_tupl, b_tupt, b_max2, b_min2, b_all, b_any, b_isi, b_dict, b_listd, b_sorted, b_min1, t_bl, t_int, t_non, t_lst, t_tup, l_tup, l_lst, l_fz, m_app, m_popat, ol_0, ol_1, ol_2, ol_3, ol_4, ol_5, ol_6, ol_7, ol_8, ol_9, ol_10, nd_0, nd_1, nd_0_1, nd_0_2, nd_0_3, nd_0_4, nd_0_5, nd_0_6, nd_0_7, nd_1_0, nd_1_2, nd_1_3, nd_1_4, nd_1_5, nd_1_6, nd_1_7, nd_2_0, nd_2_1, nd_2_3, nd_2_4, nd_2_5, nd_2_6, nd_2_7, nd_3_0, nd_3_1, nd_3_2, nd_3_4, nd_3_5, nd_3_6, nd_3_7, nd_4_0, nd_4_1, nd_4_2, nd_4_3, nd_4_5, nd_4_6, nd_4_7, nd_5_0, nd_5_1, nd_5_2, nd_5_3, nd_5_4, nd_5_6, nd_5_7, nd_6_0, nd_6_1, nd_6_2, nd_6_3, nd_6_4, nd_6_5, nd_6_7, nd_7_0, nd_7_1, nd_7_2, nd_7_3, nd_7_4, nd_7_5, nd_7_6, kb_NoneType_int, kb_NoneType_bool, kb_NoneType_tuple, kb_NoneType_str, kb_NoneType_list, kb_NoneType_dict, kb_bool_int, kb_bool_bool, kb_bool_tuple, kb_bool_str, kb_bool_list, kb_bool_dict, kb_int_int, kb_int_bool, kb_int_tuple, kb_int_str, kb_int_list, kb_int_dict, kb_str_int, kb_str_bool, kb_str_tuple, kb_str_str, kb_str_list, kb_str_dict, kb_tuple_int, kb_tuple_bool, kb_tuple_tuple, kb_tuple_str, kb_tuple_list, kb_tuple_dict, kb_list_int, kb_list_bool, kb_list_tuple, kb_list_str, kb_list_list, kb_list_dict, kb_dict_int, kb_dict_bool, kb_dict_tuple, kb_dict_str, kb_dict_list, kb_dict_dict, it_val, it_enum, it_zip, ow_nil, ow_cons, sn_n, sn_s, le_2, le_3, okb, okt, exb, ext_, sq_nx, sq_rt, sq_ex, ac_nx, ac_rt, ac_ex, fr_n, fr_s, fr_o, oo_n, oo_s, oo_i, oo_b, fin, argF, consF, slotF, ioF, tupF, lstF, dctF, twoF, oneF, chainF, notF, ifF, andF, orF, slF, biF, callG, mthF, pmF, lcF, yesF, varT, readVar, moveVar, setFs, parFs, subFs, dropFs, ifFs, forFs, retFs, raiseFs, raisexFs, mkF, mkxF, htFs, tryFs, hdFs, seqFs, walF, subF, nmF, unpF, putT, putTs, onBl, Ar.get, gets, valsOf, ofRes, mkSl, callF, ioArg, ioArgs, hold1, holds, back, assignT, assignT.assignN, wipeE, putBack, unlock, SR.calm, SR.onEnv, srcOf, seqD, ixR, Option.bind_some, Option.map_some, Option.bind_none, Option.map_none, List.map_cons, List.map_nil, List.cons_append, List.nil_append, if_true, if_false, reduceIte, Bool.false_eq_true, Bool.true_and, Bool.and_true, Option.isSome_some, List.contains_nil, Bool.not_false, Bool.not_true, tyO, tyD, neD, eqD, isNoneB, isLst, f3]
  have s0 : exS Pg.gcs (run Pg (n + 4)) Pg.isa (.par 6 7 (.call 12 (.cons (.io 0) .nil) []) (.call 12 (.cons (.io 0) .nil) [])) [some ⟨.io, d⟩, py, wo, shS (.int 7), x4, x5, x6, x7] = .nx [some ⟨.io, d2⟩, py, wo, shS (.int 7), x4, x5, shS v, shS u] := by
    simp only [ev_int, ev_str, ev_bl, ev_non, ev_bty, ev_gc, ev_mov, ev_tup, ev_lst, ev_dct, ev_odc, ev_op2, ev_ch, ev_neg, ev_and, ev_or, ev_ife, ev_sub, ev_sl, ev_bi, ev_call, ev_mth, ev_pm, ev_lc, ev_mk, ev_mkx, ev_fld, ev_isx, ev_join, ev_var, ev_varT, ev_notT, ev_notF, ea_e, ea_s, ea_io, es_nil, es_cons, eand_1, eand_2, eor_1, eor_2, ei_nil, ei_1, ex_set, ex_tgt, ex_par, ex_sub, ex_ex, ex_ifs, ex_for_, ex_whl, ex_whw, ex_ret, ex_retN, ex_raise, ex_raisex, ex_try_, ex_pass, ex_brk, ex_ctn, ex_doc, xs_nil, xs_cons, xh_nil, xh_cons, xh_tup, gs_0, ss_0, ge_0, st_0, gs_1, ss_1, ge_1, st_1, gs_2, ss_2, ge_2, st_2, gs_3, ss_3, ge_3, st_3, gs_4, ss_4, ge_4, st_4, gs_5, ss_5, ge_5, st_5, gs_6, ss_6, ge_6, st_6, gs_7, ss_7, ge_7, st_7, gs_8, ss_8, ge_8, st_8, gs_9, ss_9, ge_9, st_9, gs_10, ss_10, ge_10, st_10, so_add, so_sub, so_mul, so_fdiv, so_mod, so_pow, so_eq, so_ne, so_lt, so_le, so_gt, so_ge, so_in, so_nin, so_is, so_isn, d_add, d_addt, d_addl, d_sub, d_mul, d_div, d_mod, d_lt, d_cmp, b_lent, b_lenl, b_lenf, b_abs, b_int, b_intb, b_listl, b_listf, b_listt, b_tupl, b_tupt, b_max2, b_min2, b_all, b_any, b_isi, b_dict, b_listd, b_sorted, b_min1, t_bl, t_int, t_non, t_lst, t_tup, l_tup, l_lst, l_fz, m_app, m_popat, ol_0, ol_1, ol_2, ol_3, ol_4, ol_5, ol_6, ol_7, ol_8, ol_9, ol_10, nd_0, nd_1, nd_0_1, nd_0_2, nd_0_3, nd_0_4, nd_0_5, nd_0_6, nd_0_7, nd_1_0, nd_1_2, nd_1_3, nd_1_4, nd_1_5, nd_1_6, nd_1_7, nd_2_0, nd_2_1, nd_2_3, nd_2_4, nd_2_5, nd_2_6, nd_2_7, nd_3_0, nd_3_1, nd_3_2, nd_3_4, nd_3_5, nd_3_6, nd_3_7, nd_4_0, nd_4_1, nd_4_2, nd_4_3, nd_4_5, nd_4_6, nd_4_7, nd_5_0, nd_5_1, nd_5_2, nd_5_3, nd_5_4, nd_5_6, nd_5_7, nd_6_0, nd_6_1, nd_6_2, nd_6_3, nd_6_4, nd_6_5, nd_6_7, nd_7_0, nd_7_1, nd_7_2, nd_7_3, nd_7_4, nd_7_5, nd_7_6, kb_NoneType_int, kb_NoneType_bool, kb_NoneType_tuple, kb_NoneType_str, kb_NoneType_list, kb_NoneType_dict, kb_bool_int, kb_bool_bool, kb_bool_tuple, kb_bool_str, kb_bool_list, kb_bool_dict, kb_int_int, kb_int_bool, kb_int_tuple, kb_int_str, kb_int_list, kb_int_dict, kb_str_int, kb_str_bool, kb_str_tuple, kb_str_str, kb_str_list, kb_str_dict, kb_tuple_int, kb_tuple_bool, kb_tuple_tuple, kb_tuple_str, kb_tuple_list, kb_tuple_dict, kb_list_int, kb_list_bool, kb_list_tuple, kb_list_str, kb_list_list, kb_list_dict, kb_dict_int, kb_dict_bool, kb_dict_tuple, kb_dict_str, kb_dict_list, kb_dict_dict, it_val, it_enum, it_zip, ow_nil, ow_cons, sn_n, sn_s, le_2, le_3, okb, okt, exb, ext_, sq_nx, sq_rt, sq_ex, ac_nx, ac_rt, ac_ex, fr_n, fr_s, fr_o, oo_n, oo_s, oo_i, oo_b, fin, argF, consF, slotF, ioF, tupF, lstF, dctF, twoF, oneF, chainF, notF, ifF, andF, orF, slF, biF, callG, mthF, pmF, lcF, yesF, varT, readVar, moveVar, setFs, parFs, subFs, dropFs, ifFs, forFs, retFs, raiseFs, raisexFs, mkF, mkxF, htFs, tryFs, hdFs, seqFs, walF, subF, nmF, unpF, putT, putTs, onBl, Ar.get, gets, valsOf, ofRes, mkSl, callF, ioArg, ioArgs, hold1, holds, back, assignT, assignT.assignN, wipeE, putBack, unlock, SR.calm, SR.onEnv, srcOf, seqD, ixR, Option.bind_some, Option.map_some, Option.bind_none, Option.map_none, List.map_cons, List.map_nil, List.cons_append, List.nil_append, if_true, if_false, reduceIte, Bool.false_eq_true, Bool.true_and, Bool.and_true, Option.isSome_some, List.contains_nil, Bool.not_false, Bool.not_true, tyO, tyD, neD, eqD, isNoneB, isLst, e1, e2, f6, f7]
  have s1 : exS Pg.gcs (run Pg (n + 4)) Pg.isa (.set 4 (.call 4 (.cons (.s 3) (.cons (.s 6) .nil)) [])) [some ⟨.io, d2⟩, py, wo, shS (.int 7), x4, x5, shS v, shS u] = .nx [some ⟨.io, d2⟩, py, wo, shS (.int 7), shS (.exc 18 [("value", v)]), x5, shS v, shS u] := by
    simp only [ev_int, ev_str, ev_bl, ev_non, ev_bty, ev_gc, ev_mov, ev_tup, ev_lst, ev_dct, ev_odc, ev_op2, ev_ch, ev_neg, ev_and, ev_or, ev_ife, ev_sub, ev_sl, ev_bi, ev_call, ev_mth, ev_pm, ev_lc, ev_mk, ev_mkx, ev_fld, ev_isx, ev_join, ev_var, ev_varT, ev_notT, ev_notF, ea_e, ea_s, ea_io, es_nil, es_cons, eand_1, eand_2, eor_1, eor_2, ei_nil, ei_1, ex_set, ex_tgt, ex_par, ex_sub, ex_ex, ex_ifs, ex_for_, ex_whl, ex_whw, ex_ret, ex_retN, ex_raise, ex_raisex, ex_try_, ex_pass, ex_brk, ex_ctn, ex_doc, xs_nil, xs_cons, xh_nil, xh_cons, xh_tup, gs_0, ss_0, ge_0, st_0, gs_1, ss_1, ge_1, st_1, gs_2, ss_2, ge_2, st_2, gs_3, ss_3, ge_3, st_3, gs_4, ss_4, ge_4, st_4, gs_5, ss_5, ge_5, st_5, gs_6, ss_6, ge_6, st_6, gs_7, ss_7, ge_7, st_7, gs_8, ss_8, ge_8, st_8, gs_9, ss_9, ge_9, st_9, gs_10, ss_10, ge_10, st_10, so_add, so_sub, so_mul, so_fdiv, so_mod, so_pow, so_eq, so_ne, so_lt, so_le, so_gt, so_ge, so_in, so_nin, so_is, so_isn, d_add, d_addt, d_addl, d_sub, d_mul, d_div, d_mod, d_lt, d_cmp, b_lent, b_lenl, b_lenf, b_abs, b_int, b_intb, b_listl, b_listf, b_listt, b_tupl, b_tupt, b_max2, b_min2, b_all, b_any, b_isi, b_dict, b_listd, b_sorted, b_min1, t_bl, t_int, t_non, t_lst, t_tup, l_tup, l_lst, l_fz, m_app, m_popat, ol_0, ol_1, ol_2, ol_3, ol_4, ol_5, ol_6, ol_7, ol_8, ol_9, ol_10, nd_0, nd_1, nd_0_1, nd_0_2, nd_0_3, nd_0_4, nd_0_5, nd_0_6, nd_0_7, nd_1_0, nd_1_2, nd_1_3, nd_1_4, nd_1_5, nd_1_6, nd_1_7, nd_2_0, nd_2_1, nd_2_3, nd_2_4, nd_2_5, nd_2_6, nd_2_7, nd_3_0, nd_3_1, nd_3_2, nd_3_4, nd_3_5, nd_3_6, nd_3_7, nd_4_0, nd_4_1, nd_4_2, nd_4_3, nd_4_5, nd_4_6, nd_4_7, nd_5_0, nd_5_1, nd_5_2, nd_5_3, nd_5_4, nd_5_6, nd_5_7, nd_6_0, nd_6_1, nd_6_2, nd_6_3, nd_6_4, nd_6_5, nd_6_7, nd_7_0, nd_7_1, nd_7_2, nd_7_3, nd_7_4, nd_7_5, nd_7_6, kb_NoneType_int, kb_NoneType_bool, kb_NoneType_tuple, kb_NoneType_str, kb_NoneType_list, kb_NoneType_dict, kb_bool_int, kb_bool_bool, kb_bool_tuple, kb_bool_str, kb_bool_list, kb_bool_dict, kb_int_int, kb_int_bool, kb_int_tuple, kb_int_str, kb_int_list, kb_int_dict, kb_str_int, kb_str_bool, kb_str_tuple, kb_str_str, kb_str_list, kb_str_dict, kb_tuple_int, kb_tuple_bool, kb_tuple_tuple, kb_tuple_str, kb_tuple_list, kb_tuple_dict, kb_list_int, kb_list_bool, kb_list_tuple, kb_list_str, kb_list_list, kb_list_dict, kb_dict_int, kb_dict_bool, kb_dict_tuple, kb_dict_str, kb_dict_list, kb_dict_dict, it_val, it_enum, it_zip, ow_nil, ow_cons, sn_n, sn_s, le_2, le_3, okb, okt, exb, ext_, sq_nx, sq_rt, sq_ex, ac_nx, ac_rt, ac_ex, fr_n, fr_s, fr_o, oo_n, oo_s, oo_i, oo_b, fin, argF, consF, slotF, ioF, tupF, lstF, dctF, twoF, oneF, chainF, notF, ifF, andF, orF, slF, biF, callG, mthF, pmF, lcF, yesF, varT, readVar, moveVar, setFs, parFs, subFs, dropFs, ifFs, forFs, retFs, raiseFs, raisexFs, mkF, mkxF, htFs, tryFs, hdFs, seqFs, walF, subF, nmF, unpF, putT, putTs, onBl, Ar.get, gets, valsOf, ofRes, mkSl, callF, ioArg, ioArgs, hold1, holds, back, assignT, assignT.assignN, wipeE, putBack, unlock, SR.calm, SR.onEnv, srcOf, seqD, ixR, Option.bind_some, Option.map_some, Option.bind_none, Option.map_none, List.map_cons, List.map_nil, List.cons_append, List.nil_append, if_true, if_false, reduceIte, Bool.false_eq_true, Bool.true_and, Bool.and_true, Option.isSome_some, List.contains_nil, Bool.not_false, Bool.not_true, tyO, tyD, neD, eqD, isNoneB, isLst, ke_7, f4]
  have s2 : exS Pg.gcs (run Pg (n + 4)) Pg.isa (.set 5 (.call 4 (.cons (.s 3) (.cons (.s 7) .nil)) [])) [some ⟨.io, d2⟩, py, wo, shS (.int 7), shS (.exc 18 [("value", v)]), x5, shS v, shS u] = .nx [some ⟨.io, d2⟩, py, wo, shS (.int 7), shS (.exc 18 [("value", v)]), shS (.exc 18 [("value", u)]), shS v, shS u] := by
    simp only [ev_int, ev_str, ev_bl, ev_non, ev_bty, ev_gc, ev_mov, ev_tup, ev_lst, ev_dct, ev_odc, ev_op2, ev_ch, ev_neg, ev_and, ev_or, ev_ife, ev_sub, ev_sl, ev_bi, ev_call, ev_mth, ev_pm, ev_lc, ev_mk, ev_mkx, ev_fld, ev_isx, ev_join, ev_var, ev_varT, ev_notT, ev_notF, ea_e, ea_s, ea_io, es_nil, es_cons, eand_1, eand_2, eor_1, eor_2, ei_nil, ei_1, ex_set, ex_tgt, ex_par, ex_sub, ex_ex, ex_ifs, ex_for_, ex_whl, ex_whw, ex_ret, ex_retN, ex_raise, ex_raisex, ex_try_, ex_pass, ex_brk, ex_ctn, ex_doc, xs_nil, xs_cons, xh_nil, xh_cons, xh_tup, gs_0, ss_0, ge_0, st_0, gs_1, ss_1, ge_1, st_1, gs_2, ss_2, ge_2, st_2, gs_3, ss_3, ge_3, st_3, gs_4, ss_4, ge_4, st_4, gs_5, ss_5, ge_5, st_5, gs_6, ss_6, ge_6, st_6, gs_7, ss_7, ge_7, st_7, gs_8, ss_8, ge_8, st_8, gs_9, ss_9, ge_9, st_9, gs_10, ss_10, ge_10, st_10, so_add, so_sub, so_mul, so_fdiv, so_mod, so_pow, so_eq, so_ne, so_lt, so_le, so_gt, so_ge, so_in, so_nin, so_is, so_isn, d_add, d_addt, d_addl, d_sub, d_mul, d_div, d_mod, d_lt, d_cmp, b_lent, b_lenl, b_lenf, b_abs, b_int, b_intb, b_listl, b_listf, b_listt, b_tupl, b_tupt, b_max2, b_min2, b_all, b_any, b_isi, b_dict, b_listd, b_sorted, b_min1, t_bl, t_int, t_non, t_lst, t_tup, l_tup, l_lst, l_fz, m_app, m_popat, ol_0, ol_1, ol_2, ol_3, ol_4, ol_5, ol_6, ol_7, ol_8, ol_9, ol_10, nd_0, nd_1, nd_0_1, nd_0_2, nd_0_3, nd_0_4, nd_0_5, nd_0_6, nd_0_7, nd_1_0, nd_1_2, nd_1_3, nd_1_4, nd_1_5, nd_1_6, nd_1_7, nd_2_0, nd_2_1, nd_2_3, nd_2_4, nd_2_5, nd_2_6, nd_2_7, nd_3_0, nd_3_1, nd_3_2, nd_3_4, nd_3_5, nd_3_6, nd_3_7, nd_4_0, nd_4_1, nd_4_2, nd_4_3, nd_4_5, nd_4_6, nd_4_7, nd_5_0, nd_5_1, nd_5_2, nd_5_3, nd_5_4, nd_5_6, nd_5_7, nd_6_0, nd_6_1, nd_6_2, nd_6_3, nd_6_4, nd_6_5, nd_6_7, nd_7_0, nd_7_1, nd_7_2, nd_7_3, nd_7_4, nd_7_5, nd_7_6, kb_NoneType_int, kb_NoneType_bool, kb_NoneType_tuple, kb_NoneType_str, kb_NoneType_list, kb_NoneType_dict, kb_bool_int, kb_bool_bool, kb_bool_tuple, kb_bool_str, kb_bool_list, kb_bool_dict, kb_int_int, kb_int_bool, kb_int_tuple, kb_int_str, kb_int_list, kb_int_dict, kb_str_int, kb_str_bool, kb_str_tuple, kb_str_str, kb_str_list, kb_str_dict, kb_tuple_int, kb_tuple_bool, kb_tuple_tuple, kb_tuple_str, kb_tuple_list, kb_tuple_dict, kb_list_int, kb_list_bool, kb_list_tuple, kb_list_str, kb_list_list, kb_list_dict, kb_dict_int, kb_dict_bool, kb_dict_tuple, kb_dict_str, kb_dict_list, kb_dict_dict, it_val, it_enum, it_zip, ow_nil, ow_cons, sn_n, sn_s, le_2, le_3, okb, okt, exb, ext_, sq_nx, sq_rt, sq_ex, ac_nx, ac_rt, ac_ex, fr_n, fr_s, fr_o, oo_n, oo_s, oo_i, oo_b, fin, argF, consF, slotF, ioF, tupF, lstF, dctF, twoF, oneF, chainF, notF, ifF, andF, orF, slF, biF, callG, mthF, pmF, lcF, yesF, varT, readVar, moveVar, setFs, parFs, subFs, dropFs, ifFs, forFs, retFs, raiseFs, raisexFs, mkF, mkxF, htFs, tryFs, hdFs, seqFs, walF, subF, nmF, unpF, putT, putTs, onBl, Ar.get, gets, valsOf, ofRes, mkSl, callF, ioArg, ioArgs, hold1, holds, back, assignT, assignT.assignN, wipeE, putBack, unlock, SR.calm, SR.onEnv, srcOf, seqD, ixR, Option.bind_some, Option.map_some, Option.bind_none, Option.map_none, List.map_cons, List.map_nil, List.cons_append, List.nil_append, if_true, if_false, reduceIte, Bool.false_eq_true, Bool.true_and, Bool.and_true, Option.isSome_some, List.contains_nil, Bool.not_false, Bool.not_true, tyO, tyD, neD, eqD, isNoneB, isLst, ke_7, f5]
  have s3 : exS Pg.gcs (run Pg (n + 4)) Pg.isa (.ifs (.or (.cons (.e (.op2 .ne (.e (.bi .repr (.cons (.e (.call 5 (.cons (.s 3) (.cons (.s 4) .nil)) [])) .nil))) (.e (.bi .repr (.cons (.s 6) .nil))))) (.cons (.e (.op2 .ne (.e (.bi .repr (.cons (.e (.call 5 (.cons (.s 3) (.cons (.s 5) .nil)) [])) .nil))) (.e (.bi .repr (.cons (.s 7) .nil))))) .nil))) 
    (.cons (.ret (.bl false)) .nil) .nil) [some ⟨.io, d2⟩, py, wo, shS (.int 7), shS (.exc 18 [("value", v)]), shS (.exc 18 [("value", u)]), shS v, shS u] = .nx [some ⟨.io, d2⟩, py, wo, shS (.int 7), shS (.exc 18 [("value", v)]), shS (.exc 18 [("value", u)]), shS v, shS u] := by
    simp only [ev_int, ev_str, ev_bl, ev_non, ev_bty, ev_gc, ev_mov, ev_tup, ev_lst, ev_dct, ev_odc, ev_op2, ev_ch, ev_neg, ev_and, ev_or, ev_ife, ev_sub, ev_sl, ev_bi, ev_call, ev_mth, ev_pm, ev_lc, ev_mk, ev_mkx, ev_fld, ev_isx, ev_join, ev_var, ev_varT, ev_notT, ev_notF, ea_e, ea_s, ea_io, es_nil, es_cons, eand_1, eand_2, eor_1, eor_2, ei_nil, ei_1, ex_set, ex_tgt, ex_par, ex_sub, ex_ex, ex_ifs, ex_for_, ex_whl, ex_whw, ex_ret, ex_retN, ex_raise, ex_raisex, ex_try_, ex_pass, ex_brk, ex_ctn, ex_doc, xs_nil, xs_cons, xh_nil, xh_cons, xh_tup, gs_0, ss_0, ge_0, st_0, gs_1, ss_1, ge_1, st_1, gs_2, ss_2, ge_2, st_2, gs_3, ss_3, ge_3, st_3, gs_4, ss_4, ge_4, st_4, gs_5, ss_5, ge_5, st_5, gs_6, ss_6, ge_6, st_6, gs_7, ss_7, ge_7, st_7, gs_8, ss_8, ge_8, st_8, gs_9, ss_9, ge_9, st_9, gs_10, ss_10, ge_10, st_10, so_add, so_sub, so_mul, so_fdiv, so_mod, so_pow, so_eq, so_ne, so_lt, so_le, so_gt, so_ge, so_in, so_nin, so_is, so_isn, d_add, d_addt, d_addl, d_sub, d_mul, d_div, d_mod, d_lt, d_cmp, b_lent, b_lenl, b_lenf, b_abs, b_int, b_intb, b_listl, b_listf, b_listt, b_tupl, b_tupt, b_max2, b_min2, b_all, b_any, b_isi, b_dict, b_listd, b_sorted, b_min1, t_bl, t_int, t_non, t_lst, t_tup, l_tup, l_lst, l_fz, m_app, m_popat, ol_0, ol_1, ol_2, ol_3, ol_4, ol_5, ol_6, ol_7, ol_8, ol_9, ol_10, nd_0, nd_1, nd_0_1, nd_0_2, nd_0_3, nd_0_4, nd_0_5, nd_0_6, nd_0_7, nd_1_0, nd_1_2, nd_1_3, nd_1_4, nd_1_5, nd_1_6, nd_1_7, nd_2_0, nd_2_1, nd_2_3, nd_2_4, nd_2_5, nd_2_6, nd_2_7, nd_3_0, nd_3_1, nd_3_2, nd_3_4, nd_3_5, nd_3_6, nd_3_7, nd_4_0, nd_4_1, nd_4_2, nd_4_3, nd_4_5, nd_4_6, nd_4_7, nd_5_0, nd_5_1, nd_5_2, nd_5_3, nd_5_4, nd_5_6, nd_5_7, nd_6_0, nd_6_1, nd_6_2, nd_6_3, nd_6_4, nd_6_5, nd_6_7, nd_7_0, nd_7_1, nd_7_2, nd_7_3, nd_7_4, nd_7_5, nd_7_6, kb_NoneType_int, kb_NoneType_bool, kb_NoneType_tuple, kb_NoneType_str, kb_NoneType_list, kb_NoneType_dict, kb_bool_int, kb_bool_bool, kb_bool_tuple, kb_bool_str, kb_bool_list, kb_bool_dict, kb_int_int, kb_int_bool, kb_int_tuple, kb_int_str, kb_int_list, kb_int_dict, kb_str_int, kb_str_bool, kb_str_tuple, kb_str_str, kb_str_list, kb_str_dict, kb_tuple_int, kb_tuple_bool, kb_tuple_tuple, kb_tuple_str, kb_tuple_list, kb_tuple_dict, kb_list_int, kb_list_bool, kb_list_tuple, kb_list_str, kb_list_list, kb_list_dict, kb_dict_int, kb_dict_bool, kb_dict_tuple, kb_dict_str, kb_dict_list, kb_dict_dict, it_val, it_enum, it_zip, ow_nil, ow_cons, sn_n, sn_s, le_2, le_3, okb, okt, exb, ext_, sq_nx, sq_rt, sq_ex, ac_nx, ac_rt, ac_ex, fr_n, fr_s, fr_o, oo_n, oo_s, oo_i, oo_b, fin, argF, consF, slotF, ioF, tupF, lstF, dctF, twoF, oneF, chainF, notF, ifF, andF, orF, slF, biF, callG, mthF, pmF, lcF, yesF, varT, readVar, moveVar, setFs, parFs, subFs, dropFs, ifFs, forFs, retFs, raiseFs, raisexFs, mkF, mkxF, htFs, tryFs, hdFs, seqFs, walF, subF, nmF, unpF, putT, putTs, onBl, Ar.get, gets, valsOf, ofRes, mkSl, callF, ioArg, ioArgs, hold1, holds, back, assignT, assignT.assignN, wipeE, putBack, unlock, SR.calm, SR.onEnv, srcOf, seqD, ixR, Option.bind_some, Option.map_some, Option.bind_none, Option.map_none, List.map_cons, List.map_nil, List.cons_append, List.nil_append, if_true, if_false, reduceIte, Bool.false_eq_true, Bool.true_and, Bool.and_true, Option.isSome_some, List.contains_nil, Bool.not_false, Bool.not_true, tyO, tyD, neD, eqD, isNoneB, isLst, kp_7, V1, V2, eq_str]
  unfold foTurn kBody
  rw [sa]
  dsimp only
  rw [seq_go s0, seq_go s1, seq_go s2, seq_go s3]
  exact kr_7
theorem ke_8 {n : Nat} {v : D} : run Pg (n + 4) 4 [⟨.sh, .int 8⟩, ⟨.sh, v⟩] = .ok (.exc 19 [("value", v)]) .sh [none, none] := by rfl
theorem kp_8 {n : Nat} {v : D} : run Pg (n + 4) 5 [⟨.sh, .int 8⟩, ⟨.sh, (.exc 19 [("value", v)])⟩] = .ok v .sh [none, none] := by rfl
theorem kr_8 {n : Nat} {d v u : D} : exSs Pg.gcs (run Pg (n + 4)) Pg.isa (.cons (.ifs (.op2 .ne (.e (.call 6 (.cons (.s 4) .nil) [])) (.e (.call 8 (.cons (.e (.ife (.op2 .lt (.s 3) (.e (.int 3))) (.tup (.cons (.e (.op2 .add (.e (.int 10)) (.s 3))) (.cons (.e (.int 19)) .nil))) (.tup (.cons (.e (.op2 .add (.e (.int 10)) (.s 3))) .nil)))) (.cons (.e (.int 20)) .nil)) []))) 
    (.cons (.ret (.bl false)) .nil) .nil) (.cons (.ifs (.or (.cons (.e (.op2 .ne (.e (.call 7 (.cons (.s 4) .nil) [])) (.e (.call 8 (.cons (.e (.sub (.s 1) (.s 3))) (.cons (.e (.int 8)) .nil)) [])))) (.cons (.e (.op2 .ne (.e (.call 10 (.cons (.s 3) (.cons (.s 6) .nil)) [])) (.e (.sub (.s 2) (.s 3))))) .nil))) 
    (.cons (.ret (.bl false)) .nil) .nil) .nil)) [some ⟨.io, d⟩, py, wo, shS (.int 8), shS (.exc 19 [("value", v)]), shS (.exc 19 [("value", u)]), shS v, shS u] = .nx [some ⟨.io, d⟩, py, wo, shS (.int 8), shS (.exc 19 [("value", v)]), shS (.exc 19 [("value", u)]), shS v, shS u] := by rfl
theorem kt_8 {n k : Nat} {d : D} {x3 x4 x5 x6 x7 : Option Sl} (R : Reel k d) (hk : k + 200 ≤ 2 ^ 40) (f3 : free x3 = true) (f4 : free x4 = true) (f5 : free x5 = true) (f6 : free x6 = true) (f7 : free x7 = true) :
    ∃ d' v u, foTurn (.nm 3) (kBody n) (.int 8) [some ⟨.io, d⟩, py, wo, x3, x4, x5, x6, x7] = .nx [some ⟨.io, d'⟩, py, wo, shS (.int 8), shS (.exc 19 [("value", v)]), shS (.exc 19 [("value", u)]), shS v, shS u] ∧ Reel (k + 60) d' := by
  obtain ⟨v, d1, e1, ⟨x, V1⟩, R1⟩ := value_ok (n := n) R (by omega)
  obtain ⟨u, d2, e2, ⟨y, V2⟩, R2⟩ := value_ok (n := n) R1 (by omega)
  refine ⟨d2, v, u, ?_, R2⟩
  have sa : assignT [some ⟨.io, d⟩, py, wo, x3, x4, x5, x6, x7] (.int 8) (.nm 3) = some [some ⟨.io, d⟩, py, wo, shS (.int 8), x4, x5, x6, x7] := by simp only [ev_int, ev_str, ev_bl, ev_non, ev_bty, ev_gc, ev_mov, ev_tup, ev_lst, ev_dct, ev_odc, ev_op2, ev_ch, ev_neg, ev_and, ev_or, ev_ife, ev_sub, ev_sl, ev_bi, ev_call, ev_mth, ev_pm, ev_lc, ev_mk, ev_mkx, ev_fld, ev_isx, ev_join, ev_var, ev_varT, ev_notT, ev_notF, ea_e, ea_s, ea_io, es_nil, es_cons, eand_1, eand_2, eor_1, eor_2, ei_nil, ei_1, ex_set, ex_tgt, ex_par, ex_sub, ex_ex, ex_ifs, ex_for_, ex_whl, ex_whw, ex_ret, ex_retN, ex_raise, ex_raisex, ex_try_, ex_pass, ex_brk, ex_ctn, ex_doc, xs_nil, xs_cons, xh_nil, xh_cons, xh_tup, gs_0, ss_0, ge_0, st_0, gs_1, ss_1, ge_1, st_1, gs_2, ss_2, ge_2, st_2, gs_3, ss_3, ge_3, st_3, gs_4, ss_4, ge_4, st_4, gs_5, ss_5, ge_5, st_5, gs_6, ss_6, ge_6, st_6, gs_7, ss_7, ge_7, st_7, gs_8, ss_8, ge_8, st_8, gs_9, ss_9, ge_9, st_9, gs_10, ss_10, ge_10, st_10, so_add, so_sub, so_mul, so_fdiv, so_mod, so_pow, so_eq, so_ne, so_lt, so_le, so_gt, so_ge, so_in, so_nin, so_is, so_isn, d_add, d_addt, d_addl, d_sub, d_mul, d_div, d_mod, d_lt, d_cmp, b_lent, b_lenl, b_lenf, b_abs, b_int, b_intb, b_listl, b_listf, b_listt, b_tupl, b_tupt, b_max2, b_min2, b_all, b_any, b_isi, b_dict, b_listd, b_sorted, b_min1, t_bl, t_int, t_non, t_lst, t_tup, l_tup, l_lst, l_fz, m_app, m_popat, ol_0, ol_1, ol_2, ol_3, ol_4, ol_5, ol_6, ol_7, ol_8, ol_9, ol_10, nd_0, nd_1, nd_0_1, nd_0_2, nd_0_3, nd_0_4, nd_0_5, nd_0_6, nd_0_7, nd_1_0, nd_1_2, nd_1_3, nd_1_4, nd_1_5, nd_1_6, nd_1_7, nd_2_0, nd_2_1, nd_2_3, nd_2_4, nd_2_5, nd_2_6, nd_2_7, nd_3_0, nd_3_1, nd_3_2, nd_3_4, nd_3_5, nd_3_6, nd_3_7, nd_4_0, nd_4_1, nd_4_2, nd_4_3, nd_4_5, nd_4_6, nd_4_7, nd_5_0, nd_5_1, nd_5_2, nd_5_3, nd_5_4, nd_5_6, nd_5_7, nd_6_0, nd_6_1, nd_6_2, nd_6_3, nd_6_4, nd_6_5, nd_6_7, nd_7_0, nd_7_1, nd_7_2, nd_7_3, nd_7_4, nd_7_5, nd_7_6, kb_NoneType_int, kb_NoneType_bool, kb_NoneType_tuple, kb_NoneType_str, kb_NoneType_list, kb_NoneType_dict, kb_bool_int, kb_bool_bool, kb_bool_tuple, kb_bool_str, kb_bool_list, kb_bool_dict, kb_int_int, kb_int_bool, kb_int_tuple, kb_int_str, kb_int_list, kb_int_dict, kb_str_int, kb_str_bool, kb_str_tuple, kb_str_str, kb_str_list, kb_str_dict, kb_tuple_int, kb_tuple_bool, kb_tuple_tuple, kb_tuple_str, kb_tuple_list, kb_tuple_dict, kb_list_int, kb_list_bool, kb_list_tuple, kb_list_str, kb_list_list, kb_list_dict, kb_dict_int, kb_dict_bool, kb_dict_tuple, kb_dict_str, kb_dict_list, kb_dict_dict, it_val, it_enum, it_zip, ow_nil, ow_cons, sn_n, sn_s, le_2, le_3, okb, okt, exb, ext_, sq_nx, sq_rt, sq_ex, ac_nx, ac_rt, ac_ex, fr_n, fr_s, fr_o, oo_n, oo_s, oo_i, oo_b, fin, argF, consF, slotF, ioF, tupF, lstF, dctF, twoF, oneF, chainF, notF, ifF, andF, orF, slF, biF, callG, mthF, pmF, lcF, yesF, varT, readVar, moveVar, setFs, parFs, subFs, dropFs, ifFs, forFs, retFs, raiseFs, raisexFs, mkF, mkxF, htFs, tryFs, hdFs, seqFs, walF, subF, nmF, unpF, putT, putTs, onBl, Ar.get, gets, valsOf, ofRes, mkSl, callF, ioArg, ioArgs, hold1, holds, back, assignT, assignT.assignN, wipeE, putBack, unlock, SR.calm, SR.onEnv, srcOf, seqD, ixR, Option.bind_some, Option.map_some, Option.bind_none, Option.map_none, List.map_cons, List.map_nil, List.cons_append, List.nil_append, if_true, if_false, reduceIte, Bool.false_eq_true, Bool.true_and, Bool.and_true, Option.isSome_some, List.contains_nil, Bool.not_false, Bool.not_true, tyO, tyD, neD, eqD, isNoneB, isLst, f3]
  have s0 : exS Pg.gcs (run Pg (n + 4)) Pg.isa (.par 6 7 (.call 12 (.cons (.io 0) .nil) []) (.call 12 (.cons (.io 0) .nil) [])) [some ⟨.io, d⟩, py, wo, shS (.int 8), x4, x5, x6, x7] = .nx [some ⟨.io, d2⟩, py, wo, shS (.int 8), x4, x5, shS v, shS u] := by
    simp only [ev_int, ev_str, ev_bl, ev_non, ev_bty, ev_gc, ev_mov, ev_tup, ev_lst, ev_dct, ev_odc, ev_op2, ev_ch, ev_neg, ev_and, ev_or, ev_ife, ev_sub, ev_sl, ev_bi, ev_call, ev_mth, ev_pm, ev_lc, ev_mk, ev_mkx, ev_fld, ev_isx, ev_join, ev_var, ev_varT, ev_notT, ev_notF, ea_e, ea_s, ea_io, es_nil, es_cons, eand_1, eand_2, eor_1, eor_2, ei_nil, ei_1, ex_set, ex_tgt, ex_par, ex_sub, ex_ex, ex_ifs, ex_for_, ex_whl, ex_whw, ex_ret, ex_retN, ex_raise, ex_raisex, ex_try_, ex_pass, ex_brk, ex_ctn, ex_doc, xs_nil, xs_cons, xh_nil, xh_cons, xh_tup, gs_0, ss_0, ge_0, st_0, gs_1, ss_1, ge_1, st_1, gs_2, ss_2, ge_2, st_2, gs_3, ss_3, ge_3, st_3, gs_4, ss_4, ge_4, st_4, gs_5, ss_5, ge_5, st_5, gs_6, ss_6, ge_6, st_6, gs_7, ss_7, ge_7, st_7, gs_8, ss_8, ge_8, st_8, gs_9, ss_9, ge_9, st_9, gs_10, ss_10, ge_10, st_10, so_add, so_sub, so_mul, so_fdiv, so_mod, so_pow, so_eq, so_ne, so_lt, so_le, so_gt, so_ge, so_in, so_nin, so_is, so_isn, d_add, d_addt, d_addl, d_sub, d_mul, d_div, d_mod, d_lt, d_cmp, b_lent, b_lenl, b_lenf, b_abs, b_int, b_intb, b_listl, b_listf, b_listt, b_tupl, b_tupt, b_max2, b_min2, b_all, b_any, b_isi, b_dict, b_listd, b_sorted, b_min1, t_bl, t_int, t_non, t_lst, t_tup, l_tup, l_lst, l_fz, m_app, m_popat, ol_0, ol_1, ol_2, ol_3, ol_4, ol_5, ol_6, ol_7, ol_8, ol_9, ol_10, nd_0, nd_1, nd_0_1, nd_0_2, nd_0_3, nd_0_4, nd_0_5, nd_0_6, nd_0_7, nd_1_0, nd_1_2, nd_1_3, nd_1_4, nd_1_5, nd_1_6, nd_1_7, nd_2_0, nd_2_1, nd_2_3, nd_2_4, nd_2_5, nd_2_6, nd_2_7, nd_3_0, nd_3_1, nd_3_2, nd_3_4, nd_3_5, nd_3_6, nd_3_7, nd_4_0, nd_4_1, nd_4_2, nd_4_3, nd_4_5, nd_4_6, nd_4_7, nd_5_0, nd_5_1, nd_5_2, nd_5_3, nd_5_4, nd_5_6, nd_5_7, nd_6_0, nd_6_1, nd_6_2, nd_6_3, nd_6_4, nd_6_5, nd_6_7, nd_7_0, nd_7_1, nd_7_2, nd_7_3, nd_7_4, nd_7_5, nd_7_6, kb_NoneType_int, kb_NoneType_bool, kb_NoneType_tuple, kb_NoneType_str, kb_NoneType_list, kb_NoneType_dict, kb_bool_int, kb_bool_bool, kb_bool_tuple, kb_bool_str, kb_bool_list, kb_bool_dict, kb_int_int, kb_int_bool, kb_int_tuple, kb_int_str, kb_int_list, kb_int_dict, kb_str_int, kb_str_bool, kb_str_tuple, kb_str_str, kb_str_list, kb_str_dict, kb_tuple_int, kb_tuple_bool, kb_tuple_tuple, kb_tuple_str, kb_tuple_list, kb_tuple_dict, kb_list_int, kb_list_bool, kb_list_tuple, kb_list_str, kb_list_list, kb_list_dict, kb_dict_int, kb_dict_bool, kb_dict_tuple, kb_dict_str, kb_dict_list, kb_dict_dict, it_val, it_enum, it_zip, ow_nil, ow_cons, sn_n, sn_s, le_2, le_3, okb, okt, exb, ext_, sq_nx, sq_rt, sq_ex, ac_nx, ac_rt, ac_ex, fr_n, fr_s, fr_o, oo_n, oo_s, oo_i, oo_b, fin, argF, consF, slotF, ioF, tupF, lstF, dctF, twoF, oneF, chainF, notF, ifF, andF, orF, slF, biF, callG, mthF, pmF, lcF, yesF, varT, readVar, moveVar, setFs, parFs, subFs, dropFs, ifFs, forFs, retFs, raiseFs, raisexFs, mkF, mkxF, htFs, tryFs, hdFs, seqFs, walF, subF, nmF, unpF, putT, putTs, onBl, Ar.get, gets, valsOf, ofRes, mkSl, callF, ioArg, ioArgs, hold1, holds, back, assignT, assignT.assignN, wipeE, putBack, unlock, SR.calm, SR.onEnv, srcOf, seqD, ixR, Option.bind_some, Option.map_some, Option.bind_none, Option.map_none, List.map_cons, List.map_nil, List.cons_append, List.nil_append, if_true, if_false, reduceIte, Bool.false_eq_true, Bool.true_and, Bool.and_true, Option.isSome_some, List.contains_nil, Bool.not_false, Bool.not_true, tyO, tyD, neD, eqD, isNoneB, isLst, e1, e2, f6, f7]
  have s1 : exS Pg.gcs (run Pg (n + 4)) Pg.isa (.set 4 (.call 4 (.cons (.s 3) (.cons (.s 6) .nil)) [])) [some ⟨.io, d2⟩, py, wo, shS (.int 8), x4, x5, shS v, shS u] = .nx [some ⟨.io, d2⟩, py, wo, shS (.int 8), shS (.exc 19 [("value", v)]), x5, shS v, shS u] := by
    simp only [ev_int, ev_str, ev_bl, ev_non, ev_bty, ev_gc, ev_mov, ev_tup, ev_lst, ev_dct, ev_odc, ev_op2, ev_ch, ev_neg, ev_and, ev_or, ev_ife, ev_sub, ev_sl, ev_bi, ev_call, ev_mth, ev_pm, ev_lc, ev_mk, ev_mkx, ev_fld, ev_isx, ev_join, ev_var, ev_varT, ev_notT, ev_notF, ea_e, ea_s, ea_io, es_nil, es_cons, eand_1, eand_2, eor_1, eor_2, ei_nil, ei_1, ex_set, ex_tgt, ex_par, ex_sub, ex_ex, ex_ifs, ex_for_, ex_whl, ex_whw, ex_ret, ex_retN, ex_raise, ex_raisex, ex_try_, ex_pass, ex_brk, ex_ctn, ex_doc, xs_nil, xs_cons, xh_nil, xh_cons, xh_tup, gs_0, ss_0, ge_0, st_0, gs_1, ss_1, ge_1, st_1, gs_2, ss_2, ge_2, st_2, gs_3, ss_3, ge_3, st_3, gs_4, ss_4, ge_4, st_4, gs_5, ss_5, ge_5, st_5, gs_6, ss_6, ge_6, st_6, gs_7, ss_7, ge_7, st_7, gs_8, ss_8, ge_8, st_8, gs_9, ss_9, ge_9, st_9, gs_10, ss_10, ge_10, st_10, so_add, so_sub, so_mul, so_fdiv, so_mod, so_pow, so_eq, so_ne, so_lt, so_le, so_gt, so_ge, so_in, so_nin, so_is, so_isn, d_add, d_addt, d_addl, d_sub, d_mul, d_div, d_mod, d_lt, d_cmp, b_lent, b_lenl, b_lenf, b_abs, b_int, b_intb, b_listl, b_listf, b_listt, b_tupl, b_tupt, b_max2, b_min2, b_all, b_any, b_isi, b_dict, b_listd, b_sorted, b_min1, t_bl, t_int, t_non, t_lst, t_tup, l_tup, l_lst, l_fz, m_app, m_popat, ol_0, ol_1, ol_2, ol_3, ol_4, ol_5, ol_6, ol_7, ol_8, ol_9, ol_10, nd_0, nd_1, nd_0_1, nd_0_2, nd_0_3, nd_0_4, nd_0_5, nd_0_6, nd_0_7, nd_1_0, nd_1_2, nd_1_3, nd_1_4, nd_1_5, nd_1_6, nd_1_7, nd_2_0, nd_2_1, nd_2_3, nd_2_4, nd_2_5, nd_2_6, nd_2_7, nd_3_0, nd_3_1, nd_3_2, nd_3_4, nd_3_5, nd_3_6, nd_3_7, nd_4_0, nd_4_1, nd_4_2, nd_4_3, nd_4_5, nd_4_6, nd_4_7, nd_5_0, nd_5_1, nd_5_2, nd_5_3, nd_5_4, nd_5_6, nd_5_7, nd_6_0, nd_6_1, nd_6_2, nd_6_3, nd_6_4, nd_6_5, nd_6_7, nd_7_0, nd_7_1, nd_7_2, nd_7_3, nd_7_4, nd_7_5, nd_7_6, kb_NoneType_int, kb_NoneType_bool, kb_NoneType_tuple, kb_NoneType_str, kb_NoneType_list, kb_NoneType_dict, kb_bool_int, kb_bool_bool, kb_bool_tuple, kb_bool_str, kb_bool_list, kb_bool_dict, kb_int_int, kb_int_bool, kb_int_tuple, kb_int_str, kb_int_list, kb_int_dict, kb_str_int, kb_str_bool, kb_str_tuple, kb_str_str, kb_str_list, kb_str_dict, kb_tuple_int, kb_tuple_bool, kb_tuple_tuple, kb_tuple_str, kb_tuple_list, kb_tuple_dict, kb_list_int, kb_list_bool, kb_list_tuple, kb_list_str, kb_list_list, kb_list_dict, kb_dict_int, kb_dict_bool, kb_dict_tuple, kb_dict_str, kb_dict_list, kb_dict_dict, it_val, it_enum, it_zip, ow_nil, ow_cons, sn_n, sn_s, le_2, le_3, okb, okt, exb, ext_, sq_nx, sq_rt, sq_ex, ac_nx, ac_rt, ac_ex, fr_n, fr_s, fr_o, oo_n, oo_s, oo_i, oo_b, fin, argF, consF, slotF, ioF, tupF, lstF, dctF, twoF, oneF, chainF, notF, ifF, andF, orF, slF, biF, callG, mthF, pmF, lcF, yesF, varT, readVar, moveVar, setFs, parFs, subFs, dropFs, ifFs, forFs, retFs, raiseFs, raisexFs, mkF, mkxF, htFs, tryFs, hdFs, seqFs, walF, subF, nmF, unpF, putT, putTs, onBl, Ar.get, gets, valsOf, ofRes, mkSl, callF, ioArg, ioArgs, hold1, holds, back, assignT, assignT.assignN, wipeE, putBack, unlock, SR.calm, SR.onEnv, srcOf, seqD, ixR, Option.bind_some, Option.map_some, Option.bind_none, Option.map_none, List.map_cons, List.map_nil, List.cons_append, List.nil_append, if_true, if_false, reduceIte, Bool.false_eq_true, Bool.true_and, Bool.and_true, Option.isSome_some, List.contains_nil, Bool.not_false, Bool.not_true, tyO, tyD, neD, eqD, isNoneB, isLst, ke_8, f4]
  have s2 : exS Pg.gcs (run Pg (n + 4)) Pg.isa (.set 5 (.call 4 (.cons (.s 3) (.cons (.s 7) .nil)) [])) [some ⟨.io, d2⟩, py, wo, shS (.int 8), shS (.exc 19 [("value", v)]), x5, shS v, shS u] = .nx [some ⟨.io, d2⟩, py, wo, shS (.int 8), shS (.exc 19 [("value", v)]), shS (.exc 19 [("value", u)]), shS v, shS u] := by
    simp only [ev_int, ev_str, ev_bl, ev_non, ev_bty, ev_gc, ev_mov, ev_tup, ev_lst, ev_dct, ev_odc, ev_op2, ev_ch, ev_neg, ev_and, ev_or, ev_ife, ev_sub, ev_sl, ev_bi, ev_call, ev_mth, ev_pm, ev_lc, ev_mk, ev_mkx, ev_fld, ev_isx, ev_join, ev_var, ev_varT, ev_notT, ev_notF, ea_e, ea_s, ea_io, es_nil, es_cons, eand_1, eand_2, eor_1, eor_2, ei_nil, ei_1, ex_set, ex_tgt, ex_par, ex_sub, ex_ex, ex_ifs, ex_for_, ex_whl, ex_whw, ex_ret, ex_retN, ex_raise, ex_raisex, ex_try_, ex_pass, ex_brk, ex_ctn, ex_doc, xs_nil, xs_cons, xh_nil, xh_cons, xh_tup, gs_0, ss_0, ge_0, st_0, gs_1, ss_1, ge_1, st_1, gs_2, ss_2, ge_2, st_2, gs_3, ss_3, ge_3, st_3, gs_4, ss_4, ge_4, st_4, gs_5, ss_5, ge_5, st_5, gs_6, ss_6, ge_6, st_6, gs_7, ss_7, ge_7, st_7, gs_8, ss_8, ge_8, st_8, gs_9, ss_9, ge_9, st_9, gs_10, ss_10, ge_10, st_10, so_add, so_sub, so_mul, so_fdiv, so_mod, so_pow, so_eq, so_ne, so_lt, so_le, so_gt, so_ge, so_in, so_nin, so_is, so_isn, d_add, d_addt, d_addl, d_sub, d_mul, d_div, d_mod, d_lt, d_cmp, b_lent, b_lenl, b_lenf, b_abs, b_int, b_intb, b_listl, b_listf, b_listt, b_tupl, b_tupt, b_max2, b_min2, b_all, b_any, b_isi, b_dict, b_listd, b_sorted, b_min1, t_bl, t_int, t_non, t_lst, t_tup, l_tup, l_lst, l_fz, m_app, m_popat, ol_0, ol_1, ol_2, ol_3, ol_4, ol_5, ol_6, ol_7, ol_8, ol_9, ol_10, nd_0, nd_1, nd_0_1, nd_0_2, nd_0_3, nd_0_4, nd_0_5, nd_0_6, nd_0_7, nd_1_0, nd_1_2, nd_1_3, nd_1_4, nd_1_5, nd_1_6, nd_1_7, nd_2_0, nd_2_1, nd_2_3, nd_2_4, nd_2_5, nd_2_6, nd_2_7, nd_3_0, nd_3_1, nd_3_2, nd_3_4, nd_3_5, nd_3_6, nd_3_7, nd_4_0, nd_4_1, nd_4_2, nd_4_3, nd_4_5, nd_4_6, nd_4_7, nd_5_0, nd_5_1, nd_5_2, nd_5_3, nd_5_4, nd_5_6, nd_5_7, nd_6_0, nd_6_1, nd_6_2, nd_6_3, nd_6_4, nd_6_5, nd_6_7, nd_7_0, nd_7_1, nd_7_2, nd_7_3, nd_7_4, nd_7_5, nd_7_6, kb_NoneType_int, kb_NoneType_bool, kb_NoneType_tuple, kb_NoneType_str, kb_NoneType_list, kb_NoneType_dict, kb_bool_int, kb_bool_bool, kb_bool_tuple, kb_bool_str, kb_bool_list, kb_bool_dict, kb_int_int, kb_int_bool, kb_int_tuple, kb_int_str, kb_int_list, kb_int_dict, kb_str_int, kb_str_bool, kb_str_tuple, kb_str_str, kb_str_list, kb_str_dict, kb_tuple_int, kb_tuple_bool, kb_tuple_tuple, kb_tuple_str, kb_tuple_list, kb_tuple_dict, kb_list_int, kb_list_bool, kb_list_tuple, kb_list_str, kb_list_list, kb_list_dict, kb_dict_int, kb_dict_bool, kb_dict_tuple, kb_dict_str, kb_dict_list, kb_dict_dict, it_val, it_enum, it_zip, ow_nil, ow_cons, sn_n, sn_s, le_2, le_3, okb, okt, exb, ext_, sq_nx, sq_rt, sq_ex, ac_nx, ac_rt, ac_ex, fr_n, fr_s, fr_o, oo_n, oo_s, oo_i, oo_b, fin, argF, consF, slotF, ioF, tupF, lstF, dctF, twoF, oneF, chainF, notF, ifF, andF, orF, slF, biF, callG, mthF, pmF, lcF, yesF, varT, readVar, moveVar, setFs, parFs, subFs, dropFs, ifFs, forFs, retFs, raiseFs, raisexFs, mkF, mkxF, htFs, tryFs, hdFs, seqFs, walF, subF, nmF, unpF, putT, putTs, onBl, Ar.get, gets, valsOf, ofRes, mkSl, callF, ioArg, ioArgs, hold1, holds, back, assignT, assignT.assignN, wipeE, putBack, unlock, SR.calm, SR.onEnv, srcOf, seqD, ixR, Option.bind_some, Option.map_some, Option.bind_none, Option.map_none, List.map_cons, List.map_nil, List.cons_append, List.nil_append, if_true, if_false, reduceIte, Bool.false_eq_true, Bool.true_and, Bool.and_true, Option.isSome_some, List.contains_nil, Bool.not_false, Bool.not_true, tyO, tyD, neD, eqD, isNoneB, isLst, ke_8, f5]
  have s3 : exS Pg.gcs (run Pg (n + 4)) Pg.isa (.ifs (.or (.cons (.e (.op2 .ne (.e (.bi .repr (.cons (.e (.call 5 (.cons (.s 3) (.cons (.s 4) .nil)) [])) .nil))) (.e (.bi .repr (.cons (.s 6) .nil))))) (.cons (.e (.op2 .ne (.e (.bi .repr (.cons (.e (.call 5 (.cons (.s 3) (.cons (.s 5) .nil)) [])) .nil))) (.e (.bi .repr (.cons (.s 7) .nil))))) .nil))) 
    (.cons (.ret (.bl false)) .nil) .nil) [some ⟨.io, d2⟩, py, wo, shS (.int 8), shS (.exc 19 [("value", v)]), shS (.exc 19 [("value", u)]), shS v, shS u] = .nx [some ⟨.io, d2⟩, py, wo, shS (.int 8), shS (.exc 19 [("value", v)]), shS (.exc 19 [("value", u)]), shS v, shS u] := by
    simp only [ev_int, ev_str, ev_bl, ev_non, ev_bty, ev_gc, ev_mov, ev_tup, ev_lst, ev_dct, ev_odc, ev_op2, ev_ch, ev_neg, ev_and, ev_or, ev_ife, ev_sub, ev_sl, ev_bi, ev_call, ev_mth, ev_pm, ev_lc, ev_mk, ev_mkx, ev_fld, ev_isx, ev_join, ev_var, ev_varT, ev_notT, ev_notF, ea_e, ea_s, ea_io, es_nil, es_cons, eand_1, eand_2, eor_1, eor_2, ei_nil, ei_1, ex_set, ex_tgt, ex_par, ex_sub, ex_ex, ex_ifs, ex_for_, ex_whl, ex_whw, ex_ret, ex_retN, ex_raise, ex_raisex, ex_try_, ex_pass, ex_brk, ex_ctn, ex_doc, xs_nil, xs_cons, xh_nil, xh_cons, xh_tup, gs_0, ss_0, ge_0, st_0, gs_1, ss_1, ge_1, st_1, gs_2, ss_2, ge_2, st_2, gs_3, ss_3, ge_3, st_3, gs_4, ss_4, ge_4, st_4, gs_5, ss_5, ge_5, st_5, gs_6, ss_6, ge_6, st_6, gs_7, ss_7, ge_7, st_7, gs_8, ss_8, ge_8, st_8, gs_9, ss_9, ge_9, st_9, gs_10, ss_10, ge_10, st_10, so_add, so_sub, so_mul, so_fdiv, so_mod, so_pow, so_eq, so_ne, so_lt, so_le, so_gt, so_ge, so_in, so_nin, so_is, so_isn, d_add, d_addt, d_addl, d_sub, d_mul, d_div, d_mod, d_lt, d_cmp, b_lent, b_lenl, b_lenf, b_abs, b_int, b_intb, b_listl, b_listf, b_listt, b_tupl, b_tupt, b_max2, b_min2, b_all, b_any, b_isi, b_dict, b_listd, b_sorted, b_min1, t_bl, t_int, t_non, t_lst, t_tup, l_tup, l_lst, l_fz, m_app, m_popat, ol_0, ol_1, ol_2, ol_3, ol_4, ol_5, ol_6, ol_7, ol_8, ol_9, ol_10, nd_0, nd_1, nd_0_1, nd_0_2, nd_0_3, nd_0_4, nd_0_5, nd_0_6, nd_0_7, nd_1_0, nd_1_2, nd_1_3, nd_1_4, nd_1_5, nd_1_6, nd_1_7, nd_2_0, nd_2_1, nd_2_3, nd_2_4, nd_2_5, nd_2_6, nd_2_7, nd_3_0, nd_3_1, nd_3_2, nd_3_4, nd_3_5, nd_3_6, nd_3_7, nd_4_0, nd_4_1, nd_4_2, nd_4_3, nd_4_5, nd_4_6, nd_4_7, nd_5_0, nd_5_1, nd_5_2, nd_5_3, nd_5_4, nd_5_6, nd_5_7, nd_6_0, nd_6_1, nd_6_2, nd_6_3, nd_6_4, nd_6_5, nd_6_7, nd_7_0, nd_7_1, nd_7_2, nd_7_3, nd_7_4, nd_7_5, nd_7_6, kb_NoneType_int, kb_NoneType_bool, kb_NoneType_tuple, kb_NoneType_str, kb_NoneType_list, kb_NoneType_dict, kb_bool_int, kb_bool_bool, kb_bool_tuple, kb_bool_str, kb_bool_list, kb_bool_dict, kb_int_int, kb_int_bool, kb_int_tuple, kb_int_str, kb_int_list, kb_int_dict, kb_str_int, kb_str_bool, kb_str_tuple, kb_str_str, kb_str_list, kb_str_dict, kb_tuple_int, kb_tuple_bool, kb_tuple_tuple, kb_tuple_str, kb_tuple_list, kb_tuple_dict, kb_list_int, kb_list_bool, kb_list_tuple, kb_list_str, kb_list_list, kb_list_dict, kb_dict_int, kb_dict_bool, kb_dict_tuple, kb_dict_str, kb_dict_list, kb_dict_dict, it_val, it_enum, it_zip, ow_nil, ow_cons, sn_n, sn_s, le_2, le_3, okb, okt, exb, ext_, sq_nx, sq_rt, sq_ex, ac_nx, ac_rt, ac_ex, fr_n, fr_s, fr_o, oo_n, oo_s, oo_i, oo_b, fin, argF, consF, slotF, ioF, tupF, lstF, dctF, twoF, oneF, chainF, notF, ifF, andF, orF, slF, biF, callG, mthF, pmF, lcF, yesF, varT, readVar, moveVar, setFs, parFs, subFs, dropFs, ifFs, forFs, retFs, raiseFs, raisexFs, mkF, mkxF, htFs, tryFs, hdFs, seqFs, walF, subF, nmF, unpF, putT, putTs, onBl, Ar.get, gets, valsOf, ofRes, mkSl, callF, ioArg, ioArgs, hold1, holds, back, assignT, assignT.assignN, wipeE, putBack, unlock, SR.calm, SR.onEnv, srcOf, seqD, ixR, Option.bind_some, Option.map_some, Option.bind_none, Option.map_none, List.map_cons, List.map_nil, List.cons_append, List.nil_append, if_true, if_false, reduceIte, Bool.false_eq_true, Bool.true_and, Bool.and_true, Option.isSome_some, List.contains_nil, Bool.not_false, Bool.not_true, tyO, tyD, neD, eqD, isNoneB, isLst, kp_8, V1, V2, eq_str]
  unfold foTurn kBody
  rw [sa]
  dsimp only
  rw [seq_go s0, seq_go s1, seq_go s2, seq_go s3]
  exact kr_8
theorem keep_ok {n k : Nat} {d : D} (R : Reel k d) (hk : k + 2000 ≤ 2 ^ 40) : ∃ d', run Pg (n + 5) 14 [⟨.io, d⟩] = .ok (.bl true) .sh [some ⟨.io, d'⟩] ∧ Reel (k + 600) d' := by
  obtain ⟨d1, v0, u0, t0, R1⟩ := kt_0 (n := n) (x3 := none) (x4 := none) (x5 := none) (x6 := none) (x7 := none) R (by omega) rfl rfl rfl rfl rfl
  obtain ⟨d2, v1, u1, t1, R2⟩ := kt_1 (n := n) (x3 := shS (.int 0)) (x4 := shS (.exc 11 [("line", v0)])) (x5 := shS (.exc 11 [("line", u0)])) (x6 := shS v0) (x7 := shS u0) R1 (by omega) rfl rfl rfl rfl rfl
  obtain ⟨d3, v2, u2, t2, R3⟩ := kt_2 (n := n) (x3 := shS (.int 1)) (x4 := shS (.exc 12 [("constraint", v1)])) (x5 := shS (.exc 12 [("constraint", u1)])) (x6 := shS v1) (x7 := shS u1) R2 (by omega) rfl rfl rfl rfl rfl
  obtain ⟨d4, v3, u3, t3, R4⟩ := kt_3 (n := n) (x3 := shS (.int 2)) (x4 := shS (.exc 13 [("reason", v2)])) (x5 := shS (.exc 13 [("reason", u2)])) (x6 := shS v2) (x7 := shS u2) R3 (by omega) rfl rfl rfl rfl rfl
  obtain ⟨d5, v4, u4, t4, R5⟩ := kt_4 (n := n) (x3 := shS (.int 3)) (x4 := shS (.exc 14 [("name", v3)])) (x5 := shS (.exc 14 [("name", u3)])) (x6 := shS v3) (x7 := shS u3) R4 (by omega) rfl rfl rfl rfl rfl
  obtain ⟨d6, v5, u5, t5, R6⟩ := kt_5 (n := n) (x3 := shS (.int 4)) (x4 := shS (.exc 15 [("row", v4)])) (x5 := shS (.exc 15 [("row", u4)])) (x6 := shS v4) (x7 := shS u4) R5 (by omega) rfl rfl rfl rfl rfl
  obtain ⟨d7, v6, u6, t6, R7⟩ := kt_6 (n := n) (x3 := shS (.int 5)) (x4 := shS (.exc 16 [("many", v5)])) (x5 := shS (.exc 16 [("many", u5)])) (x6 := shS v5) (x7 := shS u5) R6 (by omega) rfl rfl rfl rfl rfl
  obtain ⟨d8, v7, u7, t7, R8⟩ := kt_7 (n := n) (x3 := shS (.int 6)) (x4 := shS (.exc 17 [("limit", v6)])) (x5 := shS (.exc 17 [("limit", u6)])) (x6 := shS v6) (x7 := shS u6) R7 (by omega) rfl rfl rfl rfl rfl
  obtain ⟨d9, v8, u8, t8, R9⟩ := kt_8 (n := n) (x3 := shS (.int 7)) (x4 := shS (.exc 18 [("value", v7)])) (x5 := shS (.exc 18 [("value", u7)])) (x6 := shS v7) (x7 := shS u7) R8 (by omega) rfl rfl rfl rfl rfl
  refine ⟨d9, ?_, R9.up (by omega)⟩
  have fl : forLoop (.nm 3) (kBody n) (rngD 0 9) [some ⟨.io, d⟩, py, wo, none, none, none, none, none] = .nx [some ⟨.io, d9⟩, py, wo, shS (.int 8), shS (.exc 19 [("value", v8)]), shS (.exc 19 [("value", u8)]), shS v8, shS u8] := by
    rw [rng9, for_nx t0, for_nx t1, for_nx t2, for_nx t3, for_nx t4, for_nx t5, for_nx t6, for_nx t7, for_nx t8, forLoop]
  unfold kBody at fl
  simp only [r14, b14, ev_int, ev_str, ev_bl, ev_non, ev_bty, ev_gc, ev_mov, ev_tup, ev_lst, ev_dct, ev_odc, ev_op2, ev_ch, ev_neg, ev_and, ev_or, ev_ife, ev_sub, ev_sl, ev_bi, ev_call, ev_mth, ev_pm, ev_lc, ev_mk, ev_mkx, ev_fld, ev_isx, ev_join, ev_var, ev_varT, ev_notT, ev_notF, ea_e, ea_s, ea_io, es_nil, es_cons, eand_1, eand_2, eor_1, eor_2, ei_nil, ei_1, ex_set, ex_tgt, ex_par, ex_sub, ex_ex, ex_ifs, ex_for_, ex_whl, ex_whw, ex_ret, ex_retN, ex_raise, ex_raisex, ex_try_, ex_pass, ex_brk, ex_ctn, ex_doc, xs_nil, xs_cons, xh_nil, xh_cons, xh_tup, gs_0, ss_0, ge_0, st_0, gs_1, ss_1, ge_1, st_1, gs_2, ss_2, ge_2, st_2, gs_3, ss_3, ge_3, st_3, gs_4, ss_4, ge_4, st_4, gs_5, ss_5, ge_5, st_5, gs_6, ss_6, ge_6, st_6, gs_7, ss_7, ge_7, st_7, gs_8, ss_8, ge_8, st_8, gs_9, ss_9, ge_9, st_9, gs_10, ss_10, ge_10, st_10, so_add, so_sub, so_mul, so_fdiv, so_mod, so_pow, so_eq, so_ne, so_lt, so_le, so_gt, so_ge, so_in, so_nin, so_is, so_isn, d_add, d_addt, d_addl, d_sub, d_mul, d_div, d_mod, d_lt, d_cmp, b_lent, b_lenl, b_lenf, b_abs, b_int, b_intb, b_listl, b_listf, b_listt, b_tupl, b_tupt, b_max2, b_min2, b_all, b_any, b_isi, b_dict, b_listd, b_sorted, b_min1, t_bl, t_int, t_non, t_lst, t_tup, l_tup, l_lst, l_fz, m_app, m_popat, ol_0, ol_1, ol_2, ol_3, ol_4, ol_5, ol_6, ol_7, ol_8, ol_9, ol_10, nd_0, nd_1, nd_0_1, nd_0_2, nd_0_3, nd_0_4, nd_0_5, nd_0_6, nd_0_7, nd_1_0, nd_1_2, nd_1_3, nd_1_4, nd_1_5, nd_1_6, nd_1_7, nd_2_0, nd_2_1, nd_2_3, nd_2_4, nd_2_5, nd_2_6, nd_2_7, nd_3_0, nd_3_1, nd_3_2, nd_3_4, nd_3_5, nd_3_6, nd_3_7, nd_4_0, nd_4_1, nd_4_2, nd_4_3, nd_4_5, nd_4_6, nd_4_7, nd_5_0, nd_5_1, nd_5_2, nd_5_3, nd_5_4, nd_5_6, nd_5_7, nd_6_0, nd_6_1, nd_6_2, nd_6_3, nd_6_4, nd_6_5, nd_6_7, nd_7_0, nd_7_1, nd_7_2, nd_7_3, nd_7_4, nd_7_5, nd_7_6, kb_NoneType_int, kb_NoneType_bool, kb_NoneType_tuple, kb_NoneType_str, kb_NoneType_list, kb_NoneType_dict, kb_bool_int, kb_bool_bool, kb_bool_tuple, kb_bool_str, kb_bool_list, kb_bool_dict, kb_int_int, kb_int_bool, kb_int_tuple, kb_int_str, kb_int_list, kb_int_dict, kb_str_int, kb_str_bool, kb_str_tuple, kb_str_str, kb_str_list, kb_str_dict, kb_tuple_int, kb_tuple_bool, kb_tuple_tuple, kb_tuple_str, kb_tuple_list, kb_tuple_dict, kb_list_int, kb_list_bool, kb_list_tuple, kb_list_str, kb_list_list, kb_list_dict, kb_dict_int, kb_dict_bool, kb_dict_tuple, kb_dict_str, kb_dict_list, kb_dict_dict, it_val, it_enum, it_zip, ow_nil, ow_cons, sn_n, sn_s, le_2, le_3, okb, okt, exb, ext_, sq_nx, sq_rt, sq_ex, ac_nx, ac_rt, ac_ex, fr_n, fr_s, fr_o, oo_n, oo_s, oo_i, oo_b, fin, argF, consF, slotF, ioF, tupF, lstF, dctF, twoF, oneF, chainF, notF, ifF, andF, orF, slF, biF, callG, mthF, pmF, lcF, yesF, varT, readVar, moveVar, setFs, parFs, subFs, dropFs, ifFs, forFs, retFs, raiseFs, raisexFs, mkF, mkxF, htFs, tryFs, hdFs, seqFs, walF, subF, nmF, unpF, putT, putTs, onBl, Ar.get, gets, valsOf, ofRes, mkSl, callF, ioArg, ioArgs, hold1, holds, back, assignT, assignT.assignN, wipeE, putBack, unlock, SR.calm, SR.onEnv, srcOf, seqD, ixR, Option.bind_some, Option.map_some, Option.bind_none, Option.map_none, List.map_cons, List.map_nil, List.cons_append, List.nil_append, if_true, if_false, reduceIte, Bool.false_eq_true, Bool.true_and, Bool.and_true, Option.isSome_some, List.contains_nil, Bool.not_false, Bool.not_true, tyO, tyD, neD, eqD, isNoneB, isLst, it9, fl]
end K00

set_option Elab.async false
set_option linter.all false
set_option maxRecDepth 100000
set_option maxHeartbeats 4000000
namespace K00
open PySem DI
theorem pwA {i j : Int} {k : Nat} (h0 : 0 ≤ j) (h : (Builtin.Int.intBits i : Int) * j ≤ 2 ^ 27) (hk : j.toNat = k) : powD (.int i) (.int j) = some (.int (i ^ k), .sh) := by
  show (if 0 ≤ j ∧ (Builtin.Int.intBits i : Int) * j ≤ 2 ^ 27 then shv (.int (i ^ j.toNat)) else none) = _
  rw [if_pos ⟨h0, h⟩, hk]; rfl
theorem pw58 : powD (.int 10) (.int 58) = some (.int (10 ^ 58), .sh) := pwA (by decide) (by decide +kernel) rfl
theorem pw580 : powD (.int (10 ^ 58)) (.int 10) = some (.int ((10 ^ 58) ^ 10), .sh) := pwA (by decide) (by decide +kernel) rfl
theorem pw18 : powD (.int 10) (.int 18) = some (.int (10 ^ 18), .sh) := pwA (by decide) (by decide +kernel) rfl
theorem dice_tail {n : Nat} {S : D} {i : Nat} {c : Int} (hi : i ≤ 100) : ∃ d, exSs Pg.gcs (run Pg n) Pg.isa (.cons (.set 3 (.op2 .mod (.e (.bi .int (.cons (.e (.bi .abs (.cons (.s 2) .nil))) .nil))) (.e (.op2 .pow (.e (.op2 .pow (.e (.int 10)) (.e (.int 58)))) (.e (.int 10)))))) (.cons (.ret (.lst (.cons (.e (.ife (.op2 .ge (.s 3) (.e (.op2 .pow (.e (.int 10)) (.e (.int 18))))) (.var 3) (.int 0))) (.cons (.e (.op2 .add (.e (.op2 .add (.e (.op2 .add (.e (.op2 .mul (.e (.int 2)) (.s 3))) (.e (.bi .int (.cons (.e (.op2 .lt (.s 2) (.e (.int 0)))) .nil))))) (.e (.op2 .mul (.e (.int 65537)) (.s 1))))) (.e (.int 1)))) (.cons (.e (.int 0)) .nil))))) .nil)) [shS S, shS (.int (i : Int)), shS (.int c), none] = .rt d .fr [shS S, shS (.int (i : Int)), shS (.int c), shS (.int ((if c < 0 then -c else c).fmod ((10 ^ 58) ^ 10)))] ∧ Reel 0 d := by
  have z1 : ¬ (((10 : Int) ^ 58) ^ 10 = 0) := by decide +kernel
  have hg := fmod_lt (a := if c < 0 then -c else c) (b := (10 ^ 58) ^ 10) (by decide +kernel)
  have hb : (((10 : Int) ^ 58) ^ 10) ≤ 2 ^ 2000 := by decide +kernel
  generalize hgg : (if c < 0 then -c else c).fmod ((10 ^ 58) ^ 10) = g at *
  have hga : g.natAbs ≤ 2 ^ 2000 := by
    have h1 : (g.natAbs : Int) = g := Int.natAbs_of_nonneg hg.1
    have h2 : (g.natAbs : Int) ≤ ((2 ^ 2000 : Nat) : Int) := by
      rw [h1]
      have : (((2 : Nat) ^ 2000 : Nat) : Int) = (2 : Int) ^ 2000 := by push_cast; rfl
      rw [this]; omega
    exact Int.ofNat_le.mp h2
  have m1 : mulOk 2 g = true := mulOk_of (a := 2) (by decide) hga (by omega)
  have m2 : mulOk 65537 (i : Int) = true := mulOk_of (a := 20) (b := 20) (by decide) (by omega) (by omega)
  have hs : (2 * g + (if decide (c < 0) = true then 1 else 0) + 65537 * (i : Int) + 1).natAbs ≤ 2 ^ 2100 := by
    have e : (2 : Nat) ^ 2100 = 2 ^ 2000 * 2 ^ 100 := by rw [← Nat.pow_add]
    have e2 : (2 : Nat) ^ 2000 ≥ 2 ^ 30 := Nat.pow_le_pow_right (by omega) (by omega)
    have e3 : (2 : Nat) ^ 100 ≥ 4 := by decide
    have e4 : 2 ^ 2000 * 4 ≤ 2 ^ 2000 * 2 ^ 100 := Nat.mul_le_mul_left _ e3
    have e5 : (2 : Nat) ^ 30 = 1073741824 := by decide
    rw [e]
    generalize (2 : Nat) ^ 2000 = p at *
    generalize (2 : Nat) ^ 100 = r at *
    generalize p * r = pr at *
    split <;> omega
  by_cases q : (10 : Int) ^ 18 ≤ g
  · refine ⟨.lst [.int g, .int (2 * g + (if decide (c < 0) = true then 1 else 0) + 65537 * (i : Int) + 1), .int 0], ?_, _, _, _, rfl, hs, by omega, by omega⟩
    simp only [ev_int, ev_str, ev_bl, ev_non, ev_bty, ev_gc, ev_mov, ev_tup, ev_lst, ev_dct, ev_odc, ev_op2, ev_ch, ev_neg, ev_and, ev_or, ev_ife, ev_sub, ev_sl, ev_bi, ev_call, ev_mth, ev_pm, ev_lc, ev_mk, ev_mkx, ev_fld, ev_isx, ev_join, ev_var, ev_varT, ev_notT, ev_notF, ea_e, ea_s, ea_io, es_nil, es_cons, eand_1, eand_2, eor_1, eor_2, ei_nil, ei_1, ex_set, ex_tgt, ex_par, ex_sub, ex_ex, ex_ifs, ex_for_, ex_whl, ex_whw, ex_ret, ex_retN, ex_raise, ex_raisex, ex_try_, ex_pass, ex_brk, ex_ctn, ex_doc, xs_nil, xs_cons, xh_nil, xh_cons, xh_tup, gs_0, ss_0, ge_0, st_0, gs_1, ss_1, ge_1, st_1, gs_2, ss_2, ge_2, st_2, gs_3, ss_3, ge_3, st_3, gs_4, ss_4, ge_4, st_4, gs_5, ss_5, ge_5, st_5, gs_6, ss_6, ge_6, st_6, gs_7, ss_7, ge_7, st_7, gs_8, ss_8, ge_8, st_8, gs_9, ss_9, ge_9, st_9, gs_10, ss_10, ge_10, st_10, so_add, so_sub, so_mul, so_fdiv, so_mod, so_pow, so_eq, so_ne, so_lt, so_le, so_gt, so_ge, so_in, so_nin, so_is, so_isn, d_add, d_addt, d_addl, d_sub, d_mul, d_div, d_mod, d_lt, d_cmp, b_lent, b_lenl, b_lenf, b_abs, b_int, b_intb, b_listl, b_listf, b_listt, b_tupl, b_tupt, b_max2, b_min2, b_all, b_any, b_isi, b_dict, b_listd, b_sorted, b_min1, t_bl, t_int, t_non, t_lst, t_tup, l_tup, l_lst, l_fz, m_app, m_popat, ol_0, ol_1, ol_2, ol_3, ol_4, ol_5, ol_6, ol_7, ol_8, ol_9, ol_10, nd_0, nd_1, nd_0_1, nd_0_2, nd_0_3, nd_0_4, nd_0_5, nd_0_6, nd_0_7, nd_1_0, nd_1_2, nd_1_3, nd_1_4, nd_1_5, nd_1_6, nd_1_7, nd_2_0, nd_2_1, nd_2_3, nd_2_4, nd_2_5, nd_2_6, nd_2_7, nd_3_0, nd_3_1, nd_3_2, nd_3_4, nd_3_5, nd_3_6, nd_3_7, nd_4_0, nd_4_1, nd_4_2, nd_4_3, nd_4_5, nd_4_6, nd_4_7, nd_5_0, nd_5_1, nd_5_2, nd_5_3, nd_5_4, nd_5_6, nd_5_7, nd_6_0, nd_6_1, nd_6_2, nd_6_3, nd_6_4, nd_6_5, nd_6_7, nd_7_0, nd_7_1, nd_7_2, nd_7_3, nd_7_4, nd_7_5, nd_7_6, kb_NoneType_int, kb_NoneType_bool, kb_NoneType_tuple, kb_NoneType_str, kb_NoneType_list, kb_NoneType_dict, kb_bool_int, kb_bool_bool, kb_bool_tuple, kb_bool_str, kb_bool_list, kb_bool_dict, kb_int_int, kb_int_bool, kb_int_tuple, kb_int_str, kb_int_list, kb_int_dict, kb_str_int, kb_str_bool, kb_str_tuple, kb_str_str, kb_str_list, kb_str_dict, kb_tuple_int, kb_tuple_bool, kb_tuple_tuple, kb_tuple_str, kb_tuple_list, kb_tuple_dict, kb_list_int, kb_list_bool, kb_list_tuple, kb_list_str, kb_list_list, kb_list_dict, kb_dict_int, kb_dict_bool, kb_dict_tuple, kb_dict_str, kb_dict_list, kb_dict_dict, it_val, it_enum, it_zip, ow_nil, ow_cons, sn_n, sn_s, le_2, le_3, okb, okt, exb, ext_, sq_nx, sq_rt, sq_ex, ac_nx, ac_rt, ac_ex, fr_n, fr_s, fr_o, oo_n, oo_s, oo_i, oo_b, fin, argF, consF, slotF, ioF, tupF, lstF, dctF, twoF, oneF, chainF, notF, ifF, andF, orF, slF, biF, callG, mthF, pmF, lcF, yesF, varT, readVar, moveVar, setFs, parFs, subFs, dropFs, ifFs, forFs, retFs, raiseFs, raisexFs, mkF, mkxF, htFs, tryFs, hdFs, seqFs, walF, subF, nmF, unpF, putT, putTs, onBl, Ar.get, gets, valsOf, ofRes, mkSl, callF, ioArg, ioArgs, hold1, holds, back, assignT, assignT.assignN, wipeE, putBack, unlock, SR.calm, SR.onEnv, srcOf, seqD, ixR, Option.bind_some, Option.map_some, Option.bind_none, Option.map_none, List.map_cons, List.map_nil, List.cons_append, List.nil_append, if_true, if_false, reduceIte, Bool.false_eq_true, Bool.true_and, Bool.and_true, Option.isSome_some, List.contains_nil, Bool.not_false, Bool.not_true, tyO, tyD, neD, eqD, isNoneB, isLst, pw58, pw580, pw18, ne_eq, z1, not_false_eq_true, hgg, m1, m2, q, decide_true]
  · refine ⟨.lst [.int 0, .int (2 * g + (if decide (c < 0) = true then 1 else 0) + 65537 * (i : Int) + 1), .int 0], ?_, _, _, _, rfl, hs, by omega, by omega⟩
    simp only [ev_int, ev_str, ev_bl, ev_non, ev_bty, ev_gc, ev_mov, ev_tup, ev_lst, ev_dct, ev_odc, ev_op2, ev_ch, ev_neg, ev_and, ev_or, ev_ife, ev_sub, ev_sl, ev_bi, ev_call, ev_mth, ev_pm, ev_lc, ev_mk, ev_mkx, ev_fld, ev_isx, ev_join, ev_var, ev_varT, ev_notT, ev_notF, ea_e, ea_s, ea_io, es_nil, es_cons, eand_1, eand_2, eor_1, eor_2, ei_nil, ei_1, ex_set, ex_tgt, ex_par, ex_sub, ex_ex, ex_ifs, ex_for_, ex_whl, ex_whw, ex_ret, ex_retN, ex_raise, ex_raisex, ex_try_, ex_pass, ex_brk, ex_ctn, ex_doc, xs_nil, xs_cons, xh_nil, xh_cons, xh_tup, gs_0, ss_0, ge_0, st_0, gs_1, ss_1, ge_1, st_1, gs_2, ss_2, ge_2, st_2, gs_3, ss_3, ge_3, st_3, gs_4, ss_4, ge_4, st_4, gs_5, ss_5, ge_5, st_5, gs_6, ss_6, ge_6, st_6, gs_7, ss_7, ge_7, st_7, gs_8, ss_8, ge_8, st_8, gs_9, ss_9, ge_9, st_9, gs_10, ss_10, ge_10, st_10, so_add, so_sub, so_mul, so_fdiv, so_mod, so_pow, so_eq, so_ne, so_lt, so_le, so_gt, so_ge, so_in, so_nin, so_is, so_isn, d_add, d_addt, d_addl, d_sub, d_mul, d_div, d_mod, d_lt, d_cmp, b_lent, b_lenl, b_lenf, b_abs, b_int, b_intb, b_listl, b_listf, b_listt, b_tupl, b_tupt, b_max2, b_min2, b_all, b_any, b_isi, b_dict, b_listd, b_sorted, b_min1, t_bl, t_int, t_non, t_lst, t_tup, l_tup, l_lst, l_fz, m_app, m_popat, ol_0, ol_1, ol_2, ol_3, ol_4, ol_5, ol_6, ol_7, ol_8, ol_9, ol_10, nd_0, nd_1, nd_0_1, nd_0_2, nd_0_3, nd_0_4, nd_0_5, nd_0_6, nd_0_7, nd_1_0, nd_1_2, nd_1_3, nd_1_4, nd_1_5, nd_1_6, nd_1_7, nd_2_0, nd_2_1, nd_2_3, nd_2_4, nd_2_5, nd_2_6, nd_2_7, nd_3_0, nd_3_1, nd_3_2, nd_3_4, nd_3_5, nd_3_6, nd_3_7, nd_4_0, nd_4_1, nd_4_2, nd_4_3, nd_4_5, nd_4_6, nd_4_7, nd_5_0, nd_5_1, nd_5_2, nd_5_3, nd_5_4, nd_5_6, nd_5_7, nd_6_0, nd_6_1, nd_6_2, nd_6_3, nd_6_4, nd_6_5, nd_6_7, nd_7_0, nd_7_1, nd_7_2, nd_7_3, nd_7_4, nd_7_5, nd_7_6, kb_NoneType_int, kb_NoneType_bool, kb_NoneType_tuple, kb_NoneType_str, kb_NoneType_list, kb_NoneType_dict, kb_bool_int, kb_bool_bool, kb_bool_tuple, kb_bool_str, kb_bool_list, kb_bool_dict, kb_int_int, kb_int_bool, kb_int_tuple, kb_int_str, kb_int_list, kb_int_dict, kb_str_int, kb_str_bool, kb_str_tuple, kb_str_str, kb_str_list, kb_str_dict, kb_tuple_int, kb_tuple_bool, kb_tuple_tuple, kb_tuple_str, kb_tuple_list, kb_tuple_dict, kb_list_int, kb_list_bool, kb_list_tuple, kb_list_str, kb_list_list, kb_list_dict, kb_dict_int, kb_dict_bool, kb_dict_tuple, kb_dict_str, kb_dict_list, kb_dict_dict, it_val, it_enum, it_zip, ow_nil, ow_cons, sn_n, sn_s, le_2, le_3, okb, okt, exb, ext_, sq_nx, sq_rt, sq_ex, ac_nx, ac_rt, ac_ex, fr_n, fr_s, fr_o, oo_n, oo_s, oo_i, oo_b, fin, argF, consF, slotF, ioF, tupF, lstF, dctF, twoF, oneF, chainF, notF, ifF, andF, orF, slF, biF, callG, mthF, pmF, lcF, yesF, varT, readVar, moveVar, setFs, parFs, subFs, dropFs, ifFs, forFs, retFs, raiseFs, raisexFs, mkF, mkxF, htFs, tryFs, hdFs, seqFs, walF, subF, nmF, unpF, putT, putTs, onBl, Ar.get, gets, valsOf, ofRes, mkSl, callF, ioArg, ioArgs, hold1, holds, back, assignT, assignT.assignN, wipeE, putBack, unlock, SR.calm, SR.onEnv, srcOf, seqD, ixR, Option.bind_some, Option.map_some, Option.bind_none, Option.map_none, List.map_cons, List.map_nil, List.cons_append, List.nil_append, if_true, if_false, reduceIte, Bool.false_eq_true, Bool.true_and, Bool.and_true, Option.isSome_some, List.contains_nil, Bool.not_false, Bool.not_true, tyO, tyD, neD, eqD, isNoneB, isLst, pw58, pw580, pw18, ne_eq, z1, not_false_eq_true, hgg, m1, m2, q, decide_false]
theorem at_list {α : Type} {xs : List α} {c : Nat} {x : α} (h : xs[c]? = some x) : L2.atI xs (c : Int) = some x := by
  have hc : c < xs.length := (List.getElem?_eq_some_iff.mp h).1
  rw [atI_get hc, ← h, List.getElem?_eq_getElem hc]
theorem dice_ok {n i : Nat} {ns : List Int} (hi : i ≤ 100) : ∃ d, run Pg (n + 1) 0 [⟨.sh, .fz (ns.map .int)⟩, ⟨.sh, .int (i : Int)⟩] = .ok d .fr [none, none] ∧ Reel 0 d := by
  have m0 : mulOk 31 (i : Int) = true := mulOk_of (a := 20) (b := 20) (by decide) (by omega) (by omega)
  have st : ∃ c : Int, exS Pg.gcs (run Pg n) Pg.isa (.set 2 (.ife (.op2 .lt (.s 1) (.e (.bi .len (.cons (.s 0) .nil)))) (.sub (.s 0) (.s 1)) (.op2 .add (.e (.op2 .mul (.e (.int 31)) (.s 1))) (.e (.int 9))))) [shS (.fz (ns.map .int)), shS (.int (i : Int)), none, none] = .nx [shS (.fz (ns.map .int)), shS (.int (i : Int)), shS (.int c), none] := by
    by_cases q : i < ns.length
    · have hq : (i : Int) < ((ns.map D.int).length : Int) := by rw [List.length_map]; omega
      have hx : ixD (.fz (ns.map .int)) (.int (i : Int)) = some (.int ns[i]) := by
        show L2.atI (ns.map D.int) (i : Int) = _
        exact at_list (by rw [List.getElem?_map, List.getElem?_eq_getElem q]; rfl)
      exact ⟨ns[i], by simp only [ev_int, ev_str, ev_bl, ev_non, ev_bty, ev_gc, ev_mov, ev_tup, ev_lst, ev_dct, ev_odc, ev_op2, ev_ch, ev_neg, ev_and, ev_or, ev_ife, ev_sub, ev_sl, ev_bi, ev_call, ev_mth, ev_pm, ev_lc, ev_mk, ev_mkx, ev_fld, ev_isx, ev_join, ev_var, ev_varT, ev_notT, ev_notF, ea_e, ea_s, ea_io, es_nil, es_cons, eand_1, eand_2, eor_1, eor_2, ei_nil, ei_1, ex_set, ex_tgt, ex_par, ex_sub, ex_ex, ex_ifs, ex_for_, ex_whl, ex_whw, ex_ret, ex_retN, ex_raise, ex_raisex, ex_try_, ex_pass, ex_brk, ex_ctn, ex_doc, xs_nil, xs_cons, xh_nil, xh_cons, xh_tup, gs_0, ss_0, ge_0, st_0, gs_1, ss_1, ge_1, st_1, gs_2, ss_2, ge_2, st_2, gs_3, ss_3, ge_3, st_3, gs_4, ss_4, ge_4, st_4, gs_5, ss_5, ge_5, st_5, gs_6, ss_6, ge_6, st_6, gs_7, ss_7, ge_7, st_7, gs_8, ss_8, ge_8, st_8, gs_9, ss_9, ge_9, st_9, gs_10, ss_10, ge_10, st_10, so_add, so_sub, so_mul, so_fdiv, so_mod, so_pow, so_eq, so_ne, so_lt, so_le, so_gt, so_ge, so_in, so_nin, so_is, so_isn, d_add, d_addt, d_addl, d_sub, d_mul, d_div, d_mod, d_lt, d_cmp, b_lent, b_lenl, b_lenf, b_abs, b_int, b_intb, b_listl, b_listf, b_listt, b_tupl, b_tupt, b_max2, b_min2, b_all, b_any, b_isi, b_dict, b_listd, b_sorted, b_min1, t_bl, t_int, t_non, t_lst, t_tup, l_tup, l_lst, l_fz, m_app, m_popat, ol_0, ol_1, ol_2, ol_3, ol_4, ol_5, ol_6, ol_7, ol_8, ol_9, ol_10, nd_0, nd_1, nd_0_1, nd_0_2, nd_0_3, nd_0_4, nd_0_5, nd_0_6, nd_0_7, nd_1_0, nd_1_2, nd_1_3, nd_1_4, nd_1_5, nd_1_6, nd_1_7, nd_2_0, nd_2_1, nd_2_3, nd_2_4, nd_2_5, nd_2_6, nd_2_7, nd_3_0, nd_3_1, nd_3_2, nd_3_4, nd_3_5, nd_3_6, nd_3_7, nd_4_0, nd_4_1, nd_4_2, nd_4_3, nd_4_5, nd_4_6, nd_4_7, nd_5_0, nd_5_1, nd_5_2, nd_5_3, nd_5_4, nd_5_6, nd_5_7, nd_6_0, nd_6_1, nd_6_2, nd_6_3, nd_6_4, nd_6_5, nd_6_7, nd_7_0, nd_7_1, nd_7_2, nd_7_3, nd_7_4, nd_7_5, nd_7_6, kb_NoneType_int, kb_NoneType_bool, kb_NoneType_tuple, kb_NoneType_str, kb_NoneType_list, kb_NoneType_dict, kb_bool_int, kb_bool_bool, kb_bool_tuple, kb_bool_str, kb_bool_list, kb_bool_dict, kb_int_int, kb_int_bool, kb_int_tuple, kb_int_str, kb_int_list, kb_int_dict, kb_str_int, kb_str_bool, kb_str_tuple, kb_str_str, kb_str_list, kb_str_dict, kb_tuple_int, kb_tuple_bool, kb_tuple_tuple, kb_tuple_str, kb_tuple_list, kb_tuple_dict, kb_list_int, kb_list_bool, kb_list_tuple, kb_list_str, kb_list_list, kb_list_dict, kb_dict_int, kb_dict_bool, kb_dict_tuple, kb_dict_str, kb_dict_list, kb_dict_dict, it_val, it_enum, it_zip, ow_nil, ow_cons, sn_n, sn_s, le_2, le_3, okb, okt, exb, ext_, sq_nx, sq_rt, sq_ex, ac_nx, ac_rt, ac_ex, fr_n, fr_s, fr_o, oo_n, oo_s, oo_i, oo_b, fin, argF, consF, slotF, ioF, tupF, lstF, dctF, twoF, oneF, chainF, notF, ifF, andF, orF, slF, biF, callG, mthF, pmF, lcF, yesF, varT, readVar, moveVar, setFs, parFs, subFs, dropFs, ifFs, forFs, retFs, raiseFs, raisexFs, mkF, mkxF, htFs, tryFs, hdFs, seqFs, walF, subF, nmF, unpF, putT, putTs, onBl, Ar.get, gets, valsOf, ofRes, mkSl, callF, ioArg, ioArgs, hold1, holds, back, assignT, assignT.assignN, wipeE, putBack, unlock, SR.calm, SR.onEnv, srcOf, seqD, ixR, Option.bind_some, Option.map_some, Option.bind_none, Option.map_none, List.map_cons, List.map_nil, List.cons_append, List.nil_append, if_true, if_false, reduceIte, Bool.false_eq_true, Bool.true_and, Bool.and_true, Option.isSome_some, List.contains_nil, Bool.not_false, Bool.not_true, tyO, tyD, neD, eqD, isNoneB, isLst, hq, decide_true, hx]⟩
    · have hq : ¬ (i : Int) < ((ns.map D.int).length : Int) := by rw [List.length_map]; omega
      exact ⟨31 * (i : Int) + 9, by simp only [ev_int, ev_str, ev_bl, ev_non, ev_bty, ev_gc, ev_mov, ev_tup, ev_lst, ev_dct, ev_odc, ev_op2, ev_ch, ev_neg, ev_and, ev_or, ev_ife, ev_sub, ev_sl, ev_bi, ev_call, ev_mth, ev_pm, ev_lc, ev_mk, ev_mkx, ev_fld, ev_isx, ev_join, ev_var, ev_varT, ev_notT, ev_notF, ea_e, ea_s, ea_io, es_nil, es_cons, eand_1, eand_2, eor_1, eor_2, ei_nil, ei_1, ex_set, ex_tgt, ex_par, ex_sub, ex_ex, ex_ifs, ex_for_, ex_whl, ex_whw, ex_ret, ex_retN, ex_raise, ex_raisex, ex_try_, ex_pass, ex_brk, ex_ctn, ex_doc, xs_nil, xs_cons, xh_nil, xh_cons, xh_tup, gs_0, ss_0, ge_0, st_0, gs_1, ss_1, ge_1, st_1, gs_2, ss_2, ge_2, st_2, gs_3, ss_3, ge_3, st_3, gs_4, ss_4, ge_4, st_4, gs_5, ss_5, ge_5, st_5, gs_6, ss_6, ge_6, st_6, gs_7, ss_7, ge_7, st_7, gs_8, ss_8, ge_8, st_8, gs_9, ss_9, ge_9, st_9, gs_10, ss_10, ge_10, st_10, so_add, so_sub, so_mul, so_fdiv, so_mod, so_pow, so_eq, so_ne, so_lt, so_le, so_gt, so_ge, so_in, so_nin, so_is, so_isn, d_add, d_addt, d_addl, d_sub, d_mul, d_div, d_mod, d_lt, d_cmp, b_lent, b_lenl, b_lenf, b_abs, b_int, b_intb, b_listl, b_listf, b_listt, b_tupl, b_tupt, b_max2, b_min2, b_all, b_any, b_isi, b_dict, b_listd, b_sorted, b_min1, t_bl, t_int, t_non, t_lst, t_tup, l_tup, l_lst, l_fz, m_app, m_popat, ol_0, ol_1, ol_2, ol_3, ol_4, ol_5, ol_6, ol_7, ol_8, ol_9, ol_10, nd_0, nd_1, nd_0_1, nd_0_2, nd_0_3, nd_0_4, nd_0_5, nd_0_6, nd_0_7, nd_1_0, nd_1_2, nd_1_3, nd_1_4, nd_1_5, nd_1_6, nd_1_7, nd_2_0, nd_2_1, nd_2_3, nd_2_4, nd_2_5, nd_2_6, nd_2_7, nd_3_0, nd_3_1, nd_3_2, nd_3_4, nd_3_5, nd_3_6, nd_3_7, nd_4_0, nd_4_1, nd_4_2, nd_4_3, nd_4_5, nd_4_6, nd_4_7, nd_5_0, nd_5_1, nd_5_2, nd_5_3, nd_5_4, nd_5_6, nd_5_7, nd_6_0, nd_6_1, nd_6_2, nd_6_3, nd_6_4, nd_6_5, nd_6_7, nd_7_0, nd_7_1, nd_7_2, nd_7_3, nd_7_4, nd_7_5, nd_7_6, kb_NoneType_int, kb_NoneType_bool, kb_NoneType_tuple, kb_NoneType_str, kb_NoneType_list, kb_NoneType_dict, kb_bool_int, kb_bool_bool, kb_bool_tuple, kb_bool_str, kb_bool_list, kb_bool_dict, kb_int_int, kb_int_bool, kb_int_tuple, kb_int_str, kb_int_list, kb_int_dict, kb_str_int, kb_str_bool, kb_str_tuple, kb_str_str, kb_str_list, kb_str_dict, kb_tuple_int, kb_tuple_bool, kb_tuple_tuple, kb_tuple_str, kb_tuple_list, kb_tuple_dict, kb_list_int, kb_list_bool, kb_list_tuple, kb_list_str, kb_list_list, kb_list_dict, kb_dict_int, kb_dict_bool, kb_dict_tuple, kb_dict_str, kb_dict_list, kb_dict_dict, it_val, it_enum, it_zip, ow_nil, ow_cons, sn_n, sn_s, le_2, le_3, okb, okt, exb, ext_, sq_nx, sq_rt, sq_ex, ac_nx, ac_rt, ac_ex, fr_n, fr_s, fr_o, oo_n, oo_s, oo_i, oo_b, fin, argF, consF, slotF, ioF, tupF, lstF, dctF, twoF, oneF, chainF, notF, ifF, andF, orF, slF, biF, callG, mthF, pmF, lcF, yesF, varT, readVar, moveVar, setFs, parFs, subFs, dropFs, ifFs, forFs, retFs, raiseFs, raisexFs, mkF, mkxF, htFs, tryFs, hdFs, seqFs, walF, subF, nmF, unpF, putT, putTs, onBl, Ar.get, gets, valsOf, ofRes, mkSl, callF, ioArg, ioArgs, hold1, holds, back, assignT, assignT.assignN, wipeE, putBack, unlock, SR.calm, SR.onEnv, srcOf, seqD, ixR, Option.bind_some, Option.map_some, Option.bind_none, Option.map_none, List.map_cons, List.map_nil, List.cons_append, List.nil_append, if_true, if_false, reduceIte, Bool.false_eq_true, Bool.true_and, Bool.and_true, Option.isSome_some, List.contains_nil, Bool.not_false, Bool.not_true, tyO, tyD, neD, eqD, isNoneB, isLst, hq, decide_false, m0]⟩
  obtain ⟨c, st⟩ := st
  obtain ⟨d, e, R⟩ := dice_tail (n := n) (S := .fz (ns.map .int)) (c := c) hi
  refine ⟨d, ?_, R⟩
  rw [r0, b0, seq_go st, e]
  simp only [ev_int, ev_str, ev_bl, ev_non, ev_bty, ev_gc, ev_mov, ev_tup, ev_lst, ev_dct, ev_odc, ev_op2, ev_ch, ev_neg, ev_and, ev_or, ev_ife, ev_sub, ev_sl, ev_bi, ev_call, ev_mth, ev_pm, ev_lc, ev_mk, ev_mkx, ev_fld, ev_isx, ev_join, ev_var, ev_varT, ev_notT, ev_notF, ea_e, ea_s, ea_io, es_nil, es_cons, eand_1, eand_2, eor_1, eor_2, ei_nil, ei_1, ex_set, ex_tgt, ex_par, ex_sub, ex_ex, ex_ifs, ex_for_, ex_whl, ex_whw, ex_ret, ex_retN, ex_raise, ex_raisex, ex_try_, ex_pass, ex_brk, ex_ctn, ex_doc, xs_nil, xs_cons, xh_nil, xh_cons, xh_tup, gs_0, ss_0, ge_0, st_0, gs_1, ss_1, ge_1, st_1, gs_2, ss_2, ge_2, st_2, gs_3, ss_3, ge_3, st_3, gs_4, ss_4, ge_4, st_4, gs_5, ss_5, ge_5, st_5, gs_6, ss_6, ge_6, st_6, gs_7, ss_7, ge_7, st_7, gs_8, ss_8, ge_8, st_8, gs_9, ss_9, ge_9, st_9, gs_10, ss_10, ge_10, st_10, so_add, so_sub, so_mul, so_fdiv, so_mod, so_pow, so_eq, so_ne, so_lt, so_le, so_gt, so_ge, so_in, so_nin, so_is, so_isn, d_add, d_addt, d_addl, d_sub, d_mul, d_div, d_mod, d_lt, d_cmp, b_lent, b_lenl, b_lenf, b_abs, b_int, b_intb, b_listl, b_listf, b_listt, b_tupl, b_tupt, b_max2, b_min2, b_all, b_any, b_isi, b_dict, b_listd, b_sorted, b_min1, t_bl, t_int, t_non, t_lst, t_tup, l_tup, l_lst, l_fz, m_app, m_popat, ol_0, ol_1, ol_2, ol_3, ol_4, ol_5, ol_6, ol_7, ol_8, ol_9, ol_10, nd_0, nd_1, nd_0_1, nd_0_2, nd_0_3, nd_0_4, nd_0_5, nd_0_6, nd_0_7, nd_1_0, nd_1_2, nd_1_3, nd_1_4, nd_1_5, nd_1_6, nd_1_7, nd_2_0, nd_2_1, nd_2_3, nd_2_4, nd_2_5, nd_2_6, nd_2_7, nd_3_0, nd_3_1, nd_3_2, nd_3_4, nd_3_5, nd_3_6, nd_3_7, nd_4_0, nd_4_1, nd_4_2, nd_4_3, nd_4_5, nd_4_6, nd_4_7, nd_5_0, nd_5_1, nd_5_2, nd_5_3, nd_5_4, nd_5_6, nd_5_7, nd_6_0, nd_6_1, nd_6_2, nd_6_3, nd_6_4, nd_6_5, nd_6_7, nd_7_0, nd_7_1, nd_7_2, nd_7_3, nd_7_4, nd_7_5, nd_7_6, kb_NoneType_int, kb_NoneType_bool, kb_NoneType_tuple, kb_NoneType_str, kb_NoneType_list, kb_NoneType_dict, kb_bool_int, kb_bool_bool, kb_bool_tuple, kb_bool_str, kb_bool_list, kb_bool_dict, kb_int_int, kb_int_bool, kb_int_tuple, kb_int_str, kb_int_list, kb_int_dict, kb_str_int, kb_str_bool, kb_str_tuple, kb_str_str, kb_str_list, kb_str_dict, kb_tuple_int, kb_tuple_bool, kb_tuple_tuple, kb_tuple_str, kb_tuple_list, kb_tuple_dict, kb_list_int, kb_list_bool, kb_list_tuple, kb_list_str, kb_list_list, kb_list_dict, kb_dict_int, kb_dict_bool, kb_dict_tuple, kb_dict_str, kb_dict_list, kb_dict_dict, it_val, it_enum, it_zip, ow_nil, ow_cons, sn_n, sn_s, le_2, le_3, okb, okt, exb, ext_, sq_nx, sq_rt, sq_ex, ac_nx, ac_rt, ac_ex, fr_n, fr_s, fr_o, oo_n, oo_s, oo_i, oo_b, fin, argF, consF, slotF, ioF, tupF, lstF, dctF, twoF, oneF, chainF, notF, ifF, andF, orF, slF, biF, callG, mthF, pmF, lcF, yesF, varT, readVar, moveVar, setFs, parFs, subFs, dropFs, ifFs, forFs, retFs, raiseFs, raisexFs, mkF, mkxF, htFs, tryFs, hdFs, seqFs, walF, subF, nmF, unpF, putT, putTs, onBl, Ar.get, gets, valsOf, ofRes, mkSl, callF, ioArg, ioArgs, hold1, holds, back, assignT, assignT.assignN, wipeE, putBack, unlock, SR.calm, SR.onEnv, srcOf, seqD, ixR, Option.bind_some, Option.map_some, Option.bind_none, Option.map_none, List.map_cons, List.map_nil, List.cons_append, List.nil_append, if_true, if_false, reduceIte, Bool.false_eq_true, Bool.true_and, Bool.and_true, Option.isSome_some, List.contains_nil, Bool.not_false, Bool.not_true, tyO, tyD, neD, eqD, isNoneB, isLst]
def lBody (n : Nat) : DI.Env → SR := exSs Pg.gcs (run Pg (n + 5)) Pg.isa (.cons (.set 2 (.call 0 (.cons (.s 0) (.cons (.s 1) .nil)) [])) 
   (.cons (.ifs (.or (.cons (.e (.not (.call 13 (.cons (.io 2) .nil) []))) (.cons (.e (.not (.call 14 (.cons (.io 2) .nil) []))) .nil))) 
    (.cons (.ret (.bl false)) .nil) .nil) .nil))
def iD (i : Nat) : D := .int (0 + (i : Int))
theorem l_turn {n i : Nat} {ns : List Int} {x1 x2 : Option Sl} (hi : i ≤ 100) (f1 : free x1 = true) (f2 : free x2 = true) :
    ∃ y2, foTurn (.nm 1) (lBody n) (iD i) [shS (.fz (ns.map .int)), x1, x2] = .nx [shS (.fz (ns.map .int)), shS (iD i), y2] ∧ free y2 = true := by
  obtain ⟨d, e1, R⟩ := dice_ok (n := n + 4) (ns := ns) hi
  obtain ⟨d1, a1, R1⟩ := msgs_ok (n := n + 1) R (by omega)
  obtain ⟨d2, b1, R2⟩ := keep_ok (n := n) R1 (by omega)
  refine ⟨some ⟨.ow, d2⟩, ?_, rfl⟩
  have e0 : iD i = .int (i : Int) := by unfold iD; rw [Int.zero_add]
  rw [e0]
  simp only [foTurn, lBody, ev_int, ev_str, ev_bl, ev_non, ev_bty, ev_gc, ev_mov, ev_tup, ev_lst, ev_dct, ev_odc, ev_op2, ev_ch, ev_neg, ev_and, ev_or, ev_ife, ev_sub, ev_sl, ev_bi, ev_call, ev_mth, ev_pm, ev_lc, ev_mk, ev_mkx, ev_fld, ev_isx, ev_join, ev_var, ev_varT, ev_notT, ev_notF, ea_e, ea_s, ea_io, es_nil, es_cons, eand_1, eand_2, eor_1, eor_2, ei_nil, ei_1, ex_set, ex_tgt, ex_par, ex_sub, ex_ex, ex_ifs, ex_for_, ex_whl, ex_whw, ex_ret, ex_retN, ex_raise, ex_raisex, ex_try_, ex_pass, ex_brk, ex_ctn, ex_doc, xs_nil, xs_cons, xh_nil, xh_cons, xh_tup, gs_0, ss_0, ge_0, st_0, gs_1, ss_1, ge_1, st_1, gs_2, ss_2, ge_2, st_2, gs_3, ss_3, ge_3, st_3, gs_4, ss_4, ge_4, st_4, gs_5, ss_5, ge_5, st_5, gs_6, ss_6, ge_6, st_6, gs_7, ss_7, ge_7, st_7, gs_8, ss_8, ge_8, st_8, gs_9, ss_9, ge_9, st_9, gs_10, ss_10, ge_10, st_10, so_add, so_sub, so_mul, so_fdiv, so_mod, so_pow, so_eq, so_ne, so_lt, so_le, so_gt, so_ge, so_in, so_nin, so_is, so_isn, d_add, d_addt, d_addl, d_sub, d_mul, d_div, d_mod, d_lt, d_cmp, b_lent, b_lenl, b_lenf, b_abs, b_int, b_intb, b_listl, b_listf, b_listt, b_tupl, b_tupt, b_max2, b_min2, b_all, b_any, b_isi, b_dict, b_listd, b_sorted, b_min1, t_bl, t_int, t_non, t_lst, t_tup, l_tup, l_lst, l_fz, m_app, m_popat, ol_0, ol_1, ol_2, ol_3, ol_4, ol_5, ol_6, ol_7, ol_8, ol_9, ol_10, nd_0, nd_1, nd_0_1, nd_0_2, nd_0_3, nd_0_4, nd_0_5, nd_0_6, nd_0_7, nd_1_0, nd_1_2, nd_1_3, nd_1_4, nd_1_5, nd_1_6, nd_1_7, nd_2_0, nd_2_1, nd_2_3, nd_2_4, nd_2_5, nd_2_6, nd_2_7, nd_3_0, nd_3_1, nd_3_2, nd_3_4, nd_3_5, nd_3_6, nd_3_7, nd_4_0, nd_4_1, nd_4_2, nd_4_3, nd_4_5, nd_4_6, nd_4_7, nd_5_0, nd_5_1, nd_5_2, nd_5_3, nd_5_4, nd_5_6, nd_5_7, nd_6_0, nd_6_1, nd_6_2, nd_6_3, nd_6_4, nd_6_5, nd_6_7, nd_7_0, nd_7_1, nd_7_2, nd_7_3, nd_7_4, nd_7_5, nd_7_6, kb_NoneType_int, kb_NoneType_bool, kb_NoneType_tuple, kb_NoneType_str, kb_NoneType_list, kb_NoneType_dict, kb_bool_int, kb_bool_bool, kb_bool_tuple, kb_bool_str, kb_bool_list, kb_bool_dict, kb_int_int, kb_int_bool, kb_int_tuple, kb_int_str, kb_int_list, kb_int_dict, kb_str_int, kb_str_bool, kb_str_tuple, kb_str_str, kb_str_list, kb_str_dict, kb_tuple_int, kb_tuple_bool, kb_tuple_tuple, kb_tuple_str, kb_tuple_list, kb_tuple_dict, kb_list_int, kb_list_bool, kb_list_tuple, kb_list_str, kb_list_list, kb_list_dict, kb_dict_int, kb_dict_bool, kb_dict_tuple, kb_dict_str, kb_dict_list, kb_dict_dict, it_val, it_enum, it_zip, ow_nil, ow_cons, sn_n, sn_s, le_2, le_3, okb, okt, exb, ext_, sq_nx, sq_rt, sq_ex, ac_nx, ac_rt, ac_ex, fr_n, fr_s, fr_o, oo_n, oo_s, oo_i, oo_b, fin, argF, consF, slotF, ioF, tupF, lstF, dctF, twoF, oneF, chainF, notF, ifF, andF, orF, slF, biF, callG, mthF, pmF, lcF, yesF, varT, readVar, moveVar, setFs, parFs, subFs, dropFs, ifFs, forFs, retFs, raiseFs, raisexFs, mkF, mkxF, htFs, tryFs, hdFs, seqFs, walF, subF, nmF, unpF, putT, putTs, onBl, Ar.get, gets, valsOf, ofRes, mkSl, callF, ioArg, ioArgs, hold1, holds, back, assignT, assignT.assignN, wipeE, putBack, unlock, SR.calm, SR.onEnv, srcOf, seqD, ixR, Option.bind_some, Option.map_some, Option.bind_none, Option.map_none, List.map_cons, List.map_nil, List.cons_append, List.nil_append, if_true, if_false, reduceIte, Bool.false_eq_true, Bool.true_and, Bool.and_true, Option.isSome_some, List.contains_nil, Bool.not_false, Bool.not_true, tyO, tyD, neD, eqD, isNoneB, isLst, f1, f2, e1, a1, b1]
theorem l_run {n : Nat} {ns : List Int} : ∀ (is : List Nat) (x1 x2 : Option Sl), (∀ i ∈ is, i ≤ 100) → free x1 = true → free x2 = true →
    ∃ y1 y2, forLoop (.nm 1) (lBody n) (is.map iD) [shS (.fz (ns.map .int)), x1, x2] = .nx [shS (.fz (ns.map .int)), y1, y2]
  | [], x1, x2, _, _, _ => ⟨x1, x2, rfl⟩
  | i :: is, x1, x2, h, f1, f2 => by
    obtain ⟨y2, a1, a2⟩ := l_turn (n := n) (ns := ns) (h i List.mem_cons_self) f1 f2
    obtain ⟨z1, z2, b⟩ := l_run (n := n) (ns := ns) is (shS (iD i)) y2 (fun j hj => h j (List.mem_cons_of_mem _ hj)) rfl a2
    exact ⟨z1, z2, by rw [List.map_cons, for_nx a1]; exact b⟩
theorem rngI {N : Nat} : rngD 0 N = (List.range N).map iD := rfl
theorem law_run (ns : List Int) : ∃ outs, run Pg 6 15 [⟨.sh, .fz (ns.map .int)⟩] = .ok (.bl true) .sh outs := by
  obtain ⟨N, hN, hN2⟩ : ∃ N : Nat, (if (if ((ns.map D.int).length : Int) < 8 then ((ns.map D.int).length : Int) else 8) > 1 then (if ((ns.map D.int).length : Int) < 8 then ((ns.map D.int).length : Int) else 8) else 1) = (N : Int) ∧ N ≤ 8 := by
    refine ⟨Int.toNat (if (if ((ns.map D.int).length : Int) < 8 then ((ns.map D.int).length : Int) else 8) > 1 then (if ((ns.map D.int).length : Int) < 8 then ((ns.map D.int).length : Int) else 8) else 1), ?_, ?_⟩
    · split <;> split <;> omega
    · split <;> split <;> omega
  obtain ⟨y1, y2, e⟩ := l_run (n := 0) (ns := ns) (List.range N) none none (fun i hi => by have := List.mem_range.mp hi; omega) rfl rfl
  unfold lBody at e
  refine ⟨[none], ?_⟩
  simp only [r15, b15, ev_int, ev_str, ev_bl, ev_non, ev_bty, ev_gc, ev_mov, ev_tup, ev_lst, ev_dct, ev_odc, ev_op2, ev_ch, ev_neg, ev_and, ev_or, ev_ife, ev_sub, ev_sl, ev_bi, ev_call, ev_mth, ev_pm, ev_lc, ev_mk, ev_mkx, ev_fld, ev_isx, ev_join, ev_var, ev_varT, ev_notT, ev_notF, ea_e, ea_s, ea_io, es_nil, es_cons, eand_1, eand_2, eor_1, eor_2, ei_nil, ei_1, ex_set, ex_tgt, ex_par, ex_sub, ex_ex, ex_ifs, ex_for_, ex_whl, ex_whw, ex_ret, ex_retN, ex_raise, ex_raisex, ex_try_, ex_pass, ex_brk, ex_ctn, ex_doc, xs_nil, xs_cons, xh_nil, xh_cons, xh_tup, gs_0, ss_0, ge_0, st_0, gs_1, ss_1, ge_1, st_1, gs_2, ss_2, ge_2, st_2, gs_3, ss_3, ge_3, st_3, gs_4, ss_4, ge_4, st_4, gs_5, ss_5, ge_5, st_5, gs_6, ss_6, ge_6, st_6, gs_7, ss_7, ge_7, st_7, gs_8, ss_8, ge_8, st_8, gs_9, ss_9, ge_9, st_9, gs_10, ss_10, ge_10, st_10, so_add, so_sub, so_mul, so_fdiv, so_mod, so_pow, so_eq, so_ne, so_lt, so_le, so_gt, so_ge, so_in, so_nin, so_is, so_isn, d_add, d_addt, d_addl, d_sub, d_mul, d_div, d_mod, d_lt, d_cmp, b_lent, b_lenl, b_lenf, b_abs, b_int, b_intb, b_listl, b_listf, b_listt, b_tupl, b_tupt, b_max2, b_min2, b_all, b_any, b_isi, b_dict, b_listd, b_sorted, b_min1, t_bl, t_int, t_non, t_lst, t_tup, l_tup, l_lst, l_fz, m_app, m_popat, ol_0, ol_1, ol_2, ol_3, ol_4, ol_5, ol_6, ol_7, ol_8, ol_9, ol_10, nd_0, nd_1, nd_0_1, nd_0_2, nd_0_3, nd_0_4, nd_0_5, nd_0_6, nd_0_7, nd_1_0, nd_1_2, nd_1_3, nd_1_4, nd_1_5, nd_1_6, nd_1_7, nd_2_0, nd_2_1, nd_2_3, nd_2_4, nd_2_5, nd_2_6, nd_2_7, nd_3_0, nd_3_1, nd_3_2, nd_3_4, nd_3_5, nd_3_6, nd_3_7, nd_4_0, nd_4_1, nd_4_2, nd_4_3, nd_4_5, nd_4_6, nd_4_7, nd_5_0, nd_5_1, nd_5_2, nd_5_3, nd_5_4, nd_5_6, nd_5_7, nd_6_0, nd_6_1, nd_6_2, nd_6_3, nd_6_4, nd_6_5, nd_6_7, nd_7_0, nd_7_1, nd_7_2, nd_7_3, nd_7_4, nd_7_5, nd_7_6, kb_NoneType_int, kb_NoneType_bool, kb_NoneType_tuple, kb_NoneType_str, kb_NoneType_list, kb_NoneType_dict, kb_bool_int, kb_bool_bool, kb_bool_tuple, kb_bool_str, kb_bool_list, kb_bool_dict, kb_int_int, kb_int_bool, kb_int_tuple, kb_int_str, kb_int_list, kb_int_dict, kb_str_int, kb_str_bool, kb_str_tuple, kb_str_str, kb_str_list, kb_str_dict, kb_tuple_int, kb_tuple_bool, kb_tuple_tuple, kb_tuple_str, kb_tuple_list, kb_tuple_dict, kb_list_int, kb_list_bool, kb_list_tuple, kb_list_str, kb_list_list, kb_list_dict, kb_dict_int, kb_dict_bool, kb_dict_tuple, kb_dict_str, kb_dict_list, kb_dict_dict, it_val, it_enum, it_zip, ow_nil, ow_cons, sn_n, sn_s, le_2, le_3, okb, okt, exb, ext_, sq_nx, sq_rt, sq_ex, ac_nx, ac_rt, ac_ex, fr_n, fr_s, fr_o, oo_n, oo_s, oo_i, oo_b, fin, argF, consF, slotF, ioF, tupF, lstF, dctF, twoF, oneF, chainF, notF, ifF, andF, orF, slF, biF, callG, mthF, pmF, lcF, yesF, varT, readVar, moveVar, setFs, parFs, subFs, dropFs, ifFs, forFs, retFs, raiseFs, raisexFs, mkF, mkxF, htFs, tryFs, hdFs, seqFs, walF, subF, nmF, unpF, putT, putTs, onBl, Ar.get, gets, valsOf, ofRes, mkSl, callF, ioArg, ioArgs, hold1, holds, back, assignT, assignT.assignN, wipeE, putBack, unlock, SR.calm, SR.onEnv, srcOf, seqD, ixR, Option.bind_some, Option.map_some, Option.bind_none, Option.map_none, List.map_cons, List.map_nil, List.cons_append, List.nil_append, if_true, if_false, reduceIte, Bool.false_eq_true, Bool.true_and, Bool.and_true, Option.isSome_some, List.contains_nil, Bool.not_false, Bool.not_true, tyO, tyD, neD, eqD, isNoneB, isLst, hN, it_rng1 (small_nat (show N ≤ 1000000 by omega)), rngI, e]
end K00

set_option Elab.async false
set_option linter.all false
set_option maxRecDepth 100000
set_option maxHeartbeats 4000000
namespace K00
open PySem PySem.Spec L2 PyProof.Rows DI
abbrev PyP : Program := PySem.Challenge.pw_dealtrows_k00_errors_and_what_they_keep
theorem all_mk {w : World} {K : PySem.W.Frag} {h : Heap} {mg : Str → Option Value} (X : K.In h) (Gh : h.Ns mainGlobals mg)
    {a0 : Addr} {oc0 kV0 dc0 pm0 cd0 ct0 : Value} {od0 an0 : Option Addr} {sl0 : Array (Option Value)}
    {a1 : Addr} {oc1 kV1 dc1 pm1 cd1 ct1 : Value} {od1 an1 : Option Addr} {sl1 : Array (Option Value)}
    {a2 : Addr} {oc2 kV2 dc2 pm2 cd2 ct2 : Value} {od2 an2 : Option Addr} {sl2 : Array (Option Value)}
    {a3 : Addr} {oc3 kV3 dc3 pm3 cd3 ct3 : Value} {od3 an3 : Option Addr} {sl3 : Array (Option Value)}
    {a4 : Addr} {oc4 kV4 dc4 pm4 cd4 ct4 : Value} {od4 an4 : Option Addr} {sl4 : Array (Option Value)}
    {a5 : Addr} {oc5 kV5 dc5 pm5 cd5 ct5 : Value} {od5 an5 : Option Addr} {sl5 : Array (Option Value)}
    {a6 : Addr} {oc6 kV6 dc6 pm6 cd6 ct6 : Value} {od6 an6 : Option Addr} {sl6 : Array (Option Value)}
    {a7 : Addr} {oc7 kV7 dc7 pm7 cd7 ct7 : Value} {od7 an7 : Option Addr} {sl7 : Array (Option Value)}
    {a8 : Addr} {oc8 kV8 dc8 pm8 cd8 ct8 : Value} {od8 an8 : Option Addr} {sl8 : Array (Option Value)}
    {a9 : Addr} {oc9 kV9 dc9 pm9 cd9 ct9 : Value} {od9 an9 : Option Addr} {sl9 : Array (Option Value)}
    {a10 : Addr} {oc10 kV10 dc10 pm10 cd10 ct10 : Value} {od10 an10 : Option Addr} {sl10 : Array (Option Value)}
    {a11 : Addr} {oc11 kV11 dc11 pm11 cd11 ct11 : Value} {od11 an11 : Option Addr} {sl11 : Array (Option Value)}
    {a12 : Addr} {oc12 kV12 dc12 pm12 cd12 ct12 : Value} {od12 an12 : Option Addr} {sl12 : Array (Option Value)}
    {a13 : Addr} {oc13 kV13 dc13 pm13 cd13 ct13 : Value} {od13 an13 : Option Addr} {sl13 : Array (Option Value)}
    {a14 : Addr} {oc14 kV14 dc14 pm14 cd14 ct14 : Value} {od14 an14 : Option Addr} {sl14 : Array (Option Value)}
    {a15 : Addr} {oc15 kV15 dc15 pm15 cd15 ct15 : Value} {od15 an15 : Option Addr} {sl15 : Array (Option Value)}
    {C0 : Addr}
    {C1 : Addr}
    {C2 : Addr}
    {C3 : Addr}
    {C4 : Addr}
    {C5 : Addr}
    {C6 : Addr}
    {C7 : Addr}
    {C8 : Addr}
    {C9 : Addr}
    {C10 : Addr}
    {C11 : Addr}
    {C12 : Addr}
    {C13 : Addr}
    {C14 : Addr}
    {C15 : Addr}
    {C16 : Addr}
    {C17 : Addr}
    {C18 : Addr}
    {C19 : Addr}
    {nm11 q11 qu11 ms11 fl11 : Str} {N11 fI11 cda11 cc11 : Addr} {bs11 : List Value} {sn11 : List Str} {sb11 : List Value} {ab11 : Bool} {co11 : Option Bool} {dd11 : Option Addr} {kA11 kB11 kC11 kD11 kE11 : Option Value} {j11 : Nat} {p011 p111 p211 p311 p411 p511 p611 p711 p811 p911 b011 b111 : Pos} {kW11 do11 pn11 cu11 oe11 ck11 cl11 : Value} {am11 oo11 cx11 cy11 : Option Addr} {s111 s211 s311 : Array (Option Value)} {vs11 : Array Value} {tf11 : Tok}
    {nm12 q12 qu12 ms12 fl12 : Str} {N12 fI12 cda12 cc12 : Addr} {bs12 : List Value} {sn12 : List Str} {sb12 : List Value} {ab12 : Bool} {co12 : Option Bool} {dd12 : Option Addr} {kA12 kB12 kC12 kD12 kE12 : Option Value} {j12 : Nat} {p012 p112 p212 p312 p412 p512 p612 p712 p812 p912 b012 b112 : Pos} {kW12 do12 pn12 cu12 oe12 ck12 cl12 : Value} {am12 oo12 cx12 cy12 : Option Addr} {s112 s212 s312 : Array (Option Value)} {vs12 : Array Value} {tf12 : Tok}
    {nm13 q13 qu13 ms13 fl13 : Str} {N13 fI13 cda13 cc13 : Addr} {bs13 : List Value} {sn13 : List Str} {sb13 : List Value} {ab13 : Bool} {co13 : Option Bool} {dd13 : Option Addr} {kA13 kB13 kC13 kD13 kE13 : Option Value} {j13 : Nat} {p013 p113 p213 p313 p413 p513 p613 p713 p813 p913 b013 b113 : Pos} {kW13 do13 pn13 cu13 oe13 ck13 cl13 : Value} {am13 oo13 cx13 cy13 : Option Addr} {s113 s213 s313 : Array (Option Value)} {vs13 : Array Value} {tf13 : Tok}
    {nm14 q14 qu14 ms14 fl14 : Str} {N14 fI14 cda14 cc14 : Addr} {bs14 : List Value} {sn14 : List Str} {sb14 : List Value} {ab14 : Bool} {co14 : Option Bool} {dd14 : Option Addr} {kA14 kB14 kC14 kD14 kE14 : Option Value} {j14 : Nat} {p014 p114 p214 p314 p414 p514 p614 p714 p814 p914 b014 b114 : Pos} {kW14 do14 pn14 cu14 oe14 ck14 cl14 : Value} {am14 oo14 cx14 cy14 : Option Addr} {s114 s214 s314 : Array (Option Value)} {vs14 : Array Value} {tf14 : Tok}
    {nm15 q15 qu15 ms15 fl15 : Str} {N15 fI15 cda15 cc15 : Addr} {bs15 : List Value} {sn15 : List Str} {sb15 : List Value} {ab15 : Bool} {co15 : Option Bool} {dd15 : Option Addr} {kA15 kB15 kC15 kD15 kE15 : Option Value} {j15 : Nat} {p015 p115 p215 p315 p415 p515 p615 p715 p815 p915 b015 b115 : Pos} {kW15 do15 pn15 cu15 oe15 ck15 cl15 : Value} {am15 oo15 cx15 cy15 : Option Addr} {s115 s215 s315 : Array (Option Value)} {vs15 : Array Value} {tf15 : Tok}
    {nm16 q16 qu16 ms16 fl16 : Str} {N16 fI16 cda16 cc16 : Addr} {bs16 : List Value} {sn16 : List Str} {sb16 : List Value} {ab16 : Bool} {co16 : Option Bool} {dd16 : Option Addr} {kA16 kB16 kC16 kD16 kE16 : Option Value} {j16 : Nat} {p016 p116 p216 p316 p416 p516 p616 p716 p816 p916 b016 b116 : Pos} {kW16 do16 pn16 cu16 oe16 ck16 cl16 : Value} {am16 oo16 cx16 cy16 : Option Addr} {s116 s216 s316 : Array (Option Value)} {vs16 : Array Value} {tf16 : Tok}
    {nm17 q17 qu17 ms17 fl17 : Str} {N17 fI17 cda17 cc17 : Addr} {bs17 : List Value} {sn17 : List Str} {sb17 : List Value} {ab17 : Bool} {co17 : Option Bool} {dd17 : Option Addr} {kA17 kB17 kC17 kD17 kE17 : Option Value} {j17 : Nat} {p017 p117 p217 p317 p417 p517 p617 p717 p817 p917 b017 b117 : Pos} {kW17 do17 pn17 cu17 oe17 ck17 cl17 : Value} {am17 oo17 cx17 cy17 : Option Addr} {s117 s217 s317 : Array (Option Value)} {vs17 : Array Value} {tf17 : Tok}
    {nm18 q18 qu18 ms18 fl18 : Str} {N18 fI18 cda18 cc18 : Addr} {bs18 : List Value} {sn18 : List Str} {sb18 : List Value} {ab18 : Bool} {co18 : Option Bool} {dd18 : Option Addr} {kA18 kB18 kC18 kD18 kE18 : Option Value} {j18 : Nat} {p018 p118 p218 p318 p418 p518 p618 p718 p818 p918 b018 b118 : Pos} {kW18 do18 pn18 cu18 oe18 ck18 cl18 : Value} {am18 oo18 cx18 cy18 : Option Addr} {s118 s218 s318 : Array (Option Value)} {vs18 : Array Value} {tf18 : Tok}
    {nm19 q19 qu19 ms19 fl19 : Str} {N19 fI19 cda19 cc19 : Addr} {bs19 : List Value} {sn19 : List Str} {sb19 : List Value} {ab19 : Bool} {co19 : Option Bool} {dd19 : Option Addr} {kA19 kB19 kC19 kD19 kE19 : Option Value} {j19 : Nat} {p019 p119 p219 p319 p419 p519 p619 p719 p819 p919 b019 b119 : Pos} {kW19 do19 pn19 cu19 oe19 ck19 cl19 : Value} {am19 oo19 cx19 cy19 : Option Addr} {s119 s219 s319 : Array (Option Value)} {vs19 : Array Value} {tf19 : Tok}
    (g0 : PySem.W.nsIn K mainGlobals "_law_dice" = some (some (.ref a0))) (l0 : K.lookup a0 = some ⟨oc0, od0, .func (PySem.W.fnOf "_law_dice" "_law_dice" (defArgs (top 22)) (defBody (top 22)) (defScope (top 22)) .none kV0 dc0 pm0 an0 cd0 ct0), sl0⟩) (d0 : PySem.W.codeIn K cd0 "_law_dice" = true) (k0 : PySem.W.keepIn K (.ref a0) = true)
    (g1 : PySem.W.nsIn K mainGlobals "_law_roll" = some (some (.ref a1))) (l1 : K.lookup a1 = some ⟨oc1, od1, .func (PySem.W.fnOf "_law_roll" "_law_roll" (defArgs (top 23)) (defBody (top 23)) (defScope (top 23)) .none kV1 dc1 pm1 an1 cd1 ct1), sl1⟩) (d1 : PySem.W.codeIn K cd1 "_law_roll" = true) (k1 : PySem.W.keepIn K (.ref a1) = true)
    (g2 : PySem.W.nsIn K mainGlobals "_law_pick" = some (some (.ref a2))) (l2 : K.lookup a2 = some ⟨oc2, od2, .func (PySem.W.fnOf "_law_pick" "_law_pick" (defArgs (top 24)) (defBody (top 24)) (defScope (top 24)) .none kV2 dc2 pm2 an2 cd2 ct2), sl2⟩) (d2 : PySem.W.codeIn K cd2 "_law_pick" = true) (k2 : PySem.W.keepIn K (.ref a2) = true)
    (g3 : PySem.W.nsIn K mainGlobals "_law_told" = some (some (.ref a3))) (l3 : K.lookup a3 = some ⟨oc3, od3, .func (PySem.W.fnOf "_law_told" "_law_told" (defArgs (top 25)) (defBody (top 25)) (defScope (top 25)) .none kV3 dc3 pm3 an3 cd3 ct3), sl3⟩) (d3 : PySem.W.codeIn K cd3 "_law_told" = true) (k3 : PySem.W.keepIn K (.ref a3) = true)
    (g4 : PySem.W.nsIn K mainGlobals "_law_keeper" = some (some (.ref a4))) (l4 : K.lookup a4 = some ⟨oc4, od4, .func (PySem.W.fnOf "_law_keeper" "_law_keeper" (defArgs (top 26)) (defBody (top 26)) (defScope (top 26)) .none kV4 dc4 pm4 an4 cd4 ct4), sl4⟩) (d4 : PySem.W.codeIn K cd4 "_law_keeper" = true) (k4 : PySem.W.keepIn K (.ref a4) = true)
    (g5 : PySem.W.nsIn K mainGlobals "_law_kept" = some (some (.ref a5))) (l5 : K.lookup a5 = some ⟨oc5, od5, .func (PySem.W.fnOf "_law_kept" "_law_kept" (defArgs (top 27)) (defBody (top 27)) (defScope (top 27)) .none kV5 dc5 pm5 an5 cd5 ct5), sl5⟩) (d5 : PySem.W.codeIn K cd5 "_law_kept" = true) (k5 : PySem.W.keepIn K (.ref a5) = true)
    (g6 : PySem.W.nsIn K mainGlobals "_law_kinds" = some (some (.ref a6))) (l6 : K.lookup a6 = some ⟨oc6, od6, .func (PySem.W.fnOf "_law_kinds" "_law_kinds" (defArgs (top 28)) (defBody (top 28)) (defScope (top 28)) .none kV6 dc6 pm6 an6 cd6 ct6), sl6⟩) (d6 : PySem.W.codeIn K cd6 "_law_kinds" = true) (k6 : PySem.W.keepIn K (.ref a6) = true)
    (g7 : PySem.W.nsIn K mainGlobals "_law_python" = some (some (.ref a7))) (l7 : K.lookup a7 = some ⟨oc7, od7, .func (PySem.W.fnOf "_law_python" "_law_python" (defArgs (top 29)) (defBody (top 29)) (defScope (top 29)) .none kV7 dc7 pm7 an7 cd7 ct7), sl7⟩) (d7 : PySem.W.codeIn K cd7 "_law_python" = true) (k7 : PySem.W.keepIn K (.ref a7) = true)
    (g8 : PySem.W.nsIn K mainGlobals "_law_truths" = some (some (.ref a8))) (l8 : K.lookup a8 = some ⟨oc8, od8, .func (PySem.W.fnOf "_law_truths" "_law_truths" (defArgs (top 30)) (defBody (top 30)) (defScope (top 30)) .none kV8 dc8 pm8 an8 cd8 ct8), sl8⟩) (d8 : PySem.W.codeIn K cd8 "_law_truths" = true) (k8 : PySem.W.keepIn K (.ref a8) = true)
    (g9 : PySem.W.nsIn K mainGlobals "_law_raise" = some (some (.ref a9))) (l9 : K.lookup a9 = some ⟨oc9, od9, .func (PySem.W.fnOf "_law_raise" "_law_raise" (defArgs (top 31)) (defBody (top 31)) (defScope (top 31)) .none kV9 dc9 pm9 an9 cd9 ct9), sl9⟩) (d9 : PySem.W.codeIn K cd9 "_law_raise" = true) (k9 : PySem.W.keepIn K (.ref a9) = true)
    (g10 : PySem.W.nsIn K mainGlobals "_law_caught" = some (some (.ref a10))) (l10 : K.lookup a10 = some ⟨oc10, od10, .func (PySem.W.fnOf "_law_caught" "_law_caught" (defArgs (top 32)) (defBody (top 32)) (defScope (top 32)) .none kV10 dc10 pm10 an10 cd10 ct10), sl10⟩) (d10 : PySem.W.codeIn K cd10 "_law_caught" = true) (k10 : PySem.W.keepIn K (.ref a10) = true)
    (g11 : PySem.W.nsIn K mainGlobals "_law_word" = some (some (.ref a11))) (l11 : K.lookup a11 = some ⟨oc11, od11, .func (PySem.W.fnOf "_law_word" "_law_word" (defArgs (top 33)) (defBody (top 33)) (defScope (top 33)) .none kV11 dc11 pm11 an11 cd11 ct11), sl11⟩) (d11 : PySem.W.codeIn K cd11 "_law_word" = true) (k11 : PySem.W.keepIn K (.ref a11) = true)
    (g12 : PySem.W.nsIn K mainGlobals "_law_value" = some (some (.ref a12))) (l12 : K.lookup a12 = some ⟨oc12, od12, .func (PySem.W.fnOf "_law_value" "_law_value" (defArgs (top 34)) (defBody (top 34)) (defScope (top 34)) .none kV12 dc12 pm12 an12 cd12 ct12), sl12⟩) (d12 : PySem.W.codeIn K cd12 "_law_value" = true) (k12 : PySem.W.keepIn K (.ref a12) = true)
    (g13 : PySem.W.nsIn K mainGlobals "_law_messages_right" = some (some (.ref a13))) (l13 : K.lookup a13 = some ⟨oc13, od13, .func (PySem.W.fnOf "_law_messages_right" "_law_messages_right" (defArgs (top 35)) (defBody (top 35)) (defScope (top 35)) .none kV13 dc13 pm13 an13 cd13 ct13), sl13⟩) (d13 : PySem.W.codeIn K cd13 "_law_messages_right" = true) (k13 : PySem.W.keepIn K (.ref a13) = true)
    (g14 : PySem.W.nsIn K mainGlobals "_law_keepers_right" = some (some (.ref a14))) (l14 : K.lookup a14 = some ⟨oc14, od14, .func (PySem.W.fnOf "_law_keepers_right" "_law_keepers_right" (defArgs (top 36)) (defBody (top 36)) (defScope (top 36)) .none kV14 dc14 pm14 an14 cd14 ct14), sl14⟩) (d14 : PySem.W.codeIn K cd14 "_law_keepers_right" = true) (k14 : PySem.W.keepIn K (.ref a14) = true)
    (g15 : PySem.W.nsIn K mainGlobals "law" = some (some (.ref a15))) (l15 : K.lookup a15 = some ⟨oc15, od15, .func (PySem.W.fnOf "law" "law" (defArgs (top 37)) (defBody (top 37)) (defScope (top 37)) .none kV15 dc15 pm15 an15 cd15 ct15), sl15⟩) (d15 : PySem.W.codeIn K cd15 "law" = true) (k15 : PySem.W.keepIn K (.ref a15) = true)
    (aC0 : PySem.W.nsIn K mainGlobals "DealError" = some (some (.ref C0)))
    (aC1 : PySem.W.nsIn K mainGlobals "InvalidSchema" = some (some (.ref C1)))
    (aC2 : PySem.W.nsIn K mainGlobals "InvalidDatabase" = some (some (.ref C2)))
    (aC3 : PySem.W.nsIn K mainGlobals "InvalidClause" = some (some (.ref C3)))
    (aC4 : PySem.W.nsIn K mainGlobals "InvalidQuery" = some (some (.ref C4)))
    (aC5 : PySem.W.nsIn K mainGlobals "InvalidRule" = some (some (.ref C5)))
    (aC6 : PySem.W.nsIn K mainGlobals "InvalidPlacement" = some (some (.ref C6)))
    (aC7 : PySem.W.nsIn K mainGlobals "InvalidCase" = some (some (.ref C7)))
    (aC8 : PySem.W.nsIn K mainGlobals "InvalidRow" = some (some (.ref C8)))
    (aC9 : PySem.W.nsIn K mainGlobals "InvalidAnswer" = some (some (.ref C9)))
    (aC10 : PySem.W.nsIn K mainGlobals "InvalidOperation" = some (some (.ref C10)))
    (aC11 : PySem.W.nsIn K mainGlobals "ParseError" = some (some (.ref C11)))
    (aC12 : PySem.W.nsIn K mainGlobals "BrokenConstraint" = some (some (.ref C12)))
    (aC13 : PySem.W.nsIn K mainGlobals "Rejected" = some (some (.ref C13)))
    (aC14 : PySem.W.nsIn K mainGlobals "UnknownName" = some (some (.ref C14)))
    (aC15 : PySem.W.nsIn K mainGlobals "MissingRow" = some (some (.ref C15)))
    (aC16 : PySem.W.nsIn K mainGlobals "NothingToUndo" = some (some (.ref C16)))
    (aC17 : PySem.W.nsIn K mainGlobals "TooMany" = some (some (.ref C17)))
    (aC18 : PySem.W.nsIn K mainGlobals "InvalidNumber" = some (some (.ref C18)))
    (aC19 : PySem.W.nsIn K mainGlobals "NoNodes" = some (some (.ref C19)))
    (z0 : PySem.W.nsIn K mainGlobals "ArithmeticError" = some none)
    (z1 : PySem.W.nsIn K mainGlobals "IndexError" = some none)
    (z2 : PySem.W.nsIn K mainGlobals "KeyError" = some none)
    (z3 : PySem.W.nsIn K mainGlobals "LookupError" = some none)
    (z4 : PySem.W.nsIn K mainGlobals "OverflowError" = some none)
    (z5 : PySem.W.nsIn K mainGlobals "RuntimeError" = some none)
    (z6 : PySem.W.nsIn K mainGlobals "ValueError" = some none)
    (z7 : PySem.W.nsIn K mainGlobals "ZeroDivisionError" = some none)
    (z8 : PySem.W.nsIn K mainGlobals "abs" = some none)
    (z9 : PySem.W.nsIn K mainGlobals "int" = some none)
    (z10 : PySem.W.nsIn K mainGlobals "isinstance" = some none)
    (z11 : PySem.W.nsIn K mainGlobals "len" = some none)
    (z12 : PySem.W.nsIn K mainGlobals "max" = some none)
    (z13 : PySem.W.nsIn K mainGlobals "min" = some none)
    (z14 : PySem.W.nsIn K mainGlobals "range" = some none)
    (z15 : PySem.W.nsIn K mainGlobals "repr" = some none)
    (z16 : PySem.W.nsIn K mainGlobals "super" = some none)
    (fI11h : PySem.W.findIn K (.ref C11) "__init__" = some (some (.ref fI11))) (lI11 : K.lookup fI11 = some ⟨oe11, oo11, .func (DX.ifn qu11 ms11 "line" "line" j11 p011 p111 p211 p311 p411 p511 p611 p711 p811 p911 b011 b111 kW11 do11 pn11 am11 cda11 cu11 cc11), s111⟩) (qI11 : PySem.W.codeIn K (.ref cda11) qu11 = true) (oI11 : K.lookup cda11 = some ⟨ck11, cx11, .fields vs11, s211⟩) (eI11 : K.lookup cc11 = some ⟨cl11, cy11, .cell (some (.ref C11)), s311⟩) (CI11 : K.lookup C11 = some (excClassObj nm11 q11 C11 N11 bs11 [.ref C0, .type "ValueError", .type "Exception", .type "BaseException", .type "object"] true sn11 sb11 ab11 co11 dd11 kA11 kB11 kC11 kD11 kE11 "ValueError.__new__")) (vI11 : vs11[2]? = some (.str fl11 tf11)) (mI11 : ((p211.endLine == p411.line) && ((PyP.main.file : Str) == fl11) && !(PyP.main.scope.names.lookup ("super" : Str)).isSome) = true) (kI11 : chkI K C11 fI11 "ValueError.__init__" "ValueError" "line" = true)
    (fI12h : PySem.W.findIn K (.ref C12) "__init__" = some (some (.ref fI12))) (lI12 : K.lookup fI12 = some ⟨oe12, oo12, .func (DX.ifn qu12 ms12 "constraint" "constraint" j12 p012 p112 p212 p312 p412 p512 p612 p712 p812 p912 b012 b112 kW12 do12 pn12 am12 cda12 cu12 cc12), s112⟩) (qI12 : PySem.W.codeIn K (.ref cda12) qu12 = true) (oI12 : K.lookup cda12 = some ⟨ck12, cx12, .fields vs12, s212⟩) (eI12 : K.lookup cc12 = some ⟨cl12, cy12, .cell (some (.ref C12)), s312⟩) (CI12 : K.lookup C12 = some (excClassObj nm12 q12 C12 N12 bs12 [.ref C0, .type "ValueError", .type "Exception", .type "BaseException", .type "object"] true sn12 sb12 ab12 co12 dd12 kA12 kB12 kC12 kD12 kE12 "ValueError.__new__")) (vI12 : vs12[2]? = some (.str fl12 tf12)) (mI12 : ((p212.endLine == p412.line) && ((PyP.main.file : Str) == fl12) && !(PyP.main.scope.names.lookup ("super" : Str)).isSome) = true) (kI12 : chkI K C12 fI12 "ValueError.__init__" "ValueError" "constraint" = true)
    (fI13h : PySem.W.findIn K (.ref C13) "__init__" = some (some (.ref fI13))) (lI13 : K.lookup fI13 = some ⟨oe13, oo13, .func (DX.ifn qu13 ms13 "reason" "reason" j13 p013 p113 p213 p313 p413 p513 p613 p713 p813 p913 b013 b113 kW13 do13 pn13 am13 cda13 cu13 cc13), s113⟩) (qI13 : PySem.W.codeIn K (.ref cda13) qu13 = true) (oI13 : K.lookup cda13 = some ⟨ck13, cx13, .fields vs13, s213⟩) (eI13 : K.lookup cc13 = some ⟨cl13, cy13, .cell (some (.ref C13)), s313⟩) (CI13 : K.lookup C13 = some (excClassObj nm13 q13 C13 N13 bs13 [.ref C0, .type "ValueError", .type "Exception", .type "BaseException", .type "object"] true sn13 sb13 ab13 co13 dd13 kA13 kB13 kC13 kD13 kE13 "ValueError.__new__")) (vI13 : vs13[2]? = some (.str fl13 tf13)) (mI13 : ((p213.endLine == p413.line) && ((PyP.main.file : Str) == fl13) && !(PyP.main.scope.names.lookup ("super" : Str)).isSome) = true) (kI13 : chkI K C13 fI13 "ValueError.__init__" "ValueError" "reason" = true)
    (fI14h : PySem.W.findIn K (.ref C14) "__init__" = some (some (.ref fI14))) (lI14 : K.lookup fI14 = some ⟨oe14, oo14, .func (DX.ifn qu14 ms14 "name" "name" j14 p014 p114 p214 p314 p414 p514 p614 p714 p814 p914 b014 b114 kW14 do14 pn14 am14 cda14 cu14 cc14), s114⟩) (qI14 : PySem.W.codeIn K (.ref cda14) qu14 = true) (oI14 : K.lookup cda14 = some ⟨ck14, cx14, .fields vs14, s214⟩) (eI14 : K.lookup cc14 = some ⟨cl14, cy14, .cell (some (.ref C14)), s314⟩) (CI14 : K.lookup C14 = some (excClassObj nm14 q14 C14 N14 bs14 [.type "KeyError", .type "LookupError", .type "Exception", .type "BaseException", .type "object"] true sn14 sb14 ab14 co14 dd14 kA14 kB14 kC14 kD14 kE14 "LookupError.__new__")) (vI14 : vs14[2]? = some (.str fl14 tf14)) (mI14 : ((p214.endLine == p414.line) && ((PyP.main.file : Str) == fl14) && !(PyP.main.scope.names.lookup ("super" : Str)).isSome) = true) (kI14 : chkI K C14 fI14 "KeyError.__init__" "KeyError" "name" = true)
    (fI15h : PySem.W.findIn K (.ref C15) "__init__" = some (some (.ref fI15))) (lI15 : K.lookup fI15 = some ⟨oe15, oo15, .func (DX.ifn qu15 ms15 "row" "row" j15 p015 p115 p215 p315 p415 p515 p615 p715 p815 p915 b015 b115 kW15 do15 pn15 am15 cda15 cu15 cc15), s115⟩) (qI15 : PySem.W.codeIn K (.ref cda15) qu15 = true) (oI15 : K.lookup cda15 = some ⟨ck15, cx15, .fields vs15, s215⟩) (eI15 : K.lookup cc15 = some ⟨cl15, cy15, .cell (some (.ref C15)), s315⟩) (CI15 : K.lookup C15 = some (excClassObj nm15 q15 C15 N15 bs15 [.type "LookupError", .type "Exception", .type "BaseException", .type "object"] true sn15 sb15 ab15 co15 dd15 kA15 kB15 kC15 kD15 kE15 "LookupError.__new__")) (vI15 : vs15[2]? = some (.str fl15 tf15)) (mI15 : ((p215.endLine == p415.line) && ((PyP.main.file : Str) == fl15) && !(PyP.main.scope.names.lookup ("super" : Str)).isSome) = true) (kI15 : chkI K C15 fI15 "LookupError.__init__" "LookupError" "row" = true)
    (fI16h : PySem.W.findIn K (.ref C16) "__init__" = some (some (.ref fI16))) (lI16 : K.lookup fI16 = some ⟨oe16, oo16, .func (DX.ifn qu16 ms16 "many" "many" j16 p016 p116 p216 p316 p416 p516 p616 p716 p816 p916 b016 b116 kW16 do16 pn16 am16 cda16 cu16 cc16), s116⟩) (qI16 : PySem.W.codeIn K (.ref cda16) qu16 = true) (oI16 : K.lookup cda16 = some ⟨ck16, cx16, .fields vs16, s216⟩) (eI16 : K.lookup cc16 = some ⟨cl16, cy16, .cell (some (.ref C16)), s316⟩) (CI16 : K.lookup C16 = some (excClassObj nm16 q16 C16 N16 bs16 [.type "IndexError", .type "LookupError", .type "Exception", .type "BaseException", .type "object"] true sn16 sb16 ab16 co16 dd16 kA16 kB16 kC16 kD16 kE16 "IndexError.__new__")) (vI16 : vs16[2]? = some (.str fl16 tf16)) (mI16 : ((p216.endLine == p416.line) && ((PyP.main.file : Str) == fl16) && !(PyP.main.scope.names.lookup ("super" : Str)).isSome) = true) (kI16 : chkI K C16 fI16 "IndexError.__init__" "IndexError" "many" = true)
    (fI17h : PySem.W.findIn K (.ref C17) "__init__" = some (some (.ref fI17))) (lI17 : K.lookup fI17 = some ⟨oe17, oo17, .func (DX.ifn qu17 ms17 "limit" "limit" j17 p017 p117 p217 p317 p417 p517 p617 p717 p817 p917 b017 b117 kW17 do17 pn17 am17 cda17 cu17 cc17), s117⟩) (qI17 : PySem.W.codeIn K (.ref cda17) qu17 = true) (oI17 : K.lookup cda17 = some ⟨ck17, cx17, .fields vs17, s217⟩) (eI17 : K.lookup cc17 = some ⟨cl17, cy17, .cell (some (.ref C17)), s317⟩) (CI17 : K.lookup C17 = some (excClassObj nm17 q17 C17 N17 bs17 [.type "OverflowError", .type "ArithmeticError", .type "Exception", .type "BaseException", .type "object"] true sn17 sb17 ab17 co17 dd17 kA17 kB17 kC17 kD17 kE17 "OverflowError.__new__")) (vI17 : vs17[2]? = some (.str fl17 tf17)) (mI17 : ((p217.endLine == p417.line) && ((PyP.main.file : Str) == fl17) && !(PyP.main.scope.names.lookup ("super" : Str)).isSome) = true) (kI17 : chkI K C17 fI17 "OverflowError.__init__" "OverflowError" "limit" = true)
    (fI18h : PySem.W.findIn K (.ref C18) "__init__" = some (some (.ref fI18))) (lI18 : K.lookup fI18 = some ⟨oe18, oo18, .func (DX.ifn qu18 ms18 "value" "value" j18 p018 p118 p218 p318 p418 p518 p618 p718 p818 p918 b018 b118 kW18 do18 pn18 am18 cda18 cu18 cc18), s118⟩) (qI18 : PySem.W.codeIn K (.ref cda18) qu18 = true) (oI18 : K.lookup cda18 = some ⟨ck18, cx18, .fields vs18, s218⟩) (eI18 : K.lookup cc18 = some ⟨cl18, cy18, .cell (some (.ref C18)), s318⟩) (CI18 : K.lookup C18 = some (excClassObj nm18 q18 C18 N18 bs18 [.type "RuntimeError", .type "Exception", .type "BaseException", .type "object"] true sn18 sb18 ab18 co18 dd18 kA18 kB18 kC18 kD18 kE18 "RuntimeError.__new__")) (vI18 : vs18[2]? = some (.str fl18 tf18)) (mI18 : ((p218.endLine == p418.line) && ((PyP.main.file : Str) == fl18) && !(PyP.main.scope.names.lookup ("super" : Str)).isSome) = true) (kI18 : chkI K C18 fI18 "RuntimeError.__init__" "RuntimeError" "value" = true)
    (fI19h : PySem.W.findIn K (.ref C19) "__init__" = some (some (.ref fI19))) (lI19 : K.lookup fI19 = some ⟨oe19, oo19, .func (DX.ifn qu19 ms19 "value" "value" j19 p019 p119 p219 p319 p419 p519 p619 p719 p819 p919 b019 b119 kW19 do19 pn19 am19 cda19 cu19 cc19), s119⟩) (qI19 : PySem.W.codeIn K (.ref cda19) qu19 = true) (oI19 : K.lookup cda19 = some ⟨ck19, cx19, .fields vs19, s219⟩) (eI19 : K.lookup cc19 = some ⟨cl19, cy19, .cell (some (.ref C19)), s319⟩) (CI19 : K.lookup C19 = some (excClassObj nm19 q19 C19 N19 bs19 [.type "ZeroDivisionError", .type "ArithmeticError", .type "Exception", .type "BaseException", .type "object"] true sn19 sb19 ab19 co19 dd19 kA19 kB19 kC19 kD19 kE19 "ZeroDivisionError.__new__")) (vI19 : vs19[2]? = some (.str fl19 tf19)) (mI19 : ((p219.endLine == p419.line) && ((PyP.main.file : Str) == fl19) && !(PyP.main.scope.names.lookup ("super" : Str)).isSome) = true) (kI19 : chkI K C19 fI19 "ZeroDivisionError.__init__" "ZeroDivisionError" "value" = true)
    (hkC : ([C0, C1, C2, C3, C4, C5, C6, C7, C8, C9, C10, C11, C12, C13, C14, C15, C16, C17, C18, C19] : List Addr).all (chkC K) = true) (hkP : ([C0, C1, C2, C3, C4, C5, C6, C7, C8, C9, C10] : List Addr).all (fun C => PySem.W.excIn K C [.type "ValueError", .type "Exception", .type "BaseException", .type "object"] "ValueError.__new__") = true) (hkE : chkE K [C0, C1, C2, C3, C4, C5, C6, C7, C8, C9, C10, C11, C12, C13, C14, C15, C16, C17, C18, C19] [.ref C16, .ref C17, .ref C18, .ref C15, .type "ZeroDivisionError", .type "KeyError", .ref C0] isaT = true) (hkT : chkT K [C0, C1, C2, C3, C4, C5, C6, C7, C8, C9, C10, C11, C12, C13, C14, C15, C16, C17, C18, C19] [(.ref C3, [3]), (.ref C2, [2]), (.ref C1, [1]), (.ref C6, [6]), (.ref C5, [5]), (.ref C4, [4]), (.ref C9, [9]), (.ref C8, [8]), (.ref C7, [7]), (.ref C11, [11]), (.ref C10, [10]), (.ref C14, [14]), (.ref C13, [13]), (.ref C12, [12]), (.ref C17, [17]), (.ref C16, [16]), (.ref C15, [15]), (.ref C0, [0, 1, 2, 3, 4, 5, 6, 7, 8, 9, 10, 11, 12, 13]), (.ref C19, [19]), (.ref C18, [18]), (.type "IndexError", [16]), (.type "KeyError", [14]), (.type "ValueError", [0, 1, 2, 3, 4, 5, 6, 7, 8, 9, 10, 11, 12, 13]), (.type "ZeroDivisionError", [19]), (.type "LookupError", [14, 15, 16]), (.type "ArithmeticError", [17, 19]), (.type "OverflowError", [17]), (.type "RuntimeError", [18])] = true) :
    ∃ G, Rest T G Pg K mg ∧ (∀ base, FactsX T G PyP w K mg base) ∧ ∀ (f : Nat) (x : Str), T.fns[f]? = some x → DefK T Pg K mg f x := by
  have F0 : ClsF K C0 := chkC_ok (List.all_eq_true.mp hkC C0 (by simp))
  have F1 : ClsF K C1 := chkC_ok (List.all_eq_true.mp hkC C1 (by simp))
  have F2 : ClsF K C2 := chkC_ok (List.all_eq_true.mp hkC C2 (by simp))
  have F3 : ClsF K C3 := chkC_ok (List.all_eq_true.mp hkC C3 (by simp))
  have F4 : ClsF K C4 := chkC_ok (List.all_eq_true.mp hkC C4 (by simp))
  have F5 : ClsF K C5 := chkC_ok (List.all_eq_true.mp hkC C5 (by simp))
  have F6 : ClsF K C6 := chkC_ok (List.all_eq_true.mp hkC C6 (by simp))
  have F7 : ClsF K C7 := chkC_ok (List.all_eq_true.mp hkC C7 (by simp))
  have F8 : ClsF K C8 := chkC_ok (List.all_eq_true.mp hkC C8 (by simp))
  have F9 : ClsF K C9 := chkC_ok (List.all_eq_true.mp hkC C9 (by simp))
  have F10 : ClsF K C10 := chkC_ok (List.all_eq_true.mp hkC C10 (by simp))
  have F11 : ClsF K C11 := chkC_ok (List.all_eq_true.mp hkC C11 (by simp))
  have F12 : ClsF K C12 := chkC_ok (List.all_eq_true.mp hkC C12 (by simp))
  have F13 : ClsF K C13 := chkC_ok (List.all_eq_true.mp hkC C13 (by simp))
  have F14 : ClsF K C14 := chkC_ok (List.all_eq_true.mp hkC C14 (by simp))
  have F15 : ClsF K C15 := chkC_ok (List.all_eq_true.mp hkC C15 (by simp))
  have F16 : ClsF K C16 := chkC_ok (List.all_eq_true.mp hkC C16 (by simp))
  have F17 : ClsF K C17 := chkC_ok (List.all_eq_true.mp hkC C17 (by simp))
  have F18 : ClsF K C18 := chkC_ok (List.all_eq_true.mp hkC C18 (by simp))
  have F19 : ClsF K C19 := chkC_ok (List.all_eq_true.mp hkC C19 (by simp))
  have FA : ∀ c C, ([C0, C1, C2, C3, C4, C5, C6, C7, C8, C9, C10, C11, C12, C13, C14, C15, C16, C17, C18, C19] : List Addr)[c]? = some C → ClsF K C := fun c C hc => chkC_ok (List.all_eq_true.mp hkC C (List.mem_of_getElem? hc))
  have P0 : PySem.W.excIn K C0 [.type "ValueError", .type "Exception", .type "BaseException", .type "object"] "ValueError.__new__" = true := List.all_eq_true.mp hkP C0 (by simp)
  have P1 : PySem.W.excIn K C1 [.type "ValueError", .type "Exception", .type "BaseException", .type "object"] "ValueError.__new__" = true := List.all_eq_true.mp hkP C1 (by simp)
  have P2 : PySem.W.excIn K C2 [.type "ValueError", .type "Exception", .type "BaseException", .type "object"] "ValueError.__new__" = true := List.all_eq_true.mp hkP C2 (by simp)
  have P3 : PySem.W.excIn K C3 [.type "ValueError", .type "Exception", .type "BaseException", .type "object"] "ValueError.__new__" = true := List.all_eq_true.mp hkP C3 (by simp)
  have P4 : PySem.W.excIn K C4 [.type "ValueError", .type "Exception", .type "BaseException", .type "object"] "ValueError.__new__" = true := List.all_eq_true.mp hkP C4 (by simp)
  have P5 : PySem.W.excIn K C5 [.type "ValueError", .type "Exception", .type "BaseException", .type "object"] "ValueError.__new__" = true := List.all_eq_true.mp hkP C5 (by simp)
  have P6 : PySem.W.excIn K C6 [.type "ValueError", .type "Exception", .type "BaseException", .type "object"] "ValueError.__new__" = true := List.all_eq_true.mp hkP C6 (by simp)
  have P7 : PySem.W.excIn K C7 [.type "ValueError", .type "Exception", .type "BaseException", .type "object"] "ValueError.__new__" = true := List.all_eq_true.mp hkP C7 (by simp)
  have P8 : PySem.W.excIn K C8 [.type "ValueError", .type "Exception", .type "BaseException", .type "object"] "ValueError.__new__" = true := List.all_eq_true.mp hkP C8 (by simp)
  have P9 : PySem.W.excIn K C9 [.type "ValueError", .type "Exception", .type "BaseException", .type "object"] "ValueError.__new__" = true := List.all_eq_true.mp hkP C9 (by simp)
  have P10 : PySem.W.excIn K C10 [.type "ValueError", .type "Exception", .type "BaseException", .type "object"] "ValueError.__new__" = true := List.all_eq_true.mp hkP C10 (by simp)
  have M11 := makes_of (P := PyP) (w := w) (mg := mg) PySem.F.excBase_ValueError DX.ini_ValueError (by first | rfl | simp) pass_ValueError (fun _ _ => rfl) (by decide) (PySem.W.mg_none_of X Gh z16) mI11 vI11 lI11 qI11 oI11 eI11 CI11 kI11
  have M12 := makes_of (P := PyP) (w := w) (mg := mg) PySem.F.excBase_ValueError DX.ini_ValueError (by first | rfl | simp) pass_ValueError (fun _ _ => rfl) (by decide) (PySem.W.mg_none_of X Gh z16) mI12 vI12 lI12 qI12 oI12 eI12 CI12 kI12
  have M13 := makes_of (P := PyP) (w := w) (mg := mg) PySem.F.excBase_ValueError DX.ini_ValueError (by first | rfl | simp) pass_ValueError (fun _ _ => rfl) (by decide) (PySem.W.mg_none_of X Gh z16) mI13 vI13 lI13 qI13 oI13 eI13 CI13 kI13
  have M14 := makes_of (P := PyP) (w := w) (mg := mg) PySem.F.excBase_LookupError DX.ini_KeyError (by first | rfl | simp) pass_KeyError (fun _ _ => rfl) (by decide) (PySem.W.mg_none_of X Gh z16) mI14 vI14 lI14 qI14 oI14 eI14 CI14 kI14
  have M15 := makes_of (P := PyP) (w := w) (mg := mg) PySem.F.excBase_LookupError DX.ini_LookupError (by first | rfl | simp) pass_LookupError (fun _ _ => rfl) (by decide) (PySem.W.mg_none_of X Gh z16) mI15 vI15 lI15 qI15 oI15 eI15 CI15 kI15
  have M16 := makes_of (P := PyP) (w := w) (mg := mg) PySem.F.excBase_IndexError DX.ini_IndexError (by first | rfl | simp) pass_IndexError (fun _ _ => rfl) (by decide) (PySem.W.mg_none_of X Gh z16) mI16 vI16 lI16 qI16 oI16 eI16 CI16 kI16
  have M17 := makes_of (P := PyP) (w := w) (mg := mg) PySem.F.excBase_OverflowError DX.ini_OverflowError (by first | rfl | simp) pass_OverflowError (fun _ _ => rfl) (by decide) (PySem.W.mg_none_of X Gh z16) mI17 vI17 lI17 qI17 oI17 eI17 CI17 kI17
  have M18 := makes_of (P := PyP) (w := w) (mg := mg) PySem.F.excBase_RuntimeError DX.ini_RuntimeError (by first | rfl | simp) pass_RuntimeError (fun _ _ => rfl) (by decide) (PySem.W.mg_none_of X Gh z16) mI18 vI18 lI18 qI18 oI18 eI18 CI18 kI18
  have M19 := makes_of (P := PyP) (w := w) (mg := mg) PySem.F.excBase_ZeroDivisionError DX.ini_ZeroDivisionError (by first | rfl | simp) pass_ZeroDivisionError (fun _ _ => rfl) (by decide) (PySem.W.mg_none_of X Gh z16) mI19 vI19 lI19 qI19 oI19 eI19 CI19 kI19
  refine ⟨⟨fun c => ([C0, C1, C2, C3, C4, C5, C6, C7, C8, C9, C10, C11, C12, C13, C14, C15, C16, C17, C18, C19] : List Addr)[c]?, fun _ => none⟩, ⟨fun g e he => ?_, fun x hx => ?_, fun c x hc => ?_, fun c x hc => ?_⟩, fun base => ⟨fun e he => ?_, fun hh e he => ?_⟩, fun f x hf => ?_⟩
  · simp [T] at he
  · have hx' : x ∈ (["abs", "int", "isinstance", "len", "max", "min", "range", "repr", "super"] : List Str) := hx
    simp only [List.mem_cons, List.not_mem_nil, or_false] at hx'
    rcases hx' with rfl | rfl | rfl | rfl | rfl | rfl | rfl | rfl | rfl
    · exact PySem.W.mg_none_of X Gh z8
    · exact PySem.W.mg_none_of X Gh z9
    · exact PySem.W.mg_none_of X Gh z10
    · exact PySem.W.mg_none_of X Gh z11
    · exact PySem.W.mg_none_of X Gh z12
    · exact PySem.W.mg_none_of X Gh z13
    · exact PySem.W.mg_none_of X Gh z14
    · exact PySem.W.mg_none_of X Gh z15
    · exact PySem.W.mg_none_of X Gh z16
  · match c, hc with
    | 0, hc => cases (show some ("DealError" : Str) = some x from hc); exact ⟨C0, _, _, _, _, rfl, PySem.F.excBase_ValueError, P0, PySem.W.mg_of X Gh aC0, F0.kp, F0.be, F0.ty⟩
    | 1, hc => cases (show some ("InvalidSchema" : Str) = some x from hc); exact ⟨C1, _, _, _, _, rfl, PySem.F.excBase_ValueError, P1, PySem.W.mg_of X Gh aC1, F1.kp, F1.be, F1.ty⟩
    | 2, hc => cases (show some ("InvalidDatabase" : Str) = some x from hc); exact ⟨C2, _, _, _, _, rfl, PySem.F.excBase_ValueError, P2, PySem.W.mg_of X Gh aC2, F2.kp, F2.be, F2.ty⟩
    | 3, hc => cases (show some ("InvalidClause" : Str) = some x from hc); exact ⟨C3, _, _, _, _, rfl, PySem.F.excBase_ValueError, P3, PySem.W.mg_of X Gh aC3, F3.kp, F3.be, F3.ty⟩
    | 4, hc => cases (show some ("InvalidQuery" : Str) = some x from hc); exact ⟨C4, _, _, _, _, rfl, PySem.F.excBase_ValueError, P4, PySem.W.mg_of X Gh aC4, F4.kp, F4.be, F4.ty⟩
    | 5, hc => cases (show some ("InvalidRule" : Str) = some x from hc); exact ⟨C5, _, _, _, _, rfl, PySem.F.excBase_ValueError, P5, PySem.W.mg_of X Gh aC5, F5.kp, F5.be, F5.ty⟩
    | 6, hc => cases (show some ("InvalidPlacement" : Str) = some x from hc); exact ⟨C6, _, _, _, _, rfl, PySem.F.excBase_ValueError, P6, PySem.W.mg_of X Gh aC6, F6.kp, F6.be, F6.ty⟩
    | 7, hc => cases (show some ("InvalidCase" : Str) = some x from hc); exact ⟨C7, _, _, _, _, rfl, PySem.F.excBase_ValueError, P7, PySem.W.mg_of X Gh aC7, F7.kp, F7.be, F7.ty⟩
    | 8, hc => cases (show some ("InvalidRow" : Str) = some x from hc); exact ⟨C8, _, _, _, _, rfl, PySem.F.excBase_ValueError, P8, PySem.W.mg_of X Gh aC8, F8.kp, F8.be, F8.ty⟩
    | 9, hc => cases (show some ("InvalidAnswer" : Str) = some x from hc); exact ⟨C9, _, _, _, _, rfl, PySem.F.excBase_ValueError, P9, PySem.W.mg_of X Gh aC9, F9.kp, F9.be, F9.ty⟩
    | 10, hc => cases (show some ("InvalidOperation" : Str) = some x from hc); exact ⟨C10, _, _, _, _, rfl, PySem.F.excBase_ValueError, P10, PySem.W.mg_of X Gh aC10, F10.kp, F10.be, F10.ty⟩
    | c + 11, hc => simp [T] at hc
  · match c, hc with
    | 0, hc =>
      cases (show some ("NothingToUndo" : Str) = some x from hc)
      exact ⟨.ref C16, .inl (PySem.W.mg_of X Gh aC16), fun c1 C1 h1 => chkE_ok hkE h1 (h := 0) rfl⟩
    | 1, hc =>
      cases (show some ("TooMany" : Str) = some x from hc)
      exact ⟨.ref C17, .inl (PySem.W.mg_of X Gh aC17), fun c1 C1 h1 => chkE_ok hkE h1 (h := 1) rfl⟩
    | 2, hc =>
      cases (show some ("InvalidNumber" : Str) = some x from hc)
      exact ⟨.ref C18, .inl (PySem.W.mg_of X Gh aC18), fun c1 C1 h1 => chkE_ok hkE h1 (h := 2) rfl⟩
    | 3, hc =>
      cases (show some ("MissingRow" : Str) = some x from hc)
      exact ⟨.ref C15, .inl (PySem.W.mg_of X Gh aC15), fun c1 C1 h1 => chkE_ok hkE h1 (h := 3) rfl⟩
    | 4, hc =>
      cases (show some ("ZeroDivisionError" : Str) = some x from hc)
      exact ⟨.type "ZeroDivisionError", .inr ⟨PySem.W.mg_none_of X Gh z7, by decide +kernel, by decide⟩, fun c1 C1 h1 => chkE_ok hkE h1 (h := 4) rfl⟩
    | 5, hc =>
      cases (show some ("KeyError" : Str) = some x from hc)
      exact ⟨.type "KeyError", .inr ⟨PySem.W.mg_none_of X Gh z2, by decide +kernel, by decide⟩, fun c1 C1 h1 => chkE_ok hkE h1 (h := 5) rfl⟩
    | 6, hc =>
      cases (show some ("DealError" : Str) = some x from hc)
      exact ⟨.ref C0, .inl (PySem.W.mg_of X Gh aC0), fun c1 C1 h1 => chkE_ok hkE h1 (h := 6) rfl⟩
    | c + 7, hc => simp [T] at hc
  · have he' : e ∈ ([(11, "ParseError", "line"), (12, "BrokenConstraint", "constraint"), (13, "Rejected", "reason"), (14, "UnknownName", "name"), (15, "MissingRow", "row"), (16, "NothingToUndo", "many"), (17, "TooMany", "limit"), (18, "InvalidNumber", "value"), (19, "NoNodes", "value")] : List (Nat × Str × Str)) := he
    simp only [List.mem_cons, List.not_mem_nil, or_false] at he'
    rcases he' with rfl | rfl | rfl | rfl | rfl | rfl | rfl | rfl | rfl
    · exact ⟨C11, rfl, PySem.W.mg_of X Gh aC11, F11.kp, M11.1 base, F11.be, F11.ty, F11.xf, M11.2⟩
    · exact ⟨C12, rfl, PySem.W.mg_of X Gh aC12, F12.kp, M12.1 base, F12.be, F12.ty, F12.xf, M12.2⟩
    · exact ⟨C13, rfl, PySem.W.mg_of X Gh aC13, F13.kp, M13.1 base, F13.be, F13.ty, F13.xf, M13.2⟩
    · exact ⟨C14, rfl, PySem.W.mg_of X Gh aC14, F14.kp, M14.1 base, F14.be, F14.ty, F14.xf, M14.2⟩
    · exact ⟨C15, rfl, PySem.W.mg_of X Gh aC15, F15.kp, M15.1 base, F15.be, F15.ty, F15.xf, M15.2⟩
    · exact ⟨C16, rfl, PySem.W.mg_of X Gh aC16, F16.kp, M16.1 base, F16.be, F16.ty, F16.xf, M16.2⟩
    · exact ⟨C17, rfl, PySem.W.mg_of X Gh aC17, F17.kp, M17.1 base, F17.be, F17.ty, F17.xf, M17.2⟩
    · exact ⟨C18, rfl, PySem.W.mg_of X Gh aC18, F18.kp, M18.1 base, F18.be, F18.ty, F18.xf, M18.2⟩
    · exact ⟨C19, rfl, PySem.W.mg_of X Gh aC19, F19.kp, M19.1 base, F19.be, F19.ty, F19.xf, M19.2⟩
  · match hh, he with
    | 0, he => cases (show some (("InvalidClause" : Str), ([3] : List Nat)) = some e from he); exact ⟨.ref C3, .ref C3, .own _, rfl, .inl (PySem.W.mg_of X Gh aC3), fun c C hc => ⟨(FA c C hc).ex, chkT_ok hkT (t := (.ref C3, [3])) (by simp) hc⟩⟩
    | 1, he => cases (show some (("InvalidDatabase" : Str), ([2] : List Nat)) = some e from he); exact ⟨.ref C2, .ref C2, .own _, rfl, .inl (PySem.W.mg_of X Gh aC2), fun c C hc => ⟨(FA c C hc).ex, chkT_ok hkT (t := (.ref C2, [2])) (by simp) hc⟩⟩
    | 2, he => cases (show some (("InvalidSchema" : Str), ([1] : List Nat)) = some e from he); exact ⟨.ref C1, .ref C1, .own _, rfl, .inl (PySem.W.mg_of X Gh aC1), fun c C hc => ⟨(FA c C hc).ex, chkT_ok hkT (t := (.ref C1, [1])) (by simp) hc⟩⟩
    | 3, he => cases (show some (("InvalidPlacement" : Str), ([6] : List Nat)) = some e from he); exact ⟨.ref C6, .ref C6, .own _, rfl, .inl (PySem.W.mg_of X Gh aC6), fun c C hc => ⟨(FA c C hc).ex, chkT_ok hkT (t := (.ref C6, [6])) (by simp) hc⟩⟩
    | 4, he => cases (show some (("InvalidRule" : Str), ([5] : List Nat)) = some e from he); exact ⟨.ref C5, .ref C5, .own _, rfl, .inl (PySem.W.mg_of X Gh aC5), fun c C hc => ⟨(FA c C hc).ex, chkT_ok hkT (t := (.ref C5, [5])) (by simp) hc⟩⟩
    | 5, he => cases (show some (("InvalidQuery" : Str), ([4] : List Nat)) = some e from he); exact ⟨.ref C4, .ref C4, .own _, rfl, .inl (PySem.W.mg_of X Gh aC4), fun c C hc => ⟨(FA c C hc).ex, chkT_ok hkT (t := (.ref C4, [4])) (by simp) hc⟩⟩
    | 6, he => cases (show some (("InvalidAnswer" : Str), ([9] : List Nat)) = some e from he); exact ⟨.ref C9, .ref C9, .own _, rfl, .inl (PySem.W.mg_of X Gh aC9), fun c C hc => ⟨(FA c C hc).ex, chkT_ok hkT (t := (.ref C9, [9])) (by simp) hc⟩⟩
    | 7, he => cases (show some (("InvalidRow" : Str), ([8] : List Nat)) = some e from he); exact ⟨.ref C8, .ref C8, .own _, rfl, .inl (PySem.W.mg_of X Gh aC8), fun c C hc => ⟨(FA c C hc).ex, chkT_ok hkT (t := (.ref C8, [8])) (by simp) hc⟩⟩
    | 8, he => cases (show some (("InvalidCase" : Str), ([7] : List Nat)) = some e from he); exact ⟨.ref C7, .ref C7, .own _, rfl, .inl (PySem.W.mg_of X Gh aC7), fun c C hc => ⟨(FA c C hc).ex, chkT_ok hkT (t := (.ref C7, [7])) (by simp) hc⟩⟩
    | 9, he => cases (show some (("ParseError" : Str), ([11] : List Nat)) = some e from he); exact ⟨.ref C11, .ref C11, .own _, rfl, .inl (PySem.W.mg_of X Gh aC11), fun c C hc => ⟨(FA c C hc).ex, chkT_ok hkT (t := (.ref C11, [11])) (by simp) hc⟩⟩
    | 10, he => cases (show some (("InvalidOperation" : Str), ([10] : List Nat)) = some e from he); exact ⟨.ref C10, .ref C10, .own _, rfl, .inl (PySem.W.mg_of X Gh aC10), fun c C hc => ⟨(FA c C hc).ex, chkT_ok hkT (t := (.ref C10, [10])) (by simp) hc⟩⟩
    | 11, he => cases (show some (("UnknownName" : Str), ([14] : List Nat)) = some e from he); exact ⟨.ref C14, .ref C14, .own _, rfl, .inl (PySem.W.mg_of X Gh aC14), fun c C hc => ⟨(FA c C hc).ex, chkT_ok hkT (t := (.ref C14, [14])) (by simp) hc⟩⟩
    | 12, he => cases (show some (("Rejected" : Str), ([13] : List Nat)) = some e from he); exact ⟨.ref C13, .ref C13, .own _, rfl, .inl (PySem.W.mg_of X Gh aC13), fun c C hc => ⟨(FA c C hc).ex, chkT_ok hkT (t := (.ref C13, [13])) (by simp) hc⟩⟩
    | 13, he => cases (show some (("BrokenConstraint" : Str), ([12] : List Nat)) = some e from he); exact ⟨.ref C12, .ref C12, .own _, rfl, .inl (PySem.W.mg_of X Gh aC12), fun c C hc => ⟨(FA c C hc).ex, chkT_ok hkT (t := (.ref C12, [12])) (by simp) hc⟩⟩
    | 14, he => cases (show some (("TooMany" : Str), ([17] : List Nat)) = some e from he); exact ⟨.ref C17, .ref C17, .own _, rfl, .inl (PySem.W.mg_of X Gh aC17), fun c C hc => ⟨(FA c C hc).ex, chkT_ok hkT (t := (.ref C17, [17])) (by simp) hc⟩⟩
    | 15, he => cases (show some (("NothingToUndo" : Str), ([16] : List Nat)) = some e from he); exact ⟨.ref C16, .ref C16, .own _, rfl, .inl (PySem.W.mg_of X Gh aC16), fun c C hc => ⟨(FA c C hc).ex, chkT_ok hkT (t := (.ref C16, [16])) (by simp) hc⟩⟩
    | 16, he => cases (show some (("MissingRow" : Str), ([15] : List Nat)) = some e from he); exact ⟨.ref C15, .ref C15, .own _, rfl, .inl (PySem.W.mg_of X Gh aC15), fun c C hc => ⟨(FA c C hc).ex, chkT_ok hkT (t := (.ref C15, [15])) (by simp) hc⟩⟩
    | 17, he => cases (show some (("DealError" : Str), ([0, 1, 2, 3, 4, 5, 6, 7, 8, 9, 10, 11, 12, 13] : List Nat)) = some e from he); exact ⟨.ref C0, .ref C0, .own _, rfl, .inl (PySem.W.mg_of X Gh aC0), fun c C hc => ⟨(FA c C hc).ex, chkT_ok hkT (t := (.ref C0, [0, 1, 2, 3, 4, 5, 6, 7, 8, 9, 10, 11, 12, 13])) (by simp) hc⟩⟩
    | 18, he => cases (show some (("NoNodes" : Str), ([19] : List Nat)) = some e from he); exact ⟨.ref C19, .ref C19, .own _, rfl, .inl (PySem.W.mg_of X Gh aC19), fun c C hc => ⟨(FA c C hc).ex, chkT_ok hkT (t := (.ref C19, [19])) (by simp) hc⟩⟩
    | 19, he => cases (show some (("InvalidNumber" : Str), ([18] : List Nat)) = some e from he); exact ⟨.ref C18, .ref C18, .own _, rfl, .inl (PySem.W.mg_of X Gh aC18), fun c C hc => ⟨(FA c C hc).ex, chkT_ok hkT (t := (.ref C18, [18])) (by simp) hc⟩⟩
    | 20, he => cases (show some (("IndexError" : Str), ([16] : List Nat)) = some e from he); exact ⟨.type "IndexError", .ty "IndexError", .ty _, rfl, .inr ⟨PySem.W.mg_none_of X Gh z1, by decide +kernel, by decide⟩, fun c C hc => ⟨(FA c C hc).ex, chkT_ok hkT (t := (.type "IndexError", [16])) (by simp) hc⟩⟩
    | 21, he => cases (show some (("KeyError" : Str), ([14] : List Nat)) = some e from he); exact ⟨.type "KeyError", .ty "KeyError", .ty _, rfl, .inr ⟨PySem.W.mg_none_of X Gh z2, by decide +kernel, by decide⟩, fun c C hc => ⟨(FA c C hc).ex, chkT_ok hkT (t := (.type "KeyError", [14])) (by simp) hc⟩⟩
    | 22, he => cases (show some (("ValueError" : Str), ([0, 1, 2, 3, 4, 5, 6, 7, 8, 9, 10, 11, 12, 13] : List Nat)) = some e from he); exact ⟨.type "ValueError", .ty "ValueError", .ty _, rfl, .inr ⟨PySem.W.mg_none_of X Gh z6, by decide +kernel, by decide⟩, fun c C hc => ⟨(FA c C hc).ex, chkT_ok hkT (t := (.type "ValueError", [0, 1, 2, 3, 4, 5, 6, 7, 8, 9, 10, 11, 12, 13])) (by simp) hc⟩⟩
    | 23, he => cases (show some (("ZeroDivisionError" : Str), ([19] : List Nat)) = some e from he); exact ⟨.type "ZeroDivisionError", .ty "ZeroDivisionError", .ty _, rfl, .inr ⟨PySem.W.mg_none_of X Gh z7, by decide +kernel, by decide⟩, fun c C hc => ⟨(FA c C hc).ex, chkT_ok hkT (t := (.type "ZeroDivisionError", [19])) (by simp) hc⟩⟩
    | 24, he => cases (show some (("LookupError" : Str), ([14, 15, 16] : List Nat)) = some e from he); exact ⟨.type "LookupError", .ty "LookupError", .ty _, rfl, .inr ⟨PySem.W.mg_none_of X Gh z3, by decide +kernel, by decide⟩, fun c C hc => ⟨(FA c C hc).ex, chkT_ok hkT (t := (.type "LookupError", [14, 15, 16])) (by simp) hc⟩⟩
    | 25, he => cases (show some (("ArithmeticError" : Str), ([17, 19] : List Nat)) = some e from he); exact ⟨.type "ArithmeticError", .ty "ArithmeticError", .ty _, rfl, .inr ⟨PySem.W.mg_none_of X Gh z0, by decide +kernel, by decide⟩, fun c C hc => ⟨(FA c C hc).ex, chkT_ok hkT (t := (.type "ArithmeticError", [17, 19])) (by simp) hc⟩⟩
    | 26, he => cases (show some (("OverflowError" : Str), ([17] : List Nat)) = some e from he); exact ⟨.type "OverflowError", .ty "OverflowError", .ty _, rfl, .inr ⟨PySem.W.mg_none_of X Gh z4, by decide +kernel, by decide⟩, fun c C hc => ⟨(FA c C hc).ex, chkT_ok hkT (t := (.type "OverflowError", [17])) (by simp) hc⟩⟩
    | 27, he => cases (show some (("RuntimeError" : Str), ([18] : List Nat)) = some e from he); exact ⟨.type "RuntimeError", .ty "RuntimeError", .ty _, rfl, .inr ⟨PySem.W.mg_none_of X Gh z5, by decide +kernel, by decide⟩, fun c C hc => ⟨(FA c C hc).ex, chkT_ok hkT (t := (.type "RuntimeError", [18])) (by simp) hc⟩⟩
    | hh + 28, he => simp [T] at he
  · match f, hf with
    | 0, hf => cases (show some ("_law_dice" : Str) = some x from hf); exact def_mk X Gh rfl c0 p0 g0 l0 d0 k0
    | 1, hf => cases (show some ("_law_roll" : Str) = some x from hf); exact def_mk X Gh rfl c1 p1 g1 l1 d1 k1
    | 2, hf => cases (show some ("_law_pick" : Str) = some x from hf); exact def_mk X Gh rfl c2 p2 g2 l2 d2 k2
    | 3, hf => cases (show some ("_law_told" : Str) = some x from hf); exact def_mk X Gh rfl c3 p3 g3 l3 d3 k3
    | 4, hf => cases (show some ("_law_keeper" : Str) = some x from hf); exact def_mk X Gh rfl c4 p4 g4 l4 d4 k4
    | 5, hf => cases (show some ("_law_kept" : Str) = some x from hf); exact def_mk X Gh rfl c5 p5 g5 l5 d5 k5
    | 6, hf => cases (show some ("_law_kinds" : Str) = some x from hf); exact def_mk X Gh rfl c6 p6 g6 l6 d6 k6
    | 7, hf => cases (show some ("_law_python" : Str) = some x from hf); exact def_mk X Gh rfl c7 p7 g7 l7 d7 k7
    | 8, hf => cases (show some ("_law_truths" : Str) = some x from hf); exact def_mk X Gh rfl c8 p8 g8 l8 d8 k8
    | 9, hf => cases (show some ("_law_raise" : Str) = some x from hf); exact def_mk X Gh rfl c9 p9 g9 l9 d9 k9
    | 10, hf => cases (show some ("_law_caught" : Str) = some x from hf); exact def_mk X Gh rfl c10 p10 g10 l10 d10 k10
    | 11, hf => cases (show some ("_law_word" : Str) = some x from hf); exact def_mk X Gh rfl c11 p11 g11 l11 d11 k11
    | 12, hf => cases (show some ("_law_value" : Str) = some x from hf); exact def_mk X Gh rfl c12 p12 g12 l12 d12 k12
    | 13, hf => cases (show some ("_law_messages_right" : Str) = some x from hf); exact def_mk X Gh rfl c13 p13 g13 l13 d13 k13
    | 14, hf => cases (show some ("_law_keepers_right" : Str) = some x from hf); exact def_mk X Gh rfl c14 p14 g14 l14 d14 k14
    | 15, hf => cases (show some ("law" : Str) = some x from hf); exact def_mk X Gh rfl c15 p15 g15 l15 d15 k15
    | f + 16, hf => simp [T] at hf
end K00
open PySem PySem.W PyProof.Rows
set_option maxRecDepth 100000 in
set_option maxHeartbeats 0 in
theorem PySem.Challenge.cw_dealtrows_k00_errors_and_what_they_keep_holds : PySem.Challenge.rw_dealtrows_k00_errors_and_what_they_keep.Holds := by
  w_on; o_law; k_head; (case hw => w_witness2)
  k_fill
  refine DI.walkD (l := PySem.Challenge.rw_dealtrows_k00_errors_and_what_they_keep) (n := 63) (k := 5) (T := K00.T) (Pg := K00.Pg) (fi := 15) rfl (by decide) rfl ⟨rfl, by decide, by decide⟩ rfl (fun w h Y => PySem.W.kIn_of Y) ?F (fun ns _ => K00.law_run ns)
  case F =>
    intro w mg h KX G
    refine' K00.all_mk KX G ?KKg0 ?KKl0 ?KKd0 ?KKk0 ?KKg1 ?KKl1 ?KKd1 ?KKk1 ?KKg2 ?KKl2 ?KKd2 ?KKk2 ?KKg3 ?KKl3 ?KKd3 ?KKk3 ?KKg4 ?KKl4 ?KKd4 ?KKk4 ?KKg5 ?KKl5 ?KKd5 ?KKk5 ?KKg6 ?KKl6 ?KKd6 ?KKk6 ?KKg7 ?KKl7 ?KKd7 ?KKk7 ?KKg8 ?KKl8 ?KKd8 ?KKk8 ?KKg9 ?KKl9 ?KKd9 ?KKk9 ?KKg10 ?KKl10 ?KKd10 ?KKk10 ?KKg11 ?KKl11 ?KKd11 ?KKk11 ?KKg12 ?KKl12 ?KKd12 ?KKk12 ?KKg13 ?KKl13 ?KKd13 ?KKk13 ?KKg14 ?KKl14 ?KKd14 ?KKk14 ?KKg15 ?KKl15 ?KKd15 ?KKk15 ?KKaC0 ?KKaC1 ?KKaC2 ?KKaC3 ?KKaC4 ?KKaC5 ?KKaC6 ?KKaC7 ?KKaC8 ?KKaC9 ?KKaC10 ?KKaC11 ?KKaC12 ?KKaC13 ?KKaC14 ?KKaC15 ?KKaC16 ?KKaC17 ?KKaC18 ?KKaC19 ?KKz0 ?KKz1 ?KKz2 ?KKz3 ?KKz4 ?KKz5 ?KKz6 ?KKz7 ?KKz8 ?KKz9 ?KKz10 ?KKz11 ?KKz12 ?KKz13 ?KKz14 ?KKz15 ?KKz16 ?KKfI11h ?KKlI11 ?KKqI11 ?KKoI11 ?KKeI11 ?KKCI11 ?KKvI11 ?KKmI11 ?KKkI11 ?KKfI12h ?KKlI12 ?KKqI12 ?KKoI12 ?KKeI12 ?KKCI12 ?KKvI12 ?KKmI12 ?KKkI12 ?KKfI13h ?KKlI13 ?KKqI13 ?KKoI13 ?KKeI13 ?KKCI13 ?KKvI13 ?KKmI13 ?KKkI13 ?KKfI14h ?KKlI14 ?KKqI14 ?KKoI14 ?KKeI14 ?KKCI14 ?KKvI14 ?KKmI14 ?KKkI14 ?KKfI15h ?KKlI15 ?KKqI15 ?KKoI15 ?KKeI15 ?KKCI15 ?KKvI15 ?KKmI15 ?KKkI15 ?KKfI16h ?KKlI16 ?KKqI16 ?KKoI16 ?KKeI16 ?KKCI16 ?KKvI16 ?KKmI16 ?KKkI16 ?KKfI17h ?KKlI17 ?KKqI17 ?KKoI17 ?KKeI17 ?KKCI17 ?KKvI17 ?KKmI17 ?KKkI17 ?KKfI18h ?KKlI18 ?KKqI18 ?KKoI18 ?KKeI18 ?KKCI18 ?KKvI18 ?KKmI18 ?KKkI18 ?KKfI19h ?KKlI19 ?KKqI19 ?KKoI19 ?KKeI19 ?KKCI19 ?KKvI19 ?KKmI19 ?KKkI19 ?KKhkC ?KKhkP ?KKhkE ?KKhkT
    (case KKg0 => k_is)
    (case KKl0 => k_is)
    (case KKd0 => k_is)
    (case KKk0 => k_is)
    (case KKg1 => k_is)
    (case KKl1 => k_is)
    (case KKd1 => k_is)
    (case KKk1 => k_is)
    (case KKg2 => k_is)
    (case KKl2 => k_is)
    (case KKd2 => k_is)
    (case KKk2 => k_is)
    (case KKg3 => k_is)
    (case KKl3 => k_is)
    (case KKd3 => k_is)
    (case KKk3 => k_is)
    (case KKg4 => k_is)
    (case KKl4 => k_is)
    (case KKd4 => k_is)
    (case KKk4 => k_is)
    (case KKg5 => k_is)
    (case KKl5 => k_is)
    (case KKd5 => k_is)
    (case KKk5 => k_is)
    (case KKg6 => k_is)
    (case KKl6 => k_is)
    (case KKd6 => k_is)
    (case KKk6 => k_is)
    (case KKg7 => k_is)
    (case KKl7 => k_is)
    (case KKd7 => k_is)
    (case KKk7 => k_is)
    (case KKg8 => k_is)
    (case KKl8 => k_is)
    (case KKd8 => k_is)
    (case KKk8 => k_is)
    (case KKg9 => k_is)
    (case KKl9 => k_is)
    (case KKd9 => k_is)
    (case KKk9 => k_is)
    (case KKg10 => k_is)
    (case KKl10 => k_is)
    (case KKd10 => k_is)
    (case KKk10 => k_is)
    (case KKg11 => k_is)
    (case KKl11 => k_is)
    (case KKd11 => k_is)
    (case KKk11 => k_is)
    (case KKg12 => k_is)
    (case KKl12 => k_is)
    (case KKd12 => k_is)
    (case KKk12 => k_is)
    (case KKg13 => k_is)
    (case KKl13 => k_is)
    (case KKd13 => k_is)
    (case KKk13 => k_is)
    (case KKg14 => k_is)
    (case KKl14 => k_is)
    (case KKd14 => k_is)
    (case KKk14 => k_is)
    (case KKg15 => k_is)
    (case KKl15 => k_is)
    (case KKd15 => k_is)
    (case KKk15 => k_is)
    (case KKaC0 => k_is)
    (case KKaC1 => k_is)
    (case KKaC2 => k_is)
    (case KKaC3 => k_is)
    (case KKaC4 => k_is)
    (case KKaC5 => k_is)
    (case KKaC6 => k_is)
    (case KKaC7 => k_is)
    (case KKaC8 => k_is)
    (case KKaC9 => k_is)
    (case KKaC10 => k_is)
    (case KKaC11 => k_is)
    (case KKaC12 => k_is)
    (case KKaC13 => k_is)
    (case KKaC14 => k_is)
    (case KKaC15 => k_is)
    (case KKaC16 => k_is)
    (case KKaC17 => k_is)
    (case KKaC18 => k_is)
    (case KKaC19 => k_is)
    (case KKz0 => k_is)
    (case KKz1 => k_is)
    (case KKz2 => k_is)
    (case KKz3 => k_is)
    (case KKz4 => k_is)
    (case KKz5 => k_is)
    (case KKz6 => k_is)
    (case KKz7 => k_is)
    (case KKz8 => k_is)
    (case KKz9 => k_is)
    (case KKz10 => k_is)
    (case KKz11 => k_is)
    (case KKz12 => k_is)
    (case KKz13 => k_is)
    (case KKz14 => k_is)
    (case KKz15 => k_is)
    (case KKz16 => k_is)
    (case KKfI11h => k_is)
    (case KKlI11 => k_is)
    (case KKqI11 => k_is)
    (case KKoI11 => k_is)
    (case KKeI11 => k_is)
    (case KKCI11 => k_is)
    (case KKvI11 => exact rfl)
    (case KKmI11 => first | rfl | kernel_rfl)
    (case KKkI11 => kernel_rfl)
    (case KKfI12h => k_is)
    (case KKlI12 => k_is)
    (case KKqI12 => k_is)
    (case KKoI12 => k_is)
    (case KKeI12 => k_is)
    (case KKCI12 => k_is)
    (case KKvI12 => exact rfl)
    (case KKmI12 => first | rfl | kernel_rfl)
    (case KKkI12 => kernel_rfl)
    (case KKfI13h => k_is)
    (case KKlI13 => k_is)
    (case KKqI13 => k_is)
    (case KKoI13 => k_is)
    (case KKeI13 => k_is)
    (case KKCI13 => k_is)
    (case KKvI13 => exact rfl)
    (case KKmI13 => first | rfl | kernel_rfl)
    (case KKkI13 => kernel_rfl)
    (case KKfI14h => k_is)
    (case KKlI14 => k_is)
    (case KKqI14 => k_is)
    (case KKoI14 => k_is)
    (case KKeI14 => k_is)
    (case KKCI14 => k_is)
    (case KKvI14 => exact rfl)
    (case KKmI14 => first | rfl | kernel_rfl)
    (case KKkI14 => kernel_rfl)
    (case KKfI15h => k_is)
    (case KKlI15 => k_is)
    (case KKqI15 => k_is)
    (case KKoI15 => k_is)
    (case KKeI15 => k_is)
    (case KKCI15 => k_is)
    (case KKvI15 => exact rfl)
    (case KKmI15 => first | rfl | kernel_rfl)
    (case KKkI15 => kernel_rfl)
    (case KKfI16h => k_is)
    (case KKlI16 => k_is)
    (case KKqI16 => k_is)
    (case KKoI16 => k_is)
    (case KKeI16 => k_is)
    (case KKCI16 => k_is)
    (case KKvI16 => exact rfl)
    (case KKmI16 => first | rfl | kernel_rfl)
    (case KKkI16 => kernel_rfl)
    (case KKfI17h => k_is)
    (case KKlI17 => k_is)
    (case KKqI17 => k_is)
    (case KKoI17 => k_is)
    (case KKeI17 => k_is)
    (case KKCI17 => k_is)
    (case KKvI17 => exact rfl)
    (case KKmI17 => first | rfl | kernel_rfl)
    (case KKkI17 => kernel_rfl)
    (case KKfI18h => k_is)
    (case KKlI18 => k_is)
    (case KKqI18 => k_is)
    (case KKoI18 => k_is)
    (case KKeI18 => k_is)
    (case KKCI18 => k_is)
    (case KKvI18 => exact rfl)
    (case KKmI18 => first | rfl | kernel_rfl)
    (case KKkI18 => kernel_rfl)
    (case KKfI19h => k_is)
    (case KKlI19 => k_is)
    (case KKqI19 => k_is)
    (case KKoI19 => k_is)
    (case KKeI19 => k_is)
    (case KKCI19 => k_is)
    (case KKvI19 => exact rfl)
    (case KKmI19 => first | rfl | kernel_rfl)
    (case KKkI19 => kernel_rfl)
    (case KKhkC => kernel_rfl)
    (case KKhkP => kernel_rfl)
    (case KKhkE => kernel_rfl)
    (case KKhkT => kernel_rfl)

