import PyProof.Rows.All
import Wide.All
import OpenK.AllK
import Wide.FinOn
import HandS.ForMost
import HandS.Exc
import HandS.TryOnly
import HandS.Deep
import HandS.DictComp
import HandS.SortKw
import HandS.IsInst
import HandS.WordsExc
import HandS.More
import HandS.Head0
import HandS.Head1
import HandS.Head2
import HandS.HeadEnd
import HandS.HeadHook1
import HandS.HeadHook2
import KE.SortKeyHeap
import KE.KExcSuper
import HandS.Evl
import PySem.Challenge.RW_timeshelf_k50_whole_files_cut_anywhere
set_option Elab.async false
set_option linter.all false
set_option maxRecDepth 100000
set_option maxHeartbeats 4000000
namespace Ts
open PySem PySem.Spec PyProof.Rows L2
def top (i : Nat) : Stmt := PySem.Challenge.pw_timeshelf_k50_whole_files_cut_anywhere.main.body.getD i (.Pass ⟨0, 0, 0, 0⟩)
/-! ### heaps -/
theorem same_mod {H H1 : Hp} {p : Addr} {o : HO} (s : Same H H1) (n : H p = none) : Same H (upd H1 p o) := fun b x e => by
  rw [upd_ne (ne_of_none e n)]
  exact s _ _ e
theorem same_add {H H1 : Hp} {p : Addr} {o : HO} (s : Same H H1) (n : H1 p = none) : Same H (upd H1 p o) := same_mod s (s.free n)
theorem same1 {H : Hp} {p : Addr} {o : HO} (n : H p = none) : Same H (upd H p o) := same_mod (Same.refl H) n
theorem same_tup {K : PySem.W.Frag} {H H' : Hp} {a : Addr} {xs : List V} (e : Same H H') (h : SqT K H a xs) : SqT K H' a xs := by
  rcases h with (h | ⟨o, h⟩) | h
  · exact .inl (.inl (e _ _ h))
  · exact .inl (.inr ⟨o, e _ _ h⟩)
  · exact .inr h
/-! ### a def, a method, a class as the callers need them -/
section
variable (P : Program) (w : World) (K : PySem.W.Frag) (mg : Str → Option Value) (base : Heap)
structure Own (CX : CXT) (k : Nat) (x : Str) (ps : List Str) (sp : Sp) : Prop where
  ex : ∃ f fd, mg x = some (.ref f) ∧ PySem.W.keepIn K (.ref f) = true ∧ Binds K fd ps [] ∧ FnOk P w K mg base CX k f fd ps sp
structure OwnM (CX : CXT) (C : Addr) (k : Nat) (m : Str) (ps : List Str) (sp : Sp) : Prop where
  cl : Cls K C
  ex : ∃ f fd, Meth K C m f ∧ Binds K fd ps [] ∧ FnOk P w K mg base CX k f fd ps sp
structure OwnC (CX : CXT) (C : Addr) (k : Nat) (x : Str) (ps : List Str) (sp : Sp) : Prop where
  g : mg x = some (.ref C)
  ex : ∃ f fd, Mk K C f ∧ Binds K fd ps [] ∧ FnOk P w K mg base CX k f fd ps sp
end
section
variable {X : Cx} {CX : CXT} {j k : Nat} {x m : Str} {C : Addr} {ps : List Str} {sp : Sp} {E : XK} {p pos apos : Pos} {e o : Expr} {es : List Expr} {ta : TE} {t : TA}
theorem pe_own (D : Own X.prog X.w X.K X.mg X.base CX k x ps sp) (hr : Room j X.A) (hk : k ≤ j) (hg : Gl X x) (hx : Passes CX X E) (ha : PA X (e :: es) t) (hdb : (x == ("__debug__" : Str)) = false := by decide)
    (he : starEach (e :: es) X.env = (false, eval e X.env) :: starEach es X.env := by rfl) (hpl : (backTo pos (starEach es X.env)).any (·.1) = false := by rfl) :
    PE X (.Call (.Name x p) (e :: es) [] pos) (tCall sp [] E t) := by
  obtain ⟨f, fd, h1, h2, h3, h4⟩ := D.ex
  exact pe_call h4 (hr.mono hk) hg h1 h2 h3 .nil hx ha hdb he hpl
theorem pe_ownM {pl : Sem Bool} (D : OwnM X.prog X.w X.K X.mg X.base CX C k m ps sp) (hr : Room j X.A) (hk : k ≤ j) (hx : Passes CX X E) (ho : PE X o ta) (ha : PA X (e :: es) t)
    (hst : starEach (e :: es) X.env = (false, eval e X.env) :: starEach es X.env := by rfl) (hpl : (backTo pos (starEach es X.env)).any (·.1) = false := by rfl)
    (ht : eval (.Call (.Attribute o m apos) (e :: es) [] pos) X.env = (do
      let ov ← eval o X.env
      standAt apos.atName
      let (f, first) ← holding [ov] (getMethod ov m pl)
      callWith pos f first (backTo pos (starEach (e :: es) X.env)) (backToKw pos (keywordEach [] X.env))) := by rfl) :
    PE X (.Call (.Attribute o m apos) (e :: es) [] pos) (tMeth C m sp [] E ta t) := by
  obtain ⟨f, fd, h1, h2, h3⟩ := D.ex
  exact pe_meth (pl := pl) ho D.cl h1 h3 (hr.mono hk) h2 .nil hx ha hst hpl ht
theorem pe_ownM0 {pl : Sem Bool} (D : OwnM X.prog X.w X.K X.mg X.base CX C k m ps sp) (hr : Room j X.A) (hk : k ≤ j) (hx : Passes CX X E) (ho : PE X o ta)
    (ht : eval (.Call (.Attribute o m apos) [] [] pos) X.env = (do
      let ov ← eval o X.env
      standAt apos.atName
      let (f, first) ← holding [ov] (getMethod ov m pl)
      callWith pos f first (backTo pos (starEach [] X.env)) (backToKw pos (keywordEach [] X.env))) := by rfl) :
    PE X (.Call (.Attribute o m apos) [] [] pos) (tMeth C m sp [] E ta tNil) := by
  obtain ⟨f, fd, h1, h2, h3⟩ := D.ex
  exact pe_meth0 (pl := pl) ho D.cl h1 h3 (hr.mono hk) h2 .nil hx ht
theorem pe_makeO (D : OwnC X.prog X.w X.K X.mg X.base CX C k x ps sp) (hr : Room j X.A) (hk : k + 1 ≤ j) (hg : Gl X x) (hx : Passes CX X E) (ha : PA X (e :: es) t) (hdb : (x == ("__debug__" : Str)) = false := by decide)
    (he : starEach (e :: es) X.env = (false, eval e X.env) :: starEach es X.env := by rfl) (hpl : (backTo pos (starEach es X.env)).any (·.1) = false := by rfl) :
    PE X (.Call (.Name x p) (e :: es) [] pos) (tMake C sp [] E t) := by
  obtain ⟨f, fd, h1, h2, h3⟩ := D.ex
  exact pe_make h1 h3 (hr.mono hk) hg D.g h2 .nil hx ha hdb he hpl
theorem pe_gI {i : Int} (hg : Gl X x) (h : ∃ t, X.mg x = some (.int i t)) (hd : (x == ("__debug__" : Str)) = false := by decide) : PE X (.Name x pos) (tC (.int i)) := by
  obtain ⟨t, h⟩ := h
  exact pe_glob hg h ⟨t, rfl⟩ hd
theorem pe_gS {z : Str} (hg : Gl X x) (h : ∃ t, X.mg x = some (.str z t)) (hd : (x == ("__debug__" : Str)) = false := by decide) : PE X (.Name x pos) (tC (.str z)) := by
  obtain ⟨t, h⟩ := h
  exact pe_glob hg h ⟨t, rfl⟩ hd
end
/-! ### what the top has left of plain names -/
structure Txt (mg : Str → Option Value) : Prop where
  f_len : mg "len" = none
  f_int : mg "int" = none
  f_ord : mg "ord" = none
  f_max : mg "max" = none
  f_all : mg "all" = none
  f_isinstance : mg "isinstance" = none
  f_str : mg "str" = none
  f_bool : mg "bool" = none
  f_list : mg "list" = none
  f_tuple : mg "tuple" = none
  f_sorted : mg "sorted" = none
  f_range : mg "range" = none
  g_MOST_TIME : ∃ t, mg "MOST_TIME" = some (.int 100000 t)
  g_MOST_KEY : ∃ t, mg "MOST_KEY" = some (.int 8 t)
  g_MOST_TEXT : ∃ t, mg "MOST_TEXT" = some (.int 400 t)
  g_MOST_CHANGES_shelves : ∃ t, mg "MOST_CHANGES_shelves" = some (.int 80 t)
  g_MOST_KEYS_shelves : ∃ t, mg "MOST_KEYS_shelves" = some (.int 12 t)
  g_MOST_CHANGES_merging : ∃ t, mg "MOST_CHANGES_merging" = some (.int 80 t)
  g_MOST_KEYS_merging : ∃ t, mg "MOST_KEYS_merging" = some (.int 12 t)
  g_MOST_SOURCES : ∃ t, mg "MOST_SOURCES" = some (.int 9 t)
  g_MODULUS : ∃ t, mg "MODULUS" = some (.int 65521 t)
  g_SMALLS : ∃ t, mg "SMALLS" = some (.str "abcdefghijklmnopqrstuvwxyz" t)
  g_DIGITS : ∃ t, mg "DIGITS" = some (.str "0123456789" t)
  g_PRINTED : ∃ t, mg "PRINTED" = some (.str " !\"#$ &'()*+,-./0123456789:;<=>?@ABCDEFGHIJKLMNOPQRSTUVWXYZ[\\]^_`abcdefghijklmnopqrstuvwxyz{|}~" t)
  g_SIGNS : ∃ t, mg "SIGNS" = some (.str "abcdefghijklmnopqrstuvwxyz0123456789" t)
end Ts
/-! InvalidBytes(n): an own error, two classes below ValueError, whose __init__ says super().__init__(f'..') and stores a field -/
namespace PySem
namespace IbX
open PySem.W PySem.Calls PyProof.Rows PySem.HandSPX
def ibArgs : Arguments := L2.defArgs (L2.inClass (Ts.top 4) 0)
def ibScope : Scope := L2.defScope (L2.inClass (Ts.top 4) 0)
abbrev ibBody : List Stmt := L2.defBody (L2.inClass (Ts.top 4) 0)
/-- what is handed on -/
abbrev ibJ : Expr := match ibBody with
  | .Expr (.Call _ (a :: _) _ _) _ :: _ => a
  | _ => .Name "at" ⟨0, 0, 0, 0⟩
theorem ibBody_eq : L2.defBody (L2.inClass (Ts.top 4) 0) = ibBody := rfl
/-- what the written part says of InvalidBytes at C, its __init__ at fI, the cell of __class__ at cc, the code object at cda -/
structure IbTxt (P : Program) (K : Frag) (mg : Str → Option Value) (C fI cc cda : Addr) : Prop where
  gC : mg "InvalidBytes" = some (.ref C)
  gS : mg "super" = none
  cls : ∃ nm q N bs bm sn sub ab col dd k0 k1 k2 k3 k5, K.lookup C = some (excClassObj nm q C N bs bm true sn sub ab col dd k0 k1 k2 k3 k5 "ValueError.__new__") ∧ refsVE bm = true
  sa : findIn K (.ref C) "__setattr__" = some (some (.builtin "object.__setattr__"))
  ga : findIn K (.ref C) "__getattribute__" = some (some (.builtin "BaseException.__getattribute__"))
  gg : findIn K (.ref C) "__getattr__" = some none
  noN : findIn K (.ref C) "at" = some none
  iC : findIn K (.ref C) "__init__" = some (some (.ref fI))
  tC : typeIn K (.ref fI) = some (.type "function")
  kC : keepIn K (.ref C) = true
  exC : subIn K (.ref C) (.type "BaseException") = some true
  tyC : typeIn K (.ref C) = some (.type "type")
  hdC : hasDictIn K C = true
  te : exmOne K (.ref C) (.ref C) = some true
  sup : ks_superIn K C C "__init__" = some (some (.builtin "ValueError.__init__"))
  veC : subIn K (.ref C) (.type "ValueError") = some true
  mC : mroIn K C (.ref C) = some true
  opq : nsIn K cStatics "thirdparty.any" = some none
  cell : ∃ (cl : Value) (cld : Option Addr) (csl : Array (Option Value)), K.lookup cc = some ⟨cl, cld, .cell (some (.ref C)), csl⟩
  fn : ∃ (oc : Value) (od : Option Addr) (doc pm : Value) (an : Option Addr) (ct : Value) (osl : Array (Option Value)),
    K.lookup fI = some ⟨oc, od, .func (fnX "__init__" "InvalidBytes.__init__" ibArgs ibBody ibScope [("__class__", cc)] .none .none doc pm an (.ref cda) ct), osl⟩ ∧ codeIn K (.ref cda) "InvalidBytes.__init__" = true
  code : ∃ (ccl : Value) (cdd : Option Addr) (vs : Array Value) (ccs : Array (Option Value)) (file : Str) (tf : Tok), K.lookup cda = some ⟨ccl, cdd, .fields vs, ccs⟩ ∧ vs[2]? = some (.str file tf) ∧ ((P.main.file : Str) == file) = true
  top : (P.main.scope.names.lookup ("super" : Str)).isSome = false
/-- what __init__ leaves of a fresh exception at x -/
structure IbEnd (h h' : Heap) (x C dx : Addr) (v : Value) : Prop where
  keep : ∀ b o, b ≠ x → h.get? b = some o → h'.get? b = some o
  obj : ∃ t1, h'.get? x = some { cls := .ref C, dict := some dx, data := .fields #[.ref t1, .none, .none, .none, .bool false, .none] }
  dbig : h.objs.size ≤ dx
  dne : dx ≠ x
  ns : h'.Ns1 dx (fun y => if y = "at" then some v else none)
/-- a made InvalidBytes -/
structure IbMade (h h' : Heap) (e C d : Addr) (v : Value) : Prop where
  keep : ∀ b o, h.get? b = some o → h'.get? b = some o
  new : h.objs.size ≤ e
  obj : ∃ oe vs, h'.get? e = some oe ∧ oe.cls = .ref C ∧ oe.dict = some d ∧ oe.data = .fields vs ∧ vs[1]? = some .none
  dbig : h.objs.size ≤ d
  dne : d ≠ e
  ns : h'.Ns1 d (fun y => if y = "at" then some v else none)
section
variable {prog : Program} {w : World} {A : Around} {E : Value → Shared → Prop} {R : Result → Shared → Prop} {s : Shared} {K : Frag} {mg mb : Str → Option Value} {C fI cc cda : Addr}
/-- the wrapper that super().__init__ hands on, called upon a fresh exception of the class at C -/
theorem call_wrap {h : Heap} {g : Array GenState} {d : Drawn} {tk : Nat} {os : OsState} {u e t0 : Addr} {rest : List Value} {Q : Value → Shared → Prop}
    {nm q : Str} {N : Addr} {bs bm : List Value} {sn : List Str} {sub : List Value} {ab : Bool} {col : Option Bool} {dd : Option Addr} {k0 k1 k2 k3 k5 : Option Value}
    (hC : h.get? C = some (excClassObj nm q C N bs bm true sn sub ab col dd k0 k1 k2 k3 k5 "ValueError.__new__")) (he : h.get? e = some (excO C t0)) (hu : h.get? u = some (kxs_mw "ValueError.__init__" e)) (hz : rest.length ≤ sizeLine)
    (hq : ∀ h' t1, (∀ b o, b ≠ e → h.get? b = some o → h'.get? b = some o) → h'.get? e = some (excO C t1) → Q .none ⟨h', g, d, tk, os⟩) :
    wpAny (model prog w) A (call (.ref u) rest) Q E ⟨h, g, d, tk, os⟩ := by
  have q1 : (Value.type "method-wrapper" == Value.type "method" || Value.type "method-wrapper" == Value.type "builtin_function_or_method" || Value.type "method-wrapper" == Value.type "method-wrapper") = true := by decide
  refine wpAny_call (codeAny_of_tree ?_)
  show wpAny _ A.in1 (callAny (.ref u) ⟨rest, []⟩) _ _ _
  simp only [callAny]
  refine wpAny_bind (wpAny_load hu ?_)
  simp only [kxs_mw, q1, if_true]
  refine KFB.if_so (by decide) (wpAny_bind (check_bound_init F.excBase_ValueError.toExcCallFacts hC he rfl (wpAny_bind (wpAny_pure (wpAny_pure ?_)))))
  refine ⟨plainId_quiet F.excBase_ValueError.init.plain _, codeAny_builtin F.excBase_ValueError.initEntry ?_⟩
  exact exc_init_tree (cls := .ref C) (t0 := t0) (dv := none) (c2 := .none) (c3 := .none) (b4 := .bool false) he hz fun h' k hx _ => hq h' h.objs.size k hx
theorem ib_init (T : IbTxt prog K mg C fI cc cda) {x t0 : Addr} {i : Int} {ti : Tok} (X : K.In s.heap) (hlim : s.heap.NoLimit) (G : s.heap.Ns mainGlobals mg) (B : s.heap.Ns builtinsNs mb) (hb : mb "super" = some (.type "super"))
    (hx : s.heap.get? x = some (excO C t0)) (hnx : K.lookup x = none) (hroom : A.depth < recursionLimit) (hi : i.natAbs.log2 < 1920) (hlen : ((Str.empty ++ ("invalid bytes at " : Str)) ++ (toString i : Str)).length ≤ sizeLine)
    (hq : ∀ h' tk dx, IbEnd s.heap h' x C dx (.int i ti) → R (.ok (.ret .none)) { s with heap := h', toks := tk }) :
    codeAny (model prog w) A (.call (.ref fI) ⟨[.ref x, .int i ti], []⟩) R s := by
  obtain ⟨oc, od, doc, pm, an, ct, osl, ho, hcd⟩ := T.fn
  obtain ⟨ccl, cdd, vs, ccs, file, tf, hcode, hvs, hfile⟩ := T.code
  obtain ⟨cl, cld, csl, hcell⟩ := T.cell
  obtain ⟨nm, q, N, bs, bm, sn, sub, ab, col, dd, k0, k1, k2, k3, k5, hC, hbm⟩ := T.cls
  have hcl : clsIn K C = some { name := nm, bases := bs, mro := .ref C :: bm, ns := N, qualname := q, hasDict := true, slotNames := sn, subclasses := sub, abstract := ab, collection := col, hasDel := false } := by unfold clsIn; rw [hC] <;> rfl
  refine ks_codeAny_call_defAt (fd := fnX "__init__" "InvalidBytes.__init__" ibArgs ibBody ibScope [("__class__", cc)] .none .none doc pm an (.ref cda) ct) (body := ibBody) (binds := [("self", .ref x), ("at", .int i ti)])
    hroom (X _ _ ho) rfl hlim (codeRec_of X hcd) rfl (BindsTo.of_eq (by first | rfl | with_unfolding_all rfl)) (show ∀ x ∈ ibScope.names, x.2 ≠ .cell by decide +kernel) (locs rfl) (fun h₀ hn k => ?_)
  have kOf : ∀ {h' : Heap}, (∀ b o, b ≠ x → h₀.get? b = some o → h'.get? b = some o) → K.In h' := fun kk a o e => kk a o (fun z => by rw [z, hnx] at e; cases e) (k _ _ (X a o e))
  have X₀ : K.In h₀ := X.keeps k
  have hx₀ := k _ _ hx
  have I₀ : InstAt h₀ x (excO C t0) C none := ⟨hx₀, rfl, rfl, trivial⟩
  have hL : s.heap.objs.size ≠ x := Nat.ne_of_gt (Heap.lt_size hx)
  -- super().__init__(f'..')
  refine ks_wpAt_execs_cons (ks_wpAt_Expr_any (ks_wpAt_MethodCall ?_))
  refine ks_wpAt_super_base (f := fI) (cc := cda) (by rfl) (by rfl) (by decide) rfl (X₀ _ _ ho) rfl rfl rfl (X₀ _ _ hcode) rfl hvs hfile T.top ?_
  refine ks_loadName_global rfl (by rfl) (loadGlobal_builtin (G.keeps k) T.gS (B.keeps k) hb ⟨rfl, ?_⟩)
  refine wpAny_loadName_free (c := cc) (v := .ref C) rfl (by rfl) (by rfl) ⟨_, X₀ _ _ hcell, rfl⟩ ?_
  refine wpAny_loadName_local (v := .ref x) rfl (by rfl) hn (by first | rfl | with_unfolding_all rfl | kernel_rfl) ?_
  refine ks_wpAny_isType_cls (X₀ _ _ hC) rfl ⟨rfl, ?_⟩
  refine ks_wpAny_call_super (X₀ _ _ hC) rfl hx₀ rfl (fun c z => by cases z) (looks_mroIn X₀ T.mC) (fun h₁ hso k₁ => ?_)
  have X₁ : K.In h₁ := X₀.keeps k₁
  have I₁ : InstAt h₁ x (excO C t0) C none := ⟨k₁ _ _ hx₀, rfl, rfl, trivial⟩
  have hsup := T.sup
  unfold ks_superIn at hsup
  rw [hcl] at hsup
  refine kxs_getMethod kxs_ValueError hso (looks_opaque X₁ T.opq) (l₀ := .ref C :: bm) (fun A Q E s k q => wpAny_bind ((looks_clsIn X₁ hcl) A _ E s k (wpAny_pure q))) rfl X₁ hsup (I₁.type.andThen (looks_subIn X₁ T.veC)) (ks_ne X₁ I₁ hcl) (by decide) ?_
  dsimp only
  refine kxs_callWith (i := "ValueError.__init__") (x := x) (by rfl) ?_
  have k₂ : ∀ b o, h₁.get? b = some o → (h₁.push (kxs_mw "ValueError.__init__" x)).get? b = some o := fun b o e => Heap.get?_push_of_some _ e
  have hn₂ : (h₁.push (kxs_mw "ValueError.__init__" x)).Ns s.heap.objs.size (fun y => List.lookup y ([(("self" : Str), Value.ref x), (("at" : Str), Value.int i ti)] : List (Str × Value)).reverse) := (hn.keeps k₁).keeps k₂
  have hu : (h₁.push (kxs_mw "ValueError.__init__" x)).get? h₁.objs.size = some (kxs_mw "ValueError.__init__" x) := Heap.get?_push_size _ rfl
  refine evalArgs_plain (rest := []) (x := eval ibJ _) (Calls.spliced_cons ?_)
  refine wpAny_JoinedStr ?_
  show Joins _ _ _ [eval _ _, eval _ _] _ _ _
  refine wpAny_Constant_str ⟨_, _, rfl, by decide +kernel, ?_⟩
  refine wpAny_FormattedValue_plain (wpAny_Name (wpAny_loadName_local (v := .int i ti) rfl (by rfl) hn₂ (by first | rfl | with_unfolding_all rfl | kernel_rfl) ?_) (by decide))
  refine wpAny_formatField_int hi ⟨_, _, rfl, hlen, hlen, ?_⟩
  refine Calls.spliced_nil ⟨hu, ?_⟩
  have X₂ : K.In (h₁.push (kxs_mw "ValueError.__init__" x)) := X₁.keeps k₂
  refine call_wrap (X₂ _ _ hC) (k₂ _ _ (k₁ _ _ hx₀)) hu (by show 1 ≤ sizeLine; decide) (fun h₃ t₁ k₃ hx₃ => ?_)
  have k₀₃ : ∀ b o, b ≠ x → h₀.get? b = some o → h₃.get? b = some o := fun b o hb e => k₃ b o hb (k₂ _ _ (k₁ _ _ e))
  have X₃ : K.In h₃ := kOf k₀₃
  have hn₃ : h₃.Ns s.heap.objs.size (fun y => List.lookup y ([(("self" : Str), Value.ref x), (("at" : Str), Value.int i ti)] : List (Str × Value)).reverse) := by
    obtain ⟨oL, es, ep, hL1, r⟩ := hn₂
    exact ⟨oL, es, ep, k₃ _ _ hL hL1, r⟩
  -- self.at = at
  refine wpAt_of_wpAny (wpAny_execs_cons (plainObj_wpAny_Assign_Attribute ?_))
  refine wpAny_Name (wpAny_loadName_local (v := .int i ti) rfl (by rfl) hn₃ (by first | rfl | with_unfolding_all rfl | kernel_rfl) ?_) (by decide)
  refine wpAny_Name (wpAny_loadName_local (v := .ref x) rfl (by rfl) hn₃ (by first | rfl | with_unfolding_all rfl | kernel_rfl) ?_) (by decide)
  refine set_plain X₃ (ox := excO C t₁) (od := none) ⟨hx₃, rfl, rfl, trivial⟩ T.sa ?_
  refine exc_osa X₃ hx₃ hcl (show refsVE (.ref C :: bm) = true from hbm) rfl T.noN (fun h₄ tk₄ dx k₄ dn dne hx₄ hn₄ => ?_)
  have z : s.heap.objs.size < h₃.objs.size := hn₃.lt
  exact wpAny_execs_nil (hq h₄ tk₄ dx ⟨fun b o hb e => k₄ b o hb (k₀₃ b o hb (k _ _ e)), ⟨_, hx₄⟩, Nat.le_of_lt (Nat.lt_of_lt_of_le z dn), dne, hn₄⟩)
/-- C(n) -/
theorem ib_made (T : IbTxt prog K mg C fI cc cda) {i : Int} {ti : Tok} (X : K.In s.heap) (hlim : s.heap.NoLimit) (G : s.heap.Ns mainGlobals mg) (B : s.heap.Ns builtinsNs mb) (hb : mb "super" = some (.type "super")) (hroom : A.depth + 1 < recursionLimit)
    (hi : i.natAbs.log2 < 1920) (hlen : ((Str.empty ++ ("invalid bytes at " : Str)) ++ (toString i : Str)).length ≤ sizeLine)
    (hq : ∀ h' tk e d, IbMade s.heap h' e C d (.int i ti) → R (.ok (.ret (.ref e))) { s with heap := h', toks := tk }) :
    codeAny (model prog w) A (.call (.ref C) ⟨[.int i ti], []⟩) R s := by
  obtain ⟨nm, q, N, bs, bm, sn, sub, ab, col, dd, k0, k1, k2, k3, k5, hC, hbm⟩ := T.cls
  obtain ⟨hp, g, dr, tk, os⟩ := s
  have k : ∀ b o, hp.get? b = some o → ((hp.push (kdv_tup [.int i ti])).push (excO C hp.objs.size)).get? b = some o := fun b o e => Heap.get?_push_of_some _ (Heap.get?_push_of_some _ e)
  have hget : ((hp.push (kdv_tup [.int i ti])).push (excO C hp.objs.size)).get? (hp.objs.size + 1) = some (excO C hp.objs.size) := by heap_get
  have hnx : K.lookup (hp.objs.size + 1) = none := by
    cases e : K.lookup (hp.objs.size + 1) with
    | none => rfl
    | some o =>
      have z : hp.get? (hp.objs.size + 1) = some o := X _ _ e
      exact absurd (Nat.lt_of_succ_lt (Heap.lt_size z)) (Nat.lt_irrefl _)
  refine call_own F.excBase_ValueError (fun X => refsVE_contains X bm hbm) (X _ _ hC) (looks_findIn X T.iC) (fun self => bind_fn X self T.tC) (by show 1 ≤ sizeLine; decide) ?_
  refine ib_init (s := ⟨(hp.push (kdv_tup [.int i ti])).push (excO C hp.objs.size), g, dr, tk, os⟩) T (X.keeps k) (hlim.keeps k) (G.keeps k) (B.keeps k) hb hget hnx (show A.depth + 1 < recursionLimit from hroom) hi hlen fun h' tk' dx ⟨k', ⟨t1, hx⟩, dn, dne, hns⟩ => ?_
  have old : ∀ b o, hp.get? b = some o → h'.get? b = some o := fun b o e => k' b o (Nat.ne_of_lt (Nat.lt_succ_of_lt (Heap.lt_size e))) (k b o e)
  have z : hp.objs.size + 1 + 1 ≤ dx := by
    have q := dn
    rw [Heap.size_push, Heap.size_push] at q
    exact q
  exact ⟨rfl, hq h' tk' (hp.objs.size + 1) dx ⟨old, Nat.le_succ _, ⟨_, _, hx, rfl, rfl, rfl, rfl⟩, Nat.le_trans (Nat.le_trans (Nat.le_succ _) (Nat.le_succ _)) z, dne, hns⟩⟩
end
end IbX
end PySem
namespace L2
open PySem PySem.Spec PyProof.Rows
/-- the error's own dict -/
abbrev atD (n : Int) : HO := .xd [(("at" : Str), V.int n)]
theorem relO_at {n : Int} {t : Tok} (f : Str) : RelO (List.lookup f [(("at" : Str), V.int n)]) (if f = "at" then some (Value.int n t) else none) := by
  by_cases hw : f = "at"
  · subst hw
    rw [if_pos rfl, show List.lookup ("at" : Str) [(("at" : Str), V.int n)] = some (V.int n) by simp [List.lookup]]
    exact ⟨t, rfl⟩
  · have qw : (f == ("at" : Str)) = false := by simpa using hw
    rw [if_neg hw, show List.lookup f [(("at" : Str), V.int n)] = none by simp [List.lookup, qw]]
    trivial
section
variable {X : Cx} {C fI cc cda : Addr}
/-- InvalidBytes(n), n written and small -/
def tMkIb (C : Addr) (ta : TA) : St → Hp → XK → Prop := fun σ H Q => ta σ H fun vs H1 => vs = [V.int 0] ∧ ∀ d, H1 d = none → Q (.ref C) (some d) (upd H1 d (atD 0))
theorem pmk_ib {a : Expr} {ta : TA} {p pos : Pos} {k : Nat} (T : PySem.IbX.IbTxt X.prog X.K X.mg C fI cc cda) (hr : Room k X.A) (ha : PA X [a] ta) (hg : Gl X "InvalidBytes" := by rfl)
    (he : starEach (a :: []) X.env = (false, eval a X.env) :: starEach [] X.env := by rfl) (hpl : (backTo pos (starEach [] X.env)).any (·.1) = false := by rfl) :
    PMk X (.Call (.Name "InvalidBytes" p) [a] [] pos) (tMkIb C ta) := by
  intro pins s σ H Q I h
  refine wpAny_Call_Name_kw (ld_glob I hg T.gC ?_)
  refine PySem.W.callWith_K (h₀ := X.base) I.ok.mod.kin T.kC (thn (ha.run pos pins s σ H _ I h) fun us s1 hh => ?_) he hpl
  obtain ⟨vs, H1, I1, r1, rfl, q1⟩ := hh
  refine ⟨I1.kIn, ?_⟩
  cases r1 with
  | cons rv rn =>
    cases rn
    obtain ⟨tv, rfl⟩ := rv
    show wpAny _ _ (call (.ref C) [.int 0 tv]) _ _ _
    have hlim := I1.nolimit
    have hG := I1.mod.glob.keeps I1.bk
    obtain ⟨mb, hB, hmb⟩ := I1.mod.blt
    have hB' := hB.keeps I1.bk
    have hsup : mb "super" = some (.type "super") := (hmb _ (by decide)).trans (by decide +kernel)
    have hin := I1.kIn
    obtain ⟨hp, g, dr, tk, os⟩ := s1
    refine wpAny_call (PySem.IbX.ib_made T hin hlim hG hB' hsup (by have := hr.dp; omega) (by decide +kernel) (by decide +kernel) fun h' tk' e d M => ?_)
    show MkP X pins σ Q (.ref e) ⟨h', g, dr, tk', os⟩
    obtain ⟨oe, fv, hoe, hc, hd, hdat, h1⟩ := M.obj
    have hns := M.ns
    obtain ⟨G', g1, g2⟩ := restrict h' fun b => decide (b ≠ e)
    have gk : ∀ b, b ≠ e → G'.get? b = h'.get? b := fun b hb => g1 b (decide_eq_true hb)
    have ge : G'.get? e = none := g2 e (by simp)
    have old : ∀ b o, hp.get? b = some o → G'.get? b = some o := fun b o q => (gk b (Nat.ne_of_lt (Nat.lt_of_lt_of_le (Heap.lt_size q) M.new))).trans (M.keep b o q)
    have J : Inv X pins σ (upd H1 d (atD 0)) ⟨G', g, dr, tk', os⟩ := I1.laid (t' := tk') old M.dbig ⟨_, hns.at (fun o q => (gk d M.dne).trans q), fun f => relO_at f⟩
    refine ⟨e, oe, fv, ⟨G', g, dr, tk', os⟩, _, .ref C, some d, rfl, J, fun b o q => ?_, ge, hoe, ⟨hc, hd⟩, hdat, h1, ?_, rfl, I1.bare, raises_own T.exC T.tyC, q1 d (I1.hok.fresh M.dbig)⟩
    · by_cases hb : b = e
      · have q' : G'.get? b = some o := q
        rw [hb, ge] at q'
        cases q'
      · exact (gk b hb).symm.trans q
    · rw [upd_ne (Ne.symm M.dne)]
      exact I1.hok.fresh M.new
/-- e.at, e the exception that the suite holds (at a; its class cls, its dict d) -/
def tByIb (C : Addr) (a : Addr) (cls : Value) (d : Option Addr) (te : TE) : TE := fun σ H Q => te σ H fun x H1 => x = .ref a ∧ cls = .ref C ∧ ∃ (dd : Addr) (n : Int), d = some dd ∧ H1 dd = some (atD n) ∧ Q (.int n) H1
theorem pe_byIb {a : Addr} {oe : Obj} {cls : Value} {d : Option Addr} {pn : List (Addr × Obj)} {e : Expr} {te : TE} {pos : Pos} (T : PySem.IbX.IbTxt X.prog X.K X.mg C fI cc cda) (hz : Zc cls d oe) (hf : ∃ vs, oe.data = .fields vs) (he : PE (X.suite a ((a, oe) :: pn)) e te)
    (hb : attributeBase e "at" X.env (eval e X.env) = eval e X.env := by rfl) :
    PE (X.suite a ((a, oe) :: pn)) (.Attribute e "at" pos) (tByIb C a cls d te) := by
  refine ⟨fun pins s σ H Q I h => ?_⟩
  refine attr_of hb (thn (he.run pins s σ H _ I h) fun u s1 hh => ?_)
  obtain ⟨x, H1, I1, rx, rfl, rfl, dd, n, rfl, ea, q⟩ := hh
  obtain rfl : u = Value.ref a := rx
  obtain ⟨ha, _⟩ := I1.pin (a, oe) (List.mem_append_left _ List.mem_cons_self)
  obtain ⟨vs, hd⟩ := hf
  have hx : ObjOk X.prog X.w H1 s1.heap dd (atD n) := I1.hok dd _ ea
  obtain ⟨mA, hns, hr⟩ := hx
  obtain ⟨od, ho, hl⟩ := lookIn_ns hns
  have l : List.lookup ("at" : Str) [(("at" : Str), V.int n)] = some (V.int n) := by simp [List.lookup]
  obtain ⟨u, hu, ru⟩ := RelO.some_of (v := V.int n) (o := mA "at") (by rw [← l]; exact hr "at")
  have J : PySem.W.InstAt s1.heap a oe C (some od) := ⟨ha, hz.1, by unfold PySem.W.notCls; rw [hd] <;> rfl, by rw [hz.2]; exact ho⟩
  exact HandSPX.exc_get I1.kIn J T.ga T.gg T.exC (PySem.W.findObj_own T.hdC T.noN rfl (by rw [hl, hu])) (handed_of ru) ⟨V.int n, H1, I1.tok _, ru, q⟩
end
end L2
/-! a Hook: the facts by names, and those of InvalidBytes -/
namespace Ts
open PySem PySem.Spec PyProof.Rows L2 He
/-- a class of an own error: its own line -/
def ibCls (K : PySem.W.Frag) (C : Addr) : Bool := match K.lookup C with
  | some ⟨.type "type", _, .cls cd, sl⟩ => (match cd.mro, sl.toList with
    | .ref C' :: bm, [_, _, _, _, some (.builtin n), _] => C' == C && n == "ValueError.__new__" && !cd.hasDel && cd.hasDict && PySem.HandSPX.refsVE bm
    | _, _ => false)
  | _ => false
theorem ibCls_ok {K : PySem.W.Frag} {C : Addr} (q : ibCls K C = true) : ∃ nm q' N bs bm sn sub ab col dd k0 k1 k2 k3 k5, K.lookup C = some (excClassObj nm q' C N bs bm true sn sub ab col dd k0 k1 k2 k3 k5 "ValueError.__new__") ∧ PySem.HandSPX.refsVE bm = true := by
  unfold ibCls at q
  split at q
  · rename_i dd cd sl ho
    split at q
    · rename_i C' bm k0 k1 k2 k3 n k5 hm hs
      simp only [Bool.and_eq_true, beq_iff_eq, Bool.not_eq_true'] at q
      obtain ⟨⟨⟨⟨rfl, rfl⟩, hdel⟩, hdict⟩, hr⟩ := q
      obtain ⟨nm, bs, mro, ns, qn, hd, sn, sub, ab, col, del⟩ := cd
      dsimp only at hm hdel hdict
      subst hm hdel hdict
      have hsl : sl = #[k0, k1, k2, k3, some (.builtin "ValueError.__new__"), k5] := by
        obtain ⟨l⟩ := sl
        simp only at hs
        rw [hs]
      subst hsl
      exact ⟨nm, qn, ns, bs, bm, sn, sub, ab, col, dd, k0, k1, k2, k3, k5, ho, hr⟩
    · cases q
  · cases q
/-- the cell of __class__ in a function's closure; its code object -/
def ibCc (K : PySem.W.Frag) (f : Addr) : Addr := match K.lookup f with
  | some ⟨_, _, .func fd, _⟩ => (match fd.closure with
    | [(_, c)] => c
    | _ => 0)
  | _ => 0
def ibCd (K : PySem.W.Frag) (f : Addr) : Addr := match K.lookup f with
  | some ⟨_, _, .func fd, _⟩ => (match fd.code with
    | .ref c => c
    | _ => 0)
  | _ => 0
abbrev FnU : Type := Option (Str × Str × Arguments × FuncBody × Scope × Addr × List Str × Addr)
def ibFn (K : PySem.W.Frag) (f : Addr) : FnU := match K.lookup f with
  | some ⟨_, _, .func fd, _⟩ => some (fd.name, fd.qualname, fd.params, fd.body, fd.scope, fd.globals, fd.closure.map (·.1), fd.builtins)
  | _ => none
def ibFv : FnU := some ("__init__", "InvalidBytes.__init__", PySem.IbX.ibArgs, .stmts (L2.defBody (L2.inClass (Ts.top 4) 0)), PySem.IbX.ibScope, mainGlobals, ["__class__"], builtinsNs)
def isNone : Value → Bool
  | .none => true
  | _ => false
theorem isNone_ok {v : Value} (h : isNone v = true) : v = .none := by
  cases v <;> first | rfl | cases h
def ibFb (K : PySem.W.Frag) (f : Addr) : Bool := match K.lookup f with
  | some ⟨_, _, .func fd, _⟩ => isNone fd.defaults && isNone fd.kwdefaults && (match fd.code with
    | .ref c => PySem.W.codeIn K (.ref c) "InvalidBytes.__init__"
    | _ => false)
  | _ => false
theorem ibFn_ok {K : PySem.W.Frag} {f : Addr} (e : ibFn K f = ibFv) (c : ibFb K f = true) : ∃ (oc : Value) (od : Option Addr) (doc pm : Value) (an : Option Addr) (ct : Value) (osl : Array (Option Value)),
    K.lookup f = some ⟨oc, od, .func (PySem.W.fnX "__init__" "InvalidBytes.__init__" PySem.IbX.ibArgs PySem.IbX.ibBody PySem.IbX.ibScope [("__class__", ibCc K f)] .none .none doc pm an (.ref (ibCd K f)) ct), osl⟩ ∧ PySem.W.codeIn K (.ref (ibCd K f)) "InvalidBytes.__init__" = true := by
  unfold ibCc ibCd
  unfold ibFn at e
  unfold ibFb at c
  cases q : K.lookup f with
  | none =>
    rw [q] at c
    cases c
  | some o =>
    obtain ⟨oc, od, dt, osl⟩ := o
    rw [q] at c e
    cases dt with
    | func fd =>
      obtain ⟨n1, n2, n3, n4, n5, n6, n7, n8, n9, n10, n11, n12, n13, n14, n15⟩ := fd
      have e2 : (some (n1, n2, n3, n4, n5, n6, n7.map (·.1), n15) : FnU) = ibFv := e
      unfold ibFv at e2
      simp only [Option.some.injEq, Prod.mk.injEq] at e2
      obtain ⟨h1, h2, h3, h4, h5, h6, h7, h8⟩ := e2
      obtain ⟨a, b, h11⟩ : ∃ a b, n7 = [(a, b)] := by
        match n7, h7 with
        | [(a, b)], _ => exact ⟨a, b, rfl⟩
      subst h11
      have ha : a = "__class__" := by simpa using h7
      subst h1 h2 h3 h5 h6 h8 ha
      rw [PySem.IbX.ibBody_eq] at h4
      subst h4
      cases n13 with
      | ref cd =>
        obtain ⟨c3, c4⟩ := ba (show (isNone n8 && isNone n9 && PySem.W.codeIn K (.ref cd) "InvalidBytes.__init__") = true from c)
        obtain ⟨c5, c6⟩ := ba c3
        have h9 := isNone_ok c5
        have h10 := isNone_ok c6
        subst h9 h10
        exact ⟨oc, od, n10, n11, n12, n14, osl, rfl, c4⟩
      | _ =>
        obtain ⟨_, c4⟩ := ba (show (isNone n8 && isNone n9 && false) = true from c)
        cases c4
    | _ => cases c
def ibCell (K : PySem.W.Frag) (C cc : Addr) : Bool := match K.lookup cc with
  | some ⟨_, _, .cell (some (.ref a)), _⟩ => a == C
  | _ => false
theorem ibCell_ok {K : PySem.W.Frag} {C cc : Addr} (h : ibCell K C cc = true) : ∃ (cl : Value) (cld : Option Addr) (csl : Array (Option Value)), K.lookup cc = some ⟨cl, cld, .cell (some (.ref C)), csl⟩ := by
  unfold ibCell at h
  split at h
  · rename_i a b c d ho
    have e : c = C := beq_iff_eq.mp h
    subst e
    exact ⟨_, _, _, ho⟩
  · cases h
def ibCode (K : PySem.W.Frag) (file : Str) (cd : Addr) : Bool := match K.lookup cd with
  | some ⟨_, _, .fields vs, _⟩ => (match (vs[2]? : Option Value) with
    | some (.str y _) => file == y
    | _ => false)
  | _ => false
theorem ibCode_ok {K : PySem.W.Frag} {file : Str} {cd : Addr} (h : ibCode K file cd = true) : ∃ (ccl : Value) (cdd : Option Addr) (vs : Array Value) (ccs : Array (Option Value)) (y : Str) (tf : Tok), K.lookup cd = some ⟨ccl, cdd, .fields vs, ccs⟩ ∧ vs[2]? = some (.str y tf) ∧ (file == y) = true := by
  unfold ibCode at h
  split at h
  · rename_i a b vs d ho
    split at h
    · rename_i y t hy
      exact ⟨_, _, _, _, _, _, ho, hy, h⟩
    · cases h
  · cases h
/-- all that is asked of InvalidBytes, but its function's text -/
def ibOk (K : PySem.W.Frag) (file : Str) : Bool :=
  let C := ga K "InvalidBytes"
  let f := ma K C "__init__"
  ibCls K C && eqO (PySem.W.findIn K (.ref C) "__setattr__") (some (some (.builtin "object.__setattr__"))) && eqO (PySem.W.findIn K (.ref C) "__getattribute__") (some (some (.builtin "BaseException.__getattribute__"))) &&
    eqO (PySem.W.findIn K (.ref C) "__getattr__") (some none) && eqO (PySem.W.findIn K (.ref C) "at") (some none) && eqO (PySem.W.findIn K (.ref C) "__init__") (some (some (.ref f))) && decide (PySem.W.typeIn K (.ref f) = some (.type "function")) &&
    PySem.W.keepIn K (.ref C) && decide (PySem.W.subIn K (.ref C) (.type "BaseException") = some true) && decide (PySem.W.typeIn K (.ref C) = some (.type "type")) && PySem.W.hasDictIn K C && decide (PySem.W.exmOne K (.ref C) (.ref C) = some true) &&
    eqO (PySem.W.ks_superIn K C C "__init__") (some (some (.builtin "ValueError.__init__"))) && decide (PySem.W.subIn K (.ref C) (.type "ValueError") = some true) && decide (PySem.W.mroIn K C (.ref C) = some true) &&
    eqO (PySem.W.nsIn K cStatics "thirdparty.any") (some none) && ibFb K f && ibCell K C (ibCc K f) && ibCode K file (ibCd K f)
theorem ib_txt {P : Program} {K : PySem.W.Frag} {h : Heap} {mg : Str → Option Value} (X : K.In h) (G : h.Ns mainGlobals mg) (g : (Fa.glo "InvalidBytes").ok K = true) (s : (Fa.free "super").ok K = true) (e : ibFn K (ma K (ga K "InvalidBytes") "__init__") = ibFv) (c : ibOk K P.main.file = true)
    (top : (P.main.scope.names.lookup ("super" : Str)).isSome = false) :
    PySem.IbX.IbTxt P K mg (ga K "InvalidBytes") (ma K (ga K "InvalidBytes") "__init__") (ibCc K (ma K (ga K "InvalidBytes") "__init__")) (ibCd K (ma K (ga K "InvalidBytes") "__init__")) := by
  unfold ibOk at c
  simp only [Bool.and_eq_true, decide_eq_true_eq] at c
  obtain ⟨⟨⟨⟨⟨⟨⟨⟨⟨⟨⟨⟨⟨⟨⟨⟨⟨⟨c1, c2⟩, c3⟩, c4⟩, c5⟩, c6⟩, c7⟩, c8⟩, c9⟩, c10⟩, c11⟩, c12⟩, c13⟩, c14⟩, c15⟩, c16⟩, c17⟩, c18⟩, c19⟩ := c
  exact ⟨glo_ok X G g, free_ok X G s, ibCls_ok c1, eqO_ok c2, eqO_ok c3, eqO_ok c4, eqO_ok c5, eqO_ok c6, c7, c8, c9, c10, c11, c12, eqO_ok c13, c14, c15, eqO_ok c16, ibCell_ok c18, ibFn_ok e c17, ibCode_ok c19, top⟩
/-! ### the Hook -/
abbrev AlX : Type := AlD × FnU × Bool
def obsX (file : Str) (fa : List Fa) (fn : List DefD) (K : PySem.W.Frag) : AlX := (obsD fa fn K, ibFn K (ma K (ga K "InvalidBytes") "__init__"), ibOk K file)
def valX (fn : List DefD) : AlX := (valD fn, ibFv, true)
def SaysX (file : Str) (fa : List Fa) (fn : List DefD) (K : PySem.W.Frag) : Prop := obsX file fa fn K = valX fn
def obsXG (n : Nat) (file : Str) (fa : List Fa) (fn : List DefD) (g : Addr → Option Obj) : AlX := obsX file fa fn (frG g (cStatics :: asD g n))
def hookX (n : Nat) (file : Str) (fa : List Fa) (fn : List DefD) : PySem.W.Hook where
  α := AlX
  obs := fun s => obsXG n file fa fn s.heap.get?
  val := fun _ => valX fn
  says := fun _ h => ∃ K : PySem.W.Frag, K.In h ∧ SaysX file fa fn K
  of := fun _ _ e => ⟨_, frG_in, e⟩
  keeps := fun _ _ _ ⟨K, hK, c⟩ k => ⟨K, PySem.W.Frag.In.keeps hK k, c⟩
theorem obsXG_eq {n : Nat} {file : Str} {fa : List Fa} {fn : List DefD} {g : Addr → Option Obj} {s : Shared} (h : ∀ a, g a = s.heap.get? a) : obsXG n file fa fn g = (hookX n file fa fn).obs s := by
  have e : g = s.heap.get? := funext h
  rw [e] <;> rfl
theorem SaysX.d {file : Str} {fa : List Fa} {fn : List DefD} {K : PySem.W.Frag} (c : SaysX file fa fn K) : SaysD fa fn K := congrArg (fun z : AlX => z.1) c
theorem SaysX.f {file : Str} {fa : List Fa} {fn : List DefD} {K : PySem.W.Frag} (c : SaysX file fa fn K) : ibFn K (ma K (ga K "InvalidBytes") "__init__") = ibFv := congrArg (fun z : AlX => z.2.1) c
theorem SaysX.b {file : Str} {fa : List Fa} {fn : List DefD} {K : PySem.W.Frag} (c : SaysX file fa fn K) : ibOk K file = true := congrArg (fun z : AlX => z.2.2) c
end Ts
set_option maxHeartbeats 0
namespace Ts
open PySem PySem.Spec PyProof.Rows L2
def loose : List Str := (["_wall", "ShelfError", "InvalidChange", "InvalidBytes", "OtherShelf", "TooMany", "SMALLS", "DIGITS", "MOST_TIME", "MOST_KEY", "MOST_TEXT", "_is_key", "_is_text", "check_change", "MOST_CHANGES_shelves", "MOST_KEYS_shelves", "Shelf", "MOST_CHANGES_merging", "MOST_KEYS_merging", "MOST_SOURCES", "shelf_of", "keys_of", "stamps_of", "in_order", "order_key", "Copy", "sum_of", "MODULUS", "PRINTED", "number_bytes"] : List Str) ++ (["text_bytes", "read_number", "char_of", "read_text", "record_of", "read_record", "SIGNS", "telling_bytes", "file_of", "is_ending", "read_endings", "read_numbers", "read_change_text", "read_telling", "can_follow", "opened", "_law_cell", "_law_digits", "_law_padded", "_law_text", "_law_endings", "_law_change", "_law_tell", "_law_copies", "_law_number", "_law_check", "_law_record", "_law_string_bytes", "_law_telling_bytes", "_law_ending_bytes"] : List Str) ++ (["_law_opened"] : List Str)
def d__is_key : He.DefD := ⟨("_is_key", none), "_is_key", "_is_key", defArgs (top 13), defBody (top 13), defScope (top 13), [], []⟩
def d__is_text : He.DefD := ⟨("_is_text", none), "_is_text", "_is_text", defArgs (top 14), defBody (top 14), defScope (top 14), [], []⟩
def d_check_change : He.DefD := ⟨("check_change", none), "check_change", "check_change", defArgs (top 15), defBody (top 15), defScope (top 15), [], []⟩
def d_Shelf___init__ : He.DefD := ⟨("Shelf", some "__init__"), "__init__", "Shelf.__init__", defArgs (inClass (top 19) 0), defBody (inClass (top 19) 0), defScope (inClass (top 19) 0), [], []⟩
def d_Shelf_known_keys : He.DefD := ⟨("Shelf", some "known_keys"), "known_keys", "Shelf.known_keys", defArgs (inClass (top 19) 3), defBody (inClass (top 19) 3), defScope (inClass (top 19) 3), [], []⟩
def d_Shelf_tell : He.DefD := ⟨("Shelf", some "tell"), "tell", "Shelf.tell", defArgs (inClass (top 19) 4), defBody (inClass (top 19) 4), defScope (inClass (top 19) 4), [], []⟩
def d_shelf_of : He.DefD := ⟨("shelf_of", none), "shelf_of", "shelf_of", defArgs (top 24), defBody (top 24), defScope (top 24), [], []⟩
def d_keys_of : He.DefD := ⟨("keys_of", none), "keys_of", "keys_of", defArgs (top 25), defBody (top 25), defScope (top 25), [], []⟩
def d_stamps_of : He.DefD := ⟨("stamps_of", none), "stamps_of", "stamps_of", defArgs (top 26), defBody (top 26), defScope (top 26), [], []⟩
def d_in_order : He.DefD := ⟨("in_order", none), "in_order", "in_order", defArgs (top 27), defBody (top 27), defScope (top 27), [], []⟩
def d_order_key : He.DefD := ⟨("order_key", none), "order_key", "order_key", defArgs (top 28), defBody (top 28), defScope (top 28), [], []⟩
def d_Copy___init__ : He.DefD := ⟨("Copy", some "__init__"), "__init__", "Copy.__init__", defArgs (inClass (top 29) 0), defBody (inClass (top 29) 0), defScope (inClass (top 29) 0), [], []⟩
def d_Copy_source : He.DefD := ⟨("Copy", some "source"), "source", "Copy.source", defArgs (inClass (top 29) 1), defBody (inClass (top 29) 1), defScope (inClass (top 29) 1), [], []⟩
def d_Copy_endings : He.DefD := ⟨("Copy", some "endings"), "endings", "Copy.endings", defArgs (inClass (top 29) 2), defBody (inClass (top 29) 2), defScope (inClass (top 29) 2), [], []⟩
def d_Copy_tellings : He.DefD := ⟨("Copy", some "tellings"), "tellings", "Copy.tellings", defArgs (inClass (top 29) 3), defBody (inClass (top 29) 3), defScope (inClass (top 29) 3), [], []⟩
def d_Copy_held : He.DefD := ⟨("Copy", some "held"), "held", "Copy.held", defArgs (inClass (top 29) 4), defBody (inClass (top 29) 4), defScope (inClass (top 29) 4), [], []⟩
def d_Copy_shelf : He.DefD := ⟨("Copy", some "shelf"), "shelf", "Copy.shelf", defArgs (inClass (top 29) 5), defBody (inClass (top 29) 5), defScope (inClass (top 29) 5), [], []⟩
def d_Copy_hold : He.DefD := ⟨("Copy", some "hold"), "hold", "Copy.hold", defArgs (inClass (top 29) 6), defBody (inClass (top 29) 6), defScope (inClass (top 29) 6), [], []⟩
def d_Copy_tell : He.DefD := ⟨("Copy", some "tell"), "tell", "Copy.tell", defArgs (inClass (top 29) 7), defBody (inClass (top 29) 7), defScope (inClass (top 29) 7), [], []⟩
def d_Copy_merge : He.DefD := ⟨("Copy", some "merge"), "merge", "Copy.merge", defArgs (inClass (top 29) 8), defBody (inClass (top 29) 8), defScope (inClass (top 29) 8), [], []⟩
def d_sum_of : He.DefD := ⟨("sum_of", none), "sum_of", "sum_of", defArgs (top 31), defBody (top 31), defScope (top 31), [], []⟩
def d_number_bytes : He.DefD := ⟨("number_bytes", none), "number_bytes", "number_bytes", defArgs (top 35), defBody (top 35), defScope (top 35), [], []⟩
def d_text_bytes : He.DefD := ⟨("text_bytes", none), "text_bytes", "text_bytes", defArgs (top 36), defBody (top 36), defScope (top 36), [], []⟩
def d_read_number : He.DefD := ⟨("read_number", none), "read_number", "read_number", defArgs (top 37), defBody (top 37), defScope (top 37), [], []⟩
def d_char_of : He.DefD := ⟨("char_of", none), "char_of", "char_of", defArgs (top 38), defBody (top 38), defScope (top 38), [], []⟩
def d_read_text : He.DefD := ⟨("read_text", none), "read_text", "read_text", defArgs (top 39), defBody (top 39), defScope (top 39), [], []⟩
def d_record_of : He.DefD := ⟨("record_of", none), "record_of", "record_of", defArgs (top 40), defBody (top 40), defScope (top 40), [], []⟩
def d_read_record : He.DefD := ⟨("read_record", none), "read_record", "read_record", defArgs (top 41), defBody (top 41), defScope (top 41), [], []⟩
def d_telling_bytes : He.DefD := ⟨("telling_bytes", none), "telling_bytes", "telling_bytes", defArgs (top 44), defBody (top 44), defScope (top 44), [], []⟩
def d_file_of : He.DefD := ⟨("file_of", none), "file_of", "file_of", defArgs (top 45), defBody (top 45), defScope (top 45), [], []⟩
def d_is_ending : He.DefD := ⟨("is_ending", none), "is_ending", "is_ending", defArgs (top 46), defBody (top 46), defScope (top 46), [], []⟩
def d_read_endings : He.DefD := ⟨("read_endings", none), "read_endings", "read_endings", defArgs (top 47), defBody (top 47), defScope (top 47), [], []⟩
def d_read_numbers : He.DefD := ⟨("read_numbers", none), "read_numbers", "read_numbers", defArgs (top 48), defBody (top 48), defScope (top 48), [], []⟩
def d_read_change_text : He.DefD := ⟨("read_change_text", none), "read_change_text", "read_change_text", defArgs (top 49), defBody (top 49), defScope (top 49), [], []⟩
def d_read_telling : He.DefD := ⟨("read_telling", none), "read_telling", "read_telling", defArgs (top 50), defBody (top 50), defScope (top 50), [], []⟩
def d_can_follow : He.DefD := ⟨("can_follow", none), "can_follow", "can_follow", defArgs (top 51), defBody (top 51), defScope (top 51), [], []⟩
def d_opened : He.DefD := ⟨("opened", none), "opened", "opened", defArgs (top 52), defBody (top 52), defScope (top 52), [], []⟩
def d__law_cell : He.DefD := ⟨("_law_cell", none), "_law_cell", "_law_cell", defArgs (top 54), defBody (top 54), defScope (top 54), [], []⟩
def d__law_digits : He.DefD := ⟨("_law_digits", none), "_law_digits", "_law_digits", defArgs (top 55), defBody (top 55), defScope (top 55), [], []⟩
def d__law_padded : He.DefD := ⟨("_law_padded", none), "_law_padded", "_law_padded", defArgs (top 56), defBody (top 56), defScope (top 56), [], []⟩
def d__law_text : He.DefD := ⟨("_law_text", none), "_law_text", "_law_text", defArgs (top 57), defBody (top 57), defScope (top 57), [], []⟩
def d__law_endings : He.DefD := ⟨("_law_endings", none), "_law_endings", "_law_endings", defArgs (top 58), defBody (top 58), defScope (top 58), [], []⟩
def d__law_change : He.DefD := ⟨("_law_change", none), "_law_change", "_law_change", defArgs (top 59), defBody (top 59), defScope (top 59), [], []⟩
def d__law_tell : He.DefD := ⟨("_law_tell", none), "_law_tell", "_law_tell", defArgs (top 60), defBody (top 60), defScope (top 60), [], []⟩
def d__law_copies : He.DefD := ⟨("_law_copies", none), "_law_copies", "_law_copies", defArgs (top 61), defBody (top 61), defScope (top 61), [], []⟩
def d__law_number : He.DefD := ⟨("_law_number", none), "_law_number", "_law_number", defArgs (top 62), defBody (top 62), defScope (top 62), [], []⟩
def d__law_check : He.DefD := ⟨("_law_check", none), "_law_check", "_law_check", defArgs (top 63), defBody (top 63), defScope (top 63), [], []⟩
def d__law_record : He.DefD := ⟨("_law_record", none), "_law_record", "_law_record", defArgs (top 64), defBody (top 64), defScope (top 64), [], []⟩
def d__law_string_bytes : He.DefD := ⟨("_law_string_bytes", none), "_law_string_bytes", "_law_string_bytes", defArgs (top 65), defBody (top 65), defScope (top 65), [], []⟩
def d__law_telling_bytes : He.DefD := ⟨("_law_telling_bytes", none), "_law_telling_bytes", "_law_telling_bytes", defArgs (top 66), defBody (top 66), defScope (top 66), [], []⟩
def d__law_ending_bytes : He.DefD := ⟨("_law_ending_bytes", none), "_law_ending_bytes", "_law_ending_bytes", defArgs (top 67), defBody (top 67), defScope (top 67), [], []⟩
def d__law_opened : He.DefD := ⟨("_law_opened", none), "_law_opened", "_law_opened", defArgs (top 68), defBody (top 68), defScope (top 68), [], []⟩
def d_law : He.DefD := ⟨("law", none), "law", "law", defArgs (top 69), defBody (top 69), defScope (top 69), [], []⟩
def fn : List He.DefD := [d__is_key, d__is_text, d_check_change, d_Shelf___init__, d_Shelf_known_keys, d_Shelf_tell, d_shelf_of, d_keys_of, d_stamps_of, d_in_order, d_order_key, d_Copy___init__, d_Copy_source, d_Copy_endings, d_Copy_tellings, d_Copy_held, d_Copy_shelf, d_Copy_hold, d_Copy_tell, d_Copy_merge, d_sum_of, d_number_bytes, d_text_bytes, d_read_number, d_char_of, d_read_text, d_record_of, d_read_record, d_telling_bytes, d_file_of, d_is_ending, d_read_endings, d_read_numbers, d_read_change_text, d_read_telling, d_can_follow, d_opened, d__law_cell, d__law_digits, d__law_padded, d__law_text, d__law_endings, d__law_change, d__law_tell, d__law_copies, d__law_number, d__law_check, d__law_record, d__law_string_bytes, d__law_telling_bytes, d__law_ending_bytes, d__law_opened, d_law]
def fa0 : List He.Fa := [.glo "_is_key", .glo "_is_text", .glo "check_change", .glo "shelf_of", .glo "keys_of", .glo "stamps_of", .glo "in_order", .glo "order_key", .glo "sum_of", .glo "number_bytes", .glo "text_bytes", .glo "read_number", .glo "char_of", .glo "read_text", .glo "record_of", .glo "read_record", .glo "telling_bytes", .glo "file_of", .glo "is_ending", .glo "read_endings", .glo "read_numbers", .glo "read_change_text", .glo "read_telling", .glo "can_follow", .glo "opened", .glo "_law_cell", .glo "_law_digits", .glo "_law_padded", .glo "_law_text", .glo "_law_endings", .glo "_law_change", .glo "_law_tell", .glo "_law_copies", .glo "_law_number", .glo "_law_check", .glo "_law_record", .glo "_law_string_bytes", .glo "_law_telling_bytes", .glo "_law_ending_bytes", .glo "_law_opened"]
def fa1 : List He.Fa := [.glo "law", .glo "Shelf", .glo "Copy", .glo "InvalidBytes", .glo "ShelfError", .glo "InvalidChange", .free "super", .free "len", .free "int", .free "ord", .free "max", .free "all", .free "isinstance", .free "str", .free "bool", .free "list", .free "tuple", .free "sorted", .free "range", .int "MOST_TIME" 100000, .int "MOST_KEY" 8, .int "MOST_TEXT" 400, .int "MOST_CHANGES_shelves" 80, .int "MOST_KEYS_shelves" 12, .int "MOST_CHANGES_merging" 80, .int "MOST_KEYS_merging" 12, .int "MOST_SOURCES" 9, .int "MODULUS" 65521, .str "SMALLS" "abcdefghijklmnopqrstuvwxyz", .str "DIGITS" "0123456789", .str "PRINTED" " !\"#$ &'()*+,-./0123456789:;<=>?@ABCDEFGHIJKLMNOPQRSTUVWXYZ[\\]^_`abcdefghijklmnopqrstuvwxyz{|}~", .str "SIGNS" "abcdefghijklmnopqrstuvwxyz0123456789", .cls "Shelf", .cls "Copy", .mkr "Shelf", .mkr "Copy", .noat "Shelf" "_endings", .noat "Shelf" "_changes", .noat "Copy" "own", .noat "Copy" "cuts", .noat "Copy" "all"]
def fa2 : List He.Fa := [.meth "Shelf" "known_keys", .meth "Shelf" "tell", .meth "Copy" "source", .meth "Copy" "endings", .meth "Copy" "tellings", .meth "Copy" "held", .meth "Copy" "shelf", .meth "Copy" "hold", .meth "Copy" "tell", .meth "Copy" "merge"]
def fa : List He.Fa := fa0 ++ fa1 ++ fa2
def lawAt : Nat := 69
abbrev Rw : PySem.W.OpenRow := PySem.W.OpenLaw.row PySem.Challenge.rw_timeshelf_k50_whole_files_cut_anywhere
def fileX : Str := PySem.Challenge.pw_timeshelf_k50_whole_files_cut_anywhere.main.file
abbrev hk : PySem.W.Hook := hookX 5 fileX fa fn
def ob (s : PySem.W.SharedT) : AlX := obsXG 5 fileX fa fn (HandSHeadRun.getT s)
theorem ob_eq (s : PySem.W.SharedT) : ob s = hk.obs s.abs := obsXG_eq (HandSHeadRun.getT_eq s)
theorem run (w : World) : HandSHeadRun.RunEq Rw (PySem.W.view Rw.prog [lawAt]) hk ob 4000 loose w := by
  intro os
  kernel_rfl
end Ts
set_option maxHeartbeats 4000000
namespace Ts
open PySem PySem.Spec PyProof.Rows L2
/-! ### a tuple (of anything) or an int against an int -/
section
variable {X : Cx}
def rNeF (K : PySem.W.Frag) : R2 := fun x y H Q => ∃ j : Int, y = .int j ∧ ((∃ i : Int, x = .int i ∧ Q (.bl (!decide (i = j))) H) ∨ ∃ a xs, x = .ref a ∧ SqT K H a xs ∧ Q (.bl true) H)
def rEqF (K : PySem.W.Frag) : R2 := fun x y H Q => ∃ j : Int, y = .int j ∧ ((∃ i : Int, x = .int i ∧ Q (.bl (decide (i = j))) H) ∨ ∃ a xs, x = .ref a ∧ SqT K H a xs ∧ Q (.bl false) H)
theorem dec_V {i j : Int} : decide (V.int i = V.int j) = decide (i = j) := by
  by_cases h : i = j
  · subst h
    simp
  · rw [decide_eq_false h, decide_eq_false (fun q => h (V.int.inj q))]
theorem op_neF (hu : X.A.units < cLine) : OpR X (compareOp .NotEq) (rNeF X.K) := by
  intro pins s σ H x y v u Q I rx ry ⟨j, ey, h⟩
  subst ey
  rcases h with ⟨i, ex, q⟩ | ⟨a, xs, ex, hq, q⟩ <;> subst ex
  · refine op_ne pins s σ H _ _ v u Q I rx ry ⟨rfl, ?_⟩
    rw [dec_V]
    exact q
  · obtain rfl : v = Value.ref a := rx
    obtain ⟨tj, rfl⟩ := ry
    obtain ⟨its, _, p, _⟩ := I.tuple hq
    exact SeqAt.RcNeAt.tuple_int j tj p hu _ _ _ _ ⟨.bl true, H, I, rfl, q⟩
theorem op_eqF (hu : X.A.units < cLine) : OpR X (compareOp .Eq) (rEqF X.K) := by
  intro pins s σ H x y v u Q I rx ry ⟨j, ey, h⟩
  subst ey
  rcases h with ⟨i, ex, q⟩ | ⟨a, xs, ex, hq, q⟩ <;> subst ex
  · refine op_eq pins s σ H _ _ v u Q I rx ry ⟨rfl, ?_⟩
    rw [dec_V]
    exact q
  · obtain rfl : v = Value.ref a := rx
    obtain ⟨tj, rfl⟩ := ry
    obtain ⟨its, _, p, _⟩ := I.tuple hq
    exact SeqAt.RcAt.tuple_int j tj p hu _ _ _ _ ⟨.bl false, H, I, rfl, q⟩
end
/-! ### a dict comprehension whose keys are tuples -/
section
variable {X : Cx} {pins : List (Addr × Obj)} {σ : L2.St} {H : Hp} {s : Shared} {E : Value → Shared → Prop} {D b : Addr} {kvs : List (List Key × V)} {k : List Key} {v : V} {r : Value} {Q : Unit → Shared → Prop}
/-- one entry is laid, its key the tuple at b -/
theorem dt_store (hu : X.A.units + 1 < cLine) (I : Inv X pins σ H s) (hD : H D = some (.dT kvs)) (hb : H b = some (.tup (k.map kV))) (hz : kvs.length < sizeLine) (rv : RelV v r)
    (h : ∀ s', Inv X pins σ (upd H D (.dT (putK kvs k v))) s' → Q () s') : wpAny (model X.prog X.w) X.A (dictSet D (.ref b) r) Q E s := by
  obtain ⟨z, hd, xs, rel, dd⟩ := dt_of I.hok hD
  have hl : (putK kvs k v).length ≤ sizeLine := Nat.le_trans (length_putK kvs k v) hz
  have hx : xs.length ≤ sizeLine := Paired.length rel ▸ z
  refine wpAny_dictSet_heap (hsz := hx) (show (tupleKind (mixKind X.prog X.w)).room X.A from Nat.lt_of_succ_lt hu) (key_of I.hok hb) dd fun h' dd' hs => h _ ?_
  obtain ⟨q, es, ep, hq, h2, h3, h4, _, h5⟩ := dd'
  have keep : ∀ c ys, H c = some (.tup ys) → upd H D (.dT (putK kvs k v)) c = some (.tup ys) := fun c ys ec => (upd_ne (ne_of ec hD (by intro y; cases y))).trans ec
  exact d_write I (by rw [hD]; trivial) hs ⟨q, hq⟩ ⟨hl, hd, _, (rel.put k hb rv).keeps keep, q, es, ep, hq, h2, h3, h4, h5⟩
end
section
variable {X : Cx}
/-- one turn's reading: target, tests, key, value, then the entry is laid -/
def dctTurn (g : TG) (tt : TT) (tk tv : TE) (vs : List Nat) (D : Addr) (Nx : Hp → Prop) (σ : L2.St) (x : V) (H : Hp) : Prop :=
  g x (wipe σ vs) H fun σ2 H2 => wipe σ2 vs = wipe σ vs ∧ tt σ2 H2 fun c H3 => if c = true then tk σ2 H3 (fun y H4 => tv σ2 H4 fun z H5 => ∃ b kvs k, y = V.ref b ∧ H5 b = some (.tup (List.map kV k)) ∧ H5 D = some (.dT kvs) ∧ kvs.length < sizeLine ∧ Nx (upd H5 D (.dT (putK kvs k z)))) else Nx H3
def tDct (wi : TI) (g : TG) (tt : TT) (tk tv : TE) (vs : List Nat) : TE := fun σ H Q => wi σ H fun J H1 => ∀ D, H1 D = none → ∃ W : Nat → Nat → Hp → Prop, (∃ m, W 0 m (upd H1 D (.dT []))) ∧
  ∀ i m H, W i m H → (J.stop i H ∧ Q (.ref D) H) ∨ (J.go i H ∧ ∃ Nx : Hp → Prop, (∀ H', Nx H' → ∃ m', m' < m ∧ W (i + 1) m' H') ∧ ∀ x H', J.yld i H x H' → dctTurn g tt tk tv vs D Nx σ x H')
theorem pe_dct {kx vx tg iter : Expr} {ifs : List Expr} {scope : Scope} {own : List (Str × Nat)} {pos : Pos} {wi : TI} {g : TG} {tt : TT} {tk tv : TE} (hc : X.calm = true) (hN : X.N.Nodup) (hi : PI X tg iter wi) (ok : BlkOk X.N X.env.scope scope own)
    (hg : ∀ (s : Shared) (H : Hp) (C : Addr) (cl : List (Str × Addr)) (fp : List Addr), PG (X.blk s H scope (compEnvC scope cl C X.env) fp) tg g)
    (ht : ∀ (s : Shared) (H : Hp) (C : Addr) (cl : List (Str × Addr)) (fp : List Addr), PTs (X.blk s H scope (compEnvC scope cl C X.env) fp) ifs tt)
    (hk : ∀ (s : Shared) (H : Hp) (C : Addr) (cl : List (Str × Addr)) (fp : List Addr), PE (X.blk s H scope (compEnvC scope cl C X.env) fp) kx tk)
    (he : ∀ (s : Shared) (H : Hp) (C : Addr) (cl : List (Str × Addr)) (fp : List Addr), PE (X.blk s H scope (compEnvC scope cl C X.env) fp) vx tv) (hu : X.A.units + 1 < cLine) (hs : ∀ x, foldedSetIterable iter X.env x = pure x := by intro _; rfl) :
    PE X (.DictComp kx vx [⟨tg, iter, ifs, 0⟩] scope pos) (tDct wi g tt tk tv (own.map (·.2))) := by
  refine ⟨fun pins s σ H Q I h => ?_⟩
  rw [arm_eval_DictComp]
  have hfree : ∀ y ∈ scope.names, y.2 = .free → ∃ c, X.env.cells.lookup y.1 = some c := fun y hy e => (ok.free y hy e).elim (fun z => I.ok.has _ (.inl z)) fun z => I.ok.has _ (.inr z)
  refine wpAny_comprehension_free (use := none) rfl hs (closure_ok hfree) ok.kind (fun y hy e => (ok.uniq y hy).trans (congrArg some e)) (thn (hi.run pins s σ H _ I h) fun xv s1 hx => thn hx fun itv s2 h2 => ?_)
  obtain ⟨it, fp, tn, J, H2, rfl, I2, T, st2, f2, q⟩ := h2
  refine wpAny_newObj_type (newEnv_comp ?_)
  -- the new dict, at D
  have hDn : H2 s2.heap.objs.size = none := I2.hok.fresh (Nat.le_refl _)
  obtain ⟨W, ⟨m0, w0⟩, turn⟩ := q s2.heap.objs.size hDn
  have ltD : ∀ b ∈ fp, b < s2.heap.objs.size := fun b hb => by
    obtain ⟨o, e, _⟩ := T.obj _ _ st2 b hb
    exact Heap.lt_size e
  have J3 : Inv X pins σ (upd H2 s2.heap.objs.size (.dT [])) { s2 with heap := s2.heap.push { cls := .type "dict", data := .dict #[] } } :=
    I2.laid (t' := s2.toks) (fun _ _ e => Heap.get?_push_of_some _ e) (Nat.le_refl _) (dt_empty s2.heap I2.big)
  have stA : tn 0 (s2.heap.push { cls := .type "dict", data := .dict #[] }) := T.keep _ _ _ st2 fun _ _ _ e => Heap.get?_push_of_some _ e
  generalize s2.heap.objs.size = D at hDn turn w0 ltD J3 ⊢
  have szA : ∀ b ∈ fp, b < (s2.heap.push { cls := .type "dict", data := .dict #[] }).objs.size := fun b hb => by
    obtain ⟨o, e, _⟩ := T.obj _ _ stA b hb
    exact Heap.lt_size e
  have fpA : ∀ b ∈ fp, FpOk X pins (upd H2 D (.dT [])) b ∧ b < (s2.heap.push { cls := .type "dict", data := .dict #[] }).objs.size := fun b hb => ⟨⟨(upd_ne (Nat.ne_of_lt (ltD b hb))).trans (f2 b hb).1, (f2 b hb).2⟩, szA b hb⟩
  generalize upd H2 D (.dT []) = HA at w0 J3 fpA
  generalize eA : ({ s2 with heap := s2.heap.push { cls := .type "dict", data := .dict #[] } } : Shared) = sA at J3 ⊢
  have hA : s2.heap.push { cls := .type "dict", data := .dict #[] } = sA.heap := by rw [← eA]
  rw [hA] at stA fpA
  clear szA
  have JB := block_start J3 ok hN fpA
  show codeAny _ _ (.compStart (.DictComp kx vx [⟨tg, iter, ifs, 0⟩] scope pos) 0 (.ref it) (.ref D) (compEnvC scope (cellsFrom (sA.heap.objs.size + 1) scope.names (cloFrom X.env.cells scope.names [])) sA.heap.objs.size X.env))
    (compPost (model X.prog X.w) X.A X.xe none _ (.ref D) sA.heap.objs.size) { sA with heap := pushCells (sA.heap.push { cls := .type "dict", data := .dict #[] }) scope.names }
  have rg := hg sA HA sA.heap.objs.size (cellsFrom (sA.heap.objs.size + 1) scope.names (cloFrom X.env.cells scope.names [])) fp
  have rt := ht sA HA sA.heap.objs.size (cellsFrom (sA.heap.objs.size + 1) scope.names (cloFrom X.env.cells scope.names [])) fp
  have rk := hk sA HA sA.heap.objs.size (cellsFrom (sA.heap.objs.size + 1) scope.names (cloFrom X.env.cells scope.names [])) fp
  have rv := he sA HA sA.heap.objs.size (cellsFrom (sA.heap.objs.size + 1) scope.names (cloFrom X.env.cells scope.names [])) fp
  generalize eC : compEnvC scope (cellsFrom (sA.heap.objs.size + 1) scope.names (cloFrom X.env.cells scope.names [])) sA.heap.objs.size X.env = cv at JB rg rt rk rv ⊢
  have eL : cv.locals = sA.heap.objs.size := by
    rw [← eC]
    rfl
  have stB : tn 0 (pushCells (sA.heap.push { cls := .type "dict", data := .dict #[] }) scope.names) := T.keep _ _ _ stA fun _ _ _ e => pushCells_keeps _ _ _ _ (Heap.get?_push_of_some _ e)
  generalize eB : ({ sA with heap := pushCells (sA.heap.push { cls := .type "dict", data := .dict #[] }) scope.names } : Shared) = sB at JB ⊢
  rw [show pushCells (sA.heap.push { cls := .type "dict", data := .dict #[] }) scope.names = sB.heap by rw [← eB]] at stB
  have untouched : ∀ b ∈ fp, HA b = none := fun b hb => (fpA b hb).1.1
  have okFp : ∀ {σ' : L2.St} {H' : Hp} {s' : Shared}, Inv (X.blk sA HA scope cv fp) [] σ' H' s' → (∀ b ∈ fp, H' b = none) → ∀ b ∈ fp, FpOk (X.blk sA HA scope cv fp) [] H' b := fun {σ' H' s'} J hn b hb => by
    have r := J.ok.exf b hb
    exact ⟨hn b hb, r.1, J.ok.exfs b hb, .inl hb, fun x c e => r.2 x c e, fun p hp => absurd hp (by simp)⟩
  -- the loop keeps: the block's frame, the iterator, the wish
  let Inva : Nat → Shared → Prop := fun n s' => ∃ i H', Inv (X.blk sA HA scope cv fp) [] (wipe σ (own.map (·.2))) H' s' ∧ tn i s'.heap ∧ (∀ b ∈ fp, H' b = none) ∧ W i n H'
  have main : codeAny (model X.prog X.w) X.A (.compLoop (.DictComp kx vx [⟨tg, iter, ifs, 0⟩] scope pos) 0 (.ref it) (.ref D) cv) (compPost (model X.prog X.w) X.A X.xe none (EP X pins σ Q) (.ref D) sA.heap.objs.size) sB := by
    refine compLoop_anyD Inva ?turn m0 ⟨0, HA, JB, stB, untouched, w0⟩
    rintro n sC ⟨i, HC, JC, stC, nC, wC⟩
    rcases turn i n HC wC with ⟨stop, fin⟩ | ⟨go, Nx, hNx, step⟩
    · refine thnF (T.done (X.blk sA HA scope cv fp) rfl rfl rfl hc i [] sC _ HC (fun _ _ => False) JC (okFp JC nC) stC stop) fun r sE ⟨er, JE⟩ => ?_
      subst er
      have JX : Inv X pins σ HC sE := J3.call' (ch := fp) JE.os JE.base JE.hok JE.bare fun b hb => by
        have z := (fpA b hb).1
        exact ⟨z.2.2.2.1, z.2.1, z.2.2.2.2.1, z.2.2.2.2.2⟩
      have noFr : HC sA.heap.objs.size = none := eL ▸ (JE.free : HC cv.locals = none)
      obtain ⟨mm, hmm, _⟩ := JE.loc
      have hmm' : sE.heap.Ns sA.heap.objs.size mm := eL ▸ (show sE.heap.Ns cv.locals mm from hmm)
      obtain ⟨f0, f1, f2, f3, f4, f5⟩ := J3.fpOk (Nat.le_refl _) noFr
      exact ⟨mm, hmm', fun h'' sb => ⟨.ref D, HC, JX.turned (t' := sE.toks) (fun b o hb e => (sb.2 b hb).trans e) f0 f1 f3 f4 f5, rfl, fin⟩⟩
    · refine thnF (T.item (X.blk sA HA scope cv fp) rfl rfl rfl hc i [] sC _ HC (fun _ _ => False) JC (okFp JC nC) stC go) fun r sE ⟨u, er, hE⟩ => ?_
      subst er
      refine thnF hE fun _ sF ⟨x, HF, JF, rx, yx, stF, nF⟩ => ?_
      have JP := JF.pinned (okFp JF nF) (T.obj _ _ stF)
      have close : ∀ {s' : Shared} {σ' : L2.St} {H' : Hp}, wipe σ' (own.map (·.2)) = wipe σ (own.map (·.2)) → Inv (X.blk sA HA scope cv fp) ([] ++ pinsAt fp sF.heap) σ' H' s' → Nx H' → ∃ m, m < n ∧ Inva m s' := fun {s' σ' H'} ew J nx => by
        obtain ⟨m', lt, w'⟩ := hNx H' nx
        have pinned : ∀ b ∈ fp, ∀ o, sF.heap.get? b = some o → s'.heap.get? b = some o ∧ H' b = none := fun b hb o e => by
          have z := J.pin (b, o) (List.mem_append_right _ (List.mem_append_right _ (mem_pinsAt hb e)))
          exact ⟨z.1, z.2.1⟩
        refine ⟨m', lt, i + 1, H', (J.unpinned (pins := [])).weak (by rw [← ew, wipe_length]) (fun j v e => ?_), T.keep _ _ _ stF fun b hb o e => (pinned b hb o e).1, fun b hb => ?_, w'⟩
        · rw [← ew] at e
          exact (wipe_some e).1
        · obtain ⟨o, e, _⟩ := T.obj _ _ stF b hb
          exact (pinned b hb o e).2
      refine thnF (rg.run _ sF _ HF x u _ JP rx (step x HF yx)) fun _ sG ⟨σG, HG, JG, ew, qG⟩ => ?_
      refine thnF (rt.run _ sG σG HG _ JG qG) fun c sI ⟨HI, JI, qI⟩ => ?_
      cases c
      · rw [if_neg Bool.false_ne_true] at qI ⊢
        exact close ew JI qI
      · rw [if_pos rfl] at qI ⊢
        refine thnF (rk.run _ sI σG HI _ JI qI) fun zk sK ⟨yk, HK, JK, rK, qK⟩ => thnF (rv.run _ sK σG HK _ JK qK) fun zv sV ⟨yv, HV, JV, rV, b, kvs, k, ek, hb, hD, hz, nx⟩ => ?_
        subst ek
        obtain rfl : zk = Value.ref b := rK
        exact dt_store (X := X.blk sA HA scope cv fp) hu JV hD hb hz rV fun s' JW => close ew JW nx
  exact codeAny_compStart_dict main (T.self X.A 0 _ _ _ stB main)
/-- over a list that stays -/
theorem dct_list {K : PySem.W.Frag} {a : Addr} {xs : List V} {g : TG} {tt : TT} {tk tv : TE} {vs : List Nat} {σ : L2.St} {H1 : Hp} {D : Addr} {Qd : Hp → Prop} (Pv : Nat → Hp → Prop) (h0 : Pv 0 (upd H1 D (.dT []))) (hl : ∀ i H, i ≤ xs.length → Pv i H → SqL K H a xs)
    (hs : ∀ i x H, xs[i]? = some x → Pv i H → dctTurn g tt tk tv vs D (Pv (i + 1)) σ x H) (hd : ∀ H, Pv xs.length H → Qd H) :
    ∃ W : Nat → Nat → Hp → Prop, (∃ m, W 0 m (upd H1 D (.dT []))) ∧ ∀ i m H, W i m H →
      ((Itl K a).stop i H ∧ Qd H) ∨ ((Itl K a).go i H ∧ ∃ Nx : Hp → Prop, (∀ H', Nx H' → ∃ m', m' < m ∧ W (i + 1) m' H') ∧ ∀ x H', (Itl K a).yld i H x H' → dctTurn g tt tk tv vs D Nx σ x H') := by
  refine ⟨fun i m H => m + i = xs.length ∧ Pv i H, ⟨xs.length, rfl, h0⟩, fun i m H ⟨em, p⟩ => ?_⟩
  have q := hl i H (by omega) p
  by_cases lt : i < xs.length
  · refine .inr ⟨⟨xs, xs[i], q, List.getElem?_eq_getElem lt⟩, Pv (i + 1), fun H' p' => ⟨m - 1, by omega, by omega, p'⟩, fun x H' ⟨e, y⟩ => ?_⟩
    subst e
    exact hs i x _ (y xs q) p
  · obtain rfl : i = xs.length := by omega
    exact .inl ⟨⟨xs, q, Nat.le_refl _⟩, hd H p⟩
end
end Ts
namespace Ts
open PySem PySem.Spec PyProof.Rows L2
abbrev s_order_key : Stmt := top 28
/-- order_key as it stands -/
structure OKey (K : PySem.W.Frag) (mg : Str → Option Value) (f : Addr) : Prop where
  g : mg "order_key" = some (.ref f)
  fn : ∃ fd, Fun K "order_key" "order_key" s_order_key f fd
abbrev okBody : List Stmt := defBody s_order_key
theorem okBody_eq : defBody s_order_key = okBody := rfl
/-- a tuple of two ints and one thing more -/
def Tup3 (h : Heap) (a : Addr) (i j : Int) : Prop := ∃ (ti tj : Tok) (u : Value), PyProof.Rows.IsTup h a #[.int i ti, .int j tj, u]
section
variable {prog : Program} {w : World} {A : Around} {K : PySem.W.Frag} {mg : Str → Option Value} {f : Addr} {s : Shared}
open PySem.W in
theorem okey_call (O : OKey K mg f) (X : K.In s.heap) (hlim : s.heap.NoLimit) (hroom : A.depth < recursionLimit) {a : Addr} {i j : Int} (ht : Tup3 s.heap a i j) :
    wpAny (model prog w) A (call (.ref f) [.ref a]) (PySem.W.KeyPure (.tuple [.int i, .int j]) s) (fun _ _ => False) s := by
  obtain ⟨fd, F⟩ := O.fn
  obtain ⟨oc, od, kV, doc, pm, an, cdv, ct, osl, rfl, lk, hcd⟩ := F.ex
  obtain ⟨ti, tj, u, ht⟩ := ht
  refine wpAny_call (Att.call_fn (binds := [("telling", .ref a)]) X hlim lk hcd hroom (BindsTo.of_eq (by first | rfl | with_unfolding_all rfl)) (by first | rfl | decide | with_unfolding_all rfl) (fun s₁ IC => ?_) rfl rfl rfl)
  obtain ⟨h₁, tk₁, rfl⟩ := IC.toInCall.same
  have k : ∀ b o, s.heap.get? b = some o → h₁.get? b = some o := IC.toInCall.keep
  have hn := IC.toInCall.ns
  have ht₁ : PyProof.Rows.IsTup h₁ a #[.int i ti, .int j tj, u] := ht.keeps k
  rw [okBody_eq]
  refine wpAny_execs_cons (wpAny_Return_some (Subscript_ ?_))
  refine wpAny_Name (wpAny_loadName_local (v := .ref a) rfl (by rfl) hn (by first | rfl | with_unfolding_all rfl | kernel_rfl) ?_) (by decide)
  refine wpAny_Slice ?_
  rw [evalPart_none]
  refine wpAny_pure ?_
  rw [evalPart_some]
  refine wpAny_Constant_int ?_
  refine wpAny_pure ?_
  refine tail_any (ops := [.ref h₁.objs.size, .ref a]) (ht₁.push _).typeIs PyProof.Rows.slot_tuple_getitem.lookup ?_ (by with_unfolding_all rfl)
  refine HT.getItem_tuple_cut (ht₁.push _) (Heap.IsSliceOf.new ..) (lo := none) (hi := some 2) (by constructor) (by constructor) (by show ¬ (HT.sIx 3 0 none = 0 ∧ HT.sIx 3 3 (some 2) = 3); decide) ?_ (by show 3 ≤ sizeLine; decide)
  refine ⟨_, _, rfl, fun b o e => Heap.get?_push_of_some _ (Heap.get?_push_of_some _ (k _ _ e)), ?_⟩
  refine Reads.tuple (as := []) (Heap.get?_push_size _ rfl) rfl rfl ?_
  exact .cons (as := []) (bs := []) (.int i ti) (.cons (as := []) (bs := []) (.int j tj) .nil)
end
/-! ### sorted(xs, key=order_key): some arrangement of the same items -/
section
variable {X : Cx} {f : Addr}
/-- x is a tuple of two ints and one thing more -/
def IsT3 (K : PySem.W.Frag) (H : Hp) (x : V) : Prop := ∃ (t : Addr) (i j : Int) (v : V), x = .ref t ∧ SqT K H t [.int i, .int j, v]
def rSortedTup (K : PySem.W.Frag) (f : Addr) : List V → List V → Hp → VK → Prop := fun vs zs H Q => ∃ (a : Addr) (xs : List V), vs = [V.ref a] ∧ zs = [V.ref f] ∧ SqL K H a xs ∧ (∀ x ∈ xs, IsT3 K H x) ∧
  ∀ ys p, ys.Perm xs → H p = none → Q (.ref p) (upd H p (.lst ys))
theorem isT3_raw {pins : List (Addr × Obj)} {σ : L2.St} {H : Hp} {s : Shared} (I : Inv X pins σ H s) {x : V} (h : IsT3 X.K H x) : ∃ (t : Addr) (i j : Int), x = .ref t ∧ Tup3 s.heap t i j := by
  obtain ⟨t, i, j, v, rfl, hq⟩ := h
  obtain ⟨its, r, p, _⟩ := I.tuple hq
  cases r with
  | cons r1 r =>
    cases r with
    | cons r2 r =>
      cases r with
      | cons r3 r =>
        cases r
        obtain ⟨ti, rfl⟩ := r1
        obtain ⟨tj, rfl⟩ := r2
        exact ⟨t, i, j, rfl, ti, tj, _, p⟩
theorem each_of {s : Shared} : ∀ {xs : List V} {its : List Value}, Vals xs its → (∀ x ∈ xs, ∃ (t : Addr) (i j : Int), x = .ref t ∧ Tup3 s.heap t i j) →
    ∃ bs : List (Addr × Int × Int), xs = bs.map (fun b => V.ref b.1) ∧ PySem.W.EachIs (fun v (b : Addr × Int × Int) => v = Value.ref b.1 ∧ Tup3 s.heap b.1 b.2.1 b.2.2) its bs
  | _, _, .nil, _ => ⟨[], rfl, .nil⟩
  | x :: xs, _, .cons r t, h => by
    obtain ⟨bs, e1, e2⟩ := each_of t fun y hy => h y (List.mem_cons_of_mem _ hy)
    obtain ⟨a, i, j, rfl, h3⟩ := h x List.mem_cons_self
    cases r
    exact ⟨(a, i, j) :: bs, by rw [List.map_cons, e1], .cons ⟨rfl, h3⟩ e2⟩
theorem each_back {s : Shared} : ∀ {bs : List (Addr × Int × Int)} {its : List Value}, PySem.W.EachIs (fun v (b : Addr × Int × Int) => v = Value.ref b.1 ∧ Tup3 s.heap b.1 b.2.1 b.2.2) its bs → Vals (bs.map fun b => V.ref b.1) its
  | [], _, .nil => .nil
  | b :: bs, _, .cons r t => .cons r.1 (each_back t)
theorem cr_sortedTup {k : Nat} (O : OKey X.K X.mg f) (hr : Room k X.A) : CallRK X (.builtin "sorted") [Str.ofString "key"] (rSortedTup X.K f) := by
  intro pins s σ H vs zs us ws Q I r rz h
  obtain ⟨a, xs, rfl, rfl, hs, ha, q⟩ := h
  obtain rfl := Vals.ref1 r
  obtain ⟨w1, rfl, e1⟩ := vals1 rz
  obtain rfl : w1 = Value.ref f := e1
  obtain ⟨its, rv, hl, hz⟩ := I.list hs
  obtain ⟨bs, ebs, ee⟩ := each_of rv fun x hx => isT3_raw I (ha x hx)
  have hlen : bs.length ≤ sizeLine := by
    rw [ebs, List.length_map] at hz
    exact hz
  refine PySem.W.sorted_key_data (b := false) (fun b : Addr × Int × Int => .tuple [.int b.2.1, .int b.2.2]) hl.isList ee (PySem.W.AllAlike.of fun b b' => by simp [PySem.W.alike, PySem.W.alikeAll]) (PySem.W.Sortable.tuples fun b => ⟨_, _, rfl⟩) hlen
    (fun b hb => ?_) (PyProof.Rows.ksk_s1 _ _) (fun _ => PyProof.Rows.ksk_l1 _ _) (fun x => PyProof.Rows.ksk_t1 f x) (fun v b hR _ h tk hk => ?_) (fun out c h' tk hk hn hd hol he => ?_)
  · have := hr.un
    simp only [PyData.depth, PyData.depthAll]
    omega
  · obtain ⟨rfl, ti, tj, u, p⟩ := hR
    have kin : X.K.In h := I.kIn.keeps hk
    have lim : h.NoLimit := I.nolimit.keeps hk
    exact okey_call (s := { s with heap := h, toks := tk }) O kin lim (by have := hr.dp; show X.A.depth < _; omega) ⟨ti, tj, u, p.keeps hk⟩
  · have hp : ((bs.mergeSort (PySem.W.dataLe false fun b : Addr × Int × Int => .tuple [.int b.2.1, .int b.2.2])).map fun b => V.ref b.1).Perm xs := by
      rw [ebs]
      exact (List.mergeSort_perm _ _).map _
    have hz2 : ((bs.mergeSort (PySem.W.dataLe false fun b : Addr × Int × Int => .tuple [.int b.2.1, .int b.2.2])).map fun b => V.ref b.1).length ≤ sizeLine := by
      rw [hp.length_eq]
      exact hz
    exact ⟨.ref _, upd H (s.heap.objs.size + 1) (.lst ((bs.mergeSort (PySem.W.dataLe false fun b : Addr × Int × Int => .tuple [.int b.2.1, .int b.2.2])).map fun b => V.ref b.1)), I.laid (t' := tk) hk (Nat.le_succ _) ⟨hz2, _, c, each_back he, hd⟩, rfl, q _ _ hp (I.hok.fresh (Nat.le_succ _))⟩
end
end Ts
/-! the plain law: numbers, texts, tellings as bytes; records; a file that is cut. No program in sight. -/
namespace Ts
open PySem
/-! ### numbers -/
def numB (n : Nat) : List Nat := if n < 128 then [n] else (128 + n % 128) :: numB (n / 128)
termination_by n
decreasing_by omega
theorem numB_small {n : Nat} (h : n < 128) : numB n = [n] := by
  rw [numB, if_pos h]
theorem numB_big {n : Nat} (h : ¬ n < 128) : numB n = (128 + n % 128) :: numB (n / 128) := by
  rw [numB, if_neg h]
theorem numB_ind {P : Nat → Prop} (h1 : ∀ n, n < 128 → P n) (h2 : ∀ n, ¬ n < 128 → P (n / 128) → P n) (n : Nat) : P n := by
  induction n using Nat.strongRecOn with
  | _ n ih =>
    by_cases h : n < 128
    · exact h1 n h
    · exact h2 n h (ih _ (by omega))
theorem numB_pos (n : Nat) : 0 < (numB n).length := by
  by_cases h : n < 128
  · rw [numB_small h]
    simp
  · rw [numB_big h]
    simp
theorem numB_byte (n : Nat) : ∀ b ∈ numB n, b < 256 := by
  induction n using numB_ind with
  | h1 n h =>
    intro b hb
    rw [numB_small h] at hb
    simp at hb
    omega
  | h2 n h ih =>
    intro b hb
    rw [numB_big h] at hb
    rcases List.mem_cons.mp hb with e | hb
    · omega
    · exact ih b hb
theorem numB_len (k : Nat) : ∀ n, n < 128 ^ (k + 1) → (numB n).length ≤ k + 1 := by
  induction k with
  | zero =>
    intro n h
    rw [numB_small (by simpa using h)]
    simp
  | succ k ih =>
    intro n h
    by_cases hn : n < 128
    · rw [numB_small hn]
      simp
    · rw [numB_big hn]
      have z : n / 128 < 128 ^ (k + 1) := by
        rw [Nat.pow_succ] at h
        omega
      have := ih _ z
      simp only [List.length_cons]
      omega
/-- a number at the beginning of a row: its value, how many bytes -/
def rd : List Nat → Option (Nat × Nat)
  | [] => none
  | b :: r => if 128 ≤ b then (rd r).map (fun p => (b - 128 + 128 * p.1, p.2 + 1)) else some (b, 1)
def rdz (l : List Nat) : Option (Nat × Nat) := (rd l).bind fun p => if l[p.2 - 1]? = some 0 ∧ 1 < p.2 then none else some p
theorem rd_numB (n : Nat) (r : List Nat) : rd (numB n ++ r) = some (n, (numB n).length) := by
  induction n using numB_ind with
  | h1 n h =>
    rw [numB_small h]
    show (if 128 ≤ n then _ else some (n, 1)) = _
    rw [if_neg (by omega)]
    rfl
  | h2 n h ih =>
    rw [numB_big h]
    show (if 128 ≤ 128 + n % 128 then (rd (numB (n / 128) ++ r)).map _ else _) = _
    rw [if_pos (by omega), ih]
    show some (128 + n % 128 - 128 + 128 * (n / 128), (numB (n / 128)).length + 1) = some (n, (numB (n / 128)).length + 1)
    have := Nat.div_add_mod n 128
    congr 2
    omega
theorem numB_last (n : Nat) (r : List Nat) : 1 < (numB n).length → (numB n ++ r)[(numB n).length - 1]? ≠ some 0 := by
  induction n using numB_ind with
  | h1 n h =>
    rw [numB_small h]
    intro z
    simp at z
  | h2 n h ih =>
    intro z e
    rw [numB_big h] at e z
    have e2 : (numB (n / 128) ++ r)[(numB (n / 128)).length - 1]? = some 0 := by
      have p := numB_pos (n / 128)
      simp only [List.length_cons, Nat.add_sub_cancel, List.cons_append] at e
      obtain ⟨q, hq⟩ : ∃ q, (numB (n / 128)).length = q + 1 := ⟨(numB (n / 128)).length - 1, by omega⟩
      rw [hq] at e ⊢
      simpa using e
    by_cases z2 : 1 < (numB (n / 128)).length
    · exact ih z2 e2
    · by_cases h3 : n / 128 < 128
      · rw [numB_small h3] at e2
        simp at e2
        omega
      · rw [numB_big h3] at z2
        have := numB_pos (n / 128 / 128)
        simp only [List.length_cons] at z2
        omega
theorem rdz_numB (n : Nat) (r : List Nat) : rdz (numB n ++ r) = some (n, (numB n).length) := by
  unfold rdz
  rw [rd_numB]
  show (if _ then none else _) = _
  rw [if_neg]
  rintro ⟨a, b⟩
  exact numB_last n r b a
theorem rd_cut (n : Nat) : ∀ j, j < (numB n).length → rd ((numB n).take j) = none := by
  induction n using numB_ind with
  | h1 n h =>
    intro j hj
    rw [numB_small h] at hj ⊢
    have : j = 0 := by
      simp at hj
      exact hj
    subst this
    rfl
  | h2 n h ih =>
    intro j hj
    rw [numB_big h] at hj ⊢
    cases j with
    | zero => rfl
    | succ j =>
      simp only [List.length_cons] at hj
      show (if 128 ≤ 128 + n % 128 then (rd ((numB (n / 128)).take j)).map _ else _) = none
      rw [if_pos (by omega), ih j (by omega)]
      rfl
theorem rdz_cut (n j : Nat) (h : j < (numB n).length) : rdz ((numB n).take j) = none := by
  unfold rdz
  rw [rd_cut n j h]
  rfl
theorem rdz_nil : rdz [] = none := rfl
theorem rd_le : ∀ (l : List Nat) (p : Nat × Nat), rd l = some p → 0 < p.2 ∧ p.2 ≤ l.length
  | [], p, h => by cases h
  | b :: r, p, h => by
    unfold rd at h
    split at h
    · cases e : rd r with
      | none =>
        rw [e] at h
        cases h
      | some q =>
        rw [e] at h
        have := rd_le r q e
        cases h
        simp only [List.length_cons]
        omega
    · cases h
      simp
theorem rdz_le (l : List Nat) (p : Nat × Nat) (h : rdz l = some p) : 0 < p.2 ∧ p.2 ≤ l.length := by
  unfold rdz at h
  cases e : rd l with
  | none =>
    rw [e] at h
    cases h
  | some q =>
    rw [e] at h
    have h2 : (if l[q.2 - 1]? = some 0 ∧ 1 < q.2 then none else some q) = some p := h
    split at h2
    · cases h2
    · injection h2 with h3
      rw [← h3]
      exact rd_le l q e
/-! ### sums, records -/
def sumStep (t n : Nat) : Nat := (31 * t + n + 1) % 65521
def sumB (l : List Nat) : Nat := l.foldl sumStep 7
theorem sumB_lt (l : List Nat) : sumB l < 65521 := by
  unfold sumB
  have : ∀ (l : List Nat) t, t < 65521 → l.foldl sumStep t < 65521 := by
    intro l
    induction l with
    | nil => exact fun t h => h
    | cons x r ih => exact fun t _ => ih _ (Nat.mod_lt _ (by decide))
  exact this l 7 (by decide)
def recB (b : List Nat) : List Nat := numB b.length ++ b ++ numB (sumB b)
theorem recB_len (b : List Nat) : (recB b).length = (numB b.length).length + b.length + (numB (sumB b)).length := by
  unfold recB
  simp only [List.length_append]
theorem recB_pos (b : List Nat) : 0 < (recB b).length := by
  have := numB_pos b.length
  rw [recB_len]
  omega
/-- a record at the beginning of a row: its body, how many bytes -/
def rdRec (l : List Nat) : Option (List Nat × Nat) := match rdz l with
  | none => none
  | some (n, c) => if l.length < c + n then none else match rdz (l.drop (c + n)) with
    | none => none
    | some (m, d) => if m = sumB ((l.drop c).take n) then some ((l.drop c).take n, c + n + d) else none
theorem rdRec_whole (b r : List Nat) : rdRec (recB b ++ r) = some (b, (recB b).length) := by
  have e0 : recB b ++ r = numB b.length ++ (b ++ (numB (sumB b) ++ r)) := by
    unfold recB
    simp only [List.append_assoc]
  have e1 : rdz (recB b ++ r) = some (b.length, (numB b.length).length) := by
    rw [e0]
    exact rdz_numB _ _
  have e2 : ((recB b ++ r).drop (numB b.length).length).take b.length = b := by
    rw [e0, List.drop_left, List.take_left]
  have e3 : (recB b ++ r).drop ((numB b.length).length + b.length) = numB (sumB b) ++ r := by
    rw [e0, ← List.drop_drop, List.drop_left, List.drop_left]
  unfold rdRec
  rw [e1]
  show (if _ then none else _) = _
  rw [if_neg (by rw [List.length_append, recB_len]; omega)]
  show (match rdz ((recB b ++ r).drop ((numB b.length).length + b.length)) with | none => none | some (m, d) => _) = _
  rw [e3, rdz_numB]
  show (if sumB b = sumB (((recB b ++ r).drop (numB b.length).length).take b.length) then _ else _) = _
  rw [e2, if_pos rfl, recB_len]
theorem rdRec_cut (b : List Nat) (j : Nat) (h : j < (recB b).length) : rdRec ((recB b).take j) = none := by
  have e0 : recB b = numB b.length ++ (b ++ numB (sumB b)) := by
    unfold recB
    simp only [List.append_assoc]
  rw [recB_len] at h
  by_cases h1 : j < (numB b.length).length
  · have : (recB b).take j = (numB b.length).take j := by
      rw [e0, List.take_append_of_le_length (by omega)]
    unfold rdRec
    rw [this, rdz_cut _ _ h1]
  · have e1 : (recB b).take j = numB b.length ++ (b ++ numB (sumB b)).take (j - (numB b.length).length) := by
      rw [e0, List.take_append, List.take_of_length_le (by omega)]
    unfold rdRec
    rw [e1, rdz_numB]
    show (if _ then none else _) = _
    by_cases h2 : j < (numB b.length).length + b.length
    · rw [if_pos]
      rw [List.length_append, List.length_take, List.length_append]
      omega
    · have e2 : (b ++ numB (sumB b)).take (j - (numB b.length).length) = b ++ (numB (sumB b)).take (j - (numB b.length).length - b.length) := by
        rw [List.take_append, List.take_of_length_le (by omega)]
      rw [e2]
      split
      · rfl
      · rw [← List.drop_drop, List.drop_left, List.drop_left, rdz_cut _ _ (by omega)]
theorem rdRec_nil : rdRec [] = none := rfl
theorem rdRec_le (l : List Nat) (p : List Nat × Nat) (h : rdRec l = some p) : p.2 ≤ l.length := by
  unfold rdRec at h
  split at h
  · cases h
  · rename_i n c e1
    split at h
    · cases h
    · rename_i h1
      split at h
      · cases h
      · rename_i m d e2
        split at h
        · cases h
          have := (rdz_le _ _ e2).2
          rw [List.length_drop] at this
          show c + n + d ≤ l.length
          omega
        · cases h
/-! ### rows of records, cut -/
def cat (bs : List (List Nat)) : List Nat := bs.flatMap recB
def psum (bs : List (List Nat)) (m : Nat) : Nat := (cat (bs.take m)).length
theorem psum_zero (bs : List (List Nat)) : psum bs 0 = 0 := rfl
theorem psum_succ (bs : List (List Nat)) {m : Nat} {b : List Nat} (h : bs[m]? = some b) : psum bs (m + 1) = psum bs m + (recB b).length := by
  unfold psum cat
  rw [List.take_add_one, h, List.flatMap_append, List.length_append]
  simp
theorem cat_split (bs : List (List Nat)) (m : Nat) : cat bs = cat (bs.take m) ++ cat (bs.drop m) := by
  unfold cat
  rw [← List.flatMap_append, List.take_append_drop]
theorem psum_mono (bs : List (List Nat)) {i j : Nat} (h : i ≤ j) : psum bs i ≤ psum bs j := by
  unfold psum
  have e : bs.take i = (bs.take j).take i := by
    rw [List.take_take, Nat.min_eq_left h]
  rw [e, cat_split (bs.take j) i, List.length_append]
  omega
/-- m records of bs lie whole ahead of the cut, and no more -/
def Whole (bs : List (List Nat)) (cut m : Nat) : Prop := m ≤ bs.length ∧ psum bs m ≤ cut ∧ (m = bs.length ∨ cut < psum bs (m + 1))
theorem Whole.uniq {bs : List (List Nat)} {cut m n : Nat} (h1 : Whole bs cut m) (h2 : Whole bs cut n) : m = n := by
  obtain ⟨a1, a2, a3⟩ := h1
  obtain ⟨b1, b2, b3⟩ := h2
  rcases Nat.lt_trichotomy m n with l | l | l
  · have := psum_mono bs (i := m + 1) (j := n) l
    omega
  · exact l
  · have := psum_mono bs (i := n + 1) (j := m) l
    omega
theorem drop_cut (bs : List (List Nat)) (cut m : Nat) : ((cat bs).take cut).drop (psum bs m) = (cat (bs.drop m)).take (cut - psum bs m) := by
  rw [List.drop_take]
  congr 1
  rw [cat_split bs m]
  unfold psum
  rw [List.drop_left]
/-- behind m whole records: the next one, if it lies whole ahead of the cut -/
theorem rdRec_next {bs : List (List Nat)} {cut m : Nat} {b : List Nat} (hb : bs[m]? = some b) (h : psum bs (m + 1) ≤ cut) : rdRec (((cat bs).take cut).drop (psum bs m)) = some (b, (recB b).length) := by
  rw [drop_cut]
  have e : bs.drop m = b :: bs.drop (m + 1) := by
    obtain ⟨lt, e⟩ := List.getElem?_eq_some_iff.mp hb
    rw [List.drop_eq_getElem_cons lt, e]
  have p := psum_succ bs hb
  have e2 : (cat (bs.drop m)).take (cut - psum bs m) = recB b ++ (cat (bs.drop (m + 1))).take (cut - psum bs m - (recB b).length) := by
    rw [e]
    show (recB b ++ cat (bs.drop (m + 1))).take _ = _
    rw [List.take_append, List.take_of_length_le (by omega)]
  rw [e2]
  exact rdRec_whole _ _
/-- none, if it does not -/
theorem rdRec_last {bs : List (List Nat)} {cut m : Nat} (h0 : psum bs m ≤ cut) (h : m = bs.length ∨ cut < psum bs (m + 1)) : rdRec (((cat bs).take cut).drop (psum bs m)) = none := by
  rw [drop_cut]
  by_cases hm : m < bs.length
  · have hb : bs[m]? = some bs[m] := List.getElem?_eq_getElem hm
    have p := psum_succ bs hb
    have lt : cut - psum bs m < (recB bs[m]).length := by omega
    have e2 : (cat (bs.drop m)).take (cut - psum bs m) = (recB bs[m]).take (cut - psum bs m) := by
      rw [List.drop_eq_getElem_cons hm]
      show (recB bs[m] ++ cat (bs.drop (m + 1))).take _ = _
      rw [List.take_append_of_le_length (by omega)]
    rw [e2]
    exact rdRec_cut _ _ lt
  · rw [List.drop_of_length_le (by omega)]
    show rdRec (([] : List Nat).take _) = none
    rw [List.take_nil]
    rfl
end Ts
/-! tellings: as plain data, as bytes, in the heap -/
namespace Ts
open PySem PySem.Spec PyProof.Rows L2
/-- a change: its time, key, text -/
structure Ch where
  time : Nat
  key : Str
  txt : Option Str
/-- a telling: its stamp, source, change -/
structure Tl where
  st : Nat
  src : Nat
  ch : Ch
/-! ### bytes -/
def codes (s : Str) : List Nat := s.cps.toList
theorem codes_len (s : Str) : (codes s).length = s.length := by
  unfold codes
  simp [Str.length]
def textB (s : Str) : List Nat := numB s.length ++ codes s
def txtB : Option Str → List Nat
  | none => numB 0
  | some s => numB 1 ++ textB s
def tellB (t : Tl) : List Nat := numB t.st ++ (numB t.src ++ (numB t.ch.time ++ (textB t.ch.key ++ txtB t.ch.txt)))
def endB (e : Str × Nat) : List Nat := textB e.1 ++ numB e.2
def endsB (es : List (Str × Nat)) : List Nat := numB es.length ++ es.flatMap endB
/-- the bodies of a file's records -/
def bodies (es : List (Str × Nat)) (ts : List Tl) : List (List Nat) := endsB es :: ts.map tellB
/-! ### what is met -/
def CharOk (c : Nat) : Prop := c = 10 ∨ (32 ≤ c ∧ c ≤ 126 ∧ c ≠ 37)
def TextOk (s : Str) : Prop := s.length ≤ 100 ∧ ∀ c ∈ codes s, CharOk c
def KeyOk (k : Str) : Prop := k = "a" ∨ k = "b" ∨ k = "k9"
def EndOk (e : Str × Nat) : Prop := e = (("s" : Str), 3) ∨ e = (("er" : Str), 3)
structure ChOk (c : Ch) : Prop where
  time : c.time ≤ 1000
  key : KeyOk c.key
  txt : ∀ s, c.txt = some s → TextOk s
structure TlOk (t : Tl) : Prop where
  st1 : 1 ≤ t.st
  st2 : t.st ≤ 1000
  src1 : 1 ≤ t.src
  src2 : t.src ≤ 9
  ch : ChOk t.ch
structure EsOk (es : List (Str × Nat)) : Prop where
  len : es.length ≤ 2
  all : ∀ e ∈ es, EndOk e
theorem KeyOk.text {k : Str} (h : KeyOk k) : TextOk k := by
  rcases h with rfl | rfl | rfl
  · exact ⟨by decide +kernel, fun c hc => by
      have e : codes "a" = [97] := by decide +kernel
      rw [e] at hc
      simp at hc
      subst hc
      exact .inr ⟨by decide, by decide, by decide⟩⟩
  · exact ⟨by decide +kernel, fun c hc => by
      have e : codes "b" = [98] := by decide +kernel
      rw [e] at hc
      simp at hc
      subst hc
      exact .inr ⟨by decide, by decide, by decide⟩⟩
  · exact ⟨by decide +kernel, fun c hc => by
      have e : codes "k9" = [107, 57] := by decide +kernel
      rw [e] at hc
      simp at hc
      rcases hc with rfl | rfl <;> exact .inr ⟨by decide, by decide, by decide⟩⟩
theorem KeyOk.len {k : Str} (h : KeyOk k) : 1 ≤ k.length ∧ k.length ≤ 2 := by
  rcases h with rfl | rfl | rfl <;> decide +kernel
theorem EndOk.text {e : Str × Nat} (h : EndOk e) : TextOk e.1 := by
  rcases h with rfl | rfl
  · exact ⟨by decide +kernel, fun c hc => by
      have q : codes "s" = [115] := by decide +kernel
      rw [q] at hc
      simp at hc
      subst hc
      exact .inr ⟨by decide, by decide, by decide⟩⟩
  · exact ⟨by decide +kernel, fun c hc => by
      have q : codes "er" = [101, 114] := by decide +kernel
      rw [q] at hc
      simp at hc
      rcases hc with rfl | rfl <;> exact .inr ⟨by decide, by decide, by decide⟩⟩
theorem TextOk.byte {s : Str} (h : TextOk s) : ∀ b ∈ textB s, b < 256 := fun b hb => by
  rcases List.mem_append.mp hb with hb | hb
  · exact numB_byte _ b hb
  · have := h.2 b hb
    unfold CharOk at this
    omega
/-- lengths -/
theorem numB_le2 {n : Nat} (h : n < 128 ^ 2) : (numB n).length ≤ 2 := numB_len 1 n h
theorem numB_le3 {n : Nat} (h : n < 128 ^ 3) : (numB n).length ≤ 3 := numB_len 2 n h
theorem textB_len {s : Str} (h : TextOk s) : (textB s).length ≤ 102 := by
  have h1 := numB_le2 (n := s.length) (by have := h.1; omega)
  have h2 := h.1
  unfold textB
  rw [List.length_append, codes_len]
  omega
theorem txtB_len {c : Ch} (h : ChOk c) : (txtB c.txt).length ≤ 104 := by
  cases e : c.txt with
  | none =>
    have := numB_le2 (n := 0) (by decide)
    show (numB 0).length ≤ 104
    omega
  | some s =>
    have h1 := numB_le2 (n := 1) (by decide)
    have h2 := textB_len (h.txt s e)
    show (numB 1 ++ textB s).length ≤ 104
    rw [List.length_append]
    omega
theorem tellB_len {t : Tl} (h : TlOk t) : (tellB t).length ≤ 212 := by
  have h1 := numB_le2 (n := t.st) (by have := h.st2; omega)
  have h2 := numB_le2 (n := t.src) (by have := h.src2; omega)
  have h3 := numB_le2 (n := t.ch.time) (by have := h.ch.time; omega)
  have h4 := textB_len h.ch.key.text
  have h5 := txtB_len h.ch
  unfold tellB
  simp only [List.length_append]
  omega
theorem endB_len {e : Str × Nat} (h : EndOk e) : (endB e).length ≤ 104 := by
  have h1 := textB_len h.text
  have h2 : (numB e.2).length ≤ 2 := numB_le2 (by rcases h with rfl | rfl <;> decide)
  unfold endB
  rw [List.length_append]
  omega
theorem flat_len {α : Type} {f : α → List Nat} {n : Nat} : ∀ {l : List α}, (∀ x ∈ l, (f x).length ≤ n) → (l.flatMap f).length ≤ n * l.length
  | [], _ => by simp
  | x :: l, h => by
    have h1 := h x List.mem_cons_self
    have h2 := flat_len (l := l) fun y hy => h y (List.mem_cons_of_mem _ hy)
    rw [List.flatMap_cons, List.length_append, List.length_cons, Nat.mul_succ]
    omega
theorem endsB_len {es : List (Str × Nat)} (h : EsOk es) : (endsB es).length ≤ 210 := by
  have h1 := numB_le2 (n := es.length) (by have := h.len; omega)
  have h2 := flat_len (f := endB) (n := 104) fun e he => endB_len (h.all e he)
  have h3 := h.len
  unfold endsB
  rw [List.length_append]
  omega
theorem recB_len_le {b : List Nat} (h : b.length ≤ 1000) : (recB b).length ≤ b.length + 5 := by
  have h1 := numB_le2 (n := b.length) (by omega)
  have h2 := numB_le3 (n := sumB b) (by have := sumB_lt b; omega)
  rw [recB_len]
  omega
/-! ### bytes are bytes -/
theorem txtB_byte {c : Ch} (h : ChOk c) : ∀ b ∈ txtB c.txt, b < 256 := fun b hb => by
  cases e : c.txt with
  | none =>
    rw [e] at hb
    exact numB_byte 0 b hb
  | some s =>
    rw [e] at hb
    rcases List.mem_append.mp hb with hb | hb
    · exact numB_byte 1 b hb
    · exact (h.txt s e).byte b hb
theorem tellB_byte {t : Tl} (h : TlOk t) : ∀ b ∈ tellB t, b < 256 := fun b hb => by
  unfold tellB at hb
  simp only [List.mem_append] at hb
  rcases hb with hb | hb | hb | hb | hb
  · exact numB_byte _ b hb
  · exact numB_byte _ b hb
  · exact numB_byte _ b hb
  · exact h.ch.key.text.byte b hb
  · exact txtB_byte h.ch b hb
theorem endsB_byte {es : List (Str × Nat)} (h : EsOk es) : ∀ b ∈ endsB es, b < 256 := fun b hb => by
  rcases List.mem_append.mp hb with hb | hb
  · exact numB_byte _ b hb
  · obtain ⟨e, he, hb⟩ := List.mem_flatMap.mp hb
    rcases List.mem_append.mp hb with hb | hb
    · exact (h.all e he).text.byte b hb
    · exact numB_byte _ b hb
theorem recB_byte {l : List Nat} (h : ∀ b ∈ l, b < 256) : ∀ b ∈ recB l, b < 256 := fun b hb => by
  unfold recB at hb
  rcases List.mem_append.mp hb with hb | hb
  · rcases List.mem_append.mp hb with hb | hb
    · exact numB_byte _ b hb
    · exact h b hb
  · exact numB_byte _ b hb
theorem cat_byte {bs : List (List Nat)} (h : ∀ l ∈ bs, ∀ b ∈ l, b < 256) : ∀ b ∈ cat bs, b < 256 := fun b hb => by
  obtain ⟨l, hl, hb⟩ := List.mem_flatMap.mp hb
  exact recB_byte (h l hl) b hb
theorem cat_len {bs : List (List Nat)} (h : ∀ l ∈ bs, l.length ≤ 300) : (cat bs).length ≤ 305 * bs.length :=
  flat_len fun l hl => by
    have h1 := h l hl
    have := recB_len_le (b := l) (by omega)
    omega
theorem bodies_ok {es : List (Str × Nat)} {ts : List Tl} (he : EsOk es) (ht : ∀ t ∈ ts, TlOk t) : ∀ l ∈ bodies es ts, l.length ≤ 300 ∧ ∀ b ∈ l, b < 256 := fun l hl => by
  rcases List.mem_cons.mp hl with rfl | hl
  · exact ⟨Nat.le_trans (endsB_len he) (by decide), endsB_byte he⟩
  · obtain ⟨t, h, rfl⟩ := List.mem_map.mp hl
    exact ⟨Nat.le_trans (tellB_len (ht t h)) (by decide), tellB_byte (ht t h)⟩
/-! ### in the heap -/
abbrev vN (n : Nat) : V := .int (n : Int)
def optV : Option Str → V
  | none => .non
  | some s => .str s
section
variable (K : PySem.W.Frag) (H : Hp)
/-- a list of bytes | of whole numbers from 0 on -/
abbrev ByAt (a : Addr) (bs : List Nat) : Prop := SqL K H a (bs.map vN)
abbrev ChAt (a : Addr) (c : Ch) : Prop := SqT K H a [vN c.time, .str c.key, optV c.txt]
def TlAt (v : V) (t : Tl) : Prop := ∃ a b, v = .ref a ∧ SqT K H a [vN t.st, vN t.src, .ref b] ∧ ChAt K H b t.ch
abbrev TlsAt (vs : List V) (ts : List Tl) : Prop := Paired (TlAt K H) vs ts
def EnAt (v : V) (e : Str × Nat) : Prop := ∃ a, v = .ref a ∧ SqT K H a [.str e.1, vN e.2]
def EsAt (a : Addr) (es : List (Str × Nat)) : Prop := ∃ vs, SqT K H a vs ∧ Paired (EnAt K H) vs es
end
section
variable {K : PySem.W.Frag} {H H' : Hp}
theorem TlAt.same (s : Same H H') {v : V} {t : Tl} (h : TlAt K H v t) : TlAt K H' v t := by
  obtain ⟨a, b, e, h1, h2⟩ := h
  exact ⟨a, b, e, same_tup s h1, same_tup s h2⟩
theorem TlsAt.same (s : Same H H') {vs : List V} {ts : List Tl} (h : TlsAt K H vs ts) : TlsAt K H' vs ts := Paired.mapP h fun _ _ => TlAt.same s
theorem EnAt.same (s : Same H H') {v : V} {e : Str × Nat} (h : EnAt K H v e) : EnAt K H' v e := by
  obtain ⟨a, q, h1⟩ := h
  exact ⟨a, q, same_tup s h1⟩
theorem EsAt.same (s : Same H H') {a : Addr} {es : List (Str × Nat)} (h : EsAt K H a es) : EsAt K H' a es := by
  obtain ⟨vs, h1, h2⟩ := h
  exact ⟨vs, same_tup s h1, Paired.mapP h2 fun _ _ => EnAt.same s⟩
theorem paired_get {α β : Type} {F : α → β → Prop} : ∀ {l : List α} {m : List β} {i : Nat} {x : α}, Paired F l m → l[i]? = some x → ∃ y, m[i]? = some y ∧ F x y
  | _, _, _, _, .nil, e => by simp at e
  | _, _, 0, _, .cons r _, e => by
    simp at e
    subst e
    exact ⟨_, rfl, r⟩
  | _, _, i + 1, x, .cons _ t, e => paired_get (i := i) (x := x) t (by simpa using e)
theorem paired_mem {α β : Type} {F : α → β → Prop} {l : List α} {m : List β} (p : Paired F l m) {x : α} (h : x ∈ l) : ∃ y ∈ m, F x y := by
  obtain ⟨i, e⟩ := List.getElem?_of_mem h
  obtain ⟨y, e2, f⟩ := paired_get p e
  exact ⟨y, List.mem_of_getElem? e2, f⟩
/-- equal data -/
def optD : Option Str → PyData
  | none => .none
  | some s => .str s
def chD (c : Ch) : PyData := .tuple [.int c.time, .str c.key, optD c.txt]
def tlD (t : Tl) : PyData := .tuple [.int t.st, .int t.src, chD t.ch]
theorem dp_opt (o : Option Str) : Dp K H (optV o) (optD o) := by
  cases o with
  | none => exact .non
  | some s => exact .str s
theorem dp_ch {a : Addr} {c : Ch} (h : ChAt K H a c) : Dp K H (.ref a) (chD c) := .tup h (.cons (.int _) (.cons (.str _) (.cons (dp_opt _) .nil)))
theorem dp_tl {v : V} {t : Tl} (h : TlAt K H v t) : Dp K H v (tlD t) := by
  obtain ⟨a, b, rfl, h1, h2⟩ := h
  exact .tup h1 (.cons (.int _) (.cons (.int _) (.cons (dp_ch h2) .nil)))
theorem dp_tls : ∀ {vs : List V} {ts : List Tl}, TlsAt K H vs ts → DpAll K H vs (ts.map tlD)
  | _, _, .nil => .nil
  | _, _, .cons h t => .cons (dp_tl h) (dp_tls t)
end
theorem eqv_opt (a b : Option Str) : PyData.eqv (optD a) (optD b) = decide (a = b) := by
  cases a <;> cases b <;> simp [optD, PyData.eqv]
  rename_i x y
  by_cases h : x = y <;> simp [h]
theorem eqv_ch (a b : Ch) : PyData.eqv (chD a) (chD b) = true ↔ a = b := by
  obtain ⟨t, k, x⟩ := a
  obtain ⟨t', k', x'⟩ := b
  simp only [chD, PyData.eqv, PyData.eqvAll, eqv_opt, Bool.and_true, Bool.and_eq_true, decide_eq_true_eq, beq_iff_eq, Ch.mk.injEq, Int.natCast_inj]
  first | done | exact ⟨fun ⟨a, b, c⟩ => ⟨a, b, c⟩, fun ⟨a, b, c⟩ => ⟨a, b, c⟩⟩
theorem eqv_tl (a b : Tl) : PyData.eqv (tlD a) (tlD b) = true ↔ a = b := by
  obtain ⟨t, k, x⟩ := a
  obtain ⟨t', k', x'⟩ := b
  simp only [tlD, PyData.eqv, PyData.eqvAll, eqv_ch, Bool.and_true, Bool.and_eq_true, beq_iff_eq, Tl.mk.injEq, Int.natCast_inj]
  first | done | exact ⟨fun ⟨a, b, c⟩ => ⟨a, b, c⟩, fun ⟨a, b, c⟩ => ⟨a, b, c⟩⟩
theorem eqv_tls (as bs : List Tl) : PyData.eqvAll (as.map tlD) (bs.map tlD) = true ↔ as = bs := by
  induction as generalizing bs with
  | nil => cases bs <;> simp [PyData.eqvAll]
  | cons a as ih => cases bs with
    | nil => simp [PyData.eqvAll]
    | cons b bs => simp [PyData.eqvAll, eqv_tl, ih]
theorem strOk_text {s : Str} (h : TextOk s) : PyData.strOk s = true := by
  unfold PyData.strOk
  rw [← Array.all_toList, List.all_eq_true]
  intro c hc
  have h2 : CharOk c := h.2 c hc
  unfold CharOk at h2
  exact decide_eq_true (by omega)
theorem optD_lay {c : Ch} (h : ChOk c) : PyData.canLay0 (optD c.txt) = true := by
  cases e : c.txt with
  | none => rfl
  | some s => exact strOk_text (h.txt s e)
theorem optD_depth (o : Option Str) : PyData.depth (optD o) = 0 := by
  cases o <;> simp [optD, PyData.depth]
theorem chD_lay {c : Ch} (h : ChOk c) : PyData.canLay0 (chD c) = true := by
  simp only [chD, PyData.canLay0, PyData.canLayAll0, optD_lay h, strOk_text h.key.text, Bool.and_true]
theorem tlD_lay {t : Tl} (h : TlOk t) : PyData.canLay0 (tlD t) = true := by
  simp only [tlD, PyData.canLay0, PyData.canLayAll0, chD_lay h.ch, Bool.and_true]
theorem chD_depth (c : Ch) : PyData.depth (chD c) ≤ 1 := by
  simp [chD, PyData.depth, PyData.depthAll, optD_depth]
theorem tlD_depth (t : Tl) : PyData.depth (tlD t) ≤ 2 := by
  have := chD_depth t.ch
  simp only [tlD, PyData.depth, PyData.depthAll]
  omega
theorem tlsD_lay : ∀ {ts : List Tl}, (∀ t ∈ ts, TlOk t) → PyData.canLayAll0 (ts.map tlD) = true
  | [], _ => by simp [PyData.canLayAll0]
  | t :: ts, h => by
    simp only [List.map_cons, PyData.canLayAll0, tlD_lay (h t List.mem_cons_self), tlsD_lay fun y hy => h y (List.mem_cons_of_mem _ hy), Bool.and_true]
theorem tlsD_depth : ∀ ts : List Tl, PyData.depthAll (ts.map tlD) ≤ 2
  | [] => by simp [PyData.depthAll]
  | t :: ts => by
    have h1 := tlsD_depth ts
    have h2 := tlD_depth t
    simp only [List.map_cons, PyData.depthAll]
    omega
theorem shaped_of {d : PyData} (h1 : PyData.canLay0 d = true) (h2 : PyData.depth d ≤ 64) : SeqAt.shaped d = true := Bool.and_eq_true_iff.mpr ⟨h1, decide_eq_true h2⟩
theorem shaped_ch {c : Ch} (h : ChOk c) : SeqAt.shaped (chD c) = true := shaped_of (chD_lay h) (by have := chD_depth c; omega)
theorem shaped_tl {t : Tl} (h : TlOk t) : SeqAt.shaped (tlD t) = true := shaped_of (tlD_lay h) (by have := tlD_depth t; omega)
theorem shaped_tls {ts : List Tl} (h : ∀ t ∈ ts, TlOk t) : SeqAt.shaped (.list (ts.map tlD)) = true :=
  shaped_of (by simp only [PyData.canLay0]; exact tlsD_lay h) (by have := tlsD_depth ts; simp only [PyData.depth]; omega)
/-- endings as data -/
def enD (e : Str × Nat) : PyData := .tuple [.str e.1, .int e.2]
def esD (es : List (Str × Nat)) : PyData := .tuple (es.map enD)
section
variable {K : PySem.W.Frag} {H : Hp}
theorem dp_en {v : V} {e : Str × Nat} (h : EnAt K H v e) : Dp K H v (enD e) := by
  obtain ⟨a, rfl, h1⟩ := h
  exact .tup h1 (.cons (.str _) (.cons (.int _) .nil))
theorem dp_ens : ∀ {vs : List V} {es : List (Str × Nat)}, Paired (EnAt K H) vs es → DpAll K H vs (es.map enD)
  | _, _, .nil => .nil
  | _, _, .cons h t => .cons (dp_en h) (dp_ens t)
theorem dp_es {a : Addr} {es : List (Str × Nat)} (h : EsAt K H a es) : Dp K H (.ref a) (esD es) := by
  obtain ⟨vs, h1, h2⟩ := h
  exact .tup h1 (dp_ens h2)
end
theorem enD_lay {e : Str × Nat} (h : EndOk e) : PyData.canLay0 (enD e) = true := by
  simp only [enD, PyData.canLay0, PyData.canLayAll0, strOk_text h.text, Bool.and_true]
theorem ensD_lay : ∀ {es : List (Str × Nat)}, (∀ e ∈ es, EndOk e) → PyData.canLayAll0 (es.map enD) = true
  | [], _ => by simp [PyData.canLayAll0]
  | e :: es, h => by
    simp only [List.map_cons, PyData.canLayAll0, enD_lay (h e List.mem_cons_self), ensD_lay fun y hy => h y (List.mem_cons_of_mem _ hy), Bool.and_true]
theorem ensD_depth : ∀ es : List (Str × Nat), PyData.depthAll (es.map enD) ≤ 1
  | [] => by simp [PyData.depthAll]
  | e :: es => by
    have h1 := ensD_depth es
    simp only [List.map_cons, PyData.depthAll, enD, PyData.depth]
    omega
theorem shaped_es {es : List (Str × Nat)} (h : EsOk es) : SeqAt.shaped (esD es) = true :=
  shaped_of (by simp only [esD, PyData.canLay0]; exact ensD_lay h.all) (by have := ensD_depth es; simp only [esD, PyData.depth]; omega)
theorem eqv_es (es : List (Str × Nat)) : PyData.eqv (esD es) (esD es) = true := by
  simp only [esD, PyData.eqv]
  induction es with
  | nil => simp [PyData.eqvAll]
  | cons e es ih => simp [PyData.eqvAll, enD, PyData.eqv, ih]
end Ts
namespace Ts
open PySem PySem.Spec PyProof.Rows L2
theorem vN_snoc {pre : List Nat} {n : Nat} {z : Int} (h : z = (n : Int)) : pre.map vN ++ [V.int z] = (pre ++ [n]).map vN := by
  subst h
  simp
theorem lt_line {n : Nat} (h : n ≤ 1000000) : n < sizeLine := Nat.lt_of_le_of_lt h (by decide)
/-! ### comprehensions: one turn, over a text, over a list -/
abbrev lcTurn (g : TG) (tt : TT) (te : TE) (vs : List Nat) (D : Addr) (Nx : Hp → Prop) (σ : L2.St) (x : V) (H : Hp) : Prop :=
  g x (wipe σ vs) H fun σ2 H2 => wipe σ2 vs = wipe σ vs ∧ tt σ2 H2 fun b H3 => if b = true then te σ2 H3 fun y H4 => ∃ acc, H4 D = some (.lst acc) ∧ acc.length < sizeLine ∧ Nx (upd H4 D (.lst (acc ++ [y]))) else Nx H3
theorem lc_str {z : Str} {g : TG} {tt : TT} {te : TE} {vs : List Nat} {σ : L2.St} {H1 : Hp} {D : Addr} {Qd : Hp → Prop} (Pv : Nat → Hp → Prop) (h0 : Pv 0 (upd H1 D (.lst [])))
    (hs : ∀ i c H, (codes z)[i]? = some c → Pv i H → lcTurn g tt te vs D (Pv (i + 1)) σ (.str ⟨#[c]⟩) H) (hd : ∀ H, Pv (codes z).length H → Qd H) :
    ∃ W : Nat → Nat → Hp → Prop, (∃ m, W 0 m (upd H1 D (.lst []))) ∧ ∀ i m H, W i m H →
      ((Its z).stop i H ∧ Qd H) ∨ ((Its z).go i H ∧ ∃ Nx : Hp → Prop, (∀ H', Nx H' → ∃ m', m' < m ∧ W (i + 1) m' H') ∧ ∀ x H', (Its z).yld i H x H' → lcTurn g tt te vs D Nx σ x H') := by
  have hz : (codes z).length = z.cps.size := by
    unfold codes
    simp
  refine ⟨fun i m H => m + i = (codes z).length ∧ Pv i H, ⟨(codes z).length, rfl, h0⟩, fun i m H ⟨em, p⟩ => ?_⟩
  by_cases lt : i < (codes z).length
  · refine .inr ⟨by show i < z.cps.size; omega, Pv (i + 1), fun H' p' => ⟨m - 1, by omega, by omega, p'⟩, fun x H' ⟨e, c, hc, ex⟩ => ?_⟩
    subst e ex
    refine hs i c _ ?_ p
    unfold codes
    rw [Array.getElem?_toList]
    exact hc
  · obtain rfl : i = (codes z).length := by omega
    exact .inl ⟨by show z.cps.size ≤ _; omega, hd H p⟩
/-- a dict comprehension over a list (keys texts or ints) -/
theorem dc_list {K : PySem.W.Frag} {a : Addr} {xs : List V} {g : TG} {tt : TT} {tk tv : TE} {vs : List Nat} {σ : L2.St} {H1 : Hp} {D : Addr} {Qd : Hp → Prop} (Pv : Nat → Hp → Prop) (h0 : Pv 0 (upd H1 D (.dK []))) (hl : ∀ i H, i ≤ xs.length → Pv i H → SqL K H a xs)
    (hs : ∀ i x H, xs[i]? = some x → Pv i H → g x (wipe σ vs) H fun σ2 H2 => wipe σ2 vs = wipe σ vs ∧ tt σ2 H2 fun b H3 =>
      if b = true then tk σ2 H3 fun y H4 => tv σ2 H4 fun z H5 => ∃ kvs k, y = kV k ∧ H5 D = some (.dK kvs) ∧ kvs.length < sizeLine ∧ Pv (i + 1) (upd H5 D (.dK (putK kvs k z))) else Pv (i + 1) H3) (hd : ∀ H, Pv xs.length H → Qd H) :
    ∃ W : Nat → Nat → Hp → Prop, (∃ m, W 0 m (upd H1 D (.dK []))) ∧ ∀ i m H, W i m H →
      ((Itl K a).stop i H ∧ Qd H) ∨ ((Itl K a).go i H ∧ ∃ Nx : Hp → Prop, (∀ H', Nx H' → ∃ m', m' < m ∧ W (i + 1) m' H') ∧ ∀ x H', (Itl K a).yld i H x H' → g x (wipe σ vs) H' fun σ2 H2 => wipe σ2 vs = wipe σ vs ∧ tt σ2 H2 fun b H3 =>
        if b = true then tk σ2 H3 fun y H4 => tv σ2 H4 fun z H5 => ∃ kvs k, y = kV k ∧ H5 D = some (.dK kvs) ∧ kvs.length < sizeLine ∧ Nx (upd H5 D (.dK (putK kvs k z))) else Nx H3) := by
  refine ⟨fun i m H => m + i = xs.length ∧ Pv i H, ⟨xs.length, rfl, h0⟩, fun i m H ⟨em, p⟩ => ?_⟩
  have q := hl i H (by omega) p
  by_cases lt : i < xs.length
  · refine .inr ⟨⟨xs, xs[i], q, List.getElem?_eq_getElem lt⟩, Pv (i + 1), fun H' p' => ⟨m - 1, by omega, by omega, p'⟩, fun x H' ⟨e, y⟩ => ?_⟩
    subst e
    exact hs i x _ (y xs q) p
  · obtain rfl : i = xs.length := by omega
    exact .inl ⟨⟨xs, q, Nat.le_refl _⟩, hd H p⟩
theorem ord_one (c : Nat) : ((⟨#[c]⟩ : Str).cps.getD 0 0) = c := rfl
theorem int_toInt (c : Nat) : V.int ((c : Nat) : Int) = vN c := rfl
section
variable {P : Program} {w : World} {K : PySem.W.Frag} {mg : Str → Option Value} {base : Heap}
abbrev s_number_bytes : Stmt := top 35
theorem sc_number_bytes : FnScope ["n", "found", "rest"] ["n"] (defScope s_number_bytes) := ⟨rfl, rfl, rfl, by decide +kernel, rfl, by decide +kernel, by decide +kernel⟩
def spNumB : Sp := fun vs H Q _ => ∃ n : Nat, vs = [vN n] ∧ n < 128 ^ 20 ∧ ∀ H' p, Same H H' → H p = none → H' p = some (.lst ((numB n).map vN)) → Q (.ref p) H'
theorem ok_number_bytes {f : Addr} {fd : FuncData} (F : Fun K "number_bytes" "number_bytes" s_number_bytes f fd) (T : Txt mg) : FnOk P w K mg base CX0 1 f fd ["n"] spNumB := by
  refine F.ok sc_number_bytes (fun vs H Q E h => ?_) (fun cdv A outer s H vs Q E hr h => ?_)
  · obtain ⟨n, rfl, _⟩ := h
    rfl
  · obtain ⟨n, rfl, hn, q⟩ := h
    refine ⟨_, (pss_cons (ps_set (i := 1) sc_number_bytes.nd rfl (Or.inl rfl) (pe_lst pa_nil))
      (pss_cons (ps_set (i := 2) sc_number_bytes.nd rfl (Or.inl rfl) (pv 0))
      (pss_cons (ps_while PassesOwn.never (pt_cmpR op_ge (pv 2) pe_int (nomark _)) (pss_cons (ps_expr (pe_bm PySem.F.plainAttrs_list PySem.F.slot_list_append PySem.F.type_list_append mt_append (pv 1) (pa_cons (pe_op op_add pe_int (pe_op op_mod (pv 2) pe_int)) pa_nil)))
        (pss_one (ps_set (i := 2) sc_number_bytes.nd rfl (Or.inl rfl) (pe_op op_fdiv (pv 2) pe_int)))))
      (pss_cons (ps_expr (pe_bm PySem.F.plainAttrs_list PySem.F.slot_list_append PySem.F.type_list_append mt_append (pv 1) (pa_cons (pv 2) pa_nil)))
      (pss_one (ps_ret (pv 1))))))), ?_⟩
    have hlen : (numB n).length ≤ 20 := numB_len 19 n hn
    refine ⟨Nat.zero_le _, fun l hl => ?_⟩
    refine ⟨_, rfl, fun m σ H' => ∃ r pre, σ = [some (vN n), some (.ref l), some (vN r)] ∧ Same H H' ∧ H' l = some (.lst (pre.map vN)) ∧ pre ++ numB r = numB n ∧ m = r, ⟨n, n, [], rfl, same1 hl, upd_same, rfl, rfl⟩, ?_⟩
    rintro m σ H' ⟨r, pre, rfl, s1, h1, e1, rfl⟩
    have hp : pre.length ≤ 20 := by
      rw [← e1, List.length_append] at hlen
      omega
    refine ⟨_, rfl, _, _, rfl, rfl, _, rfl, ?_⟩
    refine ite2 (fun hc => ?_) (fun hc => ?_)
    · have hc' : 128 ≤ m := by
        have := of_decide_eq_true hc
        omega
      refine ⟨_, fun _ _ z => z, ?_⟩
      refine ⟨_, rfl, .inl ⟨rfl, _, SqL.of h1⟩, _, rfl, _, _, rfl, rfl, (by show (0 : Int) < 128; decide), _, _, rfl, rfl, l, _, _, rfl, rfl, h1, lt_line (by rw [List.length_map]; omega), ?_⟩
      refine ⟨_, rfl, _, _, rfl, rfl, ⟨by decide, by decide⟩, ?_⟩
      refine ⟨m / 128, by omega, m / 128, pre ++ [128 + m % 128], ?_, same_mod s1 hl, ?_, ?_, rfl⟩
      · rfl
      · rw [upd_same, vN_snoc (n := 128 + m % 128) (by omega)]
      · rw [List.append_assoc, ← e1, numB_big (show ¬ m < 128 by omega)]
        rfl
    · have hc' : m < 128 := by
        have : ¬ (128 : Int) ≤ (m : Int) := fun z => hc (decide_eq_true z)
        omega
      refine ⟨_, rfl, .inl ⟨rfl, _, SqL.of h1⟩, _, rfl, l, _, _, rfl, rfl, h1, lt_line (by rw [List.length_map]; omega), ?_⟩
      refine ⟨_, rfl, ?_⟩
      refine q _ l (same_mod s1 hl) hl ?_
      rw [upd_same, vN_snoc (n := m) rfl, ← e1, numB_small hc']
/-! ### sum_of, text_bytes, record_of -/
abbrev s_sum_of : Stmt := top 31
theorem sc_sum_of : FnScope ["row", "modulus", "total", "n"] ["row", "modulus"] (defScope s_sum_of) := ⟨rfl, rfl, rfl, by decide +kernel, rfl, by decide +kernel, by decide +kernel⟩
def spSumOf (K : PySem.W.Frag) : Sp := fun vs H Q _ => ∃ (a : Addr) (bs : List Nat), vs = [.ref a, .int 65521] ∧ ByAt K H a bs ∧ Q (vN (sumB bs)) H
theorem ok_sum_of {f : Addr} {fd : FuncData} (F : Fun K "sum_of" "sum_of" s_sum_of f fd) (T : Txt mg) : FnOk P w K mg base CX0 1 f fd ["row", "modulus"] (spSumOf K) := by
  refine F.ok sc_sum_of (fun vs H Q E h => ?_) (fun cdv A outer s H vs Q E hr h => ?_)
  · obtain ⟨a, bs, rfl, _⟩ := h
    rfl
  · obtain ⟨a, bs, rfl, hS, q⟩ := h
    refine ⟨_, (pss_cons (ps_set (i := 2) sc_sum_of.nd rfl (Or.inl rfl) pe_int)
      (pss_cons (ps_for PassesOwn.never rfl (pi_list (pv 0)) (pg_name (i := 3) sc_sum_of.nd rfl (Or.inl rfl)) (pss_one (ps_set (i := 2) sc_sum_of.nd rfl (Or.inl rfl) (pe_op op_mod (pe_op op_add (pe_op op_add (pe_op op_mul pe_int (pv 2)) (pv 3)) pe_int) (pv 1)))))
      (pss_one (ps_ret (pv 2))))), ?_⟩
    refine ⟨_, rfl, a, rfl, ⟨_, hS⟩, for_list (K := K) (a := a) (xs := bs.map vN) (fun i σ H' => ∃ v, σ = [some (.ref a), some (.int 65521), some (vN ((bs.take i).foldl sumStep 7)), v] ∧ H' = H) ⟨none, rfl, rfl⟩ (fun i σ H' _ ⟨_, _, e⟩ => e ▸ hS) ?_ ?_⟩
    · rintro i y σ H' hi ⟨v, rfl, rfl⟩
      rw [List.getElem?_map] at hi
      obtain ⟨b, hb, rfl⟩ := Option.map_eq_some_iff.mp hi
      refine ⟨_, rfl, _, _, rfl, rfl, .inl ⟨by decide, by decide⟩, _, rfl, _, _, rfl, rfl, _, _, rfl, rfl, _, rfl, _, _, rfl, rfl, (by show (0 : Int) < 65521; decide), ?_⟩
      refine ⟨some (vN b), ?_, rfl⟩
      have e : (31 * (((bs.take i).foldl sumStep 7 : Nat) : Int) + (b : Int) + 1) % 65521 = (((bs.take (i + 1)).foldl sumStep 7 : Nat) : Int) := by
        rw [List.take_add_one, hb, List.foldl_append]
        show _ = ((sumStep ((bs.take i).foldl sumStep 7) b : Nat) : Int)
        unfold sumStep
        omega
      show [_, _, some (V.int ((31 * (((bs.take i).foldl sumStep 7 : Nat) : Int) + (b : Int) + 1) % 65521)), _] = [_, _, _, _]
      rw [e]
    · rintro σ H' ⟨v, rfl, rfl⟩
      refine ⟨_, rfl, ?_⟩
      rw [List.length_map, List.take_length]
      exact q
abbrev s_text_bytes : Stmt := top 36
theorem sc_text_bytes : FnScope ["text", "char"] ["text"] (defScope s_text_bytes) := ⟨rfl, rfl, rfl, by decide +kernel, rfl, by decide +kernel, by decide +kernel⟩
def spTextB : Sp := fun vs H Q _ => ∃ z : Str, vs = [.str z] ∧ z.length ≤ 1000 ∧ ∀ H' p, Same H H' → H p = none → H' p = some (.lst ((textB z).map vN)) → Q (.ref p) H'
theorem ok_text_bytes {f : Addr} {fd : FuncData} (F : Fun K "text_bytes" "text_bytes" s_text_bytes f fd) (T : Txt mg) (O_number_bytes : Own P w K mg base CX0 1 "number_bytes" ["n"] spNumB) : FnOk P w K mg base CX0 2 f fd ["text"] spTextB := by
  refine F.ok sc_text_bytes (fun vs H Q E h => ?_) (fun cdv A outer s H vs Q E hr h => ?_)
  · obtain ⟨z, rfl, _⟩ := h
    rfl
  · obtain ⟨z, rfl, hz, q⟩ := h
    refine ⟨_, (pss_one (ps_ret (pe_op op_cat (pe_own O_number_bytes hr (by decide) (by rfl) pass0 (pa_cons (pe_callB call_len_str (by rfl) T.f_len PySem.boot_len (pa_cons (pv 0) pa_nil)) pa_nil)) (pe_lc (own := [("char", 1)]) (g := gName 1) (tt := tYes) rfl sc_text_bytes.nd (pi_str (pv 0)) (blkOk_by (own := [("char", 1)]) (N := ["text", "char"]) (sc := defScope s_text_bytes) (by decide +kernel)) (fun _ _ _ _ _ => pg_name (i := 1) sc_text_bytes.nd rfl (Or.inl rfl)) (fun _ _ _ _ _ => pts_nil) (fun _ _ _ _ _ => (pe_callB call_ord (by rfl) T.f_ord (by decide +kernel) (pa_cons (pv 1) pa_nil))))))), ?_⟩
    have hc : (codes z).length ≤ 1000 := by
      rw [codes_len]
      exact hz
    refine ⟨_, rfl, z, rfl, Nat.le_trans hz (by decide), z.length, rfl, Nat.lt_of_le_of_lt hz (by decide), fun H1 p1 s1 n1 h1 => ?_⟩
    refine ⟨_, rfl, z, rfl, fun D hD => lc_str (fun i H2 => Same H1 H2 ∧ H2 D = some (.lst (((codes z).take i).map vN))) ⟨same1 hD, upd_same⟩ ?_ ?_⟩
    · rintro i c H2 hi ⟨s2, h2⟩
      refine ⟨rfl, ?_⟩
      refine ⟨_, rfl, ⟨#[c]⟩, rfl, rfl, ?_⟩
      refine ⟨_, h2, lt_line (by rw [List.length_map, List.length_take]; omega), same_mod s2 hD, ?_⟩
      rw [upd_same, List.take_add_one, hi]
      show some (HO.lst (_ ++ [V.int ((c : Nat) : Int)])) = _
      rw [vN_snoc (n := c) rfl]
      rfl
    · rintro H2 ⟨s2, h2⟩
      rw [List.take_length] at h2
      refine ⟨p1, D, _, _, rfl, rfl, s2 _ _ h1, h2, Nat.le_of_lt (lt_line ?_), fun p hp => ?_⟩
      · have := numB_le2 (n := z.length) (by omega)
        rw [List.length_map, List.length_map]
        omega
      · refine q _ p (same_add (s1.trans s2) hp) ((s1.trans s2).free hp) ?_
        rw [upd_same, ← List.map_append]
        rfl
abbrev s_record_of : Stmt := top 40
theorem sc_record_of : FnScope ["body"] ["body"] (defScope s_record_of) := ⟨rfl, rfl, rfl, by decide +kernel, rfl, by decide +kernel, by decide +kernel⟩
def spRecB (K : PySem.W.Frag) : Sp := fun vs H Q _ => ∃ (a : Addr) (bs : List Nat), vs = [.ref a] ∧ ByAt K H a bs ∧ bs.length ≤ 1000 ∧ ∀ H' p, Same H H' → H p = none → H' p = some (.lst ((recB bs).map vN)) → Q (.ref p) H'
theorem ok_record_of {f : Addr} {fd : FuncData} (F : Fun K "record_of" "record_of" s_record_of f fd) (T : Txt mg) (O_number_bytes : Own P w K mg base CX0 1 "number_bytes" ["n"] spNumB)
    (O_sum_of : Own P w K mg base CX0 1 "sum_of" ["row", "modulus"] (spSumOf K)) : FnOk P w K mg base CX0 2 f fd ["body"] (spRecB K) := by
  refine F.ok sc_record_of (fun vs H Q E h => ?_) (fun cdv A outer s H vs Q E hr h => ?_)
  · obtain ⟨a, bs, rfl, _⟩ := h
    rfl
  · obtain ⟨a, bs, rfl, hS, hz, q⟩ := h
    refine ⟨_, (pss_one (ps_ret (pe_op op_cat (pe_op op_cat (pe_own O_number_bytes hr (by decide) (by rfl) pass0 (pa_cons (pe_callB call_len_seq (by rfl) T.f_len PySem.boot_len (pa_cons (pv 0) pa_nil)) pa_nil)) (pe_callTy call_list_of (by rfl) T.f_list (by decide +kernel) (pa_cons (pv 0) pa_nil))) (pe_own O_number_bytes hr (by decide) (by rfl) pass0 (pa_cons (pe_own O_sum_of hr (by decide) (by rfl) pass0 (pa_cons (pv 0) (pa_cons (pe_gI (by rfl) T.g_MODULUS) pa_nil))) pa_nil))))), ?_⟩
    refine ⟨_, rfl, a, _, rfl, .inl hS, bs.length, (by rw [List.length_map]; rfl), Nat.lt_of_le_of_lt hz (by decide), fun H1 p1 s1 n1 h1 => ?_⟩
    refine ⟨_, rfl, a, _, rfl, .inl (s1.seq hS), fun p2 n2 => ?_⟩
    have s2 : Same H1 (upd H1 p2 (.lst (bs.map vN))) := same1 n2
    have l1 := numB_le2 (n := bs.length) (by omega)
    have l2 := numB_le3 (n := sumB bs) (by have := sumB_lt bs; omega)
    refine ⟨p1, p2, _, _, rfl, rfl, s2 _ _ h1, upd_same, Nat.le_of_lt (lt_line (by rw [List.length_map, List.length_map]; omega)), fun p3 n3 => ?_⟩
    have s3 := same_add s2 (o := .lst ((numB bs.length).map vN ++ bs.map vN)) n3
    refine ⟨_, rfl, a, bs, rfl, s3.seq (s1.seq hS), sumB bs, rfl, Nat.lt_trans (sumB_lt bs) (by decide), fun H4 p4 s4 n4 h4 => ?_⟩
    refine ⟨p3, p4, _, _, rfl, rfl, s4 _ _ upd_same, h4, Nat.le_of_lt (lt_line (by simp only [List.length_map, List.length_append]; omega)), fun p5 n5 => ?_⟩
    have s5 := s1.trans (s3.trans s4)
    refine q _ p5 (same_add s5 n5) (s5.free n5) ?_
    rw [upd_same, ← List.map_append, ← List.map_append]
    rfl
end
end Ts
namespace Ts
open PySem PySem.Spec PyProof.Rows L2
/-! ### a Copy, a Shelf in the heap -/
theorem n_oc : ¬ (("own" : Str) = "cuts") := by decide +kernel
theorem n_oa : ¬ (("own" : Str) = "all") := by decide +kernel
theorem n_ca : ¬ (("cuts" : Str) = "all") := by decide +kernel
theorem n_ec : ¬ (("_endings" : Str) = "_changes") := by decide +kernel
/-- a Copy's fields: its source, its endings, its list -/
def cf (s : Int) (e l : Addr) : List (Str × V) := putF "all" (.ref l) (putF "cuts" (.ref e) (putF "own" (.int s) []))
theorem cf_eq (s : Int) (e l : Addr) : cf s e l = ([("own", V.int s), ("cuts", V.ref e), ("all", V.ref l)] : List (Str × V)) := by
  unfold cf
  have e1 : putF "cuts" (V.ref e) (putF "own" (V.int s) []) = ([("own", V.int s), ("cuts", V.ref e)] : List (Str × V)) := by
    show (if ("own" : Str) = "cuts" then [(("own" : Str), V.ref e)] else (("own" : Str), V.int s) :: putF "cuts" (V.ref e) []) = _
    rw [if_neg n_oc]
    rfl
  rw [e1]
  show (if ("own" : Str) = "all" then (("own" : Str), V.ref l) :: [(("cuts" : Str), V.ref e)] else (("own" : Str), V.int s) :: (if ("cuts" : Str) = "all" then [(("cuts" : Str), V.ref l)] else (("cuts" : Str), V.ref e) :: putF "all" (V.ref l) [])) = _
  rw [if_neg n_oa, if_neg n_ca]
  rfl
theorem cf_own (s : Int) (e l : Addr) : (cf s e l).lookup ("own" : Str) = some (.int s) := by
  unfold cf
  rw [lookup_putF, if_neg n_oa, lookup_putF, if_neg n_oc, lookup_putF, if_pos rfl]
theorem cf_cuts (s : Int) (e l : Addr) : (cf s e l).lookup ("cuts" : Str) = some (.ref e) := by
  unfold cf
  rw [lookup_putF, if_neg n_ca, lookup_putF, if_pos rfl]
theorem cf_all (s : Int) (e l : Addr) : (cf s e l).lookup ("all" : Str) = some (.ref l) := by
  unfold cf
  rw [lookup_putF, if_pos rfl]
theorem cf_no (s : Int) (e l : Addr) {m : Str} (h1 : ¬ m = "all") (h2 : ¬ m = "cuts") (h3 : ¬ m = "own") : (cf s e l).lookup m = none := by
  unfold cf
  rw [lookup_putF, if_neg h1, lookup_putF, if_neg h2, lookup_putF, if_neg h3]
  rfl
theorem cf_put (s : Int) (e l m : Addr) : putF "all" (.ref m) (cf s e l) = cf s e m := by
  rw [cf_eq, cf_eq]
  show (if ("own" : Str) = "all" then _ else (("own" : Str), V.int s) :: (if ("cuts" : Str) = "all" then _ else (("cuts" : Str), V.ref e) :: (if ("all" : Str) = "all" then [(("all" : Str), V.ref m)] else _))) = _
  rw [if_neg n_oa, if_neg n_ca, if_pos rfl]
theorem cf_len (s : Int) (e l : Addr) : (cf s e l).length < 1000 := by
  rw [cf_eq]
  show 3 < 1000
  decide
/-- a Shelf's fields -/
def sf (e : V) (l : Addr) : List (Str × V) := putF "_changes" (.ref l) (putF "_endings" e [])
theorem sf_eq (e : V) (l : Addr) : sf e l = ([("_endings", e), ("_changes", V.ref l)] : List (Str × V)) := by
  show (if ("_endings" : Str) = "_changes" then [(("_endings" : Str), V.ref l)] else (("_endings" : Str), e) :: putF "_changes" (V.ref l) []) = _
  rw [if_neg n_ec]
  rfl
theorem sf_changes (e : V) (l : Addr) : (sf e l).lookup ("_changes" : Str) = some (.ref l) := by
  unfold sf
  rw [lookup_putF, if_pos rfl]
theorem sf_no (e : V) (l : Addr) {m : Str} (h1 : ¬ m = "_changes") (h2 : ¬ m = "_endings") : (sf e l).lookup m = none := by
  unfold sf
  rw [lookup_putF, if_neg h1, lookup_putF, if_neg h2]
  rfl
/-- the classes as the top has made them: Copy at C, Shelf at S -/
structure Cl (K : PySem.W.Frag) (C S : Addr) : Prop where
  cC : Cls K C
  cOwn : NoAttr K C "own"
  cCuts : NoAttr K C "cuts"
  cAll : NoAttr K C "all"
  sC : Cls K S
  sEnd : NoAttr K S "_endings"
  sChg : NoAttr K S "_changes"
section
variable (K : PySem.W.Frag) (C : Addr) (H : Hp)
/-- at p a Copy with source s, its endings es at e, its tellings ts in the list at l -/
structure CopyAt (p l e : Addr) (s : Nat) (es : List (Str × Nat)) (ts : List Tl) : Prop where
  ob : ∃ dx, H p = some (.ins C dx (cf s e l))
  es : EsAt K H e es
  ls : ∃ vs, H l = some (.lst vs) ∧ TlsAt K H vs ts
end
section
variable {K : PySem.W.Frag} {C : Addr} {H H' : Hp} {p l e : Addr} {s : Nat} {es : List (Str × Nat)} {ts : List Tl}
theorem CopyAt.same (sm : Same H H') (h : CopyAt K C H p l e s es ts) : CopyAt K C H' p l e s es ts := by
  obtain ⟨⟨dx, h1⟩, h2, vs, h3, h4⟩ := h
  exact ⟨⟨dx, sm _ _ h1⟩, h2.same sm, vs, sm _ _ h3, h4.same sm⟩
theorem CopyAt.ne (h : CopyAt K C H p l e s es ts) : p ≠ l := by
  obtain ⟨⟨dx, h1⟩, _, vs, h3, _⟩ := h
  exact ne_of h1 h3 (by intro z; cases z)
end
/-! ### an op_cat of two lists of bytes; an item of a tuple -/
theorem cat_by {H : Hp} {Q : VK} {as bs : List Nat} {p1 p2 : Addr} (h1 : H p1 = some (.lst (as.map vN))) (h2 : H p2 = some (.lst (bs.map vN))) (hz : as.length + bs.length ≤ 1000000)
    (k : ∀ H' p, Same H H' → H p = none → H' p = some (.lst ((as ++ bs).map vN)) → Q (.ref p) H') : rCat (.ref p1) (.ref p2) H Q :=
  ⟨p1, p2, _, _, rfl, rfl, h1, h2, Nat.le_of_lt (lt_line (by rw [List.length_map, List.length_map]; exact hz)), fun p hp => k _ p (same1 hp) hp (by rw [upd_same, List.map_append])⟩
theorem at0 {K : PySem.W.Frag} {H : Hp} {Q : VK} {a : Addr} {xs : List V} {i : Nat} {v : V} (h : SqT K H a xs) (e : xs[i]? = some v) (k : Q v H) : rIxT K (.ref a) (.int (i : Int)) H Q := ⟨a, xs, _, v, rfl, rfl, h, atI_nat e, k⟩
end Ts
namespace Ts
open PySem PySem.Spec PyProof.Rows L2
section
variable {P : Program} {w : World} {K : PySem.W.Frag} {mg : Str → Option Value} {base : Heap} {C S : Addr}
abbrev s_telling_bytes : Stmt := top 44
theorem sc_telling_bytes : FnScope ["telling", "change", "body"] ["telling"] (defScope s_telling_bytes) := ⟨rfl, rfl, rfl, by decide +kernel, rfl, by decide +kernel, by decide +kernel⟩
def spTellB (K : PySem.W.Frag) : Sp := fun vs H Q _ => ∃ (v : V) (t : Tl), vs = [v] ∧ TlAt K H v t ∧ TlOk t ∧ ∀ H' p, Same H H' → H p = none → H' p = some (.lst ((tellB t).map vN)) → Q (.ref p) H'
theorem ok_telling_bytes {f : Addr} {fd : FuncData} (F : Fun K "telling_bytes" "telling_bytes" s_telling_bytes f fd) (T : Txt mg) (O_number_bytes : Own P w K mg base CX0 1 "number_bytes" ["n"] spNumB)
    (O_text_bytes : Own P w K mg base CX0 2 "text_bytes" ["text"] spTextB) : FnOk P w K mg base CX0 3 f fd ["telling"] (spTellB K) := by
  refine F.ok sc_telling_bytes (fun vs H Q E h => ?_) (fun cdv A outer s H vs Q E hr h => ?_)
  · obtain ⟨v, t, rfl, _⟩ := h
    rfl
  · obtain ⟨v, t, rfl, ⟨a, b, rfl, hT, hC⟩, ok, q⟩ := h
    refine ⟨_, (pss_cons (ps_set (i := 1) sc_telling_bytes.nd rfl (Or.inl rfl) (pe_ix ix_tup (pv 0) pe_int (fun _ _ => rfl)))
      (pss_cons (ps_set (i := 2) sc_telling_bytes.nd rfl (Or.inl rfl) (pe_op op_cat (pe_op op_cat (pe_op op_cat (pe_own O_number_bytes hr (by decide) (by rfl) pass0 (pa_cons (pe_ix ix_tup (pv 0) pe_int (fun _ _ => rfl)) pa_nil)) (pe_own O_number_bytes hr (by decide) (by rfl) pass0 (pa_cons (pe_ix ix_tup (pv 0) pe_int (fun _ _ => rfl)) pa_nil))) (pe_own O_number_bytes hr (by decide) (by rfl) pass0 (pa_cons (pe_ix ix_tup (pv 1) pe_int (fun _ _ => rfl)) pa_nil))) (pe_own O_text_bytes hr (by decide) (by rfl) pass0 (pa_cons (pe_ix ix_tup (pv 1) pe_int (fun _ _ => rfl)) pa_nil))))
      (pss_cons (ps_if (pt_cmpR op_isN (pe_ix ix_tup (pv 1) pe_int (fun _ _ => rfl)) pe_non (nomark _)) (pss_one (ps_ret (pe_op op_cat (pv 2) (pe_lst (pa_cons pe_int pa_nil))))) pss_nil)
      (pss_one (ps_ret (pe_op op_cat (pe_op op_cat (pv 2) (pe_lst (pa_cons pe_int pa_nil))) (pe_own O_text_bytes hr (by decide) (by rfl) pass0 (pa_cons (pe_ix ix_tup (pv 1) pe_int (fun _ _ => rfl)) pa_nil)))))))), ?_⟩
    have b1 := numB_le2 (n := t.st) (by have := ok.st2; omega)
    have b2 := numB_le2 (n := t.src) (by have := ok.src2; omega)
    have b3 := numB_le2 (n := t.ch.time) (by have := ok.ch.time; omega)
    have b4 := textB_len ok.ch.key.text
    refine ⟨_, rfl, at0 (i := 2) hT rfl ?_⟩
    refine ⟨_, rfl, at0 (i := 0) hT rfl ⟨t.st, rfl, by have := ok.st2; omega, fun H1 p1 s1 n1 h1 => ?_⟩⟩
    refine ⟨_, rfl, at0 (i := 1) (same_tup s1 hT) rfl ⟨t.src, rfl, by have := ok.src2; omega, fun H2 p2 s2 n2 h2 => ?_⟩⟩
    refine cat_by (s2 _ _ h1) h2 (by omega) fun H3 p3 s3 n3 h3 => ?_
    have t3 := (s1.trans s2).trans s3
    refine ⟨_, rfl, at0 (i := 0) (same_tup t3 hC) rfl ⟨t.ch.time, rfl, by have := ok.ch.time; omega, fun H4 p4 s4 n4 h4 => ?_⟩⟩
    refine cat_by (s4 _ _ h3) h4 (by rw [List.length_append]; omega) fun H5 p5 s5 n5 h5 => ?_
    have t5 := (t3.trans s4).trans s5
    refine ⟨_, rfl, at0 (i := 1) (same_tup t5 hC) rfl ⟨t.ch.key, rfl, Nat.le_trans ok.ch.key.text.1 (by decide), fun H6 p6 s6 n6 h6 => ?_⟩⟩
    refine cat_by (s6 _ _ h5) h6 (by simp only [List.length_append]; omega) fun H7 p7 s7 n7 h7 => ?_
    have t7 := (t5.trans s6).trans s7
    have hC7 : ChAt K H7 b t.ch := same_tup t7 hC
    have b7 : (((numB t.st ++ numB t.src) ++ numB t.ch.time) ++ textB t.ch.key).length ≤ 200 := by
      simp only [List.length_append]
      omega
    refine ⟨_, rfl, b, _, _, _, rfl, rfl, hC7, rfl, rfl, _, rfl, ?_⟩
    cases e : t.ch.txt with
    | none =>
      refine iteT ?_
      refine ⟨_, rfl, by show 1 ≤ sizeLine; decide, fun p8 n8 => ?_⟩
      have t8 : Same H7 (upd H7 p8 (.lst [V.int 0])) := same1 n8
      refine cat_by (bs := [0]) (t8 _ _ h7) upd_same (by simp only [List.length_singleton]; omega) fun H9 p9 s9 n9 h9 => ?_
      refine q _ p9 ((t7.trans t8).trans s9) ((t7.trans t8).free n9) ?_
      rw [h9]
      unfold tellB txtB
      rw [e, numB_small (show 0 < 128 by decide)]
      simp only [List.append_assoc]
    | some z =>
      have hz := ok.ch.txt z e
      have b8 := textB_len hz
      refine iteF ?_
      refine ⟨_, rfl, by show 1 ≤ sizeLine; decide, fun p8 n8 => ?_⟩
      have t8 : Same H7 (upd H7 p8 (.lst [V.int 1])) := same1 n8
      refine cat_by (bs := [1]) (t8 _ _ h7) upd_same (by simp only [List.length_singleton]; omega) fun H9 p9 s9 n9 h9 => ?_
      have t9 := (t7.trans t8).trans s9
      have hC8 : SqT K H7 b [vN t.ch.time, .str t.ch.key, .str z] := by
        have g : SqT K H7 b [vN t.ch.time, .str t.ch.key, optV t.ch.txt] := hC7
        rw [e] at g
        exact g
      refine ⟨_, rfl, b, _, _, _, rfl, rfl, same_tup (t8.trans s9) hC8, rfl, z, rfl, Nat.le_trans hz.1 (by decide), fun H10 p10 s10 n10 h10 => ?_⟩
      refine cat_by (s10 _ _ h9) h10 (by rw [List.length_append, List.length_singleton]; omega) fun H11 p11 s11 n11 h11 => ?_
      have t10 := t9.trans s10
      refine q _ p11 (t10.trans s11) (t10.free n11) ?_
      rw [h11]
      unfold tellB txtB
      rw [e, numB_small (show 1 < 128 by decide)]
      simp only [List.append_assoc]
/-! ### file_of -/
abbrev s_Copy_endings : Stmt := inClass (top 29) 2
theorem sc_Copy_endings : FnScope ["self"] ["self"] (defScope s_Copy_endings) := ⟨rfl, rfl, rfl, by decide +kernel, rfl, by decide +kernel, by decide +kernel⟩
def spCopyEndings (K : PySem.W.Frag) (C : Addr) : Sp := fun vs H Q _ => ∃ (p l e : Addr) (s : Nat) (es : List (Str × Nat)) (ts : List Tl), vs = [.ref p] ∧ CopyAt K C H p l e s es ts ∧ Q (.ref e) H
theorem ok_Copy_endings {f : Addr} {fd : FuncData} (F : Fun K "endings" "Copy.endings" s_Copy_endings f fd) (L : Cl K C S) : FnOk P w K mg base CX0 1 f fd ["self"] (spCopyEndings K C) := by
  refine F.ok sc_Copy_endings (fun vs H Q E h => ?_) (fun cdv A outer s H vs Q E hr h => ?_)
  · obtain ⟨p, l, e, s, es, ts, rfl, _⟩ := h
    rfl
  · obtain ⟨p, l, e, s, es, ts, rfl, ⟨⟨dx, h1⟩, _, _⟩, q⟩ := h
    exact ⟨_, pss_one (ps_ret (pe_fld (pv 0) rfl)), _, rfl, p, C, dx, _, _, rfl, h1, L.cC, L.cCuts, cf_cuts _ _ _, q⟩
abbrev s_Copy_held : Stmt := inClass (top 29) 4
theorem sc_Copy_held : FnScope ["self"] ["self"] (defScope s_Copy_held) := ⟨rfl, rfl, rfl, by decide +kernel, rfl, by decide +kernel, by decide +kernel⟩
def spCopyHeld (K : PySem.W.Frag) (C : Addr) : Sp := fun vs H Q _ => ∃ (p l e : Addr) (s : Nat) (es : List (Str × Nat)) (ts : List Tl), vs = [.ref p] ∧ CopyAt K C H p l e s es ts ∧
  ∀ H' q us, Same H H' → H q = none → H' q = some (.lst us) → TlsAt K H' us ts → Q (.ref q) H'
theorem ok_Copy_held {f : Addr} {fd : FuncData} (F : Fun K "held" "Copy.held" s_Copy_held f fd) (T : Txt mg) (L : Cl K C S) : FnOk P w K mg base CX0 1 f fd ["self"] (spCopyHeld K C) := by
  refine F.ok sc_Copy_held (fun vs H Q E h => ?_) (fun cdv A outer s H vs Q E hr h => ?_)
  · obtain ⟨p, l, e, s, es, ts, rfl, _⟩ := h
    rfl
  · obtain ⟨p, l, e, s, es, ts, rfl, ⟨⟨dx, h1⟩, _, us, h3, h4⟩, q⟩ := h
    exact ⟨_, pss_one (ps_ret (pe_callTy call_list_of (by rfl) T.f_list (by decide +kernel) (pa_cons (pe_fld (pv 0) rfl) pa_nil))), _, rfl, p, C, dx, _, _, rfl, h1, L.cC, L.cAll, cf_all _ _ _, l, _, rfl, .inl (SqL.of h3), fun r hr =>
      q _ r us (same1 hr) hr upd_same (h4.same (same1 hr))⟩
abbrev s_file_of : Stmt := top 45
theorem sc_file_of : FnScope ["copy", "endings", "body", "ending", "least", "found", "telling"] ["copy"] (defScope s_file_of) := ⟨rfl, rfl, rfl, by decide +kernel, rfl, by decide +kernel, by decide +kernel⟩
def spFileOf (K : PySem.W.Frag) (C : Addr) : Sp := fun vs H Q _ => ∃ (p l e : Addr) (s : Nat) (es : List (Str × Nat)) (ts : List Tl), vs = [.ref p] ∧ CopyAt K C H p l e s es ts ∧ EsOk es ∧ (∀ t ∈ ts, TlOk t) ∧ ts.length ≤ 100 ∧
  ∀ H' q, Same H H' → H q = none → H' q = some (.lst ((cat (bodies es ts)).map vN)) → Q (.ref q) H'
theorem ok_file_of {f : Addr} {fd : FuncData} (F : Fun K "file_of" "file_of" s_file_of f fd) (T : Txt mg) (O_number_bytes : Own P w K mg base CX0 1 "number_bytes" ["n"] spNumB)
    (O_text_bytes : Own P w K mg base CX0 2 "text_bytes" ["text"] spTextB) (O_record_of : Own P w K mg base CX0 2 "record_of" ["body"] (spRecB K)) (O_telling_bytes : Own P w K mg base CX0 3 "telling_bytes" ["telling"] (spTellB K))
    (O_Copy_endings : OwnM P w K mg base CX0 C 1 "endings" ["self"] (spCopyEndings K C)) (O_Copy_held : OwnM P w K mg base CX0 C 1 "held" ["self"] (spCopyHeld K C)) : FnOk P w K mg base CX0 4 f fd ["copy"] (spFileOf K C) := by
  refine F.ok sc_file_of (fun vs H Q E h => ?_) (fun cdv A outer s H vs Q E hr h => ?_)
  · obtain ⟨p, l, e, s, es, ts, rfl, _⟩ := h
    rfl
  · obtain ⟨p, l, e, s, es, ts, rfl, hK, he, ht, hz, q⟩ := h
    refine ⟨_, (pss_cons (ps_set (i := 1) sc_file_of.nd rfl (Or.inl rfl) (pe_ownM0 O_Copy_endings hr (by decide) pass0 (pv 0)))
      (pss_cons (ps_set (i := 2) sc_file_of.nd rfl (Or.inl rfl) (pe_own O_number_bytes hr (by decide) (by rfl) pass0 (pa_cons (pe_callB call_len_seq (by rfl) T.f_len PySem.boot_len (pa_cons (pv 1) pa_nil)) pa_nil)))
      (pss_cons (ps_for PassesOwn.never rfl (pi_tup (pv 1)) (pg_tup rfl (pgs_cons (pg_name (i := 3) sc_file_of.nd rfl (Or.inl rfl)) (pgs_cons (pg_name (i := 4) sc_file_of.nd rfl (Or.inl rfl)) pgs_nil))) (pss_one (ps_set (i := 2) sc_file_of.nd rfl (Or.inl rfl) (pe_op op_cat (pe_op op_cat (pv 2) (pe_own O_text_bytes hr (by decide) (by rfl) pass0 (pa_cons (pv 3) pa_nil))) (pe_own O_number_bytes hr (by decide) (by rfl) pass0 (pa_cons (pv 4) pa_nil))))))
      (pss_cons (ps_set (i := 5) sc_file_of.nd rfl (Or.inl rfl) (pe_own O_record_of hr (by decide) (by rfl) pass0 (pa_cons (pv 2) pa_nil)))
      (pss_cons (ps_for PassesOwn.never rfl (pi_list (pe_ownM0 O_Copy_held hr (by decide) pass0 (pv 0))) (pg_name (i := 6) sc_file_of.nd rfl (Or.inl rfl)) (pss_one (ps_set (i := 5) sc_file_of.nd rfl (Or.inl rfl) (pe_op op_cat (pv 5) (pe_own O_record_of hr (by decide) (by rfl) pass0 (pa_cons (pe_own O_telling_bytes hr (by decide) (by rfl) pass0 (pa_cons (pv 6) pa_nil)) pa_nil))))))
      (pss_one (ps_ret (pv 5)))))))), ?_⟩
    have no : ∀ {m : Str}, ¬ m = "all" → ¬ m = "cuts" → ¬ m = "own" → (cf s e l).lookup m = none := fun {m} => cf_no _ _ _
    obtain ⟨dx, h1⟩ := hK.ob
    obtain ⟨ue, hue, hpe⟩ := hK.es
    have hle : ue.length = es.length := Paired.length hpe
    -- endings = copy.endings(); body = number_bytes(len(endings))
    refine ⟨_, rfl, p, dx, _, rfl, h1, no (by decide +kernel) (by decide +kernel) (by decide +kernel), p, l, e, s, es, ts, rfl, hK, ?_⟩
    refine ⟨_, rfl, e, ue, rfl, .inr hue, es.length, by rw [hle]; rfl, by have := he.len; omega, fun H1 p1 s1 n1 g1 => ?_⟩
    have be := endsB_len he
    -- for ending, least in endings
    refine ⟨_, rfl, e, rfl, ⟨_, same_tup s1 hue⟩, for_tup (K := K) (a := e) (xs := ue) (fun i σ H' => ∃ r v3 v4, σ = [some (.ref p), some (.ref e), some (.ref r), v3, v4, none, none] ∧ Same H H' ∧ H' r = some (.lst ((numB es.length ++ (es.take i).flatMap endB).map vN)))
      ⟨p1, none, none, rfl, s1, by rw [g1, List.take_zero, List.flatMap_nil, List.append_nil]⟩ (fun i σ H' _ ⟨_, _, _, _, s2, _⟩ => same_tup s2 hue) ?_ ?_⟩
    · rintro i x σ H' hi ⟨r, v3, v4, rfl, s2, g2⟩
      obtain ⟨en, hen, a, rfl, hA⟩ := paired_get hpe hi
      have okE := he.all en (List.mem_of_getElem? hen)
      have b1 := textB_len okE.text
      have b2 : (numB en.2).length ≤ 2 := numB_le2 (by rcases okE with z | z <;> rw [z] <;> decide)
      have b3 : (numB es.length ++ (es.take i).flatMap endB).length ≤ 1000 := by
        have z := flat_len (f := endB) (n := 104) (l := es.take i) fun e hm => endB_len (he.all e (List.mem_of_mem_take hm))
        have z2 := numB_le2 (n := es.length) (by have := he.len; omega)
        have z3 := he.len
        rw [List.length_append]
        rw [List.length_take] at z
        omega
      refine ⟨a, _, rfl, same_tup s2 hA, rfl, _, _, rfl, _, _, rfl, rfl, ?_⟩
      refine ⟨_, rfl, _, rfl, en.1, rfl, Nat.le_trans okE.text.1 (by decide), fun H3 p3 s3 n3 g3 => ?_⟩
      refine cat_by (s3 _ _ g2) g3 (by omega) fun H4 p4 s4 n4 g4 => ?_
      refine ⟨_, rfl, en.2, rfl, by rcases okE with z | z <;> rw [z] <;> decide, fun H5 p5 s5 n5 g5 => ?_⟩
      refine cat_by (s5 _ _ g4) g5 (by rw [List.length_append]; omega) fun H6 p6 s6 n6 g6 => ?_
      refine ⟨p6, _, _, rfl, (((s2.trans s3).trans s4).trans s5).trans s6, ?_⟩
      rw [g6, List.take_add_one, hen, List.flatMap_append]
      simp only [List.append_assoc, Option.toList_some, List.flatMap_cons, List.flatMap_nil, List.append_nil, endB]
    · rintro σ H' ⟨r, v3, v4, rfl, s2, g2⟩
      rw [hle, List.take_length] at g2
      -- found = record_of(body)
      refine ⟨_, rfl, r, endsB es, rfl, .inl (.inl g2), Nat.le_trans be (by decide), fun H3 p3 s3 n3 g3 => ?_⟩
      have s3' := s2.trans s3
      obtain ⟨dx3, h13⟩ := (hK.same s3').ob
      -- for telling in copy.held()
      refine ⟨_, rfl, p, dx3, _, rfl, h13, no (by decide +kernel) (by decide +kernel) (by decide +kernel), p, l, e, s, es, ts, rfl, hK.same s3', fun H4 r4 us s4 n4 g4 hus => ?_⟩
      have hlu : us.length = ts.length := Paired.length hus
      have bd := bodies_ok he ht
      refine ⟨r4, rfl, ⟨_, .inl (.inl g4)⟩, for_list (K := K) (a := r4) (xs := us) (fun i σ H' => ∃ r5 v6, σ = [some (.ref p), some (.ref e), some (.ref r), v3, v4, some (.ref r5), v6] ∧ Same H4 H' ∧ H r5 = none ∧ H' r5 = some (.lst ((cat (bodies es (ts.take i))).map vN)))
        ⟨p3, none, rfl, Same.refl _, s2.free n3, by rw [s4 _ _ g3, List.take_zero]; simp [bodies, cat]⟩ (fun i σ H' _ ⟨_, _, _, s5, _⟩ => .inl (.inl (s5 _ _ g4))) ?_ ?_⟩
      · rintro i x σ H' hi ⟨r5, v6, rfl, s5, _, g5⟩
        obtain ⟨t, htm, hA⟩ := paired_get hus hi
        have okT := ht t (List.mem_of_getElem? htm)
        have b1 := tellB_len okT
        have b2 := recB_len_le (b := tellB t) (by omega)
        have b3 : (cat (bodies es (ts.take i))).length ≤ 305 * 102 := by
          have z := cat_len (bs := bodies es (ts.take i)) fun l hl => (bodies_ok he (fun t hm => ht t (List.mem_of_mem_take hm)) l hl).1
          have z2 : (bodies es (ts.take i)).length ≤ 102 := by
            unfold bodies
            rw [List.length_cons, List.length_map, List.length_take]
            omega
          exact Nat.le_trans z (Nat.mul_le_mul_left 305 z2)
        refine ⟨_, rfl, _, rfl, _, t, rfl, hA.same s5, okT, fun H6 p6 s6 n6 g6 => ?_⟩
        refine ⟨p6, tellB t, rfl, .inl (.inl g6), by omega, fun H7 p7 s7 n7 g7 => ?_⟩
        refine cat_by (s7 _ _ (s6 _ _ g5)) g7 (by omega) fun H8 p8 s8 n8 g8 => ?_
        refine ⟨p8, _, rfl, ((s5.trans s6).trans s7).trans s8, (s3'.trans s4).free (((s5.trans s6).trans s7).free n8), ?_⟩
        rw [g8, List.take_add_one, htm]
        simp [bodies, cat]
      · rintro σ H' ⟨r5, v6, rfl, s5, n5, g5⟩
        rw [hlu, List.take_length] at g5
        exact ⟨_, rfl, q H' r5 ((s3'.trans s4).trans s5) n5 g5⟩
end
end Ts
namespace Ts
open PySem PySem.Spec PyProof.Rows L2
section
variable {P : Program} {w : World} {K : PySem.W.Frag} {mg : Str → Option Value} {base : Heap} {C S : Addr}
/-! ### the law's own numbers, sums, records -/
abbrev s__law_number : Stmt := top 62
theorem sc__law_number : FnScope ["_law_n", "_law_data", "_law_turn"] ["_law_n"] (defScope s__law_number) := ⟨rfl, rfl, rfl, by decide +kernel, rfl, by decide +kernel, by decide +kernel⟩
theorem ok__law_number {f : Addr} {fd : FuncData} (F : Fun K "_law_number" "_law_number" s__law_number f fd) (T : Txt mg) : FnOk P w K mg base CX0 1 f fd ["_law_n"] spNumB := by
  refine F.ok sc__law_number (fun vs H Q E h => ?_) (fun cdv A outer s H vs Q E hr h => ?_)
  · obtain ⟨n, rfl, _⟩ := h
    rfl
  · obtain ⟨n, rfl, hn, q⟩ := h
    refine ⟨_, (pss_cons (ps_set (i := 1) sc__law_number.nd rfl (Or.inl rfl) (pe_lst pa_nil))
      (pss_cons (ps_for PassesOwn.never rfl (pi_range1 rfl T.f_range (pa_cons pe_int pa_nil)) (pg_name (i := 2) sc__law_number.nd rfl (Or.inl rfl)) (pss_one (ps_if (pt_cmpR op_ge (pv 0) pe_int (nomark _)) (pss_cons (ps_expr (pe_bm PySem.F.plainAttrs_list PySem.F.slot_list_append PySem.F.type_list_append mt_append (pv 1) (pa_cons (pe_op op_add (pe_op op_mod (pe_callTy call_int1 (by rfl) T.f_int (by decide +kernel) (pa_cons (pv 0) pa_nil)) pe_int) pe_int) pa_nil)))
          (pss_one (ps_set (i := 0) sc__law_number.nd rfl (Or.inl rfl) (pe_op op_fdiv (pv 0) pe_int)))) pss_nil)))
      (pss_cons (ps_expr (pe_bm PySem.F.plainAttrs_list PySem.F.slot_list_append PySem.F.type_list_append mt_append (pv 1) (pa_cons (pv 0) pa_nil)))
      (pss_one (ps_ret (pv 1)))))), ?_⟩
    have hlen : (numB n).length ≤ 20 := numB_len 19 n hn
    refine ⟨Nat.zero_le _, fun l hl => ?_⟩
    refine ⟨20, rfl, by decide, by decide, for_range (n := 20) (fun i σ H' => ∃ r pre v, σ = [some (vN r), some (.ref l), v] ∧ Same H H' ∧ H' l = some (.lst (pre.map vN)) ∧ pre ++ numB r = numB n ∧ (r < 128 ∨ r < 128 ^ (20 - i)))
      ⟨n, [], none, rfl, same1 hl, upd_same, rfl, .inr hn⟩ ?_ ?_⟩
    · rintro i σ H' hi ⟨r, pre, v, rfl, s1, h1, e1, hr1⟩
      have hp : pre.length ≤ 20 := by
        rw [← e1, List.length_append] at hlen
        omega
      refine ⟨_, rfl, _, _, rfl, rfl, _, rfl, ?_⟩
      refine ite2 (fun hc => ?_) (fun hc => ?_)
      · have hc' : 128 ≤ r := by
          have := of_decide_eq_true hc
          omega
        have hr2 : r / 128 < 128 ^ (20 - (i + 1)) := by
          rcases hr1 with z | z
          · omega
          · have e : 20 - i = (20 - (i + 1)) + 1 := by omega
            rw [e, Nat.pow_succ] at z
            omega
        refine ⟨_, rfl, .inl ⟨rfl, _, SqL.of h1⟩, _, rfl, .inl ⟨_, rfl, _, _, rfl, rfl, (by show (0 : Int) < 128; decide), _, _, rfl, rfl, l, _, _, rfl, rfl, h1, lt_line (by rw [List.length_map]; omega), ?_⟩⟩
        refine ⟨_, rfl, _, _, rfl, rfl, ⟨by decide, by decide⟩, ?_⟩
        refine ⟨r / 128, pre ++ [r % 128 + 128], _, rfl, same_mod s1 hl, ?_, ?_, .inr hr2⟩
        · rw [upd_same, vN_snoc (n := r % 128 + 128) (by omega)]
        · rw [List.append_assoc, ← e1, numB_big (show ¬ r < 128 by omega), Nat.add_comm (r % 128) 128]
          rfl
      · have hc' : r < 128 := by
          have : ¬ (128 : Int) ≤ (r : Int) := fun z => hc (decide_eq_true z)
          omega
        exact ⟨r, pre, _, rfl, s1, h1, e1, .inl hc'⟩
    · rintro σ H' ⟨r, pre, v, rfl, s1, h1, e1, hr1⟩
      have hc' : r < 128 := by
        rcases hr1 with z | z
        · exact z
        · simp at z
          omega
      have hp : pre.length ≤ 20 := by
        rw [← e1, List.length_append] at hlen
        omega
      refine ⟨_, rfl, .inl ⟨rfl, _, SqL.of h1⟩, _, rfl, l, _, _, rfl, rfl, h1, lt_line (by rw [List.length_map]; omega), ?_⟩
      refine ⟨_, rfl, ?_⟩
      refine q _ l (same_mod s1 hl) hl ?_
      rw [upd_same, vN_snoc (n := r) rfl, ← e1, numB_small hc']
abbrev s__law_check : Stmt := top 63
theorem sc__law_check : FnScope ["_law_data", "_law_total", "_law_byte"] ["_law_data"] (defScope s__law_check) := ⟨rfl, rfl, rfl, by decide +kernel, rfl, by decide +kernel, by decide +kernel⟩
def spCheck (K : PySem.W.Frag) : Sp := fun vs H Q _ => ∃ (a : Addr) (bs : List Nat), vs = [.ref a] ∧ ByAt K H a bs ∧ Q (vN (sumB bs)) H
theorem ok__law_check {f : Addr} {fd : FuncData} (F : Fun K "_law_check" "_law_check" s__law_check f fd) (T : Txt mg) : FnOk P w K mg base CX0 1 f fd ["_law_data"] (spCheck K) := by
  refine F.ok sc__law_check (fun vs H Q E h => ?_) (fun cdv A outer s H vs Q E hr h => ?_)
  · obtain ⟨a, bs, rfl, _⟩ := h
    rfl
  · obtain ⟨a, bs, rfl, hS, q⟩ := h
    refine ⟨_, (pss_cons (ps_set (i := 1) sc__law_check.nd rfl (Or.inl rfl) pe_int)
      (pss_cons (ps_for PassesOwn.never rfl (pi_list (pv 0)) (pg_name (i := 2) sc__law_check.nd rfl (Or.inl rfl)) (pss_one (ps_set (i := 1) sc__law_check.nd rfl (Or.inl rfl) (pe_op op_mod (pe_callTy call_int1 (by rfl) T.f_int (by decide +kernel) (pa_cons (pe_op op_add (pe_op op_add (pe_op op_mul pe_int (pv 1)) (pv 2)) pe_int) pa_nil)) pe_int))))
      (pss_one (ps_ret (pv 1))))), ?_⟩
    refine ⟨_, rfl, a, rfl, ⟨_, hS⟩, for_list (K := K) (a := a) (xs := bs.map vN) (fun i σ H' => ∃ v, σ = [some (.ref a), some (vN ((bs.take i).foldl sumStep 7)), v] ∧ H' = H) ⟨none, rfl, rfl⟩ (fun i σ H' _ ⟨_, _, e⟩ => e ▸ hS) ?_ ?_⟩
    · rintro i y σ H' hi ⟨v, rfl, rfl⟩
      rw [List.getElem?_map] at hi
      obtain ⟨b, hb, rfl⟩ := Option.map_eq_some_iff.mp hi
      refine ⟨_, rfl, _, _, rfl, rfl, .inl ⟨by decide, by decide⟩, _, rfl, _, _, rfl, rfl, _, _, rfl, rfl, .inl ⟨_, rfl, _, _, rfl, rfl, (by show (0 : Int) < 65521; decide), ?_⟩⟩
      refine ⟨some (vN b), ?_, rfl⟩
      have e : (31 * (((bs.take i).foldl sumStep 7 : Nat) : Int) + (b : Int) + 1) % 65521 = (((bs.take (i + 1)).foldl sumStep 7 : Nat) : Int) := by
        rw [List.take_add_one, hb, List.foldl_append]
        show _ = ((sumStep ((bs.take i).foldl sumStep 7) b : Nat) : Int)
        unfold sumStep
        omega
      show [_, some (V.int ((31 * (((bs.take i).foldl sumStep 7 : Nat) : Int) + (b : Int) + 1) % 65521)), _] = [_, _, _]
      rw [e]
    · rintro σ H' ⟨v, rfl, rfl⟩
      refine ⟨_, rfl, ?_⟩
      rw [List.length_map, List.take_length]
      exact q
abbrev s__law_record : Stmt := top 64
theorem sc__law_record : FnScope ["_law_body"] ["_law_body"] (defScope s__law_record) := ⟨rfl, rfl, rfl, by decide +kernel, rfl, by decide +kernel, by decide +kernel⟩
/-- the same for a list of the call's own -/
def spRecL (K : PySem.W.Frag) : Sp := fun vs H Q _ => ∃ (a : Addr) (bs : List Nat), vs = [.ref a] ∧ H a = some (.lst (bs.map vN)) ∧ bs.length ≤ 1000 ∧ ∀ H' p, Same H H' → H p = none → H' p = some (.lst ((recB bs).map vN)) → Q (.ref p) H'
theorem ok__law_record {f : Addr} {fd : FuncData} (F : Fun K "_law_record" "_law_record" s__law_record f fd) (T : Txt mg) (O__law_number : Own P w K mg base CX0 1 "_law_number" ["_law_n"] spNumB)
    (O__law_check : Own P w K mg base CX0 1 "_law_check" ["_law_data"] (spCheck K)) : FnOk P w K mg base CX0 2 f fd ["_law_body"] (spRecL K) := by
  refine F.ok sc__law_record (fun vs H Q E h => ?_) (fun cdv A outer s H vs Q E hr h => ?_)
  · obtain ⟨a, bs, rfl, _⟩ := h
    rfl
  · obtain ⟨a, bs, rfl, hS, hz, q⟩ := h
    refine ⟨_, (pss_one (ps_ret (pe_op op_cat (pe_op op_cat (pe_own O__law_number hr (by decide) (by rfl) pass0 (pa_cons (pe_callB call_len_seq (by rfl) T.f_len PySem.boot_len (pa_cons (pv 0) pa_nil)) pa_nil)) (pv 0)) (pe_own O__law_number hr (by decide) (by rfl) pass0 (pa_cons (pe_own O__law_check hr (by decide) (by rfl) pass0 (pa_cons (pv 0) pa_nil)) pa_nil))))), ?_⟩
    have l1 := numB_le2 (n := bs.length) (by omega)
    have l2 := numB_le3 (n := sumB bs) (by have := sumB_lt bs; omega)
    refine ⟨_, rfl, a, _, rfl, .inl (.inl (.inl hS)), bs.length, (by rw [List.length_map]; rfl), Nat.lt_of_le_of_lt hz (by decide), fun H1 p1 s1 n1 h1 => ?_⟩
    refine ⟨_, rfl, cat_by h1 (s1 _ _ hS) (by omega) fun H3 p3 s3 n3 h3 => ?_⟩
    have t3 := s1.trans s3
    refine ⟨_, rfl, a, bs, rfl, .inl (.inl (t3 _ _ hS)), sumB bs, rfl, Nat.lt_trans (sumB_lt bs) (by decide), fun H4 p4 s4 n4 h4 => ?_⟩
    refine cat_by (s4 _ _ h3) h4 (by rw [List.length_append]; omega) fun H5 p5 s5 n5 h5 => ?_
    have t4 := t3.trans s4
    exact q _ p5 (t4.trans s5) (t4.free n5) h5
abbrev s__law_string_bytes : Stmt := top 65
theorem sc__law_string_bytes : FnScope ["_law_text_here", "_law_char"] ["_law_text_here"] (defScope s__law_string_bytes) := ⟨rfl, rfl, rfl, by decide +kernel, rfl, by decide +kernel, by decide +kernel⟩
theorem ok__law_string_bytes {f : Addr} {fd : FuncData} (F : Fun K "_law_string_bytes" "_law_string_bytes" s__law_string_bytes f fd) (T : Txt mg) (O__law_number : Own P w K mg base CX0 1 "_law_number" ["_law_n"] spNumB) : FnOk P w K mg base CX0 2 f fd ["_law_text_here"] spTextB := by
  refine F.ok sc__law_string_bytes (fun vs H Q E h => ?_) (fun cdv A outer s H vs Q E hr h => ?_)
  · obtain ⟨z, rfl, _⟩ := h
    rfl
  · obtain ⟨z, rfl, hz, q⟩ := h
    refine ⟨_, (pss_one (ps_ret (pe_op op_cat (pe_own O__law_number hr (by decide) (by rfl) pass0 (pa_cons (pe_callB call_len_str (by rfl) T.f_len PySem.boot_len (pa_cons (pv 0) pa_nil)) pa_nil)) (pe_lc (own := [("_law_char", 1)]) (g := gName 1) (tt := tYes) rfl sc__law_string_bytes.nd (pi_str (pv 0)) (blkOk_by (own := [("_law_char", 1)]) (N := ["_law_text_here", "_law_char"]) (sc := defScope s__law_string_bytes) (by decide +kernel)) (fun _ _ _ _ _ => pg_name (i := 1) sc__law_string_bytes.nd rfl (Or.inl rfl)) (fun _ _ _ _ _ => pts_nil) (fun _ _ _ _ _ => (pe_callB call_ord (by rfl) T.f_ord (by decide +kernel) (pa_cons (pv 1) pa_nil))))))), ?_⟩
    have hc : (codes z).length ≤ 1000 := by
      rw [codes_len]
      exact hz
    refine ⟨_, rfl, z, rfl, Nat.le_trans hz (by decide), z.length, rfl, Nat.lt_of_le_of_lt hz (by decide), fun H1 p1 s1 n1 h1 => ?_⟩
    refine ⟨_, rfl, z, rfl, fun D hD => lc_str (fun i H2 => Same H1 H2 ∧ H2 D = some (.lst (((codes z).take i).map vN))) ⟨same1 hD, upd_same⟩ ?_ ?_⟩
    · rintro i c H2 hi ⟨s2, h2⟩
      refine ⟨rfl, ?_⟩
      refine ⟨_, rfl, ⟨#[c]⟩, rfl, rfl, ?_⟩
      refine ⟨_, h2, lt_line (by rw [List.length_map, List.length_take]; omega), same_mod s2 hD, ?_⟩
      rw [upd_same, List.take_add_one, hi]
      show some (HO.lst (_ ++ [V.int ((c : Nat) : Int)])) = _
      rw [vN_snoc (n := c) rfl]
      rfl
    · rintro H2 ⟨s2, h2⟩
      rw [List.take_length] at h2
      refine ⟨p1, D, _, _, rfl, rfl, s2 _ _ h1, h2, Nat.le_of_lt (lt_line ?_), fun p hp => ?_⟩
      · have := numB_le2 (n := z.length) (by omega)
        rw [List.length_map, List.length_map]
        omega
      · refine q _ p (same_add (s1.trans s2) hp) ((s1.trans s2).free hp) ?_
        rw [upd_same, ← List.map_append]
        rfl
abbrev s__law_telling_bytes : Stmt := top 66
theorem sc__law_telling_bytes : FnScope ["_law_telling", "_law_change_here", "_law_body"] ["_law_telling"] (defScope s__law_telling_bytes) := ⟨rfl, rfl, rfl, by decide +kernel, rfl, by decide +kernel, by decide +kernel⟩
theorem ok__law_telling_bytes {f : Addr} {fd : FuncData} (F : Fun K "_law_telling_bytes" "_law_telling_bytes" s__law_telling_bytes f fd) (T : Txt mg) (O__law_number : Own P w K mg base CX0 1 "_law_number" ["_law_n"] spNumB)
    (O__law_string_bytes : Own P w K mg base CX0 2 "_law_string_bytes" ["_law_text_here"] spTextB) : FnOk P w K mg base CX0 3 f fd ["_law_telling"] (spTellB K) := by
  refine F.ok sc__law_telling_bytes (fun vs H Q E h => ?_) (fun cdv A outer s H vs Q E hr h => ?_)
  · obtain ⟨v, t, rfl, _⟩ := h
    rfl
  · obtain ⟨v, t, rfl, ⟨a, b, rfl, hT, hC⟩, ok, q⟩ := h
    refine ⟨_, (pss_cons (ps_set (i := 1) sc__law_telling_bytes.nd rfl (Or.inl rfl) (pe_ix ix_tup (pv 0) pe_int (fun _ _ => rfl)))
      (pss_cons (ps_set (i := 2) sc__law_telling_bytes.nd rfl (Or.inl rfl) (pe_op op_cat (pe_op op_cat (pe_op op_cat (pe_own O__law_number hr (by decide) (by rfl) pass0 (pa_cons (pe_ix ix_tup (pv 0) pe_int (fun _ _ => rfl)) pa_nil)) (pe_own O__law_number hr (by decide) (by rfl) pass0 (pa_cons (pe_ix ix_tup (pv 0) pe_int (fun _ _ => rfl)) pa_nil))) (pe_own O__law_number hr (by decide) (by rfl) pass0 (pa_cons (pe_ix ix_tup (pv 1) pe_int (fun _ _ => rfl)) pa_nil))) (pe_own O__law_string_bytes hr (by decide) (by rfl) pass0 (pa_cons (pe_ix ix_tup (pv 1) pe_int (fun _ _ => rfl)) pa_nil))))
      (pss_cons (ps_if (pt_cmpR op_isN (pe_ix ix_tup (pv 1) pe_int (fun _ _ => rfl)) pe_non (nomark _)) (pss_one (ps_ret (pe_op op_cat (pv 2) (pe_lst (pa_cons pe_int pa_nil))))) pss_nil)
      (pss_one (ps_ret (pe_op op_cat (pe_op op_cat (pv 2) (pe_lst (pa_cons pe_int pa_nil))) (pe_own O__law_string_bytes hr (by decide) (by rfl) pass0 (pa_cons (pe_ix ix_tup (pv 1) pe_int (fun _ _ => rfl)) pa_nil)))))))), ?_⟩
    have b1 := numB_le2 (n := t.st) (by have := ok.st2; omega)
    have b2 := numB_le2 (n := t.src) (by have := ok.src2; omega)
    have b3 := numB_le2 (n := t.ch.time) (by have := ok.ch.time; omega)
    have b4 := textB_len ok.ch.key.text
    refine ⟨_, rfl, at0 (i := 2) hT rfl ?_⟩
    refine ⟨_, rfl, at0 (i := 0) hT rfl ⟨t.st, rfl, by have := ok.st2; omega, fun H1 p1 s1 n1 h1 => ?_⟩⟩
    refine ⟨_, rfl, at0 (i := 1) (same_tup s1 hT) rfl ⟨t.src, rfl, by have := ok.src2; omega, fun H2 p2 s2 n2 h2 => ?_⟩⟩
    refine cat_by (s2 _ _ h1) h2 (by omega) fun H3 p3 s3 n3 h3 => ?_
    have t3 := (s1.trans s2).trans s3
    refine ⟨_, rfl, at0 (i := 0) (same_tup t3 hC) rfl ⟨t.ch.time, rfl, by have := ok.ch.time; omega, fun H4 p4 s4 n4 h4 => ?_⟩⟩
    refine cat_by (s4 _ _ h3) h4 (by rw [List.length_append]; omega) fun H5 p5 s5 n5 h5 => ?_
    have t5 := (t3.trans s4).trans s5
    refine ⟨_, rfl, at0 (i := 1) (same_tup t5 hC) rfl ⟨t.ch.key, rfl, Nat.le_trans ok.ch.key.text.1 (by decide), fun H6 p6 s6 n6 h6 => ?_⟩⟩
    refine cat_by (s6 _ _ h5) h6 (by simp only [List.length_append]; omega) fun H7 p7 s7 n7 h7 => ?_
    have t7 := (t5.trans s6).trans s7
    have hC7 : ChAt K H7 b t.ch := same_tup t7 hC
    have b7 : (((numB t.st ++ numB t.src) ++ numB t.ch.time) ++ textB t.ch.key).length ≤ 200 := by
      simp only [List.length_append]
      omega
    refine ⟨_, rfl, b, _, _, _, rfl, rfl, hC7, rfl, rfl, _, rfl, ?_⟩
    cases e : t.ch.txt with
    | none =>
      refine iteT ?_
      refine ⟨_, rfl, by show 1 ≤ sizeLine; decide, fun p8 n8 => ?_⟩
      have t8 : Same H7 (upd H7 p8 (.lst [V.int 0])) := same1 n8
      refine cat_by (bs := [0]) (t8 _ _ h7) upd_same (by simp only [List.length_singleton]; omega) fun H9 p9 s9 n9 h9 => ?_
      refine q _ p9 ((t7.trans t8).trans s9) ((t7.trans t8).free n9) ?_
      rw [h9]
      unfold tellB txtB
      rw [e, numB_small (show 0 < 128 by decide)]
      simp only [List.append_assoc]
    | some z =>
      have hz := ok.ch.txt z e
      have b8 := textB_len hz
      refine iteF ?_
      refine ⟨_, rfl, by show 1 ≤ sizeLine; decide, fun p8 n8 => ?_⟩
      have t8 : Same H7 (upd H7 p8 (.lst [V.int 1])) := same1 n8
      refine cat_by (bs := [1]) (t8 _ _ h7) upd_same (by simp only [List.length_singleton]; omega) fun H9 p9 s9 n9 h9 => ?_
      have t9 := (t7.trans t8).trans s9
      have hC8 : SqT K H7 b [vN t.ch.time, .str t.ch.key, .str z] := by
        have g : SqT K H7 b [vN t.ch.time, .str t.ch.key, optV t.ch.txt] := hC7
        rw [e] at g
        exact g
      refine ⟨_, rfl, b, _, _, _, rfl, rfl, same_tup (t8.trans s9) hC8, rfl, z, rfl, Nat.le_trans hz.1 (by decide), fun H10 p10 s10 n10 h10 => ?_⟩
      refine cat_by (s10 _ _ h9) h10 (by rw [List.length_append, List.length_singleton]; omega) fun H11 p11 s11 n11 h11 => ?_
      have t10 := t9.trans s10
      refine q _ p11 (t10.trans s11) (t10.free n11) ?_
      rw [h11]
      unfold tellB txtB
      rw [e, numB_small (show 1 < 128 by decide)]
      simp only [List.append_assoc]
abbrev s__law_ending_bytes : Stmt := top 67
theorem sc__law_ending_bytes : FnScope ["_law_endings_here", "_law_body", "_law_ending"] ["_law_endings_here"] (defScope s__law_ending_bytes) := ⟨rfl, rfl, rfl, by decide +kernel, rfl, by decide +kernel, by decide +kernel⟩
def spEndsB (K : PySem.W.Frag) : Sp := fun vs H Q _ => ∃ (e : Addr) (es : List (Str × Nat)), vs = [.ref e] ∧ EsAt K H e es ∧ EsOk es ∧ ∀ H' p, Same H H' → H p = none → H' p = some (.lst ((endsB es).map vN)) → Q (.ref p) H'
theorem ok__law_ending_bytes {f : Addr} {fd : FuncData} (F : Fun K "_law_ending_bytes" "_law_ending_bytes" s__law_ending_bytes f fd) (T : Txt mg) (O__law_number : Own P w K mg base CX0 1 "_law_number" ["_law_n"] spNumB)
    (O__law_string_bytes : Own P w K mg base CX0 2 "_law_string_bytes" ["_law_text_here"] spTextB) : FnOk P w K mg base CX0 3 f fd ["_law_endings_here"] (spEndsB K) := by
  refine F.ok sc__law_ending_bytes (fun vs H Q E h => ?_) (fun cdv A outer s H vs Q E hr h => ?_)
  · obtain ⟨e, es, rfl, _⟩ := h
    rfl
  · obtain ⟨e, es, rfl, ⟨ue, hue, hpe⟩, he, q⟩ := h
    refine ⟨_, (pss_cons (ps_set (i := 1) sc__law_ending_bytes.nd rfl (Or.inl rfl) (pe_own O__law_number hr (by decide) (by rfl) pass0 (pa_cons (pe_callB call_len_seq (by rfl) T.f_len PySem.boot_len (pa_cons (pv 0) pa_nil)) pa_nil)))
      (pss_cons (ps_for PassesOwn.never rfl (pi_tup (pv 0)) (pg_name (i := 2) sc__law_ending_bytes.nd rfl (Or.inl rfl)) (pss_one (ps_set (i := 1) sc__law_ending_bytes.nd rfl (Or.inl rfl) (pe_op op_cat (pe_op op_cat (pv 1) (pe_own O__law_string_bytes hr (by decide) (by rfl) pass0 (pa_cons (pe_ix ix_tup (pv 2) pe_int (fun _ _ => rfl)) pa_nil))) (pe_own O__law_number hr (by decide) (by rfl) pass0 (pa_cons (pe_ix ix_tup (pv 2) pe_int (fun _ _ => rfl)) pa_nil))))))
      (pss_one (ps_ret (pv 1))))), ?_⟩
    have hle : ue.length = es.length := Paired.length hpe
    refine ⟨_, rfl, e, ue, rfl, .inr hue, es.length, by rw [hle]; rfl, by have := he.len; omega, fun H1 p1 s1 n1 g1 => ?_⟩
    refine ⟨_, rfl, e, rfl, ⟨_, same_tup s1 hue⟩, for_tup (K := K) (a := e) (xs := ue) (fun i σ H' => ∃ r v3, σ = [some (.ref e), some (.ref r), v3] ∧ Same H H' ∧ H r = none ∧ H' r = some (.lst ((numB es.length ++ (es.take i).flatMap endB).map vN)))
      ⟨p1, none, rfl, s1, n1, by rw [g1, List.take_zero, List.flatMap_nil, List.append_nil]⟩ (fun i σ H' _ ⟨_, _, _, s2, _⟩ => same_tup s2 hue) ?_ ?_⟩
    · rintro i x σ H' hi ⟨r, v3, rfl, s2, _, g2⟩
      obtain ⟨en, hen, a, rfl, hA⟩ := paired_get hpe hi
      have okE := he.all en (List.mem_of_getElem? hen)
      have b1 := textB_len okE.text
      have b2 : (numB en.2).length ≤ 2 := numB_le2 (by rcases okE with z | z <;> rw [z] <;> decide)
      have b3 : (numB es.length ++ (es.take i).flatMap endB).length ≤ 1000 := by
        have z := flat_len (f := endB) (n := 104) (l := es.take i) fun e hm => endB_len (he.all e (List.mem_of_mem_take hm))
        have z2 := numB_le2 (n := es.length) (by have := he.len; omega)
        have z3 := he.len
        rw [List.length_append]
        rw [List.length_take] at z
        omega
      refine ⟨_, rfl, _, rfl, a, _, _, _, rfl, rfl, same_tup s2 hA, rfl, en.1, rfl, Nat.le_trans okE.text.1 (by decide), fun H3 p3 s3 n3 g3 => ?_⟩
      refine cat_by (s3 _ _ g2) g3 (by omega) fun H4 p4 s4 n4 g4 => ?_
      refine ⟨_, rfl, a, _, _, _, rfl, rfl, same_tup ((s2.trans s3).trans s4) hA, rfl, en.2, rfl, by rcases okE with z | z <;> rw [z] <;> decide, fun H5 p5 s5 n5 g5 => ?_⟩
      refine cat_by (s5 _ _ g4) g5 (by rw [List.length_append]; omega) fun H6 p6 s6 n6 g6 => ?_
      have t5 := ((s2.trans s3).trans s4).trans s5
      refine ⟨p6, _, rfl, t5.trans s6, t5.free n6, ?_⟩
      rw [g6, List.take_add_one, hen, List.flatMap_append]
      simp only [List.append_assoc, Option.toList_some, List.flatMap_cons, List.flatMap_nil, List.append_nil, endB]
    · rintro σ H' ⟨r, v3, rfl, s2, n2, g2⟩
      rw [hle, List.take_length] at g2
      exact ⟨_, rfl, q H' r s2 n2 g2⟩
end
end Ts
namespace Ts
open PySem PySem.Spec PyProof.Rows L2
theorem ifP {c : Bool} {A B : Prop} (h : c = true) (k : A) : if c = true then A else B := by
  rw [if_pos h]
  exact k
theorem ifN {c : Bool} {A B : Prop} (h : ¬ c = true) (k : B) : if c = true then A else B := by
  rw [if_neg h]
  exact k
theorem item_at {ds : List Nat} {k b : Nat} (h : ds[k]? = some b) : atI (ds.map vN) ((k : Nat) : Int) = some (vN b) := atI_nat (by rw [List.getElem?_map, h]; rfl)
theorem drop_at {ds : List Nat} {k b : Nat} (h : ds[k]? = some b) : ds.drop k = b :: ds.drop (k + 1) := by
  obtain ⟨lt, e⟩ := List.getElem?_eq_some_iff.mp h
  rw [List.drop_eq_getElem_cons lt, e]
section
variable {P : Program} {w : World} {K : PySem.W.Frag} {mg : Str → Option Value} {base : Heap} {C S : Addr}
abbrev s_read_number : Stmt := top 37
theorem sc_read_number : FnScope ["data", "at", "total", "scale", "k"] ["data", "at"] (defScope s_read_number) := ⟨rfl, rfl, rfl, by decide +kernel, rfl, by decide +kernel, by decide +kernel⟩
def spReadN (K : PySem.W.Frag) : Sp := fun vs H Q _ => ∃ (a : Addr) (ds : List Nat) (i : Nat), vs = [.ref a, vN i] ∧ ByAt K H a ds ∧ (∀ b ∈ ds, b < 256) ∧ (rdz (ds.drop i) = none → Q .non H) ∧
  ∀ n c, rdz (ds.drop i) = some (n, c) → ∀ H' p, Same H H' → H p = none → H' p = some (.tup [vN n, vN (i + c)]) → Q (.ref p) H'
theorem ok_read_number {f : Addr} {fd : FuncData} (F : Fun K "read_number" "read_number" s_read_number f fd) (T : Txt mg) : FnOk P w K mg base CX0 1 f fd ["data", "at"] (spReadN K) := by
  refine F.ok sc_read_number (fun vs H Q E h => ?_) (fun cdv A outer s H vs Q E hr h => ?_)
  · obtain ⟨a, ds, i, rfl, _⟩ := h
    rfl
  · obtain ⟨a, ds, i, rfl, hS, hb, q0, q1⟩ := h
    refine ⟨_, (pss_cons (ps_set (i := 2) sc_read_number.nd rfl (Or.inl rfl) pe_int)
      (pss_cons (ps_set (i := 3) sc_read_number.nd rfl (Or.inl rfl) pe_int)
      (pss_cons (ps_set (i := 4) sc_read_number.nd rfl (Or.inl rfl) (pv 1))
      (Evl.pss_cut (ps_while PassesOwn.never (PW.pt (pw_and (pt_cmpR op_lt (pv 4) (pe_callB call_len_seq (by rfl) T.f_len PySem.boot_len (pa_cons (pv 0) pa_nil)) (nomark _)) (pw_and1 (pt_cmpR op_ge (pe_ix ix_list (pv 0) (pv 4) (fun _ _ => rfl)) pe_int (nomark _))))) (pss_cons (ps_set (i := 2) sc_read_number.nd rfl (Or.inl rfl) (pe_op op_add (pv 2) (pe_op op_mul (pe_op op_sub (pe_ix ix_list (pv 0) (pv 4) (fun _ _ => rfl)) pe_int) (pv 3))))
        (pss_cons (ps_set (i := 3) sc_read_number.nd rfl (Or.inl rfl) (pe_op op_mul (pv 3) pe_int))
        (pss_one (ps_set (i := 4) sc_read_number.nd rfl (Or.inl rfl) (pe_op op_add (pv 4) pe_int))))))
      (pss_cons (ps_if (pt_cmpR op_ge (pv 4) (pe_callB call_len_seq (by rfl) T.f_len PySem.boot_len (pa_cons (pv 0) pa_nil)) (nomark _)) (pss_one (ps_ret pe_non)) pss_nil)
      (pss_cons (ps_set (i := 2) sc_read_number.nd rfl (Or.inl rfl) (pe_op op_add (pv 2) (pe_op op_mul (pe_ix ix_list (pv 0) (pv 4) (fun _ _ => rfl)) (pv 3))))
      (pss_cons (ps_if (PW.pt (pw_and (pt_cmpR op_eq (pe_ix ix_list (pv 0) (pv 4) (fun _ _ => rfl)) pe_int (nomark _)) (pw_and1 (pt_cmpR op_gt (pv 4) (pv 1) (nomark _))))) (pss_one (ps_ret pe_non)) pss_nil)
      (pss_one (ps_ret (pe_tup (pa_cons (pv 2) (pa_cons (pe_op op_add (pv 4) pe_int) pa_nil)))))))))))), ?_⟩
    refine ⟨_, rfl, ?_⟩
    have hlen : ((ds.map vN).length : Int) = (ds.length : Int) := by rw [List.length_map]
    refine ⟨fun σ H' => ∃ tot sc k, σ = [some (.ref a), some (vN i), some (vN tot), some (vN sc), some (vN k)] ∧ H' = H ∧ i ≤ k ∧ rd (ds.drop i) = (rd (ds.drop k)).map (fun p => (tot + sc * p.1, p.2 + (k - i))) ∧ (ds.length ≤ k ∨ ∃ b, ds[k]? = some b ∧ b < 128), ?_, ?_⟩
    · refine ⟨fun m σ H' => ∃ tot sc k, σ = [some (.ref a), some (vN i), some (vN tot), some (vN sc), some (vN k)] ∧ H' = H ∧ i ≤ k ∧ rd (ds.drop i) = (rd (ds.drop k)).map (fun p => (tot + sc * p.1, p.2 + (k - i))) ∧ m = ds.length - k,
        ⟨ds.length - i, 0, 1, i, rfl, rfl, Nat.le_refl _, ?_, rfl⟩, ?_⟩
      · cases rd (ds.drop i) with
        | none => rfl
        | some p => simp
      rintro m σ H' ⟨tot, sc, k, rfl, rfl, hik, e1, rfl⟩
      refine ⟨_, rfl, _, rfl, a, _, rfl, .inl hS, _, _, rfl, rfl, _, rfl, ?_⟩
      refine ite2 (fun hc => ?_) (fun hc => ?_)
      · have hk : k < ds.length := by
          have := of_decide_eq_true hc
          omega
        have hkb : ds[k]? = some ds[k] := List.getElem?_eq_getElem hk
        have hbl : ds[k] < 256 := hb _ (List.getElem_mem hk)
        generalize ds[k] = b at hkb hbl
        refine ⟨_, rfl, _, rfl, a, _, _, _, rfl, rfl, hS, item_at hkb, _, _, rfl, rfl, _, rfl, ?_⟩
        refine ite2 (fun hc2 => ?_) (fun hc2 => ?_)
        · have hb2 : 128 ≤ b := by
            have := of_decide_eq_true hc2
            omega
          refine ⟨_, fun _ _ z => z, ?_⟩
          refine ⟨_, rfl, _, rfl, _, rfl, a, _, _, _, rfl, rfl, hS, item_at hkb, _, _, rfl, rfl, _, rfl, _, _, rfl, rfl, .inl ⟨by omega, by omega⟩, _, _, rfl, rfl, ?_⟩
          refine ⟨_, rfl, _, _, rfl, rfl, .inr ⟨by decide, by decide⟩, ?_⟩
          refine ⟨_, rfl, _, _, rfl, rfl, ?_⟩
          refine ⟨ds.length - (k + 1), by omega, tot + (b - 128) * sc, sc * 128, k + 1, ?_, rfl, by omega, ?_, rfl⟩
          · have z1 : (tot : Int) + ((b : Int) - 128) * (sc : Int) = ((tot + (b - 128) * sc : Nat) : Int) := by
              rw [Int.natCast_add, Int.natCast_mul, Int.natCast_sub hb2]
              rfl
            show [_, _, some (V.int ((tot : Int) + ((b : Int) - 128) * (sc : Int))), _, _] = [_, _, _, _, _]
            rw [z1]
            rfl
          · rw [e1, drop_at hkb]
            show (if 128 ≤ b then (rd (ds.drop (k + 1))).map _ else _).map _ = _
            rw [if_pos hb2]
            cases rd (ds.drop (k + 1)) with
            | none => rfl
            | some p =>
              show some (tot + sc * (b - 128 + 128 * p.1), p.2 + 1 + (k - i)) = some (tot + (b - 128) * sc + sc * 128 * p.1, p.2 + (k + 1 - i))
              congr 2
              · rw [Nat.mul_add, Nat.mul_comm sc (b - 128), Nat.mul_assoc, Nat.add_assoc]
              · omega
        · have hb2 : b < 128 := by
            have : ¬ (128 : Int) ≤ (b : Int) := fun z => hc2 (decide_eq_true z)
            omega
          exact ⟨tot, sc, k, rfl, rfl, hik, e1, .inr ⟨b, hkb, hb2⟩⟩
      · refine iteF ⟨tot, sc, k, rfl, rfl, hik, e1, .inl ?_⟩
        have : ¬ (k : Int) < ((ds.map vN).length : Int) := fun z => hc (decide_eq_true z)
        omega
    · rintro σ H' ⟨tot, sc, k, rfl, rfl, hik, e1, hx⟩
      refine ⟨_, rfl, _, rfl, a, _, rfl, .inl hS, _, _, rfl, rfl, _, rfl, ?_⟩
      rcases hx with hx | ⟨b, hkb, hb2⟩
      · refine ifP (decide_eq_true (by rw [hlen]; omega)) ?_
        refine q0 ?_
        rw [List.drop_of_length_le hx] at e1
        unfold rdz
        rw [e1]
        rfl
      · have hk : k < ds.length := (List.getElem?_eq_some_iff.mp hkb).1
        refine ifN (by intro z; have := of_decide_eq_true z; omega) ?_
        refine ⟨_, rfl, _, rfl, _, rfl, a, _, _, _, rfl, rfl, hS, item_at hkb, _, rfl, _, _, rfl, rfl, .inl ⟨by omega, by omega⟩, _, _, rfl, rfl, ?_⟩
        have e2 : rd (ds.drop i) = some (tot + sc * b, 1 + (k - i)) := by
          rw [e1, drop_at hkb]
          show (if 128 ≤ b then _ else some (b, 1)).map _ = _
          rw [if_neg (by omega)]
          rfl
        have e3 : (ds.drop i)[1 + (k - i) - 1]? = some b := by
          rw [List.getElem?_drop, show i + (1 + (k - i) - 1) = k by omega]
          exact hkb
        have e4 : rdz (ds.drop i) = if b = 0 ∧ i < k then none else some (tot + sc * b, 1 + (k - i)) := by
          unfold rdz
          rw [e2]
          show (if (ds.drop i)[1 + (k - i) - 1]? = some 0 ∧ 1 < 1 + (k - i) then none else _) = _
          rw [e3]
          by_cases z : b = 0 ∧ i < k
          · rw [if_pos z, if_pos ⟨by rw [z.1], by omega⟩]
          · rw [if_neg z, if_neg fun y => z ⟨Option.some.inj y.1, by omega⟩]
        have z1 : (tot : Int) + (b : Int) * (sc : Int) = ((tot + sc * b : Nat) : Int) := by
          rw [Int.natCast_add, Int.natCast_mul, Int.mul_comm]
        have fin : ∀ (_ : rdz (ds.drop i) = some (tot + sc * b, 1 + (k - i))), tRet (tTup (tCons (tVar 2) (tCons (tOp (rI0 fun i j => .int (i + j)) (tVar 4) (tC (.int 1))) tNil))) { nx := fun _ H' => Q .non H', rt := Q }
            [some (.ref a), some (vN i), some (V.int ((tot : Int) + (b : Int) * (sc : Int))), some (vN sc), some (vN k)] H' := by
          intro z
          refine ⟨_, rfl, _, rfl, _, _, rfl, rfl, by show 2 ≤ sizeLine; decide, fun p hp => ?_⟩
          refine q1 _ _ z _ p (same1 hp) hp ?_
          rw [upd_same]
          show some (HO.tup [V.int ((tot : Int) + (b : Int) * (sc : Int)), V.int ((k : Int) + 1)]) = some (HO.tup [V.int ((tot + sc * b : Nat) : Int), V.int ((i + (1 + (k - i)) : Nat) : Int)])
          rw [z1, show ((k : Int) + 1) = ((i + (1 + (k - i)) : Nat) : Int) by omega]
        refine ⟨_, rfl, _, rfl, a, _, _, _, rfl, rfl, hS, item_at hkb, rfl, _, rfl, ?_⟩
        by_cases hb0 : b = 0
        · subst hb0
          refine iteT ?_
          refine ⟨_, rfl, _, rfl, _, _, rfl, rfl, _, rfl, ?_⟩
          by_cases hki : i < k
          · refine ifP (decide_eq_true (by omega)) ?_
            exact q0 (by rw [e4, if_pos ⟨rfl, hki⟩])
          · refine ifN (by intro z; have := of_decide_eq_true z; omega) ?_
            exact fin (by rw [e4, if_neg fun z => hki z.2])
        · refine ifN (by intro z; have := of_decide_eq_true z; injection this with q; omega) ?_
          refine iteF ?_
          exact fin (by rw [e4, if_neg fun z => hb0 z.1])
end
end Ts
namespace Ts
open PySem PySem.Spec PyProof.Rows L2
theorem codes_app (a b : Str) : codes (a ++ b) = codes a ++ codes b := by
  show (a.cps ++ b.cps).toList = _
  rw [Array.toList_append]
  rfl
theorem codes_inj {a b : Str} (h : codes a = codes b) : a = b := PySem.Str.ext' (Array.toList_inj.mp h)
theorem cut_nat {xs : List V} {i j : Nat} (h1 : i ≤ j) (h2 : j ≤ xs.length) : cutV xs (some (i : Int)) (some (j : Int)) = (xs.drop i).take (j - i) := by
  unfold cutV
  rw [HT.sIx_nat, HT.sIx_nat, Nat.min_eq_left h2, Nat.min_eq_left (show i ≤ xs.length by omega)]
def printed : Str := " !\"#$ &'()*+,-./0123456789:;<=>?@ABCDEFGHIJKLMNOPQRSTUVWXYZ[\\]^_`abcdefghijklmnopqrstuvwxyz{|}~"
theorem printed_len : printed.length ≤ sizeLine := by decide +kernel
theorem printed_at : ∀ k, k < 95 → k ≠ 5 → printed.cps.toList[k]? = some (k + 32) := by decide +kernel
theorem newline : (("\n" : Str)) = ⟨#[10]⟩ := by decide +kernel
section
variable {P : Program} {w : World} {K : PySem.W.Frag} {mg : Str → Option Value} {base : Heap} {C S : Addr}
abbrev s_char_of : Stmt := top 38
theorem sc_char_of : FnScope ["code"] ["code"] (defScope s_char_of) := ⟨rfl, rfl, rfl, by decide +kernel, rfl, by decide +kernel, by decide +kernel⟩
def spCharOf : Sp := fun vs H Q _ => ∃ c : Nat, vs = [vN c] ∧ CharOk c ∧ Q (.str ⟨#[c]⟩) H
theorem ok_char_of {f : Addr} {fd : FuncData} (F : Fun K "char_of" "char_of" s_char_of f fd) (T : Txt mg) : FnOk P w K mg base CX0 1 f fd ["code"] spCharOf := by
  refine F.ok sc_char_of (fun vs H Q E h => ?_) (fun cdv A outer s H vs Q E hr h => ?_)
  · obtain ⟨c, rfl, _⟩ := h
    rfl
  · obtain ⟨c, rfl, hc, q⟩ := h
    refine ⟨_, (pss_cons (ps_if (pt_cmpR op_eq (pv 0) pe_int (nomark _)) (pss_one (ps_ret pe_str)) pss_nil)
      (pss_cons (ps_if (PW.pt (pw_or (pt_cmpR op_lt (pv 0) pe_int (nomark _)) (pw_or (pt_cmpR op_gt (pv 0) pe_int (nomark _)) (pw_or1 (pt_cmpR op_eq (pv 0) pe_int (nomark _)))))) (pss_one (ps_ret pe_non)) pss_nil)
      (pss_one (ps_ret (pe_ix ix_str (pe_gS (by rfl) T.g_PRINTED) (pe_op op_sub (pv 0) pe_int) (fun _ _ => rfl)))))), ?_⟩
    refine ⟨_, rfl, rfl, _, rfl, ?_⟩
    by_cases h10 : c = 10
    · subst h10
      refine ifP (by decide) ?_
      show Q (.str "\n") H
      rw [newline]
      exact q
    · refine ifN (by intro z; have := of_decide_eq_true z; injection this with y; omega) ?_
      have h2 : 32 ≤ c ∧ c ≤ 126 ∧ c ≠ 37 := hc.resolve_left h10
      refine ⟨_, rfl, _, _, rfl, rfl, _, rfl, ?_⟩
      refine ifN (by intro z; have := of_decide_eq_true z; omega) ?_
      refine ⟨_, rfl, _, _, rfl, rfl, _, rfl, ?_⟩
      refine ifN (by intro z; have := of_decide_eq_true z; omega) ?_
      refine ⟨_, rfl, rfl, _, rfl, ?_⟩
      refine ifN (by intro z; have := of_decide_eq_true z; injection this with y; omega) ?_
      refine ⟨_, rfl, _, _, rfl, rfl, printed, _, c, rfl, rfl, printed_len, ?_, q⟩
      rw [show ((c : Int) - 32) = ((c - 32 : Nat) : Int) by omega]
      refine atI_nat ?_
      rw [printed_at (c - 32) (by omega) (by omega)]
      congr 1
      omega
abbrev s_read_text : Stmt := top 39
theorem sc_read_text : FnScope ["data", "at", "size", "found", "code", "char"] ["data", "at"] (defScope s_read_text) := ⟨rfl, rfl, rfl, by decide +kernel, rfl, by decide +kernel, by decide +kernel⟩
def spReadT (K : PySem.W.Frag) : Sp := fun vs H Q _ => ∃ (a : Addr) (ds : List Nat) (i : Nat) (z : Str) (r : List Nat), vs = [.ref a, vN i] ∧ ByAt K H a ds ∧ (∀ b ∈ ds, b < 256) ∧ ds.drop i = textB z ++ r ∧ TextOk z ∧
  ∀ H' p, Same H H' → H p = none → H' p = some (.tup [.str z, vN (i + (textB z).length)]) → Q (.ref p) H'
theorem ok_read_text {f : Addr} {fd : FuncData} (F : Fun K "read_text" "read_text" s_read_text f fd) (T : Txt mg) (O_read_number : Own P w K mg base CX0 1 "read_number" ["data", "at"] (spReadN K))
    (O_char_of : Own P w K mg base CX0 1 "char_of" ["code"] spCharOf) : FnOk P w K mg base CX0 2 f fd ["data", "at"] (spReadT K) := by
  refine F.ok sc_read_text (fun vs H Q E h => ?_) (fun cdv A outer s H vs Q E hr h => ?_)
  · obtain ⟨a, ds, i, z, r, rfl, _⟩ := h
    rfl
  · obtain ⟨a, ds, i, z, r, rfl, hS, hb, hd, ok, q⟩ := h
    refine ⟨_, (pss_cons (ps_set (i := 2) sc_read_text.nd rfl (Or.inl rfl) (pe_own O_read_number hr (by decide) (by rfl) pass0 (pa_cons (pv 0) (pa_cons (pv 1) pa_nil))))
      (pss_cons (ps_if (PW.pt (pw_or (pt_cmpR op_isN (pv 2) pe_non (nomark _)) (pw_or1 (pt_cmpR op_gt (pe_op op_add (pe_ix ix_tup (pv 2) pe_int (fun _ _ => rfl)) (pe_ix ix_tup (pv 2) pe_int (fun _ _ => rfl))) (pe_callB call_len_seq (by rfl) T.f_len PySem.boot_len (pa_cons (pv 0) pa_nil)) (nomark _))))) (pss_one (ps_ret pe_non)) pss_nil)
      (pss_cons (ps_set (i := 3) sc_read_text.nd rfl (Or.inl rfl) pe_str)
      (pss_cons (ps_for PassesOwn.never rfl (pi_list (pe_slice sl_list (pv 0) (po_some (pe_ix ix_tup (pv 2) pe_int (fun _ _ => rfl))) (po_some (pe_op op_add (pe_ix ix_tup (pv 2) pe_int (fun _ _ => rfl)) (pe_ix ix_tup (pv 2) pe_int (fun _ _ => rfl)))))) (pg_name (i := 4) sc_read_text.nd rfl (Or.inl rfl)) (pss_cons (ps_set (i := 5) sc_read_text.nd rfl (Or.inl rfl) (pe_own O_char_of hr (by decide) (by rfl) pass0 (pa_cons (pv 4) pa_nil)))
        (pss_cons (ps_if (pt_cmpR op_isN (pv 5) pe_non (nomark _)) (pss_one (ps_ret pe_non)) pss_nil)
        (pss_one (ps_set (i := 3) sc_read_text.nd rfl (Or.inl rfl) (pe_op op_add_str (pv 3) (pv 5)))))))
      (pss_one (ps_ret (pe_tup (pa_cons (pv 3) (pa_cons (pe_op op_add (pe_ix ix_tup (pv 2) pe_int (fun _ _ => rfl)) (pe_ix ix_tup (pv 2) pe_int (fun _ _ => rfl))) pa_nil))))))))), ?_⟩
    have hd2 : ds.drop i = numB z.length ++ (codes z ++ r) := by rw [hd]; unfold textB; rw [List.append_assoc]
    have e1 : rdz (ds.drop i) = some (z.length, (numB z.length).length) := by rw [hd2]; exact rdz_numB _ _
    have hz : (codes z).length = z.length := codes_len z
    have hl : (ds.drop i).length = (numB z.length).length + ((codes z).length + r.length) := by rw [hd2, List.length_append, List.length_append]
    rw [List.length_drop] at hl
    have hp := numB_pos z.length
    have ed : (ds.drop (i + (numB z.length).length)).take z.length = codes z := by
      rw [← List.drop_drop, hd2, List.drop_left, ← hz, List.take_left]
    have et : (textB z).length = (numB z.length).length + z.length := by unfold textB; rw [List.length_append, hz]
    generalize (numB z.length).length = c at e1 hl hp ed et
    refine ⟨_, rfl, _, rfl, a, ds, i, rfl, hS, hb, (fun e => by rw [e1] at e; cases e), fun n c' e H1 p1 s1 n1 h1 => ?_⟩
    rw [e1] at e
    injection e with e
    injection e with en ec
    subst en ec
    refine ⟨_, rfl, rfl, _, rfl, ifN (by intro z; cases of_decide_eq_true z) ?_⟩
    have hT : SqT K H1 p1 [vN z.length, vN (i + c)] := .inl (.inl h1)
    refine ⟨_, rfl, p1, _, _, _, rfl, rfl, hT, rfl, _, rfl, p1, _, _, _, rfl, rfl, hT, rfl, _, _, rfl, rfl, _, rfl, a, _, rfl, .inl (s1.seq hS), _, _, rfl, rfl, _, rfl, ?_⟩
    refine ifN (by intro y; have y2 := of_decide_eq_true y; rw [List.length_map] at y2; omega) ?_
    refine ⟨_, rfl, _, rfl, p1, _, _, _, rfl, rfl, hT, rfl, _, rfl, _, rfl, p1, _, _, _, rfl, rfl, hT, rfl, _, rfl, p1, _, _, _, rfl, rfl, hT, rfl, _, _, rfl, rfl, _, rfl, a, _, rfl, s1.seq hS, fun p2 n2 => ?_⟩
    have ecut : cutV (ds.map vN) (some ((i + c : Nat) : Int)) (some (((i + c : Nat) : Int) + (z.length : Int))) = (codes z).map vN := by
      rw [show (((i + c : Nat) : Int) + (z.length : Int)) = ((i + c + z.length : Nat) : Int) from rfl, cut_nat (by omega) (by rw [List.length_map]; omega), ← List.map_drop, ← List.map_take, Nat.add_sub_cancel_left, ed]
    rw [show cutV (ds.map vN) (some _) (some _) = (codes z).map vN from ecut]
    have s2 := same_add s1 (o := .lst ((codes z).map vN)) n2
    have hT2 : SqT K (upd H1 p2 (.lst ((codes z).map vN))) p1 [vN z.length, vN (i + c)] := same_tup (same1 n2) hT
    refine ⟨p2, rfl, ⟨_, .inl (.inl upd_same)⟩, for_list (K := K) (a := p2) (xs := (codes z).map vN) (fun j σ H' => ∃ y v4 v5, σ = [some (.ref a), some (vN i), some (.ref p1), some (.str y), v4, v5] ∧ codes y = (codes z).take j ∧ H' = upd H1 p2 (.lst ((codes z).map vN)))
      ⟨_, none, none, rfl, rfl, rfl⟩ (fun j σ H' _ ⟨_, _, _, _, _, e⟩ => e ▸ .inl (.inl upd_same)) ?_ ?_⟩
    · rintro j x σ H' hj ⟨y, v4, v5, rfl, ey, rfl⟩
      rw [List.getElem?_map] at hj
      obtain ⟨b, hb, rfl⟩ := Option.map_eq_some_iff.mp hj
      refine ⟨_, rfl, b, rfl, ok.2 b (List.mem_of_getElem? hb), ?_⟩
      refine ⟨_, rfl, rfl, _, rfl, ifN (by intro y; cases of_decide_eq_true y) ?_⟩
      refine ⟨_, rfl, _, rfl, _, _, rfl, rfl, ?_, ?_⟩
      · have h1 := codes_len y
        rw [ey, List.length_take] at h1
        have h2 := ok.1
        have h3 : (⟨#[b]⟩ : Str).length = 1 := rfl
        rw [h3]
        have : y.length + 1 ≤ 1000 := by omega
        exact Nat.le_trans this (by decide)
      · refine ⟨y ++ ⟨#[b]⟩, _, _, rfl, ?_, rfl⟩
        rw [codes_app, ey, List.take_add_one, hb]
        rfl
    · rintro σ H' ⟨y, v4, v5, rfl, ey, rfl⟩
      rw [List.length_map, List.take_length] at ey
      obtain rfl := codes_inj ey
      refine ⟨_, rfl, _, rfl, p1, _, _, _, rfl, rfl, hT2, rfl, _, rfl, p1, _, _, _, rfl, rfl, hT2, rfl, _, _, rfl, rfl, by show 2 ≤ sizeLine; decide, fun p3 n3 => ?_⟩
      refine q _ p3 (same_add s2 n3) (s2.free n3) ?_
      rw [upd_same, et]
      show some (HO.tup [_, V.int (((i + c : Nat) : Int) + (y.length : Int))]) = some (HO.tup [_, V.int ((i + (c + y.length) : Nat) : Int)])
      rw [show (((i + c : Nat) : Int) + (y.length : Int)) = ((i + (c + y.length) : Nat) : Int) by omega]
abbrev s_read_record : Stmt := top 41
theorem sc_read_record : FnScope ["data", "at", "size", "end", "body", "told"] ["data", "at"] (defScope s_read_record) := ⟨rfl, rfl, rfl, by decide +kernel, rfl, by decide +kernel, by decide +kernel⟩
def spReadR (K : PySem.W.Frag) : Sp := fun vs H Q _ => ∃ (a : Addr) (ds : List Nat) (i : Nat), vs = [.ref a, vN i] ∧ ByAt K H a ds ∧ (∀ b ∈ ds, b < 256) ∧ i ≤ ds.length ∧ (rdRec (ds.drop i) = none → ∀ H', Same H H' → Q .non H') ∧
  ∀ b c, rdRec (ds.drop i) = some (b, c) → ∀ H' p q, Same H H' → H p = none → H' q = some (.lst (b.map vN)) → H' p = some (.tup [.ref q, vN (i + c)]) → Q (.ref p) H'
theorem ok_read_record {f : Addr} {fd : FuncData} (F : Fun K "read_record" "read_record" s_read_record f fd) (T : Txt mg) (O_read_number : Own P w K mg base CX0 1 "read_number" ["data", "at"] (spReadN K))
    (O_sum_of : Own P w K mg base CX0 1 "sum_of" ["row", "modulus"] (spSumOf K)) : FnOk P w K mg base CX0 2 f fd ["data", "at"] (spReadR K) := by
  refine F.ok sc_read_record (fun vs H Q E h => ?_) (fun cdv A outer s H vs Q E hr h => ?_)
  · obtain ⟨a, ds, i, rfl, _⟩ := h
    rfl
  · obtain ⟨a, ds, i, rfl, hS, hb, hi, q0, q1⟩ := h
    refine ⟨_, (pss_cons (ps_set (i := 2) sc_read_record.nd rfl (Or.inl rfl) (pe_own O_read_number hr (by decide) (by rfl) pass0 (pa_cons (pv 0) (pa_cons (pv 1) pa_nil))))
      (pss_cons (ps_if (PW.pt (pw_or (pt_cmpR op_isN (pv 2) pe_non (nomark _)) (pw_or1 (pt_cmpR op_gt (pe_op op_add (pe_ix ix_tup (pv 2) pe_int (fun _ _ => rfl)) (pe_ix ix_tup (pv 2) pe_int (fun _ _ => rfl))) (pe_callB call_len_seq (by rfl) T.f_len PySem.boot_len (pa_cons (pv 0) pa_nil)) (nomark _))))) (pss_one (ps_ret pe_non)) pss_nil)
      (pss_cons (ps_set (i := 3) sc_read_record.nd rfl (Or.inl rfl) (pe_op op_add (pe_ix ix_tup (pv 2) pe_int (fun _ _ => rfl)) (pe_ix ix_tup (pv 2) pe_int (fun _ _ => rfl))))
      (pss_cons (ps_set (i := 4) sc_read_record.nd rfl (Or.inl rfl) (pe_slice sl_list (pv 0) (po_some (pe_ix ix_tup (pv 2) pe_int (fun _ _ => rfl))) (po_some (pv 3))))
      (pss_cons (ps_set (i := 5) sc_read_record.nd rfl (Or.inl rfl) (pe_own O_read_number hr (by decide) (by rfl) pass0 (pa_cons (pv 0) (pa_cons (pv 3) pa_nil))))
      (pss_cons (ps_if (PW.pt (pw_or (pt_cmpR op_isN (pv 5) pe_non (nomark _)) (pw_or1 (pt_cmpR op_ne (pe_ix ix_tup (pv 5) pe_int (fun _ _ => rfl)) (pe_own O_sum_of hr (by decide) (by rfl) pass0 (pa_cons (pv 4) (pa_cons (pe_gI (by rfl) T.g_MODULUS) pa_nil))) (nomark _))))) (pss_one (ps_ret pe_non)) pss_nil)
      (pss_one (ps_ret (pe_tup (pa_cons (pv 4) (pa_cons (pe_ix ix_tup (pv 5) pe_int (fun _ _ => rfl)) pa_nil))))))))))), ?_⟩
    refine ⟨_, rfl, _, rfl, a, ds, i, rfl, hS, hb, (fun e => ?_), fun n c e H1 p1 s1 n1 h1 => ?_⟩
    · -- no size
      refine ⟨_, rfl, rfl, _, rfl, ifP (by decide) ?_⟩
      refine q0 ?_ H (Same.refl H)
      unfold rdRec
      rw [e]
    have hc := rdz_le _ _ e
    rw [List.length_drop] at hc
    have hc1 : 0 < c := hc.1
    have hc2 : c ≤ ds.length - i := hc.2
    refine ⟨_, rfl, rfl, _, rfl, ifN (by intro z; cases of_decide_eq_true z) ?_⟩
    have hT : SqT K H1 p1 [vN n, vN (i + c)] := .inl (.inl h1)
    refine ⟨_, rfl, p1, _, _, _, rfl, rfl, hT, rfl, _, rfl, p1, _, _, _, rfl, rfl, hT, rfl, _, _, rfl, rfl, _, rfl, a, _, rfl, .inl (s1.seq hS), _, _, rfl, rfl, _, rfl, ?_⟩
    by_cases hlong : ds.length < i + c + n
    · refine ifP (decide_eq_true (by rw [List.length_map]; omega)) ?_
      refine q0 ?_ _ s1
      unfold rdRec
      rw [e]
      show (if _ then none else _) = none
      rw [if_pos (by rw [List.length_drop]; omega)]
    refine ifN (by intro y; have y2 := of_decide_eq_true y; rw [List.length_map] at y2; omega) ?_
    refine ⟨_, rfl, p1, _, _, _, rfl, rfl, hT, rfl, _, rfl, p1, _, _, _, rfl, rfl, hT, rfl, _, _, rfl, rfl, ?_⟩
    refine ⟨_, rfl, _, rfl, p1, _, _, _, rfl, rfl, hT, rfl, _, rfl, _, rfl, _, rfl, a, _, rfl, s1.seq hS, fun p2 n2 => ?_⟩
    have ecut : cutV (ds.map vN) (some ((i + c : Nat) : Int)) (some (((i + c : Nat) : Int) + (n : Int))) = (((ds.drop i).drop c).take n).map vN := by
      rw [show (((i + c : Nat) : Int) + (n : Int)) = ((i + c + n : Nat) : Int) from rfl, cut_nat (by omega) (by rw [List.length_map]; omega), ← List.map_drop, ← List.map_take, Nat.add_sub_cancel_left, List.drop_drop]
    rw [show cutV (ds.map vN) (some _) (some _) = (((ds.drop i).drop c).take n).map vN from ecut]
    have s2 := same_add s1 (o := .lst ((((ds.drop i).drop c).take n).map vN)) n2
    have ei : (((i + c : Nat) : Int) + (n : Int)) = ((i + c + n : Nat) : Int) := rfl
    have erec : rdRec (ds.drop i) = match rdz (ds.drop (i + c + n)) with
        | none => none
        | some (m, d) => if m = sumB (((ds.drop i).drop c).take n) then some (((ds.drop i).drop c).take n, c + n + d) else none := by
      have e3 : (ds.drop i).drop (c + n) = ds.drop (i + c + n) := by rw [List.drop_drop, Nat.add_assoc]
      unfold rdRec
      rw [e]
      show (if _ then none else match rdz ((ds.drop i).drop (c + n)) with | none => none | some (m, d) => _) = _
      rw [if_neg (by rw [List.length_drop]; omega), e3]
    generalize ((ds.drop i).drop c).take n = bd at s2 erec ecut
    refine ⟨_, rfl, _, rfl, a, ds, i + c + n, rfl, s2.seq hS, hb, (fun e2 => ?_), fun m d e2 H3 p3 s3 n3 h3 => ?_⟩
    · refine ⟨_, rfl, rfl, _, rfl, ifP (by decide) ?_⟩
      exact q0 (by rw [erec, e2]) _ s2
    refine ⟨_, rfl, rfl, _, rfl, ifN (by intro z; cases of_decide_eq_true z) ?_⟩
    have hT3 : SqT K H3 p3 [vN m, vN (i + c + n + d)] := .inl (.inl h3)
    refine ⟨_, rfl, p3, _, _, _, rfl, rfl, hT3, rfl, _, rfl, p2, bd, rfl, .inl (.inl (s3 _ _ upd_same)), rfl, _, rfl, ?_⟩
    by_cases hm : m = sumB bd
    · refine ifN (by rw [hm]; simp) ?_
      refine ⟨_, rfl, _, rfl, p3, _, _, _, rfl, rfl, hT3, rfl, by show 2 ≤ sizeLine; decide, fun p4 n4 => ?_⟩
      refine q1 bd (c + n + d) (erec.trans (by rw [e2]; exact if_pos hm)) _ p4 p2 (same_add (s2.trans s3) n4) ((s2.trans s3).free n4) ?_ ?_
      · exact (same1 n4) _ _ (s3 _ _ upd_same)
      · rw [upd_same, show i + c + n + d = i + (c + n + d) by omega]
    · refine ifP ?_ ?_
      · have : decide (vN m = vN (sumB bd)) = false := decide_eq_false (fun z => hm (by injection z with y; omega))
        show (!decide (vN m = vN (sumB bd))) = true
        rw [this]
        rfl
      · exact q0 (erec.trans (by rw [e2]; exact if_neg hm)) _ (s2.trans s3)
end
end Ts
namespace Ts
open PySem PySem.Spec PyProof.Rows L2
/-! ### tuples stay, lists may change -/
def Kt (H H' : Hp) : Prop := ∀ b x, H b = some x → ((∃ xs, x = .tup xs) ∨ ∃ o xs, x = .frz o (.tup xs)) → H' b = some x
theorem Kt.of {H H' : Hp} (s : Same H H') : Kt H H' := fun b x e _ => s b x e
theorem Kt.trans {H H1 H2 : Hp} (a : Kt H H1) (b : Kt H1 H2) : Kt H H2 := fun c x e z => b c x (a c x e z) z
theorem Kt.put {H : Hp} {l : Addr} {us : List V} {o : HO} (h : H l = some (.lst us)) : Kt H (upd H l o) := fun b x e z => by
  have : b ≠ l := fun q => by
    rw [q, h] at e
    rcases z with ⟨xs, z⟩ | ⟨o, xs, z⟩ <;> rw [z] at e <;> cases e
  rw [upd_ne this]
  exact e
theorem Kt.tup {K : PySem.W.Frag} {H H' : Hp} {a : Addr} {xs : List V} (s : Kt H H') (h : SqT K H a xs) : SqT K H' a xs := by
  rcases h with (h | ⟨o, h⟩) | h
  · exact .inl (.inl (s _ _ h (.inl ⟨_, rfl⟩)))
  · exact .inl (.inr ⟨o, s _ _ h (.inr ⟨_, _, rfl⟩)⟩)
  · exact .inr h
section
variable {K : PySem.W.Frag} {H H' : Hp}
theorem Kt.tl (s : Kt H H') {v : V} {t : Tl} (h : TlAt K H v t) : TlAt K H' v t := by
  obtain ⟨a, b, e, h1, h2⟩ := h
  exact ⟨a, b, e, s.tup h1, s.tup h2⟩
theorem Kt.tls (s : Kt H H') {vs : List V} {ts : List Tl} (h : TlsAt K H vs ts) : TlsAt K H' vs ts := Paired.mapP h fun _ _ => Kt.tl s
theorem Kt.en (s : Kt H H') {v : V} {e : Str × Nat} (h : EnAt K H v e) : EnAt K H' v e := by
  obtain ⟨a, q, h1⟩ := h
  exact ⟨a, q, s.tup h1⟩
theorem Kt.ens (s : Kt H H') {vs : List V} {es : List (Str × Nat)} (h : Paired (EnAt K H) vs es) : Paired (EnAt K H') vs es := Paired.mapP h fun _ _ => Kt.en s
end
theorem paired_snoc {α β : Type} {F : α → β → Prop} {x : α} {y : β} (r : F x y) : ∀ {l : List α} {m : List β}, Paired F l m → Paired F (l ++ [x]) (m ++ [y])
  | _, _, .nil => .cons r .nil
  | _, _, .cons h t => .cons h (paired_snoc r t)
theorem map_bl {α : Type} {f : α → Bool} {l : List α} : l.map (fun c => V.bl (f c)) = (l.map f).map V.bl := by rw [List.map_map]; rfl
theorem same_set {H H1 : Hp} {l : Addr} {o : HO} (s : Same H H1) (n : H l = none) : Same H (upd H1 l o) := same_mod s n
def signs : Str := "abcdefghijklmnopqrstuvwxyz0123456789"
section
variable {P : Program} {w : World} {K : PySem.W.Frag} {mg : Str → Option Value} {base : Heap} {C S : Addr}
abbrev s_is_ending : Stmt := top 46
theorem sc_is_ending : FnScope ["ending", "least", "char"] ["ending", "least"] (defScope s_is_ending) := ⟨rfl, rfl, rfl, by decide +kernel, rfl, by decide +kernel, by decide +kernel⟩
def spIsEnding : Sp := fun vs H Q _ => ∃ e : Str × Nat, vs = [.str e.1, vN e.2] ∧ EndOk e ∧ ∀ H', Same H H' → Q (.bl true) H'
theorem end_all {e : Str × Nat} (h : EndOk e) : ((codes e.1).map fun c => decide (c ∈ signs.cps.toList)).all id = true ∧ 1 ≤ e.1.length ∧ e.1.length ≤ 4 ∧ e.2 = 3 := by
  rcases h with rfl | rfl <;> exact ⟨by decide +kernel, by decide +kernel, by decide +kernel, rfl⟩
theorem ok_is_ending {f : Addr} {fd : FuncData} (F : Fun K "is_ending" "is_ending" s_is_ending f fd) (T : Txt mg) : FnOk P w K mg base CX0 1 f fd ["ending", "least"] spIsEnding := by
  refine F.ok sc_is_ending (fun vs H Q E h => ?_) (fun cdv A outer s H vs Q E hr h => ?_)
  · obtain ⟨e, rfl, _⟩ := h
    rfl
  · obtain ⟨e, rfl, ok, q⟩ := h
    refine ⟨_, (pss_one (ps_ret (pe_and (pe_chain op_le op_le pe_int (pe_callB call_len_str (by rfl) T.f_len PySem.boot_len (pa_cons (pv 0) pa_nil)) pe_int) (pe_and (pe_callB (cr_all rfl) (by rfl) T.f_all (by decide +kernel) (pa_cons (pe_lc (own := [("char", 2)]) (g := gName 2) (tt := tYes) rfl sc_is_ending.nd (pi_str (pv 0)) (blkOk_by (own := [("char", 2)]) (N := ["ending", "least", "char"]) (sc := defScope s_is_ending) (by decide +kernel)) (fun _ _ _ _ _ => pg_name (i := 2) sc_is_ending.nd rfl (Or.inl rfl)) (fun _ _ _ _ _ => pts_nil) (fun _ _ _ _ _ => (pe_cmpR op_in_sign (pv 2) (pe_gS (by rfl) T.g_SIGNS) rfl))) pa_nil)) (pe_one (pe_chain op_le op_le pe_int (pv 1) pe_int)))))), ?_⟩
    obtain ⟨ha, h1, h4, h3⟩ := end_all ok
    refine ⟨_, rfl, _, rfl, Nat.le_trans h4 (by decide), _, _, rfl, rfl, _, rfl, ?_⟩
    refine ifP (decide_eq_true (by omega)) ?_
    refine ⟨_, _, rfl, rfl, _, rfl, ?_⟩
    refine ifP (decide_eq_true (by omega)) ?_
    refine ⟨_, rfl, e.1, rfl, fun D hD => lc_str (fun i H2 => Same H H2 ∧ H2 D = some (.lst (((codes e.1).take i).map fun c => V.bl (decide (c ∈ signs.cps.toList))))) ⟨same1 hD, upd_same⟩ ?_ ?_⟩
    · rintro i c H2 hi ⟨s2, g2⟩
      refine ⟨rfl, ?_⟩
      have l4 : (codes e.1).length ≤ 4 := by rw [codes_len]; exact h4
      refine ⟨_, rfl, c, signs, rfl, rfl, ?_⟩
      refine ⟨_, g2, lt_line (by rw [List.length_map, List.length_take]; omega), same_mod s2 hD, ?_⟩
      rw [upd_same, List.take_add_one, hi, List.map_append]
      rfl
    · rintro H2 ⟨s2, g2⟩
      rw [List.take_length, map_bl] at g2
      refine ⟨D, _, rfl, .inl (.inl g2), _, rfl, ?_⟩
      refine ifP ha ?_
      refine ⟨_, rfl, _, _, rfl, rfl, _, rfl, ?_⟩
      refine ifP (decide_eq_true (by omega)) ?_
      refine ⟨_, _, rfl, rfl, ?_⟩
      show Q (.bl (decide ((e.2 : Int) ≤ 9))) H2
      rw [show decide ((e.2 : Int) ≤ 9) = true from decide_eq_true (by omega)]
      exact q _ s2
abbrev s_read_endings : Stmt := top 47
theorem sc_read_endings : FnScope ["body", "count", "at", "found", "turn", "ending", "least"] ["body"] (defScope s_read_endings) := ⟨rfl, rfl, rfl, by decide +kernel, rfl, by decide +kernel, by decide +kernel⟩
def spReadEs (K : PySem.W.Frag) : Sp := fun vs H Q _ => ∃ (a : Addr) (es : List (Str × Nat)), vs = [.ref a] ∧ ByAt K H a (endsB es) ∧ EsOk es ∧ ∀ H' p, Same H H' → EsAt K H' p es → Q (.ref p) H'
theorem flat_take {es : List (Str × Nat)} {i : Nat} {e : Str × Nat} (h : es[i]? = some e) : es.flatMap endB = (es.take i).flatMap endB ++ (endB e ++ (es.drop (i + 1)).flatMap endB) := by
  obtain ⟨lt, he⟩ := List.getElem?_eq_some_iff.mp h
  have e1 : es = es.take i ++ (e :: es.drop (i + 1)) := by
    rw [← he, ← List.drop_eq_getElem_cons lt, List.take_append_drop]
  conv => lhs; rw [e1]
  rw [List.flatMap_append, List.flatMap_cons]
theorem ok_read_endings {f : Addr} {fd : FuncData} (F : Fun K "read_endings" "read_endings" s_read_endings f fd) (T : Txt mg) (O_read_number : Own P w K mg base CX0 1 "read_number" ["data", "at"] (spReadN K))
    (O_read_text : Own P w K mg base CX0 2 "read_text" ["data", "at"] (spReadT K)) (O_is_ending : Own P w K mg base CX0 1 "is_ending" ["ending", "least"] spIsEnding) : FnOk P w K mg base CX0 3 f fd ["body"] (spReadEs K) := by
  refine F.ok sc_read_endings (fun vs H Q E h => ?_) (fun cdv A outer s H vs Q E hr h => ?_)
  · obtain ⟨a, es, rfl, _⟩ := h
    rfl
  · obtain ⟨a, es, rfl, hS, ok, q⟩ := h
    refine ⟨_, (pss_cons (ps_set (i := 1) sc_read_endings.nd rfl (Or.inl rfl) (pe_own O_read_number hr (by decide) (by rfl) pass0 (pa_cons (pv 0) (pa_cons pe_int pa_nil))))
      (pss_cons (ps_if (PW.pt (pw_or (pt_cmpR op_isN (pv 1) pe_non (nomark _)) (pw_or1 (pt_cmpR op_gt (pe_ix ix_tup (pv 1) pe_int (fun _ _ => rfl)) pe_int (nomark _))))) (pss_one (ps_ret pe_non)) pss_nil)
      (pss_cons (ps_set (i := 2) sc_read_endings.nd rfl (Or.inl rfl) (pe_ix ix_tup (pv 1) pe_int (fun _ _ => rfl)))
      (pss_cons (ps_set (i := 3) sc_read_endings.nd rfl (Or.inl rfl) (pe_lst pa_nil))
      (pss_cons (ps_for PassesOwn.never rfl (pi_range1 rfl T.f_range (pa_cons (pe_ix ix_tup (pv 1) pe_int (fun _ _ => rfl)) pa_nil)) (pg_name (i := 4) sc_read_endings.nd rfl (Or.inl rfl)) (pss_cons (ps_set (i := 5) sc_read_endings.nd rfl (Or.inl rfl) (pe_own O_read_text hr (by decide) (by rfl) pass0 (pa_cons (pv 0) (pa_cons (pv 2) pa_nil))))
        (pss_cons (ps_if (pt_cmpR op_isN (pv 5) pe_non (nomark _)) (pss_one (ps_ret pe_non)) pss_nil)
        (pss_cons (ps_set (i := 6) sc_read_endings.nd rfl (Or.inl rfl) (pe_own O_read_number hr (by decide) (by rfl) pass0 (pa_cons (pv 0) (pa_cons (pe_ix ix_tup (pv 5) pe_int (fun _ _ => rfl)) pa_nil))))
        (pss_cons (ps_if (PW.pt (pw_or (pt_cmpR op_isN (pv 6) pe_non (nomark _)) (pw_or1 (pt_not (pt_val (pe_own O_is_ending hr (by decide) (by rfl) pass0 (pa_cons (pe_ix ix_tup (pv 5) pe_int (fun _ _ => rfl)) (pa_cons (pe_ix ix_tup (pv 6) pe_int (fun _ _ => rfl)) pa_nil)))))))) (pss_one (ps_ret pe_non)) pss_nil)
        (pss_cons (ps_expr (pe_bm PySem.F.plainAttrs_list PySem.F.slot_list_append PySem.F.type_list_append mt_append (pv 3) (pa_cons (pe_tup (pa_cons (pe_ix ix_tup (pv 5) pe_int (fun _ _ => rfl)) (pa_cons (pe_ix ix_tup (pv 6) pe_int (fun _ _ => rfl)) pa_nil))) pa_nil)))
        (pss_one (ps_set (i := 2) sc_read_endings.nd rfl (Or.inl rfl) (pe_ix ix_tup (pv 6) pe_int (fun _ _ => rfl))))))))))
      (pss_cons (ps_if (pt_cmpR op_lt (pv 2) (pe_callB call_len_seq (by rfl) T.f_len PySem.boot_len (pa_cons (pv 0) pa_nil)) (nomark _)) (pss_one (ps_ret pe_non)) pss_nil)
      (pss_one (ps_ret (pe_callTy call_tuple_of (by rfl) T.f_tuple (by decide +kernel) (pa_cons (pv 3) pa_nil)))))))))), ?_⟩
    have hb := endsB_byte ok
    have hlen := endsB_len ok
    have l2 := ok.len
    have e0 : rdz ((endsB es).drop 0) = some (es.length, (numB es.length).length) := by rw [List.drop_zero]; exact rdz_numB _ _
    refine ⟨_, rfl, a, endsB es, 0, rfl, hS, hb, (fun e => by rw [e0] at e; cases e), fun n c e H1 p1 s1 n1 h1 => ?_⟩
    rw [e0] at e
    injection e with e
    injection e with en ec
    subst en ec
    refine ⟨_, rfl, rfl, _, rfl, ifN (by intro z; cases of_decide_eq_true z) ?_⟩
    have hT : SqT K H1 p1 [vN es.length, vN (0 + (numB es.length).length)] := .inl (.inl h1)
    refine ⟨_, rfl, p1, _, _, _, rfl, rfl, hT, rfl, _, _, rfl, rfl, _, rfl, ?_⟩
    refine ifN (by intro z; have := of_decide_eq_true z; omega) ?_
    refine ⟨_, rfl, p1, _, _, _, rfl, rfl, hT, rfl, ?_⟩
    refine ⟨by show 0 ≤ sizeLine; omega, fun l hl => ?_⟩
    have sl : Same H1 (upd H1 l (.lst [])) := same1 hl
    refine ⟨_, rfl, p1, _, _, _, rfl, rfl, same_tup sl hT, rfl, es.length, rfl, by omega, by omega, for_range (n := es.length) (fun i σ H' => ∃ v4 v5 v6 us, σ = [some (.ref a), some (.ref p1), some (vN ((numB es.length).length + ((es.take i).flatMap endB).length)), some (.ref l), v4, v5, v6] ∧ Same H1 H' ∧ H' l = some (.lst us) ∧ Paired (EnAt K H') us (es.take i))
      ⟨none, none, none, [], ?_, sl, upd_same, .nil⟩ ?_ ?_⟩
    · rw [List.take_zero, List.flatMap_nil, List.length_nil, Nat.zero_add, Nat.add_zero]
      rfl
    · rintro i σ H' hi ⟨v4, v5, v6, us, rfl, s2, g2, hus⟩
      have hie : es[i]? = some es[i] := List.getElem?_eq_getElem hi
      generalize es[i] = e at hie
      have okE := ok.all e (List.mem_of_getElem? hie)
      have hmid : (endsB es).drop ((numB es.length).length + ((es.take i).flatMap endB).length) = textB e.1 ++ (numB e.2 ++ (es.drop (i + 1)).flatMap endB) := by
        unfold endsB
        rw [← List.drop_drop, List.drop_left, flat_take hie, List.drop_left]
        unfold endB
        rw [List.append_assoc]
      have hnext : (numB es.length).length + ((es.take (i + 1)).flatMap endB).length = (numB es.length).length + ((es.take i).flatMap endB).length + (textB e.1).length + (numB e.2).length := by
        rw [List.take_add_one, hie, List.flatMap_append, Option.toList_some, List.flatMap_singleton, List.length_append]
        unfold endB
        rw [List.length_append]
        omega
      rw [hnext]
      generalize (numB es.length).length + ((es.take i).flatMap endB).length = at0 at hmid
      refine ⟨_, rfl, _, rfl, a, endsB es, at0, e.1, _, rfl, (s1.trans s2).seq hS, hb, hmid, okE.text, fun H3 p3 s3 n3 h3 => ?_⟩
      refine ⟨_, rfl, rfl, _, rfl, ifN (by intro z; cases of_decide_eq_true z) ?_⟩
      have hT3 : SqT K H3 p3 [.str e.1, vN (at0 + (textB e.1).length)] := .inl (.inl h3)
      have e4 : rdz ((endsB es).drop (at0 + (textB e.1).length)) = some (e.2, (numB e.2).length) := by
        rw [← List.drop_drop, hmid, List.drop_left]
        exact rdz_numB _ _
      refine ⟨_, rfl, _, rfl, p3, _, _, _, rfl, rfl, hT3, rfl, a, endsB es, at0 + (textB e.1).length, rfl, (s1.trans (s2.trans s3)).seq hS, hb, (fun z => by rw [e4] at z; cases z), fun n c z H5 p5 s5 n5 h5 => ?_⟩
      rw [e4] at z
      injection z with z
      injection z with en ec
      subst en ec
      have hT5 : SqT K H5 p5 [vN e.2, vN (at0 + (textB e.1).length + (numB e.2).length)] := .inl (.inl h5)
      refine ⟨_, rfl, rfl, _, rfl, ifN (by intro z; cases of_decide_eq_true z) ?_⟩
      refine ⟨_, rfl, p3, _, _, _, rfl, rfl, same_tup s5 hT3, rfl, _, rfl, p5, _, _, _, rfl, rfl, hT5, rfl, e, rfl, okE, fun H6 s6 => ?_⟩
      refine ⟨_, rfl, ?_⟩
      refine ifN (by decide) ?_
      have g6 : H6 l = some (.lst us) := s6 _ _ (s5 _ _ (s3 _ _ g2))
      have hT36 := same_tup (s5.trans s6) hT3
      have hT56 := same_tup s6 hT5
      have s26 : Same H1 H6 := ((s2.trans s3).trans s5).trans s6
      have hul : us.length ≤ 2 := by
        have := Paired.length hus
        rw [List.length_take] at this
        omega
      refine ⟨_, rfl, .inl ⟨rfl, _, SqL.of g6⟩, _, rfl, p3, _, _, _, rfl, rfl, hT36, rfl, _, rfl, p5, _, _, _, rfl, rfl, hT56, rfl, by show 2 ≤ sizeLine; decide, fun p7 n7 => ?_⟩
      have s7 : Same H6 (upd H6 p7 (.tup [.str e.1, vN e.2])) := same1 n7
      have g7 := s7 _ _ g6
      refine ⟨l, _, _, rfl, rfl, g7, lt_line (by omega), ?_⟩
      refine ⟨_, rfl, p5, _, _, _, rfl, rfl, (Kt.put g7).tup (same_tup s7 hT56), rfl, ?_⟩
      refine ⟨_, _, _, us ++ [.ref p7], rfl, same_mod (s26.trans s7) hl, upd_same, ?_⟩
      rw [List.take_add_one, hie]
      refine paired_snoc ?_ ((Kt.put g7).ens (Kt.ens (Kt.of (((s3.trans s5).trans s6).trans s7)) hus))
      exact ⟨p7, rfl, (Kt.put g7).tup (.inl (.inl upd_same))⟩
    · rintro σ H' ⟨v4, v5, v6, us, rfl, s2, g2, hus⟩
      rw [List.take_length] at hus
      refine ⟨_, rfl, _, rfl, a, _, rfl, .inl ((s1.trans s2).seq hS), _, _, rfl, rfl, _, rfl, ?_⟩
      refine ifN (fun z => ?_) ?_
      · have := of_decide_eq_true z
        rw [List.length_map, List.take_length] at this
        unfold endsB at this
        rw [List.length_append] at this
        omega
      refine ⟨_, rfl, l, us, rfl, .inl ⟨.inl (.inl g2), fun p hp => ?_⟩⟩
      exact q _ p (same_add (s1.trans s2) hp) ⟨us, .inl (.inl upd_same), Kt.ens (Kt.of (same1 hp)) hus⟩
abbrev s_read_numbers : Stmt := top 48
theorem sc_read_numbers : FnScope ["body", "found", "at", "turn", "told"] ["body"] (defScope s_read_numbers) := ⟨rfl, rfl, rfl, by decide +kernel, rfl, by decide +kernel, by decide +kernel⟩
def spReadNs (K : PySem.W.Frag) : Sp := fun vs H Q _ => ∃ (a : Addr) (ds : List Nat) (x y z : Nat) (r : List Nat), vs = [.ref a] ∧ ByAt K H a ds ∧ (∀ b ∈ ds, b < 256) ∧ ds = numB x ++ (numB y ++ (numB z ++ r)) ∧
  ∀ H' p, Same H H' → H p = none → H' p = some (.tup [vN x, vN y, vN z, vN ((numB x).length + ((numB y).length + (numB z).length))]) → Q (.ref p) H'
theorem flat3 {ns : List Nat} {r : List Nat} {i n : Nat} (h : ns[i]? = some n) : rdz ((ns.flatMap numB ++ r).drop ((ns.take i).flatMap numB).length) = some (n, (numB n).length) := by
  obtain ⟨lt, he⟩ := List.getElem?_eq_some_iff.mp h
  have e1 : ns = ns.take i ++ (n :: ns.drop (i + 1)) := by
    rw [← he, ← List.drop_eq_getElem_cons lt, List.take_append_drop]
  have e2 : ns.flatMap numB ++ r = (ns.take i).flatMap numB ++ (numB n ++ ((ns.drop (i + 1)).flatMap numB ++ r)) := by
    conv => lhs; rw [e1]
    rw [List.flatMap_append, List.flatMap_cons, List.append_assoc, List.append_assoc]
  rw [e2, List.drop_left]
  exact rdz_numB _ _
theorem ok_read_numbers {f : Addr} {fd : FuncData} (F : Fun K "read_numbers" "read_numbers" s_read_numbers f fd) (T : Txt mg) (O_read_number : Own P w K mg base CX0 1 "read_number" ["data", "at"] (spReadN K)) : FnOk P w K mg base CX0 2 f fd ["body"] (spReadNs K) := by
  refine F.ok sc_read_numbers (fun vs H Q E h => ?_) (fun cdv A outer s H vs Q E hr h => ?_)
  · obtain ⟨a, ds, x, y, z, r, rfl, _⟩ := h
    rfl
  · obtain ⟨a, ds, x, y, z, r, rfl, hS, hb, hd, q⟩ := h
    refine ⟨_, (pss_cons (ps_set (i := 1) sc_read_numbers.nd rfl (Or.inl rfl) (pe_lst pa_nil))
      (pss_cons (ps_set (i := 2) sc_read_numbers.nd rfl (Or.inl rfl) pe_int)
      (pss_cons (ps_for PassesOwn.never rfl (pi_range1 rfl T.f_range (pa_cons pe_int pa_nil)) (pg_name (i := 3) sc_read_numbers.nd rfl (Or.inl rfl)) (pss_cons (ps_set (i := 4) sc_read_numbers.nd rfl (Or.inl rfl) (pe_own O_read_number hr (by decide) (by rfl) pass0 (pa_cons (pv 0) (pa_cons (pv 2) pa_nil))))
        (pss_cons (ps_if (pt_cmpR op_isN (pv 4) pe_non (nomark _)) (pss_one (ps_ret pe_non)) pss_nil)
        (pss_cons (ps_expr (pe_bm PySem.F.plainAttrs_list PySem.F.slot_list_append PySem.F.type_list_append mt_append (pv 1) (pa_cons (pe_ix ix_tup (pv 4) pe_int (fun _ _ => rfl)) pa_nil)))
        (pss_one (ps_set (i := 2) sc_read_numbers.nd rfl (Or.inl rfl) (pe_ix ix_tup (pv 4) pe_int (fun _ _ => rfl))))))))
      (pss_one (ps_ret (pe_tup (pa_cons (pe_ix ix_list (pv 1) pe_int (fun _ _ => rfl)) (pa_cons (pe_ix ix_list (pv 1) pe_int (fun _ _ => rfl)) (pa_cons (pe_ix ix_list (pv 1) pe_int (fun _ _ => rfl)) (pa_cons (pv 2) pa_nil)))))))))), ?_⟩
    have hd2 : ds = [x, y, z].flatMap numB ++ r := by
      rw [hd]
      simp
    refine ⟨Nat.zero_le _, fun l hl => ?_⟩
    refine ⟨3, rfl, by decide, by decide, for_range (n := 3) (fun i σ H' => ∃ v3 v4, σ = [some (.ref a), some (.ref l), some (vN (([x, y, z].take i).flatMap numB).length), v3, v4] ∧ Same H H' ∧ H' l = some (.lst (([x, y, z].take i).map vN)))
      ⟨none, none, rfl, same1 hl, upd_same⟩ ?_ ?_⟩
    · rintro i σ H' hi ⟨v3, v4, rfl, s2, g2⟩
      have hin : [x, y, z][i]? = some [x, y, z][i] := List.getElem?_eq_getElem hi
      generalize [x, y, z][i] = n at hin
      have e0 := flat3 (r := r) hin
      rw [← hd2] at e0
      have hnext : (([x, y, z].take (i + 1)).flatMap numB).length = (([x, y, z].take i).flatMap numB).length + (numB n).length := by
        rw [List.take_add_one, hin, List.flatMap_append, Option.toList_some, List.flatMap_singleton, List.length_append]
      rw [hnext]
      generalize (([x, y, z].take i).flatMap numB).length = at0 at e0
      refine ⟨_, rfl, _, rfl, a, ds, at0, rfl, s2.seq hS, hb, (fun z => by rw [e0] at z; cases z), fun m c z H5 p5 s5 n5 h5 => ?_⟩
      rw [e0] at z
      injection z with z
      injection z with en ec
      subst en ec
      have hT5 : SqT K H5 p5 [vN n, vN (at0 + (numB n).length)] := .inl (.inl h5)
      have g5 := s5 _ _ g2
      refine ⟨_, rfl, rfl, _, rfl, ifN (by intro z; cases of_decide_eq_true z) ?_⟩
      refine ⟨_, rfl, .inl ⟨rfl, _, SqL.of g5⟩, _, rfl, p5, _, _, _, rfl, rfl, hT5, rfl, l, _, _, rfl, rfl, g5, lt_line (by rw [List.length_map, List.length_take]; omega), ?_⟩
      refine ⟨_, rfl, p5, _, _, _, rfl, rfl, (Kt.put g5).tup hT5, rfl, ?_⟩
      refine ⟨_, _, rfl, same_mod (s2.trans s5) hl, ?_⟩
      rw [upd_same, List.take_add_one, hin, List.map_append]
      rfl
    · rintro σ H' ⟨v3, v4, rfl, s2, g2⟩
      have hL : SqL K H' l [vN x, vN y, vN z] := .inl (.inl g2)
      refine ⟨_, rfl, l, _, _, _, rfl, rfl, hL, rfl, _, rfl, l, _, _, _, rfl, rfl, hL, rfl, _, rfl, l, _, _, _, rfl, rfl, hL, rfl, _, rfl, by show 4 ≤ sizeLine; decide, fun p hp => ?_⟩
      refine q _ p (same_add s2 hp) (s2.free hp) ?_
      rw [upd_same]
      simp
abbrev s_read_change_text : Stmt := top 49
theorem sc_read_change_text : FnScope ["body", "at", "kind"] ["body", "at"] (defScope s_read_change_text) := ⟨rfl, rfl, rfl, by decide +kernel, rfl, by decide +kernel, by decide +kernel⟩
def spReadCT (K : PySem.W.Frag) : Sp := fun vs H Q _ => ∃ (a : Addr) (ds : List Nat) (i : Nat) (o : Option Str), vs = [.ref a, vN i] ∧ ByAt K H a ds ∧ (∀ b ∈ ds, b < 256) ∧ ds.drop i = txtB o ∧ (∀ s, o = some s → TextOk s) ∧
  ∀ H' p, Same H H' → H p = none → H' p = some (.tup [optV o, vN (i + (txtB o).length)]) → Q (.ref p) H'
theorem ok_read_change_text {f : Addr} {fd : FuncData} (F : Fun K "read_change_text" "read_change_text" s_read_change_text f fd) (T : Txt mg) (O_read_number : Own P w K mg base CX0 1 "read_number" ["data", "at"] (spReadN K))
    (O_read_text : Own P w K mg base CX0 2 "read_text" ["data", "at"] (spReadT K)) : FnOk P w K mg base CX0 3 f fd ["body", "at"] (spReadCT K) := by
  refine F.ok sc_read_change_text (fun vs H Q E h => ?_) (fun cdv A outer s H vs Q E hr h => ?_)
  · obtain ⟨a, ds, i, o, rfl, _⟩ := h
    rfl
  · obtain ⟨a, ds, i, o, rfl, hS, hb, hd, ok, q⟩ := h
    refine ⟨_, (pss_cons (ps_set (i := 2) sc_read_change_text.nd rfl (Or.inl rfl) (pe_own O_read_number hr (by decide) (by rfl) pass0 (pa_cons (pv 0) (pa_cons (pv 1) pa_nil))))
      (pss_cons (ps_if (PW.pt (pw_or (pt_cmpR op_isN (pv 2) pe_non (nomark _)) (pw_or1 (pt_cmpR op_gt (pe_ix ix_tup (pv 2) pe_int (fun _ _ => rfl)) pe_int (nomark _))))) (pss_one (ps_ret pe_non)) pss_nil)
      (pss_cons (ps_if (pt_cmpR op_eq (pe_ix ix_tup (pv 2) pe_int (fun _ _ => rfl)) pe_int (nomark _)) (pss_one (ps_ret (pe_tup (pa_cons pe_non (pa_cons (pe_ix ix_tup (pv 2) pe_int (fun _ _ => rfl)) pa_nil))))) pss_nil)
      (pss_one (ps_ret (pe_own O_read_text hr (by decide) (by rfl) pass0 (pa_cons (pv 0) (pa_cons (pe_ix ix_tup (pv 2) pe_int (fun _ _ => rfl)) pa_nil)))))))), ?_⟩
    cases o with
    | none =>
      have e0 : rdz (ds.drop i) = some (0, (numB 0).length) := by
        have := rdz_numB 0 []
        rw [List.append_nil] at this
        rw [hd]
        exact this
      refine ⟨_, rfl, _, rfl, a, ds, i, rfl, hS, hb, (fun z => by rw [e0] at z; cases z), fun m c z H5 p5 s5 n5 h5 => ?_⟩
      rw [e0] at z
      injection z with z
      injection z with en ec
      subst en ec
      have hT5 : SqT K H5 p5 [vN 0, vN (i + (numB 0).length)] := .inl (.inl h5)
      refine ⟨_, rfl, rfl, _, rfl, ifN (by intro z; cases of_decide_eq_true z) ?_⟩
      refine ⟨_, rfl, p5, _, _, _, rfl, rfl, hT5, rfl, _, _, rfl, rfl, _, rfl, ifN (by decide) ?_⟩
      refine ⟨_, rfl, p5, _, _, _, rfl, rfl, hT5, rfl, rfl, _, rfl, ifP (by decide) ?_⟩
      refine ⟨_, rfl, p5, _, _, _, rfl, rfl, hT5, rfl, by show 2 ≤ sizeLine; decide, fun p hp => ?_⟩
      exact q _ p (same_add s5 hp) (s5.free hp) upd_same
    | some z0 =>
      have e0 : rdz (ds.drop i) = some (1, (numB 1).length) := by
        rw [hd]
        exact rdz_numB _ _
      have e1 : ds.drop (i + (numB 1).length) = textB z0 ++ [] := by
        rw [← List.drop_drop, hd, List.append_nil]
        exact List.drop_left
      have e2 : (txtB (some z0)).length = (numB 1).length + (textB z0).length := List.length_append
      rw [e2] at q
      refine ⟨_, rfl, _, rfl, a, ds, i, rfl, hS, hb, (fun z => by rw [e0] at z; cases z), fun m c z H5 p5 s5 n5 h5 => ?_⟩
      rw [e0] at z
      injection z with z
      injection z with en ec
      subst en ec
      have hT5 : SqT K H5 p5 [vN 1, vN (i + (numB 1).length)] := .inl (.inl h5)
      refine ⟨_, rfl, rfl, _, rfl, ifN (by intro z; cases of_decide_eq_true z) ?_⟩
      refine ⟨_, rfl, p5, _, _, _, rfl, rfl, hT5, rfl, _, _, rfl, rfl, _, rfl, ifN (by decide) ?_⟩
      refine ⟨_, rfl, p5, _, _, _, rfl, rfl, hT5, rfl, rfl, _, rfl, ifN (by decide) ?_⟩
      refine ⟨_, rfl, _, rfl, p5, _, _, _, rfl, rfl, hT5, rfl, a, ds, i + (numB 1).length, z0, [], rfl, s5.seq hS, hb, e1, ok z0 rfl, fun H6 p6 s6 n6 h6 => ?_⟩
      refine q _ p6 (s5.trans s6) (s5.free n6) ?_
      rw [h6, Nat.add_assoc]
      rfl
end
end Ts
namespace Ts
open PySem PySem.Spec PyProof.Rows L2
def smalls : Str := "abcdefghijklmnopqrstuvwxyz"
def digits : Str := "0123456789"
theorem key_all {k : Str} (h : KeyOk k) : ((codes k).map fun c => decide (c ∈ (smalls ++ digits).cps.toList)).all id = true := by
  rcases h with rfl | rfl | rfl <;> decide +kernel
theorem sp_cps : ((" " : Str)).cps.toList = [32] := by decide +kernel
theorem tld_cps : (("~" : Str)).cps.toList = [126] := by decide +kernel
theorem le_sp {c : Nat} (h : 32 ≤ c) : (!decide (((⟨#[c]⟩ : Str).cps.toList) < ((" " : Str)).cps.toList)) = true := by
  rw [sp_cps]
  have : ¬ ([c] < [32]) := by
    intro z
    rw [List.cons_lt_cons_iff] at z
    rcases z with z | ⟨_, z⟩
    · omega
    · exact absurd z (List.lt_irrefl _)
  show (!decide ([c] < [32])) = true
  rw [decide_eq_false this]
  rfl
theorem le_tld {c : Nat} (h : c ≤ 126) : (!decide ((("~" : Str)).cps.toList < ((⟨#[c]⟩ : Str).cps.toList))) = true := by
  rw [tld_cps]
  have : ¬ ([126] < [c]) := by
    intro z
    rw [List.cons_lt_cons_iff] at z
    rcases z with z | ⟨_, z⟩
    · omega
    · exact absurd z (List.lt_irrefl _)
  show (!decide ([126] < [c])) = true
  rw [decide_eq_false this]
  rfl
theorem dec_nl {c : Nat} : decide (V.str ⟨#[c]⟩ = V.str "\n") = decide (c = 10) := by
  rw [newline]
  by_cases h : c = 10
  · subst h
    simp
  · rw [decide_eq_false h, decide_eq_false]
    intro z
    injection z with z
    injection z with z
    have := congrArg (fun a : Array Nat => a.toList) z
    simp at this
    exact h this
theorem all_tr {l : List Nat} : (l.map fun _ => true).all id = true := by
  rw [List.all_map, List.all_eq_true]
  intro _ _
  rfl
/-- a change as a value -/
def CvAt (K : PySem.W.Frag) (H : Hp) (v : V) (c : Ch) : Prop := ∃ b, v = .ref b ∧ ChAt K H b c
theorem Kt.cv {K : PySem.W.Frag} {H H' : Hp} (s : Kt H H') {v : V} {c : Ch} (h : CvAt K H v c) : CvAt K H' v c := by
  obtain ⟨b, e, h⟩ := h
  exact ⟨b, e, s.tup h⟩
theorem Kt.cvs {K : PySem.W.Frag} {H H' : Hp} (s : Kt H H') {vs : List V} {cs : List Ch} (h : Paired (CvAt K H) vs cs) : Paired (CvAt K H') vs cs := Paired.mapP h fun _ _ => Kt.cv s
/-! ### few keys -/
theorem nodup_le {α : Type} [DecidableEq α] : ∀ {l m : List α}, l.Nodup → (∀ x ∈ l, x ∈ m) → l.length ≤ m.length
  | [], _, _, _ => Nat.zero_le _
  | x :: l, m, hn, hs => by
    have hx := hs x List.mem_cons_self
    have h2 := List.nodup_cons.mp hn
    have ih := nodup_le (l := l) (m := m.erase x) h2.2 fun y hy => (List.mem_erase_of_ne (fun e : y = x => h2.1 (by rw [← e]; exact hy))).mpr (hs y (List.mem_cons_of_mem _ hy))
    rw [List.length_erase_of_mem hx] at ih
    have : 0 < m.length := List.length_pos_of_mem hx
    rw [List.length_cons]
    omega
/-- the keys of a dict of keys: none twice, each one of three -/
structure Few (kvs : List (Key × V)) : Prop where
  nd : (kvs.map (·.1)).Nodup
  ok : ∀ k ∈ kvs.map (·.1), ∃ s, k = Sum.inr s ∧ KeyOk s
theorem Few.nil : Few [] := ⟨List.nodup_nil, fun k h => by simp at h⟩
theorem Few.len {kvs : List (Key × V)} (h : Few kvs) : kvs.length ≤ 3 := by
  have := nodup_le (m := [Sum.inr ("a" : Str), Sum.inr ("b" : Str), Sum.inr ("k9" : Str)]) h.nd fun k hk => by
    obtain ⟨s, rfl, hs⟩ := h.ok k hk
    rcases hs with rfl | rfl | rfl <;> simp
  rw [List.length_map] at this
  exact this
theorem Few.put {kvs : List (Key × V)} (h : Few kvs) {s : Str} (hs : KeyOk s) (v : V) : Few (putK kvs (Sum.inr s) v) := by
  unfold putK
  by_cases a : (kvs.any fun kv => decide (kv.1 = Sum.inr s)) = true
  · rw [if_pos a]
    have e : (kvs.map fun kv => if kv.1 = Sum.inr s then (kv.1, v) else kv).map (·.1) = kvs.map (·.1) := by
      rw [List.map_map]
      refine List.map_congr_left fun kv _ => ?_
      show (if kv.1 = Sum.inr s then (kv.1, v) else kv).1 = kv.1
      split <;> rfl
    exact ⟨by rw [e]; exact h.nd, by rw [e]; exact h.ok⟩
  · rw [if_neg a]
    have hn : Sum.inr s ∉ kvs.map (·.1) := fun z => a (by
      obtain ⟨kv, hk, e⟩ := List.mem_map.mp z
      exact List.any_eq_true.mpr ⟨kv, hk, decide_eq_true e⟩)
    refine ⟨?_, fun k hk => ?_⟩
    · rw [List.map_append]
      refine List.nodup_append.mpr ⟨h.nd, by simp, fun x hx y hy => ?_⟩
      have ey : y = Sum.inr s := by simpa using hy
      subst ey
      exact fun e => hn (e ▸ hx)
    · rw [List.map_append, List.mem_append] at hk
      rcases hk with hk | hk
      · exact h.ok k hk
      · have ey : k = Sum.inr s := by simpa using hk
        exact ⟨s, ey, hs⟩
theorem few_keys {kvs : List (Key × V)} (h : Few kvs) : ∃ ks : List Str, (kvs.map fun kv => kV kv.1) = ks.map V.str ∧ ks.length ≤ 3 := by
  have : ∀ l : List (Key × V), (∀ k ∈ l.map (·.1), ∃ s, k = Sum.inr s ∧ KeyOk s) → ∃ ks : List Str, (l.map fun kv => kV kv.1) = ks.map V.str ∧ ks.length = l.length := by
    intro l
    induction l with
    | nil => exact fun _ => ⟨[], rfl, rfl⟩
    | cons kv l ih =>
      intro hk
      obtain ⟨ks, e1, e2⟩ := ih fun k h => hk k (List.mem_cons_of_mem _ h)
      obtain ⟨s, e, _⟩ := hk kv.1 List.mem_cons_self
      exact ⟨s :: ks, by rw [List.map_cons, List.map_cons, e1, e]; rfl, by rw [List.length_cons, List.length_cons, e2]⟩
  obtain ⟨ks, e1, e2⟩ := this kvs h.ok
  exact ⟨ks, e1, by rw [e2]; exact h.len⟩
theorem paired_perm {α β : Type} {F : α → β → Prop} {l' l : List α} (p : l'.Perm l) : ∀ {m : List β}, Paired F l m → ∃ m', m'.Perm m ∧ Paired F l' m' := by
  induction p with
  | nil =>
    intro m h
    cases h
    exact ⟨[], .nil, .nil⟩
  | cons x _ ih =>
    intro m h
    cases h with
    | cons r t =>
      obtain ⟨m', h1, h2⟩ := ih t
      exact ⟨_ :: m', h1.cons _, .cons r h2⟩
  | swap x y l =>
    intro m h
    cases h with
    | cons r t =>
      cases t with
      | cons r' t' => exact ⟨_, List.Perm.swap _ _ _, .cons r' (.cons r t')⟩
  | trans _ _ ih1 ih2 =>
    intro m h
    obtain ⟨m1, h1, h2⟩ := ih2 h
    obtain ⟨m2, h3, h4⟩ := ih1 h2
    exact ⟨m2, h3.trans h1, h4⟩
section
variable {P : Program} {w : World} {K : PySem.W.Frag} {mg : Str → Option Value} {base : Heap} {C S : Addr}
abbrev s__is_key : Stmt := top 13
theorem sc__is_key : FnScope ["key", "char"] ["key"] (defScope s__is_key) := ⟨rfl, rfl, rfl, by decide +kernel, rfl, by decide +kernel, by decide +kernel⟩
def spIsKey : Sp := fun vs H Q _ => ∃ k : Str, vs = [.str k] ∧ KeyOk k ∧ ∀ H', Same H H' → Q (.bl true) H'
theorem ok__is_key {f : Addr} {fd : FuncData} (F : Fun K "_is_key" "_is_key" s__is_key f fd) (T : Txt mg) : FnOk P w K mg base CX0 1 f fd ["key"] spIsKey := by
  refine F.ok sc__is_key (fun vs H Q E h => ?_) (fun cdv A outer s H vs Q E hr h => ?_)
  · obtain ⟨e, rfl, _⟩ := h
    rfl
  · obtain ⟨k, rfl, ok, q⟩ := h
    refine ⟨_, (pss_cons (ps_if (PW.pt (pw_or (pt_not (pt_val (pe_callB call_isi (by rfl) T.f_isinstance (by decide +kernel) (pa_cons (pv 0) (pa_cons (pe_bltn (v := .ty "str") (by rfl) T.f_str (by decide +kernel) rfl) pa_nil))))) (pw_or (pt_cmpR op_lt (pe_callB call_len_str (by rfl) T.f_len PySem.boot_len (pa_cons (pv 0) pa_nil)) pe_int (nomark _)) (pw_or1 (pt_cmpR op_gt (pe_callB call_len_str (by rfl) T.f_len PySem.boot_len (pa_cons (pv 0) pa_nil)) (pe_gI (by rfl) T.g_MOST_KEY) (nomark _)))))) (pss_one (ps_ret pe_bl)) pss_nil)
      (pss_one (ps_ret (pe_callB (cr_all rfl) (by rfl) T.f_all (by decide +kernel) (pa_cons (pe_lc (own := [("char", 1)]) (g := gName 1) (tt := tYes) rfl sc__is_key.nd (pi_str (pv 0)) (blkOk_by (own := [("char", 1)]) (N := ["key", "char"]) (sc := defScope s__is_key) (by decide +kernel)) (fun _ _ _ _ _ => pg_name (i := 1) sc__is_key.nd rfl (Or.inl rfl)) (fun _ _ _ _ _ => pts_nil) (fun _ _ _ _ _ => (pe_cmpR op_in_sign (pv 1) (pe_op op_add_str (pe_gS (by rfl) T.g_SMALLS) (pe_gS (by rfl) T.g_DIGITS)) rfl))) pa_nil))))), ?_⟩
    obtain ⟨l1, l2⟩ := ok.len
    refine ⟨_, rfl, _, _, _, _, true, rfl, .ty "str", .base (.str _), kit_ty (by decide +kernel), _, rfl, ?_⟩
    refine ifN (by decide) ?_
    refine ⟨_, rfl, _, rfl, Nat.le_trans l2 (by decide), _, _, rfl, rfl, _, rfl, ?_⟩
    refine ifN (by intro z; have := of_decide_eq_true z; omega) ?_
    refine ⟨_, rfl, _, rfl, Nat.le_trans l2 (by decide), _, _, rfl, rfl, _, rfl, ?_⟩
    refine ifN (by intro z; have := of_decide_eq_true z; omega) ?_
    refine ⟨_, rfl, k, rfl, fun D hD => lc_str (fun i H2 => Same H H2 ∧ H2 D = some (.lst (((codes k).take i).map fun c => V.bl (decide (c ∈ (smalls ++ digits).cps.toList))))) ⟨same1 hD, upd_same⟩ ?_ ?_⟩
    · rintro i c H2 hi ⟨s2, g2⟩
      refine ⟨rfl, ?_⟩
      have l4 : (codes k).length ≤ 2 := by rw [codes_len]; exact l2
      refine ⟨_, rfl, smalls, digits, rfl, rfl, by decide +kernel, c, smalls ++ digits, rfl, rfl, ?_⟩
      refine ⟨_, g2, lt_line (by rw [List.length_map, List.length_take]; omega), same_mod s2 hD, ?_⟩
      rw [upd_same, List.take_add_one, hi, List.map_append]
      rfl
    · rintro H2 ⟨s2, g2⟩
      rw [List.take_length, map_bl] at g2
      refine ⟨D, _, rfl, .inl (.inl g2), ?_⟩
      have e := key_all ok
      show Q (.bl (((codes k).map fun c => decide (c ∈ (smalls ++ digits).cps.toList)).all id)) H2
      rw [e]
      exact q _ s2
abbrev s__is_text : Stmt := top 14
theorem sc__is_text : FnScope ["text", "char"] ["text"] (defScope s__is_text) := ⟨rfl, rfl, rfl, by decide +kernel, rfl, by decide +kernel, by decide +kernel⟩
def spIsText : Sp := fun vs H Q _ => ∃ o : Option Str, vs = [optV o] ∧ (∀ s, o = some s → TextOk s) ∧ ∀ H', Same H H' → Q (.bl true) H'
theorem ok__is_text {f : Addr} {fd : FuncData} (F : Fun K "_is_text" "_is_text" s__is_text f fd) (T : Txt mg) : FnOk P w K mg base CX0 1 f fd ["text"] spIsText := by
  refine F.ok sc__is_text (fun vs H Q E h => ?_) (fun cdv A outer s H vs Q E hr h => ?_)
  · obtain ⟨e, rfl, _⟩ := h
    rfl
  · obtain ⟨o, rfl, ok, q⟩ := h
    refine ⟨_, (pss_cons (ps_if (pt_cmpR op_isN (pv 0) pe_non (nomark _)) (pss_one (ps_ret pe_bl)) pss_nil)
      (pss_cons (ps_if (PW.pt (pw_or (pt_not (pt_val (pe_callB call_isi (by rfl) T.f_isinstance (by decide +kernel) (pa_cons (pv 0) (pa_cons (pe_bltn (v := .ty "str") (by rfl) T.f_str (by decide +kernel) rfl) pa_nil))))) (pw_or1 (pt_cmpR op_gt (pe_callB call_len_str (by rfl) T.f_len PySem.boot_len (pa_cons (pv 0) pa_nil)) (pe_gI (by rfl) T.g_MOST_TEXT) (nomark _))))) (pss_one (ps_ret pe_bl)) pss_nil)
      (pss_one (ps_ret (pe_callB (cr_all rfl) (by rfl) T.f_all (by decide +kernel) (pa_cons (pe_lc (own := [("char", 1)]) (g := gName 1) (tt := tYes) rfl sc__is_text.nd (pi_str (pv 0)) (blkOk_by (own := [("char", 1)]) (N := ["text", "char"]) (sc := defScope s__is_text) (by decide +kernel)) (fun _ _ _ _ _ => pg_name (i := 1) sc__is_text.nd rfl (Or.inl rfl)) (fun _ _ _ _ _ => pts_nil) (fun _ _ _ _ _ => (pe_or (pe_cmpR op_eq (pv 1) pe_str (nomark _)) (pe_one (pe_and (pe_cmpR op_le_str pe_str (pv 1) (nomark _)) (pe_and (pe_cmpR op_le_str (pv 1) pe_str (nomark _)) (pe_one (pe_cmpR op_ne (pe_callB call_ord (by rfl) T.f_ord (by decide +kernel) (pa_cons (pv 1) pa_nil)) pe_int (nomark _))))))))) pa_nil)))))), ?_⟩
    cases o with
    | none =>
      refine ⟨_, rfl, rfl, _, rfl, ifP (by decide) ?_⟩
      exact q _ (Same.refl H)
    | some k =>
      have tx := ok k rfl
      refine ⟨_, rfl, rfl, _, rfl, ifN (by intro z; cases of_decide_eq_true z) ?_⟩
      refine ⟨_, rfl, _, _, _, _, true, rfl, .ty "str", .base (.str _), kit_ty (by decide +kernel), _, rfl, ?_⟩
      refine ifN (by decide) ?_
      refine ⟨_, rfl, _, rfl, Nat.le_trans tx.1 (by decide), _, _, rfl, rfl, _, rfl, ?_⟩
      refine ifN (by intro z; have := of_decide_eq_true z; have := tx.1; omega) ?_
      refine ⟨_, rfl, k, rfl, fun D hD => lc_str (fun i H2 => Same H H2 ∧ H2 D = some (.lst (((codes k).take i).map fun c => V.bl ((fun _ => true) c)))) ⟨same1 hD, upd_same⟩ ?_ ?_⟩
      · rintro i c H2 hi ⟨s2, g2⟩
        refine ⟨rfl, ?_⟩
        have l4 : (codes k).length ≤ 100 := by rw [codes_len]; exact tx.1
        have hc := tx.2 c (List.mem_of_getElem? hi)
        have fin : ∃ acc, H2 D = some (.lst acc) ∧ acc.length < sizeLine ∧ (Same H (upd H2 D (.lst (acc ++ [V.bl true]))) ∧ upd H2 D (.lst (acc ++ [V.bl true])) D = some (.lst (((codes k).take (i + 1)).map fun c => V.bl ((fun _ => true) c)))) := by
          refine ⟨_, g2, lt_line (by rw [List.length_map, List.length_take]; omega), same_mod s2 hD, ?_⟩
          rw [upd_same, List.take_add_one, hi, List.map_append]
          rfl
        refine ⟨_, rfl, rfl, _, rfl, ?_⟩
        by_cases h10 : c = 10
        · exact ifP (by rw [dec_nl]; exact decide_eq_true h10) fin
        · refine ifN (by rw [dec_nl]; exact fun z => h10 (of_decide_eq_true z)) ?_
          have h2 : 32 ≤ c ∧ c ≤ 126 ∧ c ≠ 37 := hc.resolve_left h10
          refine ⟨_, rfl, _, _, rfl, rfl, _, rfl, ifP (le_sp h2.1) ?_⟩
          refine ⟨_, rfl, _, _, rfl, rfl, _, rfl, ifP (le_tld h2.2.1) ?_⟩
          refine ⟨_, rfl, ⟨#[c]⟩, rfl, rfl, rfl, ?_⟩
          have e37 : (!decide (V.int ((c : Nat) : Int) = V.int 37)) = true := by
            rw [decide_eq_false (fun z => h2.2.2 (by injection z with y; omega))]
            rfl
          show ∃ acc, H2 D = some (.lst acc) ∧ acc.length < sizeLine ∧ (Same H (upd H2 D (.lst (acc ++ [V.bl (!decide (V.int ((c : Nat) : Int) = V.int 37))]))) ∧ upd H2 D (.lst (acc ++ [V.bl (!decide (V.int ((c : Nat) : Int) = V.int 37))])) D = _)
          rw [e37]
          exact fin
      · rintro H2 ⟨s2, g2⟩
        rw [List.take_length, map_bl] at g2
        refine ⟨D, _, rfl, .inl (.inl g2), ?_⟩
        show Q (.bl (((codes k).map fun _ => true).all id)) H2
        rw [all_tr]
        exact q _ s2
abbrev s_check_change : Stmt := top 15
theorem sc_check_change : FnScope ["change", "time", "key", "text"] ["change"] (defScope s_check_change) := ⟨rfl, rfl, rfl, by decide +kernel, rfl, by decide +kernel, by decide +kernel⟩
def spCheckCh (K : PySem.W.Frag) : Sp := fun vs H Q _ => ∃ (a : Addr) (c : Ch), vs = [.ref a] ∧ ChAt K H a c ∧ ChOk c ∧ ∀ H', Same H H' → Q .non H'
theorem ok_check_change {f : Addr} {fd : FuncData} (F : Fun K "check_change" "check_change" s_check_change f fd) (T : Txt mg) (O__is_key : Own P w K mg base CX0 1 "_is_key" ["key"] spIsKey)
    (O__is_text : Own P w K mg base CX0 1 "_is_text" ["text"] spIsText) : FnOk P w K mg base CX0 2 f fd ["change"] (spCheckCh K) := by
  refine F.ok sc_check_change (fun vs H Q E h => ?_) (fun cdv A outer s H vs Q E hr h => ?_)
  · obtain ⟨a, c, rfl, _⟩ := h
    rfl
  · obtain ⟨a, c, rfl, hC, ok, q⟩ := h
    refine ⟨_, (pss_cons (ps_asg (pv 0) (pg_tup rfl (pgs_cons (pg_name (i := 1) sc_check_change.nd rfl (Or.inl rfl)) (pgs_cons (pg_name (i := 2) sc_check_change.nd rfl (Or.inl rfl)) (pgs_cons (pg_name (i := 3) sc_check_change.nd rfl (Or.inl rfl)) pgs_nil)))))
      (pss_cons (ps_if (PW.pt (pw_or (pt_not (pt_val (pe_callB call_isi (by rfl) T.f_isinstance (by decide +kernel) (pa_cons (pv 1) (pa_cons (pe_bltn (v := .ty "int") (by rfl) T.f_int (by decide +kernel) rfl) pa_nil))))) (pw_or (pt_val (pe_callB call_isi (by rfl) T.f_isinstance (by decide +kernel) (pa_cons (pv 1) (pa_cons (pe_bltn (v := .ty "bool") (by rfl) T.f_bool (by decide +kernel) rfl) pa_nil)))) (pw_or (pt_cmpR op_lt (pv 1) pe_int (nomark _)) (pw_or1 (pt_cmpR op_gt (pv 1) (pe_gI (by rfl) T.g_MOST_TIME) (nomark _))))))) (pss_one ps_never) pss_nil)
      (pss_cons (ps_if (pt_not (pt_val (pe_own O__is_key hr (by decide) (by rfl) pass0 (pa_cons (pv 2) pa_nil)))) (pss_one ps_never) pss_nil)
      (pss_one (ps_if (pt_not (pt_val (pe_own O__is_text hr (by decide) (by rfl) pass0 (pa_cons (pv 3) pa_nil)))) (pss_one ps_never) pss_nil))))), ?_⟩
    refine ⟨_, rfl, a, _, rfl, hC, rfl, _, _, rfl, _, _, rfl, _, _, rfl, rfl, ?_⟩
    refine ⟨_, rfl, _, _, _, _, true, rfl, .ty "int", .base (.int _), kit_ty (by decide +kernel), _, rfl, ?_⟩
    refine ifN (by decide) ?_
    refine ⟨_, rfl, _, _, _, _, false, rfl, .ty "bool", .base (.int _), kit_ty (by decide +kernel), _, rfl, ?_⟩
    refine ifN (by decide) ?_
    have ht := ok.time
    refine ⟨_, rfl, _, _, rfl, rfl, _, rfl, ifN (by intro z; have := of_decide_eq_true z; omega) ?_⟩
    refine ⟨_, rfl, _, _, rfl, rfl, _, rfl, ifN (by intro z; have := of_decide_eq_true z; omega) ?_⟩
    refine ⟨_, rfl, c.key, rfl, ok.key, fun H1 s1 => ⟨_, rfl, ifN (by decide) ?_⟩⟩
    refine ⟨_, rfl, c.txt, rfl, ok.txt, fun H2 s2 => ⟨_, rfl, ifN (by decide) ?_⟩⟩
    exact q _ (s1.trans s2)
end
end Ts
namespace Ts
open PySem PySem.Spec PyProof.Rows L2
theorem hu0 {k : Nat} {A : Around} (hr : Room k A) : A.units < cLine := by have := hr.un; omega
theorem hu1 {k : Nat} {A : Around} (hr : Room k A) : A.units + 1 < cLine := by have := hr.un; omega
theorem hu64 {k : Nat} {A : Around} (hr : Room k A) : A.units + 64 < cLine := by have := hr.un; omega
theorem hu65 {k : Nat} {A : Around} (hr : Room k A) : A.units + 65 < cLine := by have := hr.un; omega
/-- the tellings' dict: by stamp and source, the change -/
def StD (K : PySem.W.Frag) (H : Hp) (kvs : List (List Key × V)) (ts : List Tl) : Prop :=
  ∀ i j : Nat, (∀ v, valV kvs [Sum.inl (i : Int), Sum.inl (j : Int)] = some v → ∃ t ∈ ts, t.st = i ∧ t.src = j ∧ CvAt K H v t.ch) ∧ (valV kvs [Sum.inl (i : Int), Sum.inl (j : Int)] = none → ∀ t ∈ ts, ¬ (t.st = i ∧ t.src = j))
theorem StD.kt {K : PySem.W.Frag} {H H' : Hp} {kvs : List (List Key × V)} {ts : List Tl} (s : Kt H H') (h : StD K H kvs ts) : StD K H' kvs ts := fun i j =>
  ⟨fun v e => by
    obtain ⟨t, h1, h2, h3, h4⟩ := (h i j).1 v e
    exact ⟨t, h1, h2, h3, s.cv h4⟩, (h i j).2⟩
theorem StD.nil {K : PySem.W.Frag} {H : Hp} : StD K H [] [] := fun i j => ⟨fun v e => (by cases e), fun _ t h => (by cases h)⟩
theorem StD.put {K : PySem.W.Frag} {H : Hp} {kvs : List (List Key × V)} {ts : List Tl} {t : Tl} {v : V} (h : StD K H kvs ts) (hv : CvAt K H v t.ch) : StD K H (putK kvs [Sum.inl (t.st : Int), Sum.inl (t.src : Int)] v) (ts ++ [t]) := fun i j => by
  rw [valV_put]
  by_cases e : ([Sum.inl (i : Int), Sum.inl (j : Int)] : List Key) = [Sum.inl (t.st : Int), Sum.inl (t.src : Int)]
  · rw [if_pos e]
    injection e with e1 e2
    injection e1 with e1
    injection e2 with e2 _
    injection e2 with e2
    refine ⟨fun w ew => ?_, fun z => by cases z⟩
    injection ew with ew
    subst ew
    exact ⟨t, by simp, by omega, by omega, hv⟩
  · rw [if_neg e]
    refine ⟨fun w ew => ?_, fun z y hy q => ?_⟩
    · obtain ⟨y, h1, h2⟩ := (h i j).1 w ew
      exact ⟨y, List.mem_append_left _ h1, h2⟩
    · rcases List.mem_append.mp hy with hy | hy
      · exact (h i j).2 z y hy q
      · have ey : y = t := by simpa using hy
        subst ey
        exact e (by rw [q.1, q.2])
theorem paired_map {α β γ : Type} {F : α → β → Prop} {G : α → γ → Prop} {f : β → γ} (h : ∀ x y, F x y → G x (f y)) : ∀ {l : List α} {m : List β}, Paired F l m → Paired G l (m.map f)
  | _, _, .nil => .nil
  | _, _, .cons r t => .cons (h _ _ r) (paired_map h t)
section
variable {P : Program} {w : World} {K : PySem.W.Frag} {mg : Str → Option Value} {base : Heap} {C S : Addr}
abbrev s_Shelf___init__ : Stmt := inClass (top 19) 0
theorem sc_Shelf___init__ : FnScope ["self", "endings"] ["self", "endings"] (defScope s_Shelf___init__) := ⟨rfl, rfl, rfl, by decide +kernel, rfl, by decide +kernel, by decide +kernel⟩
def spShelfInit (K : PySem.W.Frag) (S : Addr) : Sp := fun vs H Q _ => ∃ (x dx e : Addr) (xs : List V), vs = [.ref x, .ref e] ∧ H x = some (.ins S dx []) ∧ SqT K H e xs ∧
  ∀ H' l, (∀ b o, b ≠ x → H b = some o → H' b = some o) → H l = none → H' x = some (.ins S dx (sf (.ref e) l)) → H' l = some (.lst []) → Q .non H'
theorem ok_Shelf___init__ {f : Addr} {fd : FuncData} (F : Fun K "__init__" "Shelf.__init__" s_Shelf___init__ f fd) (T : Txt mg) (L : Cl K C S) : FnOk P w K mg base CX0 1 f fd ["self", "endings"] (spShelfInit K S) := by
  refine F.ok sc_Shelf___init__ (fun vs H Q E h => ?_) (fun cdv A outer s H vs Q E hr h => ?_)
  · obtain ⟨a, c, e, xs, rfl, _⟩ := h
    rfl
  · obtain ⟨x, dx, e, xs, rfl, hx, hT, q⟩ := h
    refine ⟨_, (pss_cons (ps_fld (pv 0) (pe_callTy call_tupleT (by rfl) T.f_tuple (by decide +kernel) (pa_cons (pv 1) pa_nil)) rfl)
      (pss_one (ps_fld (pv 0) (pe_lst pa_nil) rfl))), ?_⟩
    refine ⟨_, rfl, e, xs, rfl, hT, _, rfl, x, S, dx, _, rfl, hx, L.sC, L.sEnd, by decide, ?_⟩
    refine ⟨by show 0 ≤ sizeLine; omega, fun l hl => ?_⟩
    have hlx : l ≠ x := fun z => by
      rw [z, upd_same] at hl
      cases hl
    have hl0 : H l = none := by rw [upd_ne hlx] at hl; exact hl
    refine ⟨_, rfl, x, S, dx, _, rfl, by rw [upd_ne (Ne.symm hlx)]; exact upd_same, L.sC, L.sChg, by show 1 < 1000; decide, ?_⟩
    refine q _ l (fun b o hb ho => ?_) hl0 upd_same (by rw [upd_ne hlx]; exact upd_same)
    rw [upd_ne hb, upd_ne (ne_of_none ho hl0), upd_ne hb]
    exact ho
abbrev s_Shelf_known_keys : Stmt := inClass (top 19) 3
theorem sc_Shelf_known_keys : FnScope ["self", "change"] ["self"] (defScope s_Shelf_known_keys) := ⟨rfl, rfl, rfl, by decide +kernel, rfl, by decide +kernel, by decide +kernel⟩
def spKnown (K : PySem.W.Frag) (S : Addr) : Sp := fun vs H Q _ => ∃ (p dx l : Addr) (e : V) (us : List V) (cs : List Ch), vs = [.ref p] ∧ H p = some (.ins S dx (sf e l)) ∧ H l = some (.lst us) ∧ Paired (CvAt K H) us cs ∧ (∀ c ∈ cs, ChOk c) ∧
  ∀ H' q (ks : List Str), Same H H' → H q = none → H' q = some (.lst (ks.map V.str)) → ks.length ≤ 3 → Q (.ref q) H'
theorem ok_Shelf_known_keys {f : Addr} {fd : FuncData} (F : Fun K "known_keys" "Shelf.known_keys" s_Shelf_known_keys f fd) (T : Txt mg) (L : Cl K C S) : FnOk P w K mg base CX0 1 f fd ["self"] (spKnown K S) := by
  refine F.ok sc_Shelf_known_keys (fun vs H Q E h => ?_) (fun cdv A outer s H vs Q E hr h => ?_)
  · obtain ⟨a, c, e, xs, us, cs, rfl, _⟩ := h
    rfl
  · obtain ⟨p, dx, l, e, us, cs, rfl, hp, hl, hus, ok, q⟩ := h
    refine ⟨_, (pss_one (ps_ret (pe_callB cr_sortedS (by rfl) T.f_sorted (by decide +kernel) (pa_cons (pe_callTy (call_listD rfl) (by rfl) T.f_list (by decide +kernel) (pa_cons (pe_dc (own := [("change", 1)]) (g := gName 1) (tt := tYes) rfl sc_Shelf_known_keys.nd (pi_list (pe_fld (pv 0) rfl)) (blkOk_by (own := [("change", 1)]) (N := ["self", "change"]) (sc := defScope s_Shelf_known_keys) (by decide +kernel)) (fun _ _ _ _ _ => pg_name (i := 1) sc_Shelf_known_keys.nd rfl (Or.inl rfl)) (fun _ _ _ _ _ => pts_nil) (fun _ _ _ _ _ => (pe_ix (show IxR _ (rIxT K) from ix_tup) (pv 1) pe_int (fun _ _ => rfl))) (fun _ _ _ _ _ => pe_bl)) pa_nil)) pa_nil)))), ?_⟩
    refine ⟨_, rfl, p, S, dx, _, _, rfl, hp, L.sC, L.sChg, sf_changes _ _, l, rfl, ⟨_, SqL.of hl⟩, fun D hD => dc_list (K := K) (a := l) (xs := us) (fun i H2 => Same H H2 ∧ ∃ kvs, H2 D = some (.dK kvs) ∧ Few kvs) ⟨same1 hD, [], upd_same, Few.nil⟩ (fun i H2 _ ⟨s2, _⟩ => .inl (.inl (s2 _ _ hl))) ?_ ?_⟩
    · rintro i x H2 hi ⟨s2, kvs, g2, few⟩
      obtain ⟨c, hc, b, rfl, hC⟩ := paired_get hus hi
      have okc := ok c (List.mem_of_getElem? hc)
      refine ⟨rfl, ?_⟩
      refine ⟨_, rfl, b, _, _, _, rfl, rfl, same_tup s2 hC, rfl, kvs, Sum.inr c.key, rfl, g2, lt_line (by have := few.len; omega), same_mod s2 hD, _, upd_same, few.put okc.key _⟩
    · rintro H2 ⟨s2, kvs, g2, few⟩
      obtain ⟨ks, e1, e2⟩ := few_keys few
      refine ⟨D, kvs, rfl, .inl g2, fun p1 n1 => ?_⟩
      refine ⟨p1, ks, rfl, .inl (.inl (by rw [upd_same, e1])), by omega, fun ys p2 hy _ n2 => ?_⟩
      exact q _ p2 ys (same_add (same_add s2 n1) n2) ((same_add s2 n1).free n2) upd_same (by rw [hy.length_eq]; exact e2)
abbrev s_Shelf_tell : Stmt := inClass (top 19) 4
theorem sc_Shelf_tell : FnScope ["self", "time", "key", "text", "known"] ["self", "time", "key", "text"] (defScope s_Shelf_tell) := ⟨rfl, rfl, rfl, by decide +kernel, rfl, by decide +kernel, by decide +kernel⟩
def spShelfTell (K : PySem.W.Frag) (S : Addr) : Sp := fun vs H Q _ => ∃ (p dx l : Addr) (e : V) (us : List V) (cs : List Ch) (c : Ch), vs = [.ref p, vN c.time, .str c.key, optV c.txt] ∧ H p = some (.ins S dx (sf e l)) ∧ H l = some (.lst us) ∧ Paired (CvAt K H) us cs ∧
  (∀ c ∈ cs, ChOk c) ∧ cs.length < 80 ∧ ChOk c ∧ ∀ H' us', (∀ b o, b ≠ l → H b = some o → H' b = some o) → H' l = some (.lst us') → Paired (CvAt K H') us' (cs ++ [c]) → Q .non H'
theorem ok_Shelf_tell {f : Addr} {fd : FuncData} (F : Fun K "tell" "Shelf.tell" s_Shelf_tell f fd) (T : Txt mg) (L : Cl K C S) (O_check_change : Own P w K mg base CX0 2 "check_change" ["change"] (spCheckCh K))
    (O_Shelf_known_keys : OwnM P w K mg base CX0 S 1 "known_keys" ["self"] (spKnown K S)) : FnOk P w K mg base CX0 3 f fd ["self", "time", "key", "text"] (spShelfTell K S) := by
  refine F.ok sc_Shelf_tell (fun vs H Q E h => ?_) (fun cdv A outer s H vs Q E hr h => ?_)
  · obtain ⟨a, c, e, xs, us, cs, c, rfl, _⟩ := h
    rfl
  · obtain ⟨p, dx, l, e, us, cs, c, rfl, hp, hl, hus, ok, hz, okc, q⟩ := h
    refine ⟨_, (pss_cons (ps_expr (pe_own O_check_change hr (by decide) (by rfl) pass0 (pa_cons (pe_tup (pa_cons (pv 1) (pa_cons (pv 2) (pa_cons (pv 3) pa_nil)))) pa_nil)))
      (pss_cons (ps_if (pt_cmpR op_eq (pe_callB call_len_seq (by rfl) T.f_len PySem.boot_len (pa_cons (pe_fld (pv 0) rfl) pa_nil)) (pe_gI (by rfl) T.g_MOST_CHANGES_shelves) (nomark _)) (pss_one ps_never) pss_nil)
      (pss_cons (ps_set (i := 4) sc_Shelf_tell.nd rfl (Or.inl rfl) (pe_ownM0 O_Shelf_known_keys hr (by decide) pass0 (pv 0)))
      (pss_cons (ps_if (PW.pt (pw_and (pt_cmpR op_notIn_seq (pv 2) (pv 4) rfl) (pw_and1 (pt_cmpR op_eq (pe_callB call_len_seq (by rfl) T.f_len PySem.boot_len (pa_cons (pv 4) pa_nil)) (pe_gI (by rfl) T.g_MOST_KEYS_shelves) (nomark _))))) (pss_one ps_never) pss_nil)
      (pss_one (ps_expr (pe_bm PySem.F.plainAttrs_list PySem.F.slot_list_append PySem.F.type_list_append mt_append (pe_fld (pv 0) rfl) (pa_cons (pe_tup (pa_cons (pv 1) (pa_cons (pv 2) (pa_cons (pv 3) pa_nil)))) pa_nil)))))))), ?_⟩
    have hul : us.length = cs.length := Paired.length hus
    refine ⟨_, rfl, _, rfl, _, rfl, by show 3 ≤ sizeLine; decide, fun t1 n1 => ?_⟩
    have s1 : Same H (upd H t1 (.tup [vN c.time, .str c.key, optV c.txt])) := same1 n1
    refine ⟨t1, c, rfl, .inl (.inl upd_same), okc, fun H2 s2' => ?_⟩
    have s2 := s1.trans s2'
    refine ⟨_, rfl, p, S, dx, _, _, rfl, s2 _ _ hp, L.sC, L.sChg, sf_changes _ _, l, us, rfl, .inl (SqL.of (s2 _ _ hl)), rfl, _, rfl, ?_⟩
    refine ifN (fun z => by
      have z2 := of_decide_eq_true z
      injection z2 with z3
      omega) ?_
    refine ⟨_, rfl, p, dx, _, rfl, s2 _ _ hp, sf_no _ _ (by decide +kernel) (by decide +kernel), p, dx, l, e, us, cs, rfl, s2 _ _ hp, s2 _ _ hl, (Kt.of s2).cvs hus, ok, fun H3 q3 ks s3' n3 h3 hk => ?_⟩
    have s3 := s2.trans s3'
    have hL : SqL K H3 q3 (ks.map V.str) := .inl (.inl h3)
    have n4 : ¬ decide (V.int ((ks.map V.str).length : Int) = V.int 12) = true := fun z => by
      have z2 := of_decide_eq_true z
      injection z2 with z3
      rw [List.length_map] at z3
      omega
    have lz : us.length < sizeLine := lt_line (by omega)
    have fin : ∀ t5, H3 t5 = none → Q .non (upd (upd H3 t5 (.tup [vN c.time, .str c.key, optV c.txt])) l (.lst (us ++ [.ref t5]))) := fun t5 n5 => by
      have s5 : Same H3 (upd H3 t5 (.tup [vN c.time, .str c.key, optV c.txt])) := same1 n5
      have h5 := s5 _ _ (s3 _ _ hl)
      refine q _ (us ++ [.ref t5]) (fun b o hb ho => by rw [upd_ne hb]; exact s5 _ _ (s3 _ _ ho)) upd_same (paired_snoc ⟨t5, rfl, ?_⟩ (((Kt.of (s3.trans s5)).trans (Kt.put h5)).cvs hus))
      exact (Kt.put h5).tup (.inl (.inl upd_same))
    refine ⟨_, rfl, _, rfl, q3, _, rfl, .inl hL, rfl, by simp [flatV], _, rfl, ite2 (fun _ => ?_) (fun _ => ?_)⟩
    · refine ⟨_, rfl, q3, _, rfl, .inl hL, rfl, _, rfl, ifN n4 ?_⟩
      refine ⟨_, rfl, p, S, dx, _, _, rfl, s3 _ _ hp, L.sC, L.sChg, sf_changes _ _, .inl ⟨rfl, _, SqL.of (s3 _ _ hl)⟩, _, rfl, _, rfl, _, rfl, by show 3 ≤ sizeLine; decide, fun t5 n5 => ?_⟩
      exact ⟨l, _, _, rfl, rfl, (same1 n5) _ _ (s3 _ _ hl), lz, fin t5 n5⟩
    · refine iteF ?_
      refine ⟨_, rfl, p, S, dx, _, _, rfl, s3 _ _ hp, L.sC, L.sChg, sf_changes _ _, .inl ⟨rfl, _, SqL.of (s3 _ _ hl)⟩, _, rfl, _, rfl, _, rfl, by show 3 ≤ sizeLine; decide, fun t5 n5 => ?_⟩
      exact ⟨l, _, _, rfl, rfl, (same1 n5) _ _ (s3 _ _ hl), lz, fin t5 n5⟩
abbrev s_shelf_of : Stmt := top 24
theorem sc_shelf_of : FnScope ["endings", "tellings", "shelf", "stamp", "source", "change"] ["endings", "tellings"] (defScope s_shelf_of) := ⟨rfl, rfl, rfl, by decide +kernel, rfl, by decide +kernel, by decide +kernel⟩
def spShelfOf (K : PySem.W.Frag) (S : Addr) : Sp := fun vs H Q _ => ∃ (e a : Addr) (es : List (Str × Nat)) (us : List V) (ts : List Tl), vs = [.ref e, .ref a] ∧ EsAt K H e es ∧ SqL K H a us ∧ TlsAt K H us ts ∧ (∀ t ∈ ts, TlOk t) ∧ ts.length < 80 ∧
  ∀ H' p dx l us', Same H H' → H p = none → H l = none → H' p = some (.ins S dx (sf (.ref e) l)) → H' l = some (.lst us') → Paired (CvAt K H') us' (ts.map Tl.ch) → Q (.ref p) H'
theorem ok_shelf_of {f : Addr} {fd : FuncData} (F : Fun K "shelf_of" "shelf_of" s_shelf_of f fd) (T : Txt mg) (L : Cl K C S) (O_Shelf___init__ : OwnC P w K mg base CX0 S 1 "Shelf" ["self", "endings"] (spShelfInit K S))
    (O_Shelf_tell : OwnM P w K mg base CX0 S 3 "tell" ["self", "time", "key", "text"] (spShelfTell K S)) : FnOk P w K mg base CX0 4 f fd ["endings", "tellings"] (spShelfOf K S) := by
  refine F.ok sc_shelf_of (fun vs H Q E h => ?_) (fun cdv A outer s H vs Q E hr h => ?_)
  · obtain ⟨a, c, e, xs, us, rfl, _⟩ := h
    rfl
  · obtain ⟨e, a, es, us, ts, rfl, hE, hS, hus, ok, hz, q⟩ := h
    refine ⟨_, (pss_cons (ps_set (i := 2) sc_shelf_of.nd rfl (Or.inl rfl) (pe_makeO O_Shelf___init__ hr (by decide) (by rfl) pass0 (pa_cons (pv 0) pa_nil)))
      (pss_cons (ps_for PassesOwn.never rfl (pi_list (pv 1)) (pg_tup rfl (pgs_cons (pg_name (i := 3) sc_shelf_of.nd rfl (Or.inl rfl)) (pgs_cons (pg_name (i := 4) sc_shelf_of.nd rfl (Or.inl rfl)) (pgs_cons (pg_name (i := 5) sc_shelf_of.nd rfl (Or.inl rfl)) pgs_nil)))) (pss_one (ps_expr (pe_ownM O_Shelf_tell hr (by decide) pass0 (pv 2) (pa_cons (pe_ix ix_tup (pv 5) pe_int (fun _ _ => rfl)) (pa_cons (pe_ix ix_tup (pv 5) pe_int (fun _ _ => rfl)) (pa_cons (pe_ix ix_tup (pv 5) pe_int (fun _ _ => rfl)) pa_nil)))))))
      (pss_one (ps_ret (pv 2))))), ?_⟩
    obtain ⟨xe, hxe, hpe⟩ := hE
    have hul : us.length = ts.length := Paired.length hus
    refine ⟨_, rfl, fun x dx nx nd hne => ?_⟩
    have sm : Same H (upd (upd H dx (.own x)) x (.ins S dx [])) := same_mod (same1 nd) nx
    refine ⟨x, dx, e, xe, rfl, upd_same, same_tup sm hxe, fun H1 l k nl hx hl => ⟨rfl, ?_⟩⟩
    have s1 : Same H H1 := Same.made nx nd fun b o ho hb => k b o hb ho
    have nl0 : H l = none := sm.free nl
    have hxl : x ≠ l := ne_of hx hl (by intro z; cases z)
    refine ⟨_, rfl, a, rfl, ⟨_, s1.seq hS⟩, for_list (K := K) (a := a) (xs := us) (fun i σ H' => ∃ v3 v4 v5 us', σ = [some (.ref e), some (.ref a), some (.ref x), v3, v4, v5] ∧ Same H H' ∧ H' x = some (.ins S dx (sf (.ref e) l)) ∧ H' l = some (.lst us') ∧ Paired (CvAt K H') us' ((ts.take i).map Tl.ch))
      ⟨none, none, none, [], rfl, s1, hx, hl, .nil⟩ (fun i σ H' _ ⟨_, _, _, _, _, s2, _⟩ => s2.seq hS) ?_ ?_⟩
    · rintro i y σ H' hi ⟨v3, v4, v5, us', rfl, s2, gx, gl, hp⟩
      obtain ⟨t, ht, b, cb, rfl, hT, hC⟩ := paired_get hus hi
      have okt := ok t (List.mem_of_getElem? ht)
      have hT2 := same_tup s2 hT
      have hC2 : SqT K H' cb [vN t.ch.time, .str t.ch.key, optV t.ch.txt] := same_tup s2 hC
      have lt : i < us.length := (List.getElem?_eq_some_iff.mp hi).1
      refine ⟨b, _, rfl, hT2, rfl, _, _, rfl, _, _, rfl, _, _, rfl, rfl, ?_⟩
      refine ⟨_, rfl, x, dx, _, rfl, gx, sf_no _ _ (by decide +kernel) (by decide +kernel), _, rfl, cb, _, _, _, rfl, rfl, hC2, rfl, _, rfl, cb, _, _, _, rfl, rfl, hC2, rfl, _, rfl, cb, _, _, _, rfl, rfl, hC2, rfl, ?_⟩
      refine ⟨x, dx, l, .ref e, us', (ts.take i).map Tl.ch, t.ch, rfl, gx, gl, hp, fun c hc => ?_, by rw [List.length_map, List.length_take]; omega, okt.ch, fun H3 us3 k3 g3 hp3 => ?_⟩
      · obtain ⟨t', h1, rfl⟩ := List.mem_map.mp hc
        exact (ok t' (List.mem_of_mem_take h1)).ch
      refine ⟨_, _, _, us3, rfl, fun b o hb => k3 b o (ne_of_none hb nl0) (s2 _ _ hb), k3 _ _ hxl gx, g3, ?_⟩
      rw [List.take_add_one, ht, List.map_append]
      exact hp3
    · rintro σ H' ⟨v3, v4, v5, us', rfl, s2, gx, gl, hp⟩
      rw [hul, List.take_length] at hp
      exact ⟨_, rfl, q H' x dx l us' s2 nx nl0 gx gl hp⟩
abbrev s_keys_of : Stmt := top 25
theorem sc_keys_of : FnScope ["tellings", "found", "stamp", "source", "change"] ["tellings"] (defScope s_keys_of) := ⟨rfl, rfl, rfl, by decide +kernel, rfl, by decide +kernel, by decide +kernel⟩
def spKeysOf (K : PySem.W.Frag) : Sp := fun vs H Q _ => ∃ (a : Addr) (us : List V) (ts : List Tl), vs = [.ref a] ∧ SqL K H a us ∧ TlsAt K H us ts ∧ (∀ t ∈ ts, TlOk t) ∧
  ∀ H' d kvs, Same H H' → H d = none → H' d = some (.dK kvs) → kvs.length ≤ 3 → Q (.ref d) H'
theorem ok_keys_of {f : Addr} {fd : FuncData} (F : Fun K "keys_of" "keys_of" s_keys_of f fd) (T : Txt mg) : FnOk P w K mg base CX0 1 f fd ["tellings"] (spKeysOf K) := by
  refine F.ok sc_keys_of (fun vs H Q E h => ?_) (fun cdv A outer s H vs Q E hr h => ?_)
  · obtain ⟨a, c, e, rfl, _⟩ := h
    rfl
  · obtain ⟨a, us, ts, rfl, hS, hus, ok, q⟩ := h
    refine ⟨_, (pss_cons (ps_set (i := 1) sc_keys_of.nd rfl (Or.inl rfl) pe_dnewK)
      (pss_cons (ps_for PassesOwn.never rfl (pi_list (pv 0)) (pg_tup rfl (pgs_cons (pg_name (i := 2) sc_keys_of.nd rfl (Or.inl rfl)) (pgs_cons (pg_name (i := 3) sc_keys_of.nd rfl (Or.inl rfl)) (pgs_cons (pg_name (i := 4) sc_keys_of.nd rfl (Or.inl rfl)) pgs_nil)))) (pss_one (ps_dput (hu1 hr) (pv 1) (pe_ix ix_tup (pv 4) pe_int (fun _ _ => rfl)) pe_bl rfl)))
      (pss_one (ps_ret (pv 1))))), ?_⟩
    intro d hd
    refine ⟨_, rfl, a, rfl, ⟨_, (same1 hd).seq hS⟩, for_list (K := K) (a := a) (xs := us) (fun i σ H' => ∃ v2 v3 v4 kvs, σ = [some (.ref a), some (.ref d), v2, v3, v4] ∧ Same H H' ∧ H' d = some (.dK kvs) ∧ Few kvs)
      ⟨none, none, none, [], rfl, same1 hd, upd_same, Few.nil⟩ (fun i σ H' _ ⟨_, _, _, _, _, s2, _⟩ => s2.seq hS) ?_ ?_⟩
    · rintro i y σ H' hi ⟨v2, v3, v4, kvs, rfl, s2, g2, few⟩
      obtain ⟨t, ht, b, cb, rfl, hT, hC⟩ := paired_get hus hi
      have okt := ok t (List.mem_of_getElem? ht)
      have hT2 := same_tup s2 hT
      have hC2 : SqT K H' cb [vN t.ch.time, .str t.ch.key, optV t.ch.txt] := same_tup s2 hC
      refine ⟨b, _, rfl, hT2, rfl, _, _, rfl, _, _, rfl, _, _, rfl, rfl, ?_⟩
      refine ⟨_, rfl, _, rfl, cb, _, _, _, rfl, rfl, hC2, rfl, d, _, rfl, DPut.k (k := Sum.inr t.ch.key) g2 (lt_line (by have := few.len; omega)), ?_⟩
      exact ⟨_, _, _, _, rfl, same_mod s2 hd, upd_same, few.put okt.ch.key _⟩
    · rintro σ H' ⟨v2, v3, v4, kvs, rfl, s2, g2, few⟩
      exact ⟨_, rfl, q H' d kvs s2 hd g2 few.len⟩
abbrev s_stamps_of : Stmt := top 26
theorem sc_stamps_of : FnScope ["tellings", "telling"] ["tellings"] (defScope s_stamps_of) := ⟨rfl, rfl, rfl, by decide +kernel, rfl, by decide +kernel, by decide +kernel⟩
def spStampsOf (K : PySem.W.Frag) : Sp := fun vs H Q _ => ∃ (a : Addr) (us : List V) (ts : List Tl), vs = [.ref a] ∧ SqL K H a us ∧ TlsAt K H us ts ∧ ts.length ≤ 1000 ∧
  ∀ H' d kvs, Same H H' → H d = none → H' d = some (.dT kvs) → StD K H' kvs ts → Q (.ref d) H'
theorem ok_stamps_of {f : Addr} {fd : FuncData} (F : Fun K "stamps_of" "stamps_of" s_stamps_of f fd) (T : Txt mg) : FnOk P w K mg base CX0 1 f fd ["tellings"] (spStampsOf K) := by
  refine F.ok sc_stamps_of (fun vs H Q E h => ?_) (fun cdv A outer s H vs Q E hr h => ?_)
  · obtain ⟨a, c, e, rfl, _⟩ := h
    rfl
  · obtain ⟨a, us, ts, rfl, hS, hus, hz, q⟩ := h
    refine ⟨_, (pss_one (ps_ret (pe_dct (own := [("telling", 1)]) (g := gName 1) (tt := tYes) rfl sc_stamps_of.nd (pi_list (pv 0)) (blkOk_by (own := [("telling", 1)]) (N := ["tellings", "telling"]) (sc := defScope s_stamps_of) (by decide +kernel)) (fun _ _ _ _ _ => pg_name (i := 1) sc_stamps_of.nd rfl (Or.inl rfl)) (fun _ _ _ _ _ => pts_nil) (fun _ _ _ _ _ => (pe_slice (show SlR _ (rSlT K) from sl_tup) (pv 1) po_none (po_some pe_int))) (fun _ _ _ _ _ => (pe_ix (show IxR _ (rIxT K) from ix_tup) (pv 1) pe_int (fun _ _ => rfl))) (hu1 hr)))), ?_⟩
    have hul : us.length = ts.length := Paired.length hus
    refine ⟨_, rfl, a, rfl, ⟨_, hS⟩, fun D hD => dct_list (K := K) (a := a) (xs := us) (fun i H2 => Same H H2 ∧ ∃ kvs, H2 D = some (.dT kvs) ∧ kvs.length ≤ i ∧ StD K H2 kvs (ts.take i)) ⟨same1 hD, [], upd_same, Nat.le_refl _, StD.nil⟩ (fun i H2 _ ⟨s2, _⟩ => s2.seq hS) ?_ ?_⟩
    · rintro i y H2 hi ⟨s2, kvs, g2, hk, hd⟩
      obtain ⟨t, ht, b, cb, rfl, hT, hC⟩ := paired_get hus hi
      have lt : i < us.length := (List.getElem?_eq_some_iff.mp hi).1
      have hT2 := same_tup s2 hT
      refine ⟨rfl, ?_⟩
      refine ⟨_, rfl, _, rfl, b, _, rfl, hT2, by show ¬ (HT.sIx 3 0 none = 0 ∧ HT.sIx 3 3 (some 2) = 3); decide, fun p hp => ?_⟩
      have sp : Same H2 (upd H2 p (.tup [vN t.st, vN t.src])) := same1 hp
      refine ⟨_, rfl, b, _, _, _, rfl, rfl, same_tup sp hT2, rfl, p, kvs, [Sum.inl (t.st : Int), Sum.inl (t.src : Int)], rfl, upd_same, sp _ _ g2, lt_line (by omega), ?_⟩
      have g3 := sp _ _ g2
      have kt : Kt (upd H2 p (.tup [vN t.st, vN t.src])) (upd (upd H2 p (.tup [vN t.st, vN t.src])) D (.dT (putK kvs [Sum.inl (t.st : Int), Sum.inl (t.src : Int)] (.ref cb)))) := fun b x e z => by
        have : b ≠ D := fun q => by
          rw [q, g3] at e
          rcases z with ⟨xs, z⟩ | ⟨o, xs, z⟩ <;> rw [z] at e <;> cases e
        rw [upd_ne this]
        exact e
      refine ⟨same_mod (s2.trans sp) hD, _, upd_same, Nat.le_trans (length_putK _ _ _) (by omega), ?_⟩
      rw [List.take_add_one, ht]
      exact StD.kt kt ((StD.kt (Kt.of sp) hd).put ⟨cb, rfl, same_tup (s2.trans sp) hC⟩)
    · rintro H2 ⟨s2, kvs, g2, hk, hd⟩
      rw [hul, List.take_length] at hd
      exact q H2 D kvs s2 hD g2 hd
abbrev s_in_order : Stmt := top 27
theorem sc_in_order : FnScope ["tellings"] ["tellings"] (defScope s_in_order) := ⟨rfl, rfl, rfl, by decide +kernel, rfl, by decide +kernel, by decide +kernel⟩
def spInOrder (K : PySem.W.Frag) : Sp := fun vs H Q _ => ∃ (a : Addr) (us : List V) (ts : List Tl), vs = [.ref a] ∧ SqL K H a us ∧ TlsAt K H us ts ∧
  ∀ H' q us' ts', Same H H' → H q = none → H' q = some (.lst us') → ts'.Perm ts → TlsAt K H' us' ts' → Q (.ref q) H'
theorem ok_in_order {f g : Addr} {fd : FuncData} (F : Fun K "in_order" "in_order" s_in_order f fd) (T : Txt mg) (OK : OKey K mg g) : FnOk P w K mg base CX0 1 f fd ["tellings"] (spInOrder K) := by
  refine F.ok sc_in_order (fun vs H Q E h => ?_) (fun cdv A outer s H vs Q E hr h => ?_)
  · obtain ⟨a, c, e, rfl, _⟩ := h
    rfl
  · obtain ⟨a, us, ts, rfl, hS, hus, q⟩ := h
    refine ⟨_, (pss_one (ps_ret (pe_callBK (cr_sortedTup OK hr) (by rfl) T.f_sorted (by decide +kernel) (pa_cons (pv 0) pa_nil) (pk_cons (pe_glob (v := .ref g) (by rfl) OK.g rfl) pk_nil)))), ?_⟩
    refine ⟨_, rfl, a, us, rfl, rfl, hS, fun x hx => ?_, fun ys p hy hp => ?_⟩
    · obtain ⟨t, _, b, cb, rfl, hT, _⟩ := paired_mem hus hx
      exact ⟨b, _, _, _, rfl, hT⟩
    · obtain ⟨ts', h1, h2⟩ := paired_perm hy hus
      exact q _ p ys ts' (same1 hp) hp upd_same h1 (TlsAt.same (same1 hp) h2)
end
end Ts
namespace Ts
open PySem PySem.Spec PyProof.Rows L2
/-- a list comprehension over a list that stays -/
theorem lc_list {K : PySem.W.Frag} {a : Addr} {xs : List V} {g : TG} {tt : TT} {te : TE} {vs : List Nat} {σ : L2.St} {H1 : Hp} {D : Addr} {Qd : Hp → Prop} (Pv : Nat → Hp → Prop) (h0 : Pv 0 (upd H1 D (.lst []))) (hl : ∀ i H, i ≤ xs.length → Pv i H → SqL K H a xs)
    (hs : ∀ i x H, xs[i]? = some x → Pv i H → lcTurn g tt te vs D (Pv (i + 1)) σ x H) (hd : ∀ H, Pv xs.length H → Qd H) :
    ∃ W : Nat → Nat → Hp → Prop, (∃ m, W 0 m (upd H1 D (.lst []))) ∧ ∀ i m H, W i m H →
      ((Itl K a).stop i H ∧ Qd H) ∨ ((Itl K a).go i H ∧ ∃ Nx : Hp → Prop, (∀ H', Nx H' → ∃ m', m' < m ∧ W (i + 1) m' H') ∧ ∀ x H', (Itl K a).yld i H x H' → lcTurn g tt te vs D Nx σ x H') := by
  refine ⟨fun i m H => m + i = xs.length ∧ Pv i H, ⟨xs.length, rfl, h0⟩, fun i m H ⟨em, p⟩ => ?_⟩
  have q := hl i H (by omega) p
  by_cases lt : i < xs.length
  · refine .inr ⟨⟨xs, xs[i], q, List.getElem?_eq_getElem lt⟩, Pv (i + 1), fun H' p' => ⟨m - 1, by omega, by omega, p'⟩, fun x H' ⟨e, y⟩ => ?_⟩
    subst e
    exact hs i x _ (y xs q) p
  · obtain rfl : i = xs.length := by omega
    exact .inl ⟨⟨xs, q, Nat.le_refl _⟩, hd H p⟩
theorem cf_noM (s : Int) (e l : Addr) {m : Str} (h : ¬ m = "all" ∧ ¬ m = "cuts" ∧ ¬ m = "own") : (cf s e l).lookup m = none := cf_no s e l h.1 h.2.1 h.2.2
section
variable {P : Program} {w : World} {K : PySem.W.Frag} {mg : Str → Option Value} {base : Heap} {C S : Addr}
abbrev s_Copy___init__ : Stmt := inClass (top 29) 0
theorem sc_Copy___init__ : FnScope ["self", "source", "endings"] ["self", "source", "endings"] (defScope s_Copy___init__) := ⟨rfl, rfl, rfl, by decide +kernel, rfl, by decide +kernel, by decide +kernel⟩
def spCopyInit (K : PySem.W.Frag) (C : Addr) : Sp := fun vs H Q _ => ∃ (x dx e : Addr) (s : Nat) (es : List (Str × Nat)), vs = [.ref x, vN s, .ref e] ∧ H x = some (.ins C dx []) ∧ EsAt K H e es ∧ 1 ≤ s ∧ s ≤ 9 ∧
  ∀ H' l, (∀ b o, b ≠ x → H b = some o → H' b = some o) → H l = none → CopyAt K C H' x l e s es [] → Q .non H'
theorem ok_Copy___init__ {f : Addr} {fd : FuncData} (F : Fun K "__init__" "Copy.__init__" s_Copy___init__ f fd) (T : Txt mg) (L : Cl K C S) : FnOk P w K mg base CX0 1 f fd ["self", "source", "endings"] (spCopyInit K C) := by
  refine F.ok sc_Copy___init__ (fun vs H Q E h => ?_) (fun cdv A outer s H vs Q E hr h => ?_)
  · obtain ⟨a, c, e, s, es, rfl, _⟩ := h
    rfl
  · obtain ⟨x, dx, e, s, es, rfl, hx, hE, s1, s9, q⟩ := h
    refine ⟨_, (pss_cons (ps_if (PW.pt (pw_or (pt_cmpR op_lt (pv 1) pe_int (nomark _)) (pw_or1 (pt_cmpR op_gt (pv 1) (pe_gI (by rfl) T.g_MOST_SOURCES) (nomark _))))) (pss_one ps_never) pss_nil)
      (pss_cons (ps_fld (pv 0) (pv 1) rfl)
      (pss_cons (ps_fld (pv 0) (pv 2) rfl)
      (pss_one (ps_fld (pv 0) (pe_lst pa_nil) rfl))))), ?_⟩
    refine ⟨_, rfl, _, _, rfl, rfl, _, rfl, ifN (by intro z; have := of_decide_eq_true z; omega) ?_⟩
    refine ⟨_, rfl, _, _, rfl, rfl, _, rfl, ifN (by intro z; have := of_decide_eq_true z; omega) ?_⟩
    refine ⟨_, rfl, _, rfl, x, C, dx, _, rfl, hx, L.cC, L.cOwn, by decide, ?_⟩
    refine ⟨_, rfl, _, rfl, x, C, dx, _, rfl, upd_same, L.cC, L.cCuts, by show 1 < 1000; decide, ?_⟩
    refine ⟨by show 0 ≤ sizeLine; omega, fun l hl => ?_⟩
    have hlx : l ≠ x := fun z => by
      rw [z, upd_same] at hl
      cases hl
    have hl0 : H l = none := by rw [upd_ne hlx, upd_ne hlx] at hl; exact hl
    refine ⟨_, rfl, x, C, dx, _, rfl, by rw [upd_ne (Ne.symm hlx)]; exact upd_same, L.cC, L.cAll, by show 2 < 1000; decide, ?_⟩
    have keep : ∀ b o, b ≠ x → H b = some o → upd (upd (upd (upd H x (.ins C dx (putF "own" (vN s) []))) x (.ins C dx (putF "cuts" (.ref e) (putF "own" (vN s) [])))) l (.lst [])) x (.ins C dx (putF "all" (.ref l) (putF "cuts" (.ref e) (putF "own" (vN s) [])))) b = some o := fun b o hb ho => by
      rw [upd_ne hb, upd_ne (ne_of_none ho hl0), upd_ne hb, upd_ne hb]
      exact ho
    refine q _ l keep hl0 ⟨⟨dx, upd_same⟩, ?_, [], by rw [upd_ne hlx]; exact upd_same, .nil⟩
    obtain ⟨xe, h1, h2⟩ := hE
    have kt : Kt H (upd (upd (upd (upd H x (.ins C dx (putF "own" (vN s) []))) x (.ins C dx (putF "cuts" (.ref e) (putF "own" (vN s) [])))) l (.lst [])) x (.ins C dx (putF "all" (.ref l) (putF "cuts" (.ref e) (putF "own" (vN s) []))))) := fun b o ho z => by
      refine keep b o (fun q => ?_) ho
      rw [q, hx] at ho
      rcases z with ⟨xs, z⟩ | ⟨o', xs, z⟩ <;> rw [z] at ho <;> cases ho
    exact ⟨xe, kt.tup h1, kt.ens h2⟩
abbrev s_Copy_source : Stmt := inClass (top 29) 1
theorem sc_Copy_source : FnScope ["self"] ["self"] (defScope s_Copy_source) := ⟨rfl, rfl, rfl, by decide +kernel, rfl, by decide +kernel, by decide +kernel⟩
def spCopySource (K : PySem.W.Frag) (C : Addr) : Sp := fun vs H Q _ => ∃ (p l e : Addr) (s : Nat) (es : List (Str × Nat)) (ts : List Tl), vs = [.ref p] ∧ CopyAt K C H p l e s es ts ∧ Q (vN s) H
theorem ok_Copy_source {f : Addr} {fd : FuncData} (F : Fun K "source" "Copy.source" s_Copy_source f fd) (L : Cl K C S) : FnOk P w K mg base CX0 1 f fd ["self"] (spCopySource K C) := by
  refine F.ok sc_Copy_source (fun vs H Q E h => ?_) (fun cdv A outer s H vs Q E hr h => ?_)
  · obtain ⟨p, l, e, s, es, ts, rfl, _⟩ := h
    rfl
  · obtain ⟨p, l, e, s, es, ts, rfl, ⟨⟨dx, h1⟩, _, _⟩, q⟩ := h
    exact ⟨_, pss_one (ps_ret (pe_fld (pv 0) rfl)), _, rfl, p, C, dx, _, _, rfl, h1, L.cC, L.cOwn, cf_own _ _ _, q⟩
abbrev s_Copy_tellings : Stmt := inClass (top 29) 3
theorem sc_Copy_tellings : FnScope ["self"] ["self"] (defScope s_Copy_tellings) := ⟨rfl, rfl, rfl, by decide +kernel, rfl, by decide +kernel, by decide +kernel⟩
def spCopyTellings (K : PySem.W.Frag) (C : Addr) : Sp := fun vs H Q _ => ∃ (p l e : Addr) (s : Nat) (es : List (Str × Nat)) (ts : List Tl), vs = [.ref p] ∧ CopyAt K C H p l e s es ts ∧
  ∀ H' q us ts', Same H H' → H q = none → H' q = some (.lst us) → ts'.Perm ts → TlsAt K H' us ts' → Q (.ref q) H'
theorem ok_Copy_tellings {f : Addr} {fd : FuncData} (F : Fun K "tellings" "Copy.tellings" s_Copy_tellings f fd) (T : Txt mg) (L : Cl K C S) (O_in_order : Own P w K mg base CX0 1 "in_order" ["tellings"] (spInOrder K)) : FnOk P w K mg base CX0 2 f fd ["self"] (spCopyTellings K C) := by
  refine F.ok sc_Copy_tellings (fun vs H Q E h => ?_) (fun cdv A outer s H vs Q E hr h => ?_)
  · obtain ⟨p, l, e, s, es, ts, rfl, _⟩ := h
    rfl
  · obtain ⟨p, l, e, s, es, ts, rfl, ⟨⟨dx, h1⟩, _, us, h3, h4⟩, q⟩ := h
    refine ⟨_, (pss_one (ps_ret (pe_own O_in_order hr (by decide) (by rfl) pass0 (pa_cons (pe_fld (pv 0) rfl) pa_nil)))), ?_⟩
    exact ⟨_, rfl, p, C, dx, _, _, rfl, h1, L.cC, L.cAll, cf_all _ _ _, l, us, ts, rfl, SqL.of h3, h4, q⟩
abbrev s_Copy_shelf : Stmt := inClass (top 29) 5
theorem sc_Copy_shelf : FnScope ["self"] ["self"] (defScope s_Copy_shelf) := ⟨rfl, rfl, rfl, by decide +kernel, rfl, by decide +kernel, by decide +kernel⟩
def spCopyShelf (K : PySem.W.Frag) (C S : Addr) : Sp := fun vs H Q _ => ∃ (p l e : Addr) (s : Nat) (es : List (Str × Nat)) (ts : List Tl), vs = [.ref p] ∧ CopyAt K C H p l e s es ts ∧ (∀ t ∈ ts, TlOk t) ∧ ts.length < 80 ∧
  ∀ H' q dx r us cs, Same H H' → H q = none → H r = none → H' q = some (.ins S dx (sf (.ref e) r)) → H' r = some (.lst us) → Paired (CvAt K H') us cs → cs.length = ts.length → (∀ c ∈ cs, ChOk c) → Q (.ref q) H'
theorem ok_Copy_shelf {f : Addr} {fd : FuncData} (F : Fun K "shelf" "Copy.shelf" s_Copy_shelf f fd) (T : Txt mg) (L : Cl K C S) (O_shelf_of : Own P w K mg base CX0 4 "shelf_of" ["endings", "tellings"] (spShelfOf K S))
    (O_Copy_tellings : OwnM P w K mg base CX0 C 2 "tellings" ["self"] (spCopyTellings K C)) : FnOk P w K mg base CX0 5 f fd ["self"] (spCopyShelf K C S) := by
  refine F.ok sc_Copy_shelf (fun vs H Q E h => ?_) (fun cdv A outer s H vs Q E hr h => ?_)
  · obtain ⟨p, l, e, s, es, ts, rfl, _⟩ := h
    rfl
  · obtain ⟨p, l, e, s, es, ts, rfl, hK, ok, hz, q⟩ := h
    refine ⟨_, (pss_one (ps_ret (pe_own O_shelf_of hr (by decide) (by rfl) pass0 (pa_cons (pe_fld (pv 0) rfl) (pa_cons (pe_ownM0 O_Copy_tellings hr (by decide) pass0 (pv 0)) pa_nil))))), ?_⟩
    obtain ⟨dx, h1⟩ := hK.ob
    refine ⟨_, rfl, p, C, dx, _, _, rfl, h1, L.cC, L.cCuts, cf_cuts _ _ _, _, rfl, p, dx, _, rfl, h1, cf_noM _ _ _ (by decide +kernel), p, l, e, s, es, ts, rfl, hK, fun H1 r us ts' s1 n1 g1 hp hus => ?_⟩
    refine ⟨e, r, es, us, ts', rfl, hK.es.same s1, SqL.of g1, hus, fun t ht => ok t (hp.mem_iff.mp ht), by rw [hp.length_eq]; exact hz, fun H2 y dy m us2 s2 ny nm gy gm hu => ?_⟩
    refine q H2 y dy m us2 _ (s1.trans s2) (s1.free ny) (s1.free nm) gy gm hu (by rw [List.length_map, hp.length_eq]) fun c hc => ?_
    obtain ⟨t', h2, rfl⟩ := List.mem_map.mp hc
    exact (ok t' (hp.mem_iff.mp h2)).ch
abbrev s_Copy_hold : Stmt := inClass (top 29) 6
theorem sc_Copy_hold : FnScope ["self", "tellings"] ["self", "tellings"] (defScope s_Copy_hold) := ⟨rfl, rfl, rfl, by decide +kernel, rfl, by decide +kernel, by decide +kernel⟩
def spCopyHold (K : PySem.W.Frag) (C : Addr) : Sp := fun vs H Q _ => ∃ (p l e a : Addr) (s : Nat) (es : List (Str × Nat)) (ts ts2 : List Tl) (us : List V), vs = [.ref p, .ref a] ∧ CopyAt K C H p l e s es ts ∧ SqL K H a us ∧ TlsAt K H us ts2 ∧ ts.length ≤ 1000 ∧ ts2.length ≤ 1000 ∧
  ∀ H' l', (∀ b o, b ≠ p → H b = some o → H' b = some o) → H l' = none → CopyAt K C H' p l' e s es (ts ++ ts2) → Q .non H'
theorem paired_app {α β : Type} {F : α → β → Prop} : ∀ {l l2 : List α} {m m2 : List β}, Paired F l m → Paired F l2 m2 → Paired F (l ++ l2) (m ++ m2)
  | _, _, _, _, .nil, h => h
  | _, _, _, _, .cons r t, h => .cons r (paired_app t h)
theorem ok_Copy_hold {f : Addr} {fd : FuncData} (F : Fun K "hold" "Copy.hold" s_Copy_hold f fd) (T : Txt mg) (L : Cl K C S) : FnOk P w K mg base CX0 1 f fd ["self", "tellings"] (spCopyHold K C) := by
  refine F.ok sc_Copy_hold (fun vs H Q E h => ?_) (fun cdv A outer s H vs Q E hr h => ?_)
  · obtain ⟨p, l, e, a, s, es, ts, ts2, us, rfl, _⟩ := h
    rfl
  · obtain ⟨p, l, e, a, s, es, ts, ts2, us, rfl, hK, hS, hus, z1, z2, q⟩ := h
    refine ⟨_, (pss_one (ps_fld (pv 0) (pe_op op_cat (pe_fld (pv 0) rfl) (pe_callTy call_list_of (by rfl) T.f_list (by decide +kernel) (pa_cons (pv 1) pa_nil))) rfl)), ?_⟩
    obtain ⟨⟨dx, h1⟩, hE, vs, h3, h4⟩ := hK
    have lv : vs.length = ts.length := Paired.length h4
    have lu : us.length = ts2.length := Paired.length hus
    refine ⟨_, rfl, p, C, dx, _, _, rfl, h1, L.cC, L.cAll, cf_all _ _ _, _, rfl, a, us, rfl, .inl hS, fun r nr => ?_⟩
    have sr : Same H (upd H r (.lst us)) := same1 nr
    refine ⟨l, r, vs, us, rfl, rfl, sr _ _ h3, upd_same, Nat.le_of_lt (lt_line (by omega)), fun l' nl => ?_⟩
    have sl := same_add sr (o := .lst (vs ++ us)) nl
    refine ⟨_, rfl, p, C, dx, _, rfl, sl _ _ h1, L.cC, L.cAll, cf_len _ _ _, ?_⟩
    have hpl : p ≠ l' := ne_of (sl _ _ h1) upd_same (by intro z; cases z)
    have kt : Kt H (upd (upd (upd H r (.lst us)) l' (.lst (vs ++ us))) p (.ins C dx (putF "all" (.ref l') (cf s e l)))) := fun b x hb z => by
      have : b ≠ p := fun q => by
        rw [q, h1] at hb
        rcases z with ⟨xs, z⟩ | ⟨o, xs, z⟩ <;> rw [z] at hb <;> cases hb
      rw [upd_ne this]
      exact sl _ _ hb
    obtain ⟨xe, e1, e2⟩ := hE
    refine q _ l' (fun b o hb ho => by rw [upd_ne hb]; exact sl _ _ ho) (sr.free nl) ⟨⟨dx, ?_⟩, ⟨xe, kt.tup e1, kt.ens e2⟩, vs ++ us, ?_, paired_app (kt.tls h4) (kt.tls hus)⟩
    · rw [upd_same, cf_put]
    · rw [upd_ne (Ne.symm hpl)]
      exact upd_same
abbrev s_Copy_tell : Stmt := inClass (top 29) 7
theorem sc_Copy_tell : FnScope ["self", "time", "key", "text", "stamp", "telling"] ["self", "time", "key", "text"] (defScope s_Copy_tell) := ⟨rfl, rfl, rfl, by decide +kernel, rfl, by decide +kernel, by decide +kernel⟩
def spCopyTell (K : PySem.W.Frag) (C : Addr) : Sp := fun vs H Q _ => ∃ (p l e : Addr) (s : Nat) (es : List (Str × Nat)) (ts : List Tl) (c : Ch), vs = [.ref p, vN c.time, .str c.key, optV c.txt] ∧ CopyAt K C H p l e s es ts ∧ (∀ t ∈ ts, TlOk t) ∧ ts.length < 80 ∧ ChOk c ∧
  ∀ H' v t, (∀ b o, b ≠ l → H b = some o → H' b = some o) → CopyAt K C H' p l e s es (ts ++ [t]) → t.src = s → t.ch = c → 1 ≤ t.st → (∀ t' ∈ ts, t'.st < t.st) → (t.st = 1 ∨ ∃ t' ∈ ts, t.st = t'.st + 1) → Q v H'
theorem ok_Copy_tell {f : Addr} {fd : FuncData} (F : Fun K "tell" "Copy.tell" s_Copy_tell f fd) (T : Txt mg) (L : Cl K C S) (O_Shelf_tell : OwnM P w K mg base CX0 S 3 "tell" ["self", "time", "key", "text"] (spShelfTell K S))
    (O_Copy_shelf : OwnM P w K mg base CX0 C 5 "shelf" ["self"] (spCopyShelf K C S)) : FnOk P w K mg base CX0 6 f fd ["self", "time", "key", "text"] (spCopyTell K C) := by
  refine F.ok sc_Copy_tell (fun vs H Q E h => ?_) (fun cdv A outer s H vs Q E hr h => ?_)
  · obtain ⟨p, l, e, s, es, ts, c, rfl, _⟩ := h
    rfl
  · obtain ⟨p, l, e, s, es, ts, c, rfl, hK, ok, hz, okc, q⟩ := h
    refine ⟨_, (pss_cons (ps_expr (pe_ownM O_Shelf_tell hr (by decide) pass0 (pe_ownM0 O_Copy_shelf hr (by decide) pass0 (pv 0)) (pa_cons (pv 1) (pa_cons (pv 2) (pa_cons (pv 3) pa_nil)))))
      (pss_cons (ps_set (i := 4) sc_Copy_tell.nd rfl (Or.inl rfl) (pe_op op_add pe_int (pe_callB (cr_max rfl) (by rfl) T.f_max (by decide +kernel) (pa_cons (pe_op op_cat (pe_lst (pa_cons pe_int pa_nil)) (pe_lc (own := [("telling", 5)]) (g := gName 5) (tt := tYes) rfl sc_Copy_tell.nd (pi_list (pe_fld (pv 0) rfl)) (blkOk_by (own := [("telling", 5)]) (N := ["self", "time", "key", "text", "stamp", "telling"]) (sc := defScope s_Copy_tell) (by decide +kernel)) (fun _ _ _ _ _ => pg_name (i := 5) sc_Copy_tell.nd rfl (Or.inl rfl)) (fun _ _ _ _ _ => pts_nil) (fun _ _ _ _ _ => (pe_ix (show IxR _ (rIxT K) from ix_tup) (pv 5) pe_int (fun _ _ => rfl))))) pa_nil))))
      (pss_cons (ps_set (i := 5) sc_Copy_tell.nd rfl (Or.inl rfl) (pe_tup (pa_cons (pv 4) (pa_cons (pe_fld (pv 0) rfl) (pa_cons (pe_tup (pa_cons (pv 1) (pa_cons (pv 2) (pa_cons (pv 3) pa_nil)))) pa_nil)))))
      (pss_cons (ps_expr (pe_bm PySem.F.plainAttrs_list PySem.F.slot_list_append PySem.F.type_list_append mt_append (pe_fld (pv 0) rfl) (pa_cons (pv 5) pa_nil)))
      (pss_one (ps_ret (pv 5))))))), ?_⟩
    obtain ⟨dx, h1⟩ := hK.ob
    refine ⟨_, rfl, p, dx, _, rfl, h1, cf_noM _ _ _ (by decide +kernel), p, l, e, s, es, ts, rfl, hK, ok, hz, fun H1 y dy r us cs s1 ny nr gy gr hcs lc okcs => ?_⟩
    refine ⟨y, dy, _, rfl, gy, sf_no _ _ (by decide +kernel) (by decide +kernel), _, rfl, _, rfl, _, rfl, y, dy, r, .ref e, us, cs, c, rfl, gy, gr, hcs, okcs, by rw [lc]; exact hz, okc, fun H2 us2 k2 g2 hcs2 => ?_⟩
    have s2 : Same H H2 := fun b o hb => k2 b o (ne_of_none hb nr) (s1 _ _ hb)
    have hK2 := hK.same s2
    obtain ⟨⟨dx2, h12⟩, hE2, vs, h3, h4⟩ := hK2
    have lv : vs.length = ts.length := Paired.length h4
    refine ⟨by show 1 ≤ sizeLine; decide, fun p3 n3 => ?_⟩
    have s3 : Same H2 (upd H2 p3 (.lst [V.int 0])) := same1 n3
    refine ⟨_, rfl, p, C, dx2, _, _, rfl, s3 _ _ h12, L.cC, L.cAll, cf_all _ _ _, l, rfl, ⟨_, SqL.of (s3 _ _ h3)⟩, fun D hD => lc_list (K := K) (a := l) (xs := vs) (fun i H4 => Same (upd H2 p3 (.lst [V.int 0])) H4 ∧ H4 D = some (.lst (((ts.take i).map fun t => (t.st : Int)).map V.int))) ⟨same1 hD, upd_same⟩
      (fun i H4 _ ⟨s4, _⟩ => .inl (.inl (s4 _ _ (s3 _ _ h3)))) ?_ ?_⟩
    · rintro i x H4 hi ⟨s4, g4⟩
      obtain ⟨t, ht, b, cb, rfl, hT, hC⟩ := paired_get h4 hi
      have hT4 := same_tup (s3.trans s4) hT
      refine ⟨rfl, ?_⟩
      refine ⟨_, rfl, b, _, _, _, rfl, rfl, hT4, rfl, _, g4, lt_line (by rw [List.length_map, List.length_map, List.length_take]; omega), same_mod s4 hD, ?_⟩
      rw [upd_same, List.take_add_one, ht, List.map_append, List.map_append]
      rfl
    · rintro H4 ⟨s4, g4⟩
      rw [lv, List.take_length] at g4
      have s24 := s3.trans s4
      refine ⟨p3, D, _, _, rfl, rfl, s4 _ _ upd_same, g4, Nat.le_of_lt (lt_line (by simp only [List.length_map, List.length_singleton]; omega)), fun p5 n5 => ?_⟩
      have s5 := same_add s24 (o := .lst ([V.int 0] ++ (ts.map fun t => (t.st : Int)).map V.int)) n5
      refine ⟨p5, 0 :: (ts.map fun t => (t.st : Int)), rfl, .inl (.inl upd_same), Nat.succ_pos _, fun m hm hmax => ?_⟩
      obtain ⟨k, rfl, hk⟩ : ∃ k : Nat, m = (k : Int) ∧ (k = 0 ∨ ∃ t' ∈ ts, k = t'.st) := by
        rcases List.mem_cons.mp hm with rfl | hm
        · exact ⟨0, rfl, .inl rfl⟩
        · obtain ⟨t', h1, rfl⟩ := List.mem_map.mp hm
          exact ⟨t'.st, rfl, .inr ⟨t', h1, rfl⟩⟩
      have hlt : ∀ t' ∈ ts, t'.st < k + 1 := fun t' ht' => by
        have := hmax (t'.st : Int) (List.mem_cons_of_mem _ (List.mem_map.mpr ⟨t', ht', rfl⟩))
        omega
      refine ⟨_, _, rfl, rfl, ?_⟩
      refine ⟨_, rfl, _, rfl, p, C, dx2, _, _, rfl, s5 _ _ h12, L.cC, L.cOwn, cf_own _ _ _, _, rfl, _, rfl, _, rfl, by show 3 ≤ sizeLine; decide, fun p6 n6 => ?_⟩
      have s6 := same_add s5 (o := .tup [vN c.time, .str c.key, optV c.txt]) n6
      refine ⟨by show 3 ≤ sizeLine; decide, fun p7 n7 => ?_⟩
      have s7 := same_add s6 (o := .tup [V.int (1 + (k : Int)), vN s, .ref p6]) n7
      refine ⟨_, rfl, p, C, dx2, _, _, rfl, s7 _ _ h12, L.cC, L.cAll, cf_all _ _ _, .inl ⟨rfl, _, SqL.of (s7 _ _ h3)⟩, _, rfl, l, _, _, rfl, rfl, s7 _ _ h3, lt_line (by omega), ?_⟩
      refine ⟨_, rfl, ?_⟩
      have g7 := s7 _ _ h3
      have hne : p ≠ l := hK.ne
      have kt : Kt H2 (upd (upd (upd (upd H4 p5 (.lst ([V.int 0] ++ (ts.map fun t => (t.st : Int)).map V.int))) p6 (.tup [vN c.time, .str c.key, optV c.txt])) p7 (.tup [V.int (1 + (k : Int)), vN s, .ref p6])) l (.lst (vs ++ [.ref p7]))) := (Kt.of s7).trans (Kt.put g7)
      obtain ⟨xe, e1, e2⟩ := hE2
      have s06 := s2.trans s7
      have k6 : Kt _ _ := (Kt.of (same1 (o := .tup [V.int (1 + (k : Int)), vN s, .ref p6]) n7)).trans (Kt.put (o := .lst (vs ++ [.ref p7])) g7)
      refine q _ _ ⟨k + 1, s, c⟩ (fun b o hb ho => by rw [upd_ne hb]; exact s06 _ _ ho) ⟨⟨dx2, by rw [upd_ne hne]; exact s7 _ _ h12⟩, ⟨xe, kt.tup e1, kt.ens e2⟩, _, upd_same, paired_snoc ⟨p7, p6, rfl, ?_, ?_⟩ (kt.tls h4)⟩ rfl rfl (Nat.succ_pos _) hlt ?_
      · rcases hk with rfl | ⟨t', h1, rfl⟩
        · exact .inl rfl
        · exact .inr ⟨t', h1, rfl⟩
      · refine (Kt.put g7).tup (.inl (.inl ?_))
        rw [upd_same, show (1 + (k : Int)) = ((k + 1 : Nat) : Int) by omega]
      · exact k6.tup (.inl (.inl upd_same))
end
end Ts
namespace Ts
open PySem PySem.Spec PyProof.Rows L2
def sameKey (t t' : Tl) : Bool := decide (t.st = t'.st ∧ t.src = t'.src)
/-- those of ts2 whose stamp and source ts does not have -/
def newOf (ts ts2 : List Tl) : List Tl := ts2.filter fun t => !(ts.any fun t' => sameKey t' t)
theorem any_no {ts : List Tl} {t : Tl} (h : ∀ t' ∈ ts, ¬ (t'.st = t.st ∧ t'.src = t.src)) : (ts.any fun t' => sameKey t' t) = false := by
  rw [List.any_eq_false]
  intro t' ht' z
  exact h t' ht' (of_decide_eq_true z)
theorem any_yes {ts : List Tl} {t t' : Tl} (h : t' ∈ ts) (e : t'.st = t.st ∧ t'.src = t.src) : (ts.any fun t' => sameKey t' t) = true := List.any_eq_true.mpr ⟨t', h, decide_eq_true e⟩
theorem newOf_yes {ts l : List Tl} {t : Tl} {i : Nat} (hi : l[i]? = some t) (h : ∀ t' ∈ ts, ¬ (t'.st = t.st ∧ t'.src = t.src)) : newOf ts (l.take (i + 1)) = newOf ts (l.take i) ++ [t] := by
  unfold newOf
  rw [List.take_add_one, hi, List.filter_append, Option.toList_some, List.filter_cons_of_pos (by rw [any_no h]; rfl), List.filter_nil]
theorem newOf_no {ts l : List Tl} {t t' : Tl} {i : Nat} (hi : l[i]? = some t) (h : t' ∈ ts) (e : t'.st = t.st ∧ t'.src = t.src) : newOf ts (l.take (i + 1)) = newOf ts (l.take i) := by
  unfold newOf
  rw [List.take_add_one, hi, List.filter_append, Option.toList_some, List.filter_cons_of_neg (by rw [any_yes h e]; decide), List.filter_nil, List.append_nil]
theorem newOf_len (ts l : List Tl) : (newOf ts l).length ≤ l.length := List.length_filter_le _ _
theorem newOf_mem {ts l : List Tl} {t : Tl} (h : t ∈ newOf ts l) : t ∈ l := (List.mem_filter.mp h).1
section
variable {P : Program} {w : World} {K : PySem.W.Frag} {mg : Str → Option Value} {base : Heap} {C S : Addr}
abbrev s_Copy_merge : Stmt := inClass (top 29) 8
theorem sc_Copy_merge : FnScope ["self", "other", "known", "new", "telling"] ["self", "other"] (defScope s_Copy_merge) := ⟨rfl, rfl, rfl, by decide +kernel, rfl, by decide +kernel, by decide +kernel⟩
def spMerge (K : PySem.W.Frag) (C : Addr) : Sp := fun vs H Q _ => ∃ (p l e s p2 l2 e2 s2 : Nat) (es : List (Str × Nat)) (ts ts2 : List Tl), vs = [.ref p, .ref p2] ∧ CopyAt K C H p l e s es ts ∧ CopyAt K C H p2 l2 e2 s2 es ts2 ∧ EsOk es ∧
  (∀ t ∈ ts, TlOk t) ∧ (∀ t ∈ ts2, TlOk t) ∧ (∀ t ∈ ts, ∀ t' ∈ ts2, t.st = t'.st → t.src = t'.src → t = t') ∧ ts.length + ts2.length ≤ 80 ∧
  ∀ H' l' ts2' v, (∀ b o, b ≠ p → H b = some o → H' b = some o) → H l' = none → ts2'.Perm ts2 → CopyAt K C H' p l' e s es (ts ++ newOf ts ts2') → Q v H'
theorem ok_Copy_merge {f : Addr} {fd : FuncData} (F : Fun K "merge" "Copy.merge" s_Copy_merge f fd) (T : Txt mg) (L : Cl K C S) (O_Copy_endings : OwnM P w K mg base CX0 C 1 "endings" ["self"] (spCopyEndings K C))
    (O_stamps_of : Own P w K mg base CX0 1 "stamps_of" ["tellings"] (spStampsOf K)) (O_Copy_tellings : OwnM P w K mg base CX0 C 2 "tellings" ["self"] (spCopyTellings K C)) (O_keys_of : Own P w K mg base CX0 1 "keys_of" ["tellings"] (spKeysOf K))
    (O_Copy_hold : OwnM P w K mg base CX0 C 1 "hold" ["self", "tellings"] (spCopyHold K C)) : FnOk P w K mg base CX0 3 f fd ["self", "other"] (spMerge K C) := by
  refine F.ok sc_Copy_merge (fun vs H Q E h => ?_) (fun cdv A outer s H vs Q E hr h => ?_)
  · obtain ⟨p, l, e, s, p2, l2, e2, s2, es, ts, ts2, rfl, _⟩ := h
    rfl
  · obtain ⟨p, l, e, s, p2, l2, e2, s2, es, ts, ts2, rfl, hK, hK2, okE, ok, ok2, same, hz, q⟩ := h
    refine ⟨_, (pss_cons (ps_if (pt_cmpR (op_neD (hu64 hr)) (pe_ownM0 O_Copy_endings hr (by decide) pass0 (pv 1)) (pe_fld (pv 0) rfl) (nomark _)) (pss_one ps_never) pss_nil)
      (pss_cons (ps_set (i := 2) sc_Copy_merge.nd rfl (Or.inl rfl) (pe_own O_stamps_of hr (by decide) (by rfl) pass0 (pa_cons (pe_fld (pv 0) rfl) pa_nil)))
      (pss_cons (ps_set (i := 3) sc_Copy_merge.nd rfl (Or.inl rfl) (pe_lst pa_nil))
      (pss_cons (ps_for PassesOwn.never rfl (pi_list (pe_ownM0 O_Copy_tellings hr (by decide) pass0 (pv 1))) (pg_name (i := 4) sc_Copy_merge.nd rfl (Or.inl rfl)) (pss_one (ps_if (pt_cmp (pc_dnotin (hu1 hr) (pe_slice sl_tup (pv 4) po_none (po_some pe_int)) (pv 2))) (pss_one (ps_expr (pe_bm PySem.F.plainAttrs_list PySem.F.slot_list_append PySem.F.type_list_append mt_append (pv 3) (pa_cons (pv 4) pa_nil)))) (pss_one (ps_if (pt_cmpR (op_neD (hu64 hr)) (pe_dget (hu1 hr) (pv 2) (pe_slice sl_tup (pv 4) po_none (po_some pe_int)) (fun _ _ => rfl)) (pe_ix ix_tup (pv 4) pe_int (fun _ _ => rfl)) (nomark _)) (pss_one ps_never) pss_nil)))))
      (pss_cons (ps_if (pt_cmpR op_gt (pe_op op_add (pe_callB call_len_seq (by rfl) T.f_len PySem.boot_len (pa_cons (pe_fld (pv 0) rfl) pa_nil)) (pe_callB call_len_seq (by rfl) T.f_len PySem.boot_len (pa_cons (pv 3) pa_nil))) (pe_gI (by rfl) T.g_MOST_CHANGES_merging) (nomark _)) (pss_one ps_never) pss_nil)
      (pss_cons (ps_if (pt_cmpR op_gt (pe_callB call_lenD (by rfl) T.f_len PySem.boot_len (pa_cons (pe_own O_keys_of hr (by decide) (by rfl) pass0 (pa_cons (pe_op op_cat (pe_fld (pv 0) rfl) (pv 3)) pa_nil)) pa_nil)) (pe_gI (by rfl) T.g_MOST_KEYS_merging) (nomark _)) (pss_one ps_never) pss_nil)
      (pss_cons (ps_expr (pe_ownM O_Copy_hold hr (by decide) pass0 (pv 0) (pa_cons (pv 3) pa_nil)))
      (pss_one (ps_ret (pe_callB call_len_seq (by rfl) T.f_len PySem.boot_len (pa_cons (pv 3) pa_nil))))))))))), ?_⟩
    obtain ⟨dx, h1⟩ := hK.ob
    obtain ⟨dx2, h2⟩ := hK2.ob
    -- other.endings() != self.cuts
    refine ⟨_, rfl, p2, dx2, _, rfl, h2, cf_noM _ _ _ (by decide +kernel), p2, l2, e2, s2, es, ts2, rfl, hK2, _, rfl, p, C, dx, _, _, rfl, h1, L.cC, L.cCuts, cf_cuts _ _ _, esD es, esD es, dp_es hK2.es, dp_es hK.es, shaped_es okE, shaped_es okE, _, rfl, ?_⟩
    refine ifN (by rw [eqv_es]; decide) ?_
    obtain ⟨us, h3, h4⟩ := hK.ls
    have lu : us.length = ts.length := Paired.length h4
    -- known
    refine ⟨_, rfl, p, C, dx, _, _, rfl, h1, L.cC, L.cAll, cf_all _ _ _, l, us, ts, rfl, SqL.of h3, h4, by omega, fun H1 d kvs t1 n1 g1 hd => ?_⟩
    refine ⟨by show 0 ≤ sizeLine; omega, fun n nn => ?_⟩
    have t2 : Same H1 (upd H1 n (.lst [])) := same1 nn
    have t02 := t1.trans t2
    -- for telling in other.tellings()
    obtain ⟨dx22, h22⟩ := (hK2.same t02).ob
    refine ⟨_, rfl, p2, dx22, _, rfl, h22, cf_noM _ _ _ (by decide +kernel), p2, l2, e2, s2, es, ts2, rfl, hK2.same t02, fun H3 r us2 ts2' t3 n3 g3 hp hus2 => ?_⟩
    have lu2 : us2.length = ts2'.length := Paired.length hus2
    have lt2 : ts2'.length = ts2.length := hp.length_eq
    have g3n : H3 n = some (.lst []) := t3 _ _ upd_same
    have hrn : r ≠ n := fun z => by
      rw [z, upd_same] at n3
      cases n3
    have t13 : Same H1 H3 := t2.trans t3
    refine ⟨r, rfl, ⟨_, SqL.of g3⟩, for_list (K := K) (a := r) (xs := us2) (fun i σ H' => ∃ v4 vs, σ = [some (.ref p), some (.ref p2), some (.ref d), some (.ref n), v4] ∧ (∀ b o, b ≠ n → H3 b = some o → H' b = some o) ∧ H' n = some (.lst vs) ∧ TlsAt K H' vs (newOf ts (ts2'.take i)))
      ⟨none, [], rfl, fun b o _ hb => hb, g3n, .nil⟩ (fun i σ H' _ ⟨_, _, _, k4, _⟩ => .inl (.inl (k4 _ _ hrn g3))) ?_ ?_⟩
    · rintro i x σ H' hi ⟨v4, vs, rfl, k4, g4, hvs⟩
      have kt4 : Kt H3 H' := fun b x hb z => by
        refine k4 b x (fun q => ?_) hb
        rw [q, g3n] at hb
        rcases z with ⟨xs, z⟩ | ⟨o, xs, z⟩ <;> rw [z] at hb <;> cases hb
      have s14 : Same H1 H' := fun b o hb => k4 b o (ne_of_none hb nn) (t13 _ _ hb)
      have gd : H' d = some (.dT kvs) := s14 _ _ g1
      have hd4 : StD K H' kvs ts := StD.kt (Kt.of s14) hd
      obtain ⟨t, ht, htl⟩ := paired_get hus2 hi
      have htm : t ∈ ts2 := hp.mem_iff.mp (List.mem_of_getElem? ht)
      have okt := ok2 t htm
      obtain ⟨b, cb, rfl, hT, hC⟩ := kt4.tl htl
      have lvs : vs.length ≤ 80 := by
        have e1 : vs.length = _ := Paired.length hvs
        have e2 := newOf_len ts (ts2'.take i)
        rw [List.length_take] at e2
        omega
      have cut : ¬ (HT.sIx 3 0 none = 0 ∧ HT.sIx 3 3 (some 2) = 3) := by decide
      refine ⟨_, rfl, _, rfl, b, _, rfl, hT, cut, fun c1 m1 => ?_⟩
      have s5 : Same H' (upd H' c1 (.tup [vN t.st, vN t.src])) := same1 m1
      refine ⟨_, rfl, d, valV kvs [Sum.inl (t.st : Int), Sum.inl (t.src : Int)], rfl, DGet.t (s5 _ _ gd) upd_same, _, rfl, ?_⟩
      cases ev : valV kvs [Sum.inl (t.st : Int), Sum.inl (t.src : Int)] with
      | none =>
        have hno := (hd4 t.st t.src).2 ev
        refine ifP (by decide) ?_
        have g5 := s5 _ _ g4
        refine ⟨_, rfl, .inl ⟨rfl, _, SqL.of g5⟩, _, rfl, n, _, _, rfl, rfl, g5, lt_line (by omega), ?_⟩
        refine ⟨_, _, rfl, fun b o hb ho => by rw [upd_ne hb]; exact s5 _ _ (k4 b o hb ho), upd_same, ?_⟩
        rw [newOf_yes ht hno]
        exact paired_snoc ((Kt.put g5).tl ⟨b, cb, rfl, same_tup s5 hT, same_tup s5 hC⟩) ((Kt.put g5).tls (TlsAt.same s5 hvs))
      | some v =>
        obtain ⟨t', ht', e1, e2, hv⟩ := (hd4 t.st t.src).1 v ev
        have ett : t' = t := same t' ht' t htm e1 e2
        refine ifN (by intro z; cases z) ?_
        have hT5 := same_tup s5 hT
        refine ⟨_, rfl, _, rfl, _, rfl, b, _, rfl, hT5, cut, fun c2 m2 => ?_⟩
        have s6 := same_add s5 (o := .tup [vN t.st, vN t.src]) m2
        obtain ⟨cv, rfl, hcv⟩ := hv
        refine ⟨d, _, rfl, by rw [← ev]; exact DGet.t (s6 _ _ gd) upd_same, ?_⟩
        refine ⟨_, rfl, b, _, _, _, rfl, rfl, same_tup s6 hT, rfl, chD t'.ch, chD t.ch, dp_ch (same_tup s6 hcv), dp_ch (same_tup s6 hC), shaped_ch (ok t' ht').ch, shaped_ch okt.ch, _, rfl, ?_⟩
        refine ifN (by rw [ett, (eqv_ch _ _).mpr rfl]; decide) ?_
        refine ⟨_, _, rfl, fun b o hb ho => s6 _ _ (k4 b o hb ho), s6 _ _ g4, ?_⟩
        rw [newOf_no ht ht' ⟨e1, e2⟩]
        exact TlsAt.same s6 hvs
    · rintro σ H' ⟨v4, vs, rfl, k4, g4, hvs⟩
      rw [lu2, List.take_length] at hvs
      have s14 : Same H1 H' := fun b o hb => k4 b o (ne_of_none hb nn) (t13 _ _ hb)
      have s04 := t1.trans s14
      have lvs : vs.length = _ := Paired.length hvs
      have ln := newOf_len ts ts2'
      have hK4 := hK.same s04
      obtain ⟨⟨dx4, h14⟩, hE4, us4, h34, h44⟩ := hK4
      have lu4 : us4.length = ts.length := Paired.length h44
      refine ⟨_, rfl, p, C, dx4, _, _, rfl, h14, L.cC, L.cAll, cf_all _ _ _, l, us4, rfl, .inl (SqL.of h34), _, rfl, n, vs, rfl, .inl (SqL.of g4), _, _, rfl, rfl, _, _, rfl, rfl, _, rfl, ?_⟩
      refine ifN (by intro z; have := of_decide_eq_true z; omega) ?_
      refine ⟨_, rfl, p, C, dx4, _, _, rfl, h14, L.cC, L.cAll, cf_all _ _ _, _, rfl, l, n, _, _, rfl, rfl, h34, g4, Nat.le_of_lt (lt_line (by omega)), fun q1 m1 => ?_⟩
      have s5 : Same H' (upd H' q1 (.lst (us4 ++ vs))) := same1 m1
      refine ⟨q1, us4 ++ vs, ts ++ newOf ts ts2', rfl, .inl (.inl upd_same), paired_app (TlsAt.same s5 h44) (TlsAt.same s5 hvs), fun t ht => ?_, fun H6 dd kv s6' m6 g6 hkv => ?_⟩
      · rcases List.mem_append.mp ht with ht | ht
        · exact ok t ht
        · exact ok2 t (hp.mem_iff.mp (newOf_mem ht))
      have s6 := s5.trans s6'
      refine ⟨dd, kv, rfl, g6, _, _, rfl, rfl, _, rfl, ?_⟩
      refine ifN (by intro z; have := of_decide_eq_true z; omega) ?_
      refine ⟨_, rfl, p, dx4, _, rfl, s6 _ _ h14, cf_noM _ _ _ (by decide +kernel), _, rfl, p, l, e, n, s, es, ts, newOf ts ts2', vs, rfl, (hK.same s04).same s6, SqL.of (s6 _ _ g4), TlsAt.same s6 hvs, by omega, by omega, fun H7 l' k7 nl7 hK7 => ?_⟩
      have hnp : n ≠ p := fun z => by
        rw [z, t1 _ _ h1] at nn
        cases nn
      refine ⟨_, rfl, n, vs, rfl, .inl (SqL.of (k7 _ _ hnp (s6 _ _ g4))), ?_⟩
      exact q H7 l' ts2' _ (fun b o hb ho => k7 b o hb (s6 _ _ (s04 _ _ ho))) ((s04.trans s6).free nl7) hp hK7
end
end Ts
namespace Ts
open PySem PySem.Spec PyProof.Rows L2
/-- no stamp and source twice -/
def KeysND (ts : List Tl) : Prop := ts.Pairwise fun t t' => ¬ (t.st = t'.st ∧ t.src = t'.src)
theorem KeysND.fresh {ts : List Tl} (h : KeysND ts) {i : Nat} {t : Tl} (hi : ts[i]? = some t) : ∀ t' ∈ ts.take i, ¬ (t'.st = t.st ∧ t'.src = t.src) := fun t' ht' => by
  obtain ⟨lt, he⟩ := List.getElem?_eq_some_iff.mp hi
  obtain ⟨j, hj⟩ := List.getElem?_of_mem ht'
  obtain ⟨lj, hj2⟩ := List.getElem?_eq_some_iff.mp hj
  rw [List.length_take] at lj
  rw [List.getElem_take] at hj2
  have := List.pairwise_iff_getElem.mp h j i (by omega) lt (by omega)
  rw [hj2, he] at this
  exact this
theorem bodies_at {es : List (Str × Nat)} {ts : List Tl} {i : Nat} : (bodies es ts)[i + 1]? = (ts[i]?).map tellB := by
  unfold bodies
  rw [List.getElem?_cons_succ, List.getElem?_map]
theorem bodies_len {es : List (Str × Nat)} {ts : List Tl} : (bodies es ts).length = ts.length + 1 := by
  unfold bodies
  rw [List.length_cons, List.length_map]
section
variable {P : Program} {w : World} {K : PySem.W.Frag} {mg : Str → Option Value} {base : Heap} {C S CI fI cc cda : Addr}
abbrev s_read_telling : Stmt := top 50
theorem sc_read_telling : FnScope ["body", "numbers", "key", "text", "change"] ["body"] (defScope s_read_telling) := ⟨rfl, rfl, rfl, by decide +kernel, rfl, by decide +kernel, by decide +kernel⟩
def spReadTl (K : PySem.W.Frag) : Sp := fun vs H Q _ => ∃ (a : Addr) (t : Tl), vs = [.ref a] ∧ ByAt K H a (tellB t) ∧ TlOk t ∧ ∀ H' v, Same H H' → TlAt K H' v t → Q v H'
theorem ok_read_telling {f : Addr} {fd : FuncData} (F : Fun K "read_telling" "read_telling" s_read_telling f fd) (T : Txt mg) (O_read_numbers : Own P w K mg base CX0 2 "read_numbers" ["body"] (spReadNs K))
    (O_read_text : Own P w K mg base CX0 2 "read_text" ["data", "at"] (spReadT K)) (O_read_change_text : Own P w K mg base CX0 3 "read_change_text" ["body", "at"] (spReadCT K))
    (O_check_change : Own P w K mg base CX0 2 "check_change" ["change"] (spCheckCh K)) : FnOk P w K mg base CX0 4 f fd ["body"] (spReadTl K) := by
  refine F.ok sc_read_telling (fun vs H Q E h => ?_) (fun cdv A outer s H vs Q E hr h => ?_)
  · obtain ⟨a, t, rfl, _⟩ := h
    rfl
  · obtain ⟨a, t, rfl, hS, ok, q⟩ := h
    refine ⟨_, (pss_cons (ps_set (i := 1) sc_read_telling.nd rfl (Or.inl rfl) (pe_own O_read_numbers hr (by decide) (by rfl) pass0 (pa_cons (pv 0) pa_nil)))
      (pss_cons (ps_if (PW.pt (pw_or (pt_cmpR op_isN (pv 1) pe_non (nomark _)) (pw_or (pt_cmpR op_lt (pe_ix ix_tup (pv 1) pe_int (fun _ _ => rfl)) pe_int (nomark _)) (pw_or (pt_cmpR op_lt (pe_ix ix_tup (pv 1) pe_int (fun _ _ => rfl)) pe_int (nomark _)) (pw_or1 (pt_cmpR op_gt (pe_ix ix_tup (pv 1) pe_int (fun _ _ => rfl)) pe_int (nomark _))))))) (pss_one (ps_ret pe_non)) pss_nil)
      (pss_cons (ps_set (i := 2) sc_read_telling.nd rfl (Or.inl rfl) (pe_own O_read_text hr (by decide) (by rfl) pass0 (pa_cons (pv 0) (pa_cons (pe_ix ix_tup (pv 1) pe_int (fun _ _ => rfl)) pa_nil))))
      (pss_cons (ps_if (pt_cmpR op_isN (pv 2) pe_non (nomark _)) (pss_one (ps_ret pe_non)) pss_nil)
      (pss_cons (ps_set (i := 3) sc_read_telling.nd rfl (Or.inl rfl) (pe_own O_read_change_text hr (by decide) (by rfl) pass0 (pa_cons (pv 0) (pa_cons (pe_ix ix_tup (pv 2) pe_int (fun _ _ => rfl)) pa_nil))))
      (pss_cons (ps_if (PW.pt (pw_or (pt_cmpR op_isN (pv 3) pe_non (nomark _)) (pw_or1 (pt_cmpR op_lt (pe_ix ix_tup (pv 3) pe_int (fun _ _ => rfl)) (pe_callB call_len_seq (by rfl) T.f_len PySem.boot_len (pa_cons (pv 0) pa_nil)) (nomark _))))) (pss_one (ps_ret pe_non)) pss_nil)
      (pss_cons (ps_set (i := 4) sc_read_telling.nd rfl (Or.inl rfl) (pe_tup (pa_cons (pe_ix ix_tup (pv 1) pe_int (fun _ _ => rfl)) (pa_cons (pe_ix ix_tup (pv 2) pe_int (fun _ _ => rfl)) (pa_cons (pe_ix ix_tup (pv 3) pe_int (fun _ _ => rfl)) pa_nil)))))
      (pss_cons (ps_try_thru0 (pss_one (ps_expr (pe_own O_check_change hr (by decide) (by rfl) pass0 (pa_cons (pv 4) pa_nil)))))
      (pss_one (ps_ret (pe_tup (pa_cons (pe_ix ix_tup (pv 1) pe_int (fun _ _ => rfl)) (pa_cons (pe_ix ix_tup (pv 1) pe_int (fun _ _ => rfl)) (pa_cons (pv 4) pa_nil)))))))))))))), ?_⟩
    have hb := tellB_byte ok
    refine ⟨_, rfl, a, tellB t, t.st, t.src, t.ch.time, textB t.ch.key ++ txtB t.ch.txt, rfl, hS, hb, rfl, fun H1 p1 s1 n1 h1 => ?_⟩
    have hT : SqT K H1 p1 [vN t.st, vN t.src, vN t.ch.time, vN ((numB t.st).length + ((numB t.src).length + (numB t.ch.time).length))] := .inl (.inl h1)
    have o1 := ok.st1
    have o2 := ok.src1
    have o3 := ok.src2
    refine ⟨_, rfl, rfl, _, rfl, ifN (by intro z; cases of_decide_eq_true z) ?_⟩
    refine ⟨_, rfl, p1, _, _, _, rfl, rfl, hT, rfl, _, _, rfl, rfl, _, rfl, ifN (by intro z; have := of_decide_eq_true z; omega) ?_⟩
    refine ⟨_, rfl, p1, _, _, _, rfl, rfl, hT, rfl, _, _, rfl, rfl, _, rfl, ifN (by intro z; have := of_decide_eq_true z; omega) ?_⟩
    refine ⟨_, rfl, p1, _, _, _, rfl, rfl, hT, rfl, _, _, rfl, rfl, _, rfl, ifN (by intro z; have := of_decide_eq_true z; omega) ?_⟩
    have d1 : (tellB t).drop ((numB t.st).length + ((numB t.src).length + (numB t.ch.time).length)) = textB t.ch.key ++ txtB t.ch.txt := by
      unfold tellB
      rw [← List.drop_drop, List.drop_left, ← List.drop_drop, List.drop_left, List.drop_left]
    have lz : (tellB t).length = (numB t.st).length + ((numB t.src).length + (numB t.ch.time).length) + (textB t.ch.key).length + (txtB t.ch.txt).length := by
      unfold tellB
      simp only [List.length_append]
      omega
    generalize (numB t.st).length + ((numB t.src).length + (numB t.ch.time).length) = at0 at d1 hT lz
    refine ⟨_, rfl, _, rfl, p1, _, _, _, rfl, rfl, hT, rfl, a, tellB t, at0, t.ch.key, txtB t.ch.txt, rfl, s1.seq hS, hb, d1, ok.ch.key.text, fun H2 p2 s2 n2 h2 => ?_⟩
    have hT2 : SqT K H2 p2 [.str t.ch.key, vN (at0 + (textB t.ch.key).length)] := .inl (.inl h2)
    refine ⟨_, rfl, rfl, _, rfl, ifN (by intro z; cases of_decide_eq_true z) ?_⟩
    have d2 : (tellB t).drop (at0 + (textB t.ch.key).length) = txtB t.ch.txt := by rw [← List.drop_drop, d1, List.drop_left]
    refine ⟨_, rfl, _, rfl, p2, _, _, _, rfl, rfl, hT2, rfl, a, tellB t, at0 + (textB t.ch.key).length, t.ch.txt, rfl, (s1.trans s2).seq hS, hb, d2, ok.ch.txt, fun H3 p3 s3 n3 h3 => ?_⟩
    have hT3 : SqT K H3 p3 [optV t.ch.txt, vN (at0 + (textB t.ch.key).length + (txtB t.ch.txt).length)] := .inl (.inl h3)
    refine ⟨_, rfl, rfl, _, rfl, ifN (by intro z; cases of_decide_eq_true z) ?_⟩
    refine ⟨_, rfl, p3, _, _, _, rfl, rfl, hT3, rfl, _, rfl, a, _, rfl, .inl ((s1.trans (s2.trans s3)).seq hS), _, _, rfl, rfl, _, rfl, ?_⟩
    refine ifN (by intro z; have := of_decide_eq_true z; rw [List.length_map] at this; omega) ?_
    have hT13 := same_tup (s2.trans s3) hT
    have hT23 := same_tup s3 hT2
    refine ⟨_, rfl, p1, _, _, _, rfl, rfl, hT13, rfl, _, rfl, p2, _, _, _, rfl, rfl, hT23, rfl, _, rfl, p3, _, _, _, rfl, rfl, hT3, rfl, by show 3 ≤ sizeLine; decide, fun p4 n4 => ?_⟩
    have s4 : Same H3 (upd H3 p4 (.tup [vN t.ch.time, .str t.ch.key, optV t.ch.txt])) := same1 n4
    refine ⟨_, rfl, p4, t.ch, rfl, .inl (.inl upd_same), ok.ch, fun H5 s5 => ?_⟩
    have s45 := s4.trans s5
    have hT15 := same_tup s45 hT13
    refine ⟨_, rfl, p1, _, _, _, rfl, rfl, hT15, rfl, _, rfl, p1, _, _, _, rfl, rfl, hT15, rfl, _, rfl, by show 3 ≤ sizeLine; decide, fun p6 n6 => ?_⟩
    have s6 := same1 (o := .tup [vN t.st, vN t.src, .ref p4]) n6
    exact q _ _ (s1.trans (s2.trans (s3.trans (s45.trans s6)))) ⟨p6, p4, rfl, .inl (.inl upd_same), same_tup (s5.trans s6) (.inl (.inl upd_same))⟩
abbrev s_can_follow : Stmt := top 51
theorem sc_can_follow : FnScope ["tellings", "telling"] ["tellings", "telling"] (defScope s_can_follow) := ⟨rfl, rfl, rfl, by decide +kernel, rfl, by decide +kernel, by decide +kernel⟩
def spCanFollow (K : PySem.W.Frag) : Sp := fun vs H Q _ => ∃ (a : Addr) (v : V) (us : List V) (ts : List Tl) (t : Tl), vs = [.ref a, v] ∧ H a = some (.lst us) ∧ TlsAt K H us ts ∧ TlAt K H v t ∧ (∀ t ∈ ts, TlOk t) ∧ TlOk t ∧ (∀ t' ∈ ts, ¬ (t'.st = t.st ∧ t'.src = t.src)) ∧ ts.length < 80 ∧
  ∀ H', Same H H' → Q (.bl true) H'
theorem ok_can_follow {f : Addr} {fd : FuncData} (F : Fun K "can_follow" "can_follow" s_can_follow f fd) (T : Txt mg) (O_stamps_of : Own P w K mg base CX0 1 "stamps_of" ["tellings"] (spStampsOf K))
    (O_keys_of : Own P w K mg base CX0 1 "keys_of" ["tellings"] (spKeysOf K)) : FnOk P w K mg base CX0 2 f fd ["tellings", "telling"] (spCanFollow K) := by
  refine F.ok sc_can_follow (fun vs H Q E h => ?_) (fun cdv A outer s H vs Q E hr h => ?_)
  · obtain ⟨a, v, us, ts, t, rfl, _⟩ := h
    rfl
  · obtain ⟨a, v, us, ts, t, rfl, hL, hus, hv, ok, okt, hno, hz, q⟩ := h
    refine ⟨_, (pss_cons (ps_if (PW.pt (pw_or (pt_cmpR op_isN (pv 1) pe_non (nomark _)) (pw_or (pt_cmp (pc_din (hu1 hr) (pe_slice sl_tup (pv 1) po_none (po_some pe_int)) (pe_own O_stamps_of hr (by decide) (by rfl) pass0 (pa_cons (pv 0) pa_nil)))) (pw_or1 (pt_cmpR op_ge (pe_callB call_len_seq (by rfl) T.f_len PySem.boot_len (pa_cons (pv 0) pa_nil)) (pe_gI (by rfl) T.g_MOST_CHANGES_merging) (nomark _)))))) (pss_one (ps_ret pe_bl)) pss_nil)
      (pss_one (ps_ret (pe_cmpR op_le (pe_callB call_lenD (by rfl) T.f_len PySem.boot_len (pa_cons (pe_own O_keys_of hr (by decide) (by rfl) pass0 (pa_cons (pe_op op_cat (pv 0) (pe_lst (pa_cons (pv 1) pa_nil))) pa_nil)) pa_nil)) (pe_gI (by rfl) T.g_MOST_KEYS_merging) (nomark _))))), ?_⟩
    obtain ⟨b, cb, rfl, hT, hC⟩ := id hv
    have lu : us.length = ts.length := Paired.length hus
    have cut : ¬ (HT.sIx 3 0 none = 0 ∧ HT.sIx 3 3 (some 2) = 3) := by decide
    refine ⟨_, rfl, rfl, _, rfl, ifN (by intro z; cases of_decide_eq_true z) ?_⟩
    refine ⟨_, rfl, _, rfl, b, _, rfl, hT, cut, fun c1 m1 => ?_⟩
    have s1 : Same H (upd H c1 (.tup [vN t.st, vN t.src])) := same1 m1
    refine ⟨_, rfl, a, us, ts, rfl, SqL.of (s1 _ _ hL), TlsAt.same s1 hus, by omega, fun H2 d kvs s2 n2 g2 hd => ?_⟩
    have s12 := s1.trans s2
    refine ⟨d, valV kvs [Sum.inl (t.st : Int), Sum.inl (t.src : Int)], rfl, DGet.t g2 (s2 _ _ upd_same), _, rfl, ?_⟩
    cases ev : valV kvs [Sum.inl (t.st : Int), Sum.inl (t.src : Int)] with
    | some v =>
      obtain ⟨t', ht', e1, e2, _⟩ := (hd t.st t.src).1 v ev
      exact absurd ⟨e1, e2⟩ (hno t' ht')
    | none =>
      refine ifN (by decide) ?_
      have hL2 := s12 _ _ hL
      refine ⟨_, rfl, a, us, rfl, .inl (SqL.of hL2), _, _, rfl, rfl, _, rfl, ?_⟩
      refine ifN (by intro z; have := of_decide_eq_true z; omega) ?_
      refine ⟨_, rfl, _, rfl, by show 1 ≤ sizeLine; decide, fun p3 n3 => ?_⟩
      have s3 : Same H2 (upd H2 p3 (.lst [V.ref b])) := same1 n3
      refine ⟨a, p3, _, _, rfl, rfl, s3 _ _ hL2, upd_same, Nat.le_of_lt (lt_line (by rw [List.length_singleton]; omega)), fun p4 n4 => ?_⟩
      have s4 := same_add s3 (o := .lst (us ++ [V.ref b])) n4
      have s04 := s12.trans s4
      refine ⟨p4, us ++ [V.ref b], ts ++ [t], rfl, .inl (.inl upd_same), paired_snoc (hv.same s04) (TlsAt.same s04 hus), fun x hx => ?_, fun H5 dd kv s5 n5 g5 hk => ?_⟩
      · rcases List.mem_append.mp hx with hx | hx
        · exact ok x hx
        · have : x = t := by simpa using hx
          rw [this]
          exact okt
      refine ⟨dd, kv, rfl, g5, _, _, rfl, rfl, ?_⟩
      show Q (.bl (decide ((kv.length : Int) ≤ 12))) H5
      rw [show decide ((kv.length : Int) ≤ 12) = true from decide_eq_true (by omega)]
      exact q _ (s04.trans s5)
/-- what slot record holds when i tellings have been read -/
def RecS (K : PySem.W.Frag) (es : List (Str × Nat)) (ts : List Tl) (cut i : Nat) (H : Hp) (v : V) : Prop :=
  (i < ts.length ∧ psum (bodies es ts) (i + 2) ≤ cut ∧ ∃ t r b, ts[i]? = some t ∧ v = .ref r ∧ SqT K H r [.ref b, vN (psum (bodies es ts) (i + 2))] ∧ H b = some (.lst ((tellB t).map vN))) ∨ (v = .non ∧ Whole (bodies es ts) cut (i + 1))
section
variable {a : Addr} {cut i : Nat} {es : List (Str × Nat)} {ts : List Tl} {H' : Hp}
theorem rec_none (hcut : cut ≤ (cat (bodies es ts)).length) (hp : psum (bodies es ts) (i + 1) ≤ cut) (hi : i ≤ ts.length) (e : rdRec (((cat (bodies es ts)).take cut).drop (psum (bodies es ts) (i + 1))) = none) : RecS K es ts cut i H' .non := by
  by_cases hc : i < ts.length ∧ psum (bodies es ts) (i + 2) ≤ cut
  · have hit : ts[i]? = some ts[i] := List.getElem?_eq_getElem hc.1
    generalize ts[i] = t at hit
    have hbt : (bodies es ts)[i + 1]? = some (tellB t) := by rw [bodies_at, hit]; rfl
    have e0 := rdRec_next hbt hc.2
    rw [e] at e0
    cases e0
  · have hw : i + 1 = (bodies es ts).length ∨ cut < psum (bodies es ts) (i + 2) := by
      rw [bodies_len]
      omega
    refine .inr ⟨rfl, ?_, hp, hw⟩
    rw [bodies_len]
    omega
theorem rec_some {b : List Nat} {c : Nat} {p q : Addr} (hcut : cut ≤ (cat (bodies es ts)).length) (hp : psum (bodies es ts) (i + 1) ≤ cut) (hi : i ≤ ts.length) (e : rdRec (((cat (bodies es ts)).take cut).drop (psum (bodies es ts) (i + 1))) = some (b, c))
    (h1 : H' q = some (.lst (b.map vN))) (h2 : H' p = some (.tup [.ref q, vN (psum (bodies es ts) (i + 1) + c)])) : RecS K es ts cut i H' (.ref p) := by
  by_cases hc : i < ts.length ∧ psum (bodies es ts) (i + 2) ≤ cut
  · have hit : ts[i]? = some ts[i] := List.getElem?_eq_getElem hc.1
    generalize ts[i] = t at hit
    have hbt : (bodies es ts)[i + 1]? = some (tellB t) := by rw [bodies_at, hit]; rfl
    have e0 := rdRec_next hbt hc.2
    rw [e] at e0
    injection e0 with e0
    injection e0 with eb ec
    subst eb ec
    refine .inl ⟨hc.1, hc.2, t, p, q, hit, rfl, .inl (.inl ?_), h1⟩
    rw [h2, psum_succ _ hbt]
  · have hw : i + 1 = (bodies es ts).length ∨ cut < psum (bodies es ts) (i + 2) := by
      rw [bodies_len]
      omega
    have e0 := rdRec_last hp hw
    rw [e] at e0
    cases e0
end
def OpI (K : PySem.W.Frag) (es : List (Str × Nat)) (ts : List Tl) (cut a s p1 p2 x tl : Nat) (H3 : Hp) (m : Nat) (σ : L2.St) (H' : Hp) : Prop :=
  ∃ i us v, σ = [some (.ref a), some (vN s), some (.ref p1), some (.ref p2), some (.ref x), some (.ref tl), some (vN (psum (bodies es ts) (i + 1))), some v] ∧ i ≤ ts.length ∧ psum (bodies es ts) (i + 1) ≤ cut ∧ Same H3 H' ∧ H' tl = some (.lst us) ∧
      TlsAt K H' us (ts.take i) ∧ RecS K es ts cut i H' v ∧ m = ts.length - i
abbrev s_opened : Stmt := top 52
theorem sc_opened : FnScope ["data", "source", "first", "endings", "copy", "tellings", "at", "record"] ["data", "source"] (defScope s_opened) := ⟨rfl, rfl, rfl, by decide +kernel, rfl, by decide +kernel, by decide +kernel⟩
def spOpened (K : PySem.W.Frag) (C CI : Addr) : Sp := fun vs H Q E => ∃ (a : Addr) (s cut : Nat) (es : List (Str × Nat)) (ts : List Tl), vs = [.ref a, vN s] ∧ ByAt K H a ((cat (bodies es ts)).take cut) ∧ cut ≤ (cat (bodies es ts)).length ∧ EsOk es ∧ (∀ t ∈ ts, TlOk t) ∧ KeysND ts ∧ ts.length ≤ 79 ∧ 1 ≤ s ∧ s ≤ 9 ∧
  (cut < (recB (endsB es)).length → ∀ H' d, Same H H' → H d = none → H' d = some (atD 0) → E (.ref CI) (some d) H') ∧
  (∀ m, Whole (bodies es ts) cut (m + 1) → ∀ H' q p l e, Same H H' → H p = none → H l = none → SqT K H' q [.ref p, vN (psum (bodies es ts) (m + 1))] → CopyAt K C H' p l e s es (ts.take m) → Q (.ref q) H')
theorem ok_opened {f : Addr} {fd : FuncData} (F : Fun K "opened" "opened" s_opened f fd) (T : Txt mg) (L : Cl K C S) (TI : PySem.IbX.IbTxt P K mg CI fI cc cda) (O_read_record : Own P w K mg base CX0 2 "read_record" ["data", "at"] (spReadR K))
    (O_read_endings : Own P w K mg base CX0 3 "read_endings" ["body"] (spReadEs K)) (O_Copy___init__ : OwnC P w K mg base CX0 C 1 "Copy" ["self", "source", "endings"] (spCopyInit K C)) (O_can_follow : Own P w K mg base CX0 2 "can_follow" ["tellings", "telling"] (spCanFollow K))
    (O_read_telling : Own P w K mg base CX0 4 "read_telling" ["body"] (spReadTl K)) (O_Copy_hold : OwnM P w K mg base CX0 C 1 "hold" ["self", "tellings"] (spCopyHold K C)) : FnOk P w K mg base (L2.CX P w) 6 f fd ["data", "source"] (spOpened K C CI) := by
  refine F.okX sc_opened (fun vs H Q E h => ?_) (fun cdv A outer s H vs Q E hr h => ?_)
  · obtain ⟨a, s, cut, es, ts, rfl, _⟩ := h
    rfl
  · obtain ⟨a, s, cut, es, ts, rfl, hS, hcut, okE, ok, nd, hz, s1, s9, qe, q⟩ := h
    refine ⟨_, (pss_cons (ps_set (i := 2) sc_opened.nd rfl (Or.inl rfl) (pe_own O_read_record hr (by decide) (by rfl) pass0 (pa_cons (pv 0) (pa_cons pe_int pa_nil))))
      (pss_cons (ps_if (pt_cmpR op_isN (pv 2) pe_non (nomark _)) (pss_one (ps_raise rfl (takes_of rfl rfl rfl rfl) (pmk_ib TI hr (pa_cons pe_int pa_nil)))) pss_nil)
      (pss_cons (ps_set (i := 3) sc_opened.nd rfl (Or.inl rfl) (pe_own O_read_endings hr (by decide) (by rfl) pass0 (pa_cons (pe_ix ix_tup (pv 2) pe_int (fun _ _ => rfl)) pa_nil)))
      (pss_cons (ps_if (pt_cmpR op_isN (pv 3) pe_non (nomark _)) (pss_one (ps_raise rfl (takes_of rfl rfl rfl rfl) (pmk_ib TI hr (pa_cons pe_int pa_nil)))) pss_nil)
      (pss_cons (ps_set (i := 4) sc_opened.nd rfl (Or.inl rfl) (pe_makeO O_Copy___init__ hr (by decide) (by rfl) pass0 (pa_cons (pv 1) (pa_cons (pv 3) pa_nil))))
      (pss_cons (ps_set (i := 5) sc_opened.nd rfl (Or.inl rfl) (pe_lst pa_nil))
      (pss_cons (ps_set (i := 6) sc_opened.nd rfl (Or.inl rfl) (pe_ix ix_tup (pv 2) pe_int (fun _ _ => rfl)))
      (Evl.pss_cut (ps_set (i := 7) sc_opened.nd rfl (Or.inl rfl) (pe_own O_read_record hr (by decide) (by rfl) pass0 (pa_cons (pv 0) (pa_cons (pv 6) pa_nil))))
      (pss_cons (ps_while (passes_of rfl) (PW.pt (pw_and (pt_cmpR op_notN (pv 7) pe_non (nomark _)) (pw_and1 (pt_val (pe_own O_can_follow hr (by decide) (by rfl) pass0 (pa_cons (pv 5) (pa_cons (pe_own O_read_telling hr (by decide) (by rfl) pass0 (pa_cons (pe_ix ix_tup (pv 7) pe_int (fun _ _ => rfl)) pa_nil)) pa_nil))))))) (pss_cons (ps_expr (pe_bm PySem.F.plainAttrs_list PySem.F.slot_list_append PySem.F.type_list_append mt_append (pv 5) (pa_cons (pe_own O_read_telling hr (by decide) (by rfl) pass0 (pa_cons (pe_ix ix_tup (pv 7) pe_int (fun _ _ => rfl)) pa_nil)) pa_nil)))
        (pss_cons (ps_set (i := 6) sc_opened.nd rfl (Or.inl rfl) (pe_ix ix_tup (pv 7) pe_int (fun _ _ => rfl)))
        (pss_one (ps_set (i := 7) sc_opened.nd rfl (Or.inl rfl) (pe_own O_read_record hr (by decide) (by rfl) pass0 (pa_cons (pv 0) (pa_cons (pv 6) pa_nil))))))))
      (pss_cons (ps_expr (pe_ownM O_Copy_hold hr (by decide) pass0 (pv 4) (pa_cons (pv 5) pa_nil)))
      (pss_one (ps_ret (pe_tup (pa_cons (pv 4) (pa_cons (pv 6) pa_nil))))))))))))))), ?_⟩
    have hlen : ((cat (bodies es ts)).take cut).length = cut := by rw [List.length_take]; omega
    have hb : ∀ b ∈ (cat (bodies es ts)).take cut, b < 256 := fun b hb => cat_byte (fun l hl => (bodies_ok okE ok l hl).2) b (List.mem_of_mem_take hb)
    have hb0 : (bodies es ts)[0]? = some (endsB es) := rfl
    have p1e : psum (bodies es ts) 1 = (recB (endsB es)).length := by rw [psum_succ _ hb0, psum_zero, Nat.zero_add]
    refine ⟨_, rfl, a, (cat (bodies es ts)).take cut, 0, rfl, hS, hb, Nat.zero_le _, (fun e H1 s1 => ?_), fun b c e H1 p1 q1 t1 n1 g1 h1 => ?_⟩
    · refine ⟨_, rfl, rfl, _, rfl, ifP (by decide) ?_⟩
      have hc : cut < (recB (endsB es)).length := by
        rw [← p1e]
        refine Nat.lt_of_not_le fun z => ?_
        have e0 := rdRec_next hb0 z
        rw [psum_zero, e] at e0
        cases e0
      exact ⟨rfl, fun d hd => qe hc _ d (same_add s1 hd) (s1.free hd) upd_same⟩
    have hp1 : psum (bodies es ts) 1 ≤ cut := by
      refine Nat.le_of_not_lt fun z => ?_
      have e0 := rdRec_last (bs := bodies es ts) (cut := cut) (m := 0) (Nat.zero_le _) (.inr z)
      rw [psum_zero, e] at e0
      cases e0
    have e0 := rdRec_next hb0 hp1
    rw [psum_zero, e] at e0
    injection e0 with e0
    injection e0 with eb ec
    subst eb
    rw [ec, ← p1e] at h1
    have hT1 : SqT K H1 p1 [.ref q1, vN (0 + psum (bodies es ts) 1)] := .inl (.inl h1)
    rw [Nat.zero_add] at hT1
    refine ⟨_, rfl, rfl, _, rfl, ifN (by intro z; cases of_decide_eq_true z) ?_⟩
    refine ⟨_, rfl, p1, _, _, _, rfl, rfl, hT1, rfl, q1, es, rfl, .inl (.inl g1), okE, fun H2 p2 t2 hes => ?_⟩
    refine ⟨_, rfl, rfl, _, rfl, ifN (by intro z; cases of_decide_eq_true z) ?_⟩
    refine ⟨_, rfl, _, rfl, fun x dx nx ndx hne => ?_⟩
    have sm : Same H2 (upd (upd H2 dx (.own x)) x (.ins C dx [])) := same_mod (same1 ndx) nx
    refine ⟨x, dx, p2, s, es, rfl, upd_same, hes.same sm, s1, s9, fun H3 l k3 nl hK3 => ⟨rfl, ?_⟩⟩
    have t23 : Same H2 H3 := Same.made nx ndx fun b o ho hb => k3 b o hb ho
    have t13 := t2.trans t23
    have t03 := t1.trans t13
    refine ⟨by show 0 ≤ sizeLine; omega, fun tl ntl => ?_⟩
    have t4 : Same H3 (upd H3 tl (.lst [])) := same1 ntl
    refine ⟨_, rfl, p1, _, _, _, rfl, rfl, same_tup (t13.trans t4) hT1, rfl, ?_⟩
    refine ⟨fun σ' H' => OpI K es ts cut a s p1 p2 x tl H3 (ts.length - 0) σ' H', ?_, fun σ' H' hM => ⟨OpI K es ts cut a s p1 p2 x tl H3, ⟨_, hM⟩, ?_⟩⟩
    · refine ⟨_, rfl, _, rfl, a, _, psum (bodies es ts) 1, rfl, (t03.trans t4).seq hS, hb, by rw [hlen]; exact hp1, (fun e H5 t5 => ?_), fun b c e H5 p q t5 n5 g5 h5 => ?_⟩
      · exact ⟨0, [], _, rfl, Nat.zero_le _, hp1, t4.trans t5, t5 _ _ upd_same, .nil, rec_none hcut hp1 (Nat.zero_le _) e, rfl⟩
      · exact ⟨0, [], _, rfl, Nat.zero_le _, hp1, t4.trans t5, t5 _ _ upd_same, .nil, rec_some hcut hp1 (Nat.zero_le _) e g5 h5, rfl⟩
    rintro m σ H' ⟨i, us, v, rfl, hi, hp, s6, g6, hus, hrec, rfl⟩
    have lus : us.length ≤ 79 := by
      have e1 : us.length = _ := Paired.length hus
      rw [List.length_take] at e1
      omega
    rcases hrec with ⟨hlt, hp2, t, r, b, ht, rfl, hTr, gb⟩ | ⟨rfl, hw⟩
    · have okt := ok t (List.mem_of_getElem? ht)
      refine ⟨_, rfl, rfl, _, rfl, iteT ?_⟩
      refine ⟨_, rfl, _, rfl, r, _, _, _, rfl, rfl, hTr, rfl, b, t, rfl, .inl (.inl gb), okt, fun H7 v7 s7 hv7 => ?_⟩
      refine ⟨tl, v7, us, ts.take i, t, rfl, s7 _ _ g6, TlsAt.same s7 hus, hv7, fun y hy => ok y (List.mem_of_mem_take hy), okt, nd.fresh ht, by rw [List.length_take]; omega, fun H8 s8 => ⟨_, rfl, iteT ?_⟩⟩
      refine ⟨_, fun _ _ z => z, ?_⟩
      have s78 := s7.trans s8
      have g8 := s78 _ _ g6
      refine ⟨_, rfl, .inl ⟨rfl, _, SqL.of g8⟩, _, rfl, r, _, _, _, rfl, rfl, same_tup s78 hTr, rfl, b, t, rfl, .inl (.inl (s78 _ _ gb)), okt, fun H9 v9 s9' hv9 => ?_⟩
      have s79 := s78.trans s9'
      have g9 := s79 _ _ g6
      refine ⟨tl, _, _, rfl, rfl, g9, lt_line (by omega), ?_⟩
      have kt := Kt.put (o := .lst (us ++ [v9])) g9
      have s10 : Same H3 (upd H9 tl (.lst (us ++ [v9]))) := same_mod (s6.trans s79) ntl
      refine ⟨_, rfl, r, _, _, _, rfl, rfl, kt.tup (same_tup s79 hTr), rfl, ?_⟩
      have hus10 : TlsAt K (upd H9 tl (.lst (us ++ [v9]))) (us ++ [v9]) (ts.take (i + 1)) := by
        rw [List.take_add_one, ht]
        exact paired_snoc (kt.tl hv9) (kt.tls (TlsAt.same s79 hus))
      refine ⟨_, rfl, _, rfl, a, _, psum (bodies es ts) (i + 2), rfl, (t03.trans s10).seq hS, hb, by rw [hlen]; exact hp2, (fun e H11 s11 => ?_), fun b c e H11 p q s11 n11 g11 h11 => ?_⟩
      · exact ⟨ts.length - (i + 1), by omega, i + 1, us ++ [v9], _, rfl, hlt, hp2, s10.trans s11, s11 _ _ upd_same, TlsAt.same s11 hus10, rec_none hcut hp2 hlt e, rfl⟩
      · exact ⟨ts.length - (i + 1), by omega, i + 1, us ++ [v9], _, rfl, hlt, hp2, s10.trans s11, s11 _ _ upd_same, TlsAt.same s11 hus10, rec_some hcut hp2 hlt e g11 h11, rfl⟩
    · refine ⟨_, rfl, rfl, _, rfl, iteF ?_⟩
      have hK6 := hK3.same s6
      obtain ⟨dx6, g16⟩ := hK6.ob
      refine ⟨_, rfl, x, dx6, _, rfl, g16, cf_noM _ _ _ (by decide +kernel), _, rfl, x, l, p2, tl, s, es, [], ts.take i, us, rfl, hK6, SqL.of g6, hus, by decide, by rw [List.length_take]; omega, fun H8 l' k8 nl8 hK8 => ?_⟩
      refine ⟨_, rfl, _, rfl, by show 2 ≤ sizeLine; decide, fun pq npq => ?_⟩
      have nx0 : H x = none := (t1.trans t2).free nx
      have s08 : Same H H8 := fun b o ho => k8 b o (ne_of_none ho nx0) (s6 _ _ (t03 _ _ ho))
      exact q i hw _ pq x l' p2 (same_add s08 npq) nx0 ((t03.trans s6).free nl8) (.inl (.inl upd_same)) (hK8.same (same1 npq))
end
end Ts
namespace Ts
open PySem PySem.Spec PyProof.Rows L2
theorem mod_pl {i : Int} {n : Nat} (h : 0 < n) : (i % (n : Int)).toNat < n ∧ (((i % (n : Int)).toNat : Nat) : Int) = i % (n : Int) := by
  have h1 : 0 ≤ i % (n : Int) := Int.emod_nonneg i (by omega)
  have h2 : i % (n : Int) < (n : Int) := Int.emod_lt_of_pos i (by omega)
  have h3 : (((i % (n : Int)).toNat : Nat) : Int) = i % (n : Int) := Int.toNat_of_nonneg h1
  exact ⟨by omega, h3⟩
theorem atI_mod {xs : List V} {n : Nat} (hn : xs.length = n) (h0 : 0 < n) (i : Int) : ∃ v, v ∈ xs ∧ atI xs (i % (n : Int)) = some v := by
  obtain ⟨h1, h2⟩ := mod_pl (i := i) h0
  have lt : (i % (n : Int)).toNat < xs.length := by omega
  refine ⟨xs[(i % (n : Int)).toNat], List.getElem_mem lt, ?_⟩
  have h3 := atI_nat (xs := xs) (List.getElem?_eq_getElem lt)
  rw [h2] at h3
  exact h3
theorem int_snoc {ds : List Int} {z : Int} : ds.map V.int ++ [V.int z] = (ds ++ [z]).map V.int := by simp
theorem at_int {ds : List Int} {k : Nat} (h : k < ds.length) : ∃ z : Int, atI (ds.map V.int) ((k : Nat) : Int) = some (.int z) := ⟨ds[k], atI_nat (by rw [List.getElem?_map, List.getElem?_eq_getElem h]; rfl)⟩
def words : List Str := ["old", "mill", "mills", "weir", "the", "Miller", "a1", "Old-mill", "by"]
def seps : List Str := [" ", ", ", "\n"]
def charOkB (c : Nat) : Bool := decide (c = 10) || (decide (32 ≤ c) && decide (c ≤ 126) && decide (c ≠ 37))
theorem charOk_of {c : Nat} (h : charOkB c = true) : CharOk c := by
  unfold charOkB at h
  rw [Bool.or_eq_true, Bool.and_eq_true, Bool.and_eq_true] at h
  rcases h with h | ⟨⟨h1, h2⟩, h3⟩
  · exact .inl (of_decide_eq_true h)
  · exact .inr ⟨of_decide_eq_true h1, of_decide_eq_true h2, of_decide_eq_true h3⟩
theorem words_ok : words.all (fun s => decide (s.length ≤ 8) && (codes s).all charOkB) = true := by decide +kernel
theorem seps_ok : seps.all (fun s => decide (s.length ≤ 2) && (codes s).all charOkB) = true := by decide +kernel
theorem word_ok {s : Str} (h : s ∈ words) : s.length ≤ 8 ∧ ∀ c ∈ codes s, CharOk c := by
  have := List.all_eq_true.mp words_ok s h
  rw [Bool.and_eq_true] at this
  exact ⟨of_decide_eq_true this.1, fun c hc => charOk_of (List.all_eq_true.mp this.2 c hc)⟩
theorem sep_ok {s : Str} (h : s ∈ seps) : s.length ≤ 2 ∧ ∀ c ∈ codes s, CharOk c := by
  have := List.all_eq_true.mp seps_ok s h
  rw [Bool.and_eq_true] at this
  exact ⟨of_decide_eq_true this.1, fun c hc => charOk_of (List.all_eq_true.mp this.2 c hc)⟩
/-- the endings that a script's first cell names -/
def endsOf (z : Int) : List (Str × Nat) := if z % 3 = 0 then [] else if z % 3 = 1 then [(("s" : Str), 3)] else [(("s" : Str), 3), (("er" : Str), 3)]
theorem endsOf_ok (z : Int) : EsOk (endsOf z) := by
  unfold endsOf
  split
  · exact ⟨by decide, fun e h => by cases h⟩
  split
  · exact ⟨by decide, fun e h => .inl (by simpa using h)⟩
  · exact ⟨by decide, fun e h => show e = (("s" : Str), 3) ∨ e = (("er" : Str), 3) from by simpa using h⟩
theorem len_app (a b : Str) : (a ++ b).length = a.length + b.length := by
  rw [← codes_len, ← codes_len, ← codes_len, codes_app, List.length_append]
section
variable {P : Program} {w : World} {K : PySem.W.Frag} {mg : Str → Option Value} {base : Heap} {C S CI fI cc cda : Addr}
abbrev s__law_cell : Stmt := top 54
theorem sc__law_cell : FnScope ["_law_script", "_law_k"] ["_law_script", "_law_k"] (defScope s__law_cell) := ⟨rfl, rfl, rfl, by decide +kernel, rfl, by decide +kernel, by decide +kernel⟩
def spLCell (K : PySem.W.Frag) : Sp := fun vs H Q _ => ∃ (a : Addr) (ns : List Int) (k : Nat), vs = [.ref a, vN k] ∧ SqL K H a (ns.map V.int) ∧ Q (.int (ns.getD k 0)) H
theorem ok__law_cell {f : Addr} {fd : FuncData} (F : Fun K "_law_cell" "_law_cell" s__law_cell f fd) (T : Txt mg) : FnOk P w K mg base CX0 1 f fd ["_law_script", "_law_k"] (spLCell K) := by
  refine F.ok sc__law_cell (fun vs H Q E h => ?_) (fun cdv A outer s H vs Q E hr h => ?_)
  · obtain ⟨a, ns, k, rfl, _⟩ := h
    rfl
  · obtain ⟨a, ns, k, rfl, hS, q⟩ := h
    refine ⟨_, (pss_cons (ps_if (pt_cmpR op_lt (pv 1) (pe_callB call_len_seq (by rfl) T.f_len PySem.boot_len (pa_cons (pv 0) pa_nil)) (nomark _)) (pss_one (ps_ret (pe_ix ix_list (pv 0) (pv 1) (fun _ _ => rfl)))) pss_nil)
      (pss_one (ps_ret pe_int))), ?_⟩
    refine ⟨_, rfl, _, rfl, a, _, rfl, .inl hS, _, _, rfl, rfl, _, rfl, ?_⟩
    refine ite2 (fun hc => ?_) (fun hc => ?_)
    · have hk : k < ns.length := by
        have := of_decide_eq_true hc
        rw [List.length_map] at this
        omega
      have hz : atI (ns.map V.int) ((k : Nat) : Int) = some (.int (ns.getD k 0)) := atI_nat (by rw [List.getElem?_map, List.getElem?_eq_getElem hk, List.getD_eq_getElem?_getD, List.getElem?_eq_getElem hk]; rfl)
      exact ⟨_, rfl, _, rfl, a, _, _, _, rfl, rfl, hS, hz, q⟩
    · have hk : ns.length ≤ k := by
        refine Nat.le_of_not_lt fun z => hc (decide_eq_true ?_)
        rw [List.length_map]
        omega
      rw [List.getD_eq_getElem?_getD, List.getElem?_eq_none hk] at q
      exact q
abbrev s__law_digits : Stmt := top 55
theorem sc__law_digits : FnScope ["_law_cell_here", "_law_k", "_law_most", "_law_digits_here", "_law_turn", "_law_seed"] ["_law_cell_here", "_law_k", "_law_most"] (defScope s__law_digits) := ⟨rfl, rfl, rfl, by decide +kernel, rfl, by decide +kernel, by decide +kernel⟩
def spDigits : Sp := fun vs H Q _ => ∃ (c : Int) (k : Nat), vs = [.int c, vN k, .int 20] ∧ ∀ H' p (ds : List Int), Same H H' → H p = none → H' p = some (.lst (ds.map V.int)) → ds.length ≤ 20 → Q (.ref p) H'
theorem ok__law_digits {f : Addr} {fd : FuncData} (F : Fun K "_law_digits" "_law_digits" s__law_digits f fd) (T : Txt mg) : FnOk P w K mg base CX0 1 f fd ["_law_cell_here", "_law_k", "_law_most"] spDigits := by
  refine F.ok sc__law_digits (fun vs H Q E h => ?_) (fun cdv A outer s H vs Q E hr h => ?_)
  · obtain ⟨c, k, rfl, _⟩ := h
    rfl
  · obtain ⟨c, k, rfl, q⟩ := h
    refine ⟨_, (pss_cons (ps_set (i := 3) sc__law_digits.nd rfl (Or.inl rfl) (pe_lst pa_nil))
      (Evl.pss_cut (ps_if (pt_cmpR op_lt (pv 0) pe_int (nomark _)) (pss_one (ps_set (i := 0) sc__law_digits.nd rfl (Or.inl rfl) (pe_op op_sub (pe_un un_neg pe_int) (pv 0)))) pss_nil)
      (Evl.pss_cut (ps_if (pt_cmpR op_ge (pv 0) (pe_op op_pow pe_int pe_int) (nomark _)) (pss_one (ps_for PassesOwn.never rfl (pi_range1 rfl T.f_range (pa_cons pe_int pa_nil)) (pg_name (i := 4) sc__law_digits.nd rfl (Or.inl rfl)) (pss_one (ps_if (PW.pt (pw_and (pt_cmpR op_gt (pv 0) pe_int (nomark _)) (pw_and1 (pt_cmpR op_lt (pe_callB call_len_seq (by rfl) T.f_len PySem.boot_len (pa_cons (pv 3) pa_nil)) (pv 2) (nomark _))))) (pss_cons (ps_expr (pe_bm PySem.F.plainAttrs_list PySem.F.slot_list_append PySem.F.type_list_append mt_append (pv 3) (pa_cons (pe_op op_mod (pe_callTy call_int1 (by rfl) T.f_int (by decide +kernel) (pa_cons (pv 0) pa_nil)) pe_int) pa_nil)))
            (pss_one (ps_set (i := 0) sc__law_digits.nd rfl (Or.inl rfl) (pe_op op_fdiv (pv 0) pe_int)))) pss_nil)))) (pss_cons (ps_set (i := 5) sc__law_digits.nd rfl (Or.inl rfl) (pe_op op_mod (pe_callTy call_int1 (by rfl) T.f_int (by decide +kernel) (pa_cons (pe_op op_add (pe_op op_add (pe_op op_mul (pv 0) pe_int) (pe_op op_mul (pv 1) pe_int)) pe_int) pa_nil)) pe_int))
        (pss_one (ps_for PassesOwn.never rfl (pi_range1 rfl T.f_range (pa_cons (pv 2) pa_nil)) (pg_name (i := 4) sc__law_digits.nd rfl (Or.inl rfl)) (pss_cons (ps_set (i := 5) sc__law_digits.nd rfl (Or.inl rfl) (pe_op op_mod (pe_callTy call_int1 (by rfl) T.f_int (by decide +kernel) (pa_cons (pe_op op_add (pe_op op_add (pe_op op_mul (pv 5) pe_int) (pe_op op_mul pe_int (pv 4))) pe_int) pa_nil)) pe_int))
          (pss_one (ps_expr (pe_bm PySem.F.plainAttrs_list PySem.F.slot_list_append PySem.F.type_list_append mt_append (pv 3) (pa_cons (pe_op op_mod (pe_callTy call_int1 (by rfl) T.f_int (by decide +kernel) (pa_cons (pe_op op_fdiv (pv 5) pe_int) pa_nil)) pe_int) pa_nil)))))))))
      (pss_one (ps_ret (pv 3)))))), ?_⟩
    refine ⟨Nat.zero_le _, fun l hl => ?_⟩
    refine ⟨fun σ' H' => ∃ c' : Int, σ' = [some (.int c'), some (vN k), some (.int 20), some (.ref l), none, none] ∧ H' = upd H l (.lst []), ?_, ?_⟩
    · refine ⟨_, rfl, _, _, rfl, rfl, _, rfl, ?_⟩
      refine ite2 (fun hc => ?_) (fun hc => ?_)
      · exact ⟨_, rfl, _, rfl, _, _, rfl, rfl, _, rfl, rfl⟩
      · exact ⟨c, rfl, rfl⟩
    rintro σ' H' ⟨c', rfl, rfl⟩
    refine ⟨fun σ' H' => ∃ (v0 v4 v5 : Option V) (ds : List Int), σ' = [v0, some (vN k), some (.int 20), some (.ref l), v4, v5] ∧ Same H H' ∧ H' l = some (.lst (ds.map V.int)) ∧ ds.length ≤ 20, ?_, ?_⟩
    · refine ⟨_, rfl, _, _, rfl, rfl, ⟨by decide, by decide, by decide⟩, _, _, rfl, rfl, _, rfl, ?_⟩
      refine ite2 (fun hc => ?_) (fun hc => ?_)
      · refine ⟨60, rfl, by decide, by decide, for_range (n := 60) (fun i σ H' => ∃ (c : Int) (v4 : Option V) (ds : List Int), σ = [some (.int c), some (vN k), some (.int 20), some (.ref l), v4, none] ∧ Same H H' ∧ H' l = some (.lst (ds.map V.int)) ∧ ds.length ≤ 20)
          ⟨c', none, [], rfl, same1 hl, upd_same, by decide⟩ ?_ ?_⟩
        · rintro i σ H' hi ⟨c, v4, ds, rfl, s1, g1, hz⟩
          refine ⟨_, rfl, _, _, rfl, rfl, _, rfl, ite2 (fun hp => ?_) (fun hp => ?_)⟩
          · refine ⟨_, rfl, l, _, rfl, .inl (SqL.of g1), _, rfl, _, _, rfl, rfl, _, rfl, ite2 (fun hp2 => ?_) (fun hp2 => ?_)⟩
            · have lt : ds.length < 20 := by
                have := of_decide_eq_true hp2
                rw [List.length_map] at this
                omega
              refine ⟨_, rfl, .inl ⟨rfl, _, SqL.of g1⟩, _, rfl, .inl ⟨_, rfl, _, _, rfl, rfl, (by show (0 : Int) < 1000; decide), l, _, _, rfl, rfl, g1, lt_line (by rw [List.length_map]; omega), ?_⟩⟩
              refine ⟨_, rfl, _, _, rfl, rfl, ⟨by decide, by decide⟩, ?_⟩
              refine ⟨_, _, ds ++ [c % 1000], rfl, same_mod s1 hl, ?_, by rw [List.length_append, List.length_singleton]; omega⟩
              rw [upd_same, int_snoc]
            · exact ⟨c, _, ds, rfl, s1, g1, hz⟩
          · refine iteF ⟨c, _, ds, rfl, s1, g1, hz⟩
        · rintro σ H' ⟨c, v4, ds, rfl, s1, g1, hz⟩
          exact ⟨_, _, _, ds, rfl, s1, g1, hz⟩
      · refine ⟨_, rfl, _, _, rfl, rfl, .inr ⟨by decide, by decide⟩, _, rfl, _, _, rfl, rfl, .inr ⟨by decide, by decide⟩, _, _, rfl, rfl, _, _, rfl, rfl, .inl ⟨_, rfl, _, _, rfl, rfl, (by show (0 : Int) < 2147483647; decide), ?_⟩⟩
        refine ⟨_, rfl, 20, rfl, by decide, by decide, for_range (n := 20) (fun i σ H' => ∃ (z : Int) (v4 : Option V) (ds : List Int), σ = [some (.int c'), some (vN k), some (.int 20), some (.ref l), v4, some (.int z)] ∧ Same H H' ∧ H' l = some (.lst (ds.map V.int)) ∧ ds.length ≤ i)
          ⟨_, none, [], rfl, same1 hl, upd_same, Nat.le_refl _⟩ ?_ ?_⟩
        · rintro i σ H' hi ⟨z, v4, ds, rfl, s1, g1, hz⟩
          refine ⟨_, rfl, _, _, rfl, rfl, .inr ⟨by decide, by decide⟩, _, rfl, _, _, rfl, rfl, .inl ⟨by decide, by decide⟩, _, _, rfl, rfl, _, _, rfl, rfl, .inl ⟨_, rfl, _, _, rfl, rfl, (by show (0 : Int) < 2147483647; decide), ?_⟩⟩
          refine ⟨_, rfl, .inl ⟨rfl, _, SqL.of g1⟩, _, rfl, _, _, rfl, rfl, ⟨by decide, by decide⟩, .inl ⟨_, rfl, _, _, rfl, rfl, (by show (0 : Int) < 1000; decide), l, _, _, rfl, rfl, g1, lt_line (by rw [List.length_map]; omega), ?_⟩⟩
          refine ⟨_, _, ds ++ [(z * 16807 + 7 * (0 + (i : Int)) + 1) % 2147483647 / 997 % 1000], rfl, same_mod s1 hl, ?_, by rw [List.length_append, List.length_singleton]; omega⟩
          rw [upd_same, int_snoc]
        · rintro σ H' ⟨z, v4, ds, rfl, s1, g1, hz⟩
          exact ⟨_, _, _, ds, rfl, s1, g1, hz⟩
    · rintro σ' H' ⟨v0, v4, v5, ds, rfl, s1, g1, hz⟩
      exact ⟨_, rfl, q H' l ds s1 hl g1 hz⟩
abbrev s__law_padded : Stmt := top 56
theorem sc__law_padded : FnScope ["_law_cell_here", "_law_k", "_law_d", "_law_turn"] ["_law_cell_here", "_law_k"] (defScope s__law_padded) := ⟨rfl, rfl, rfl, by decide +kernel, rfl, by decide +kernel, by decide +kernel⟩
def spPadded : Sp := fun vs H Q _ => ∃ (c : Int) (k : Nat), vs = [.int c, vN k] ∧ ∀ H' p (ds : List Int), Same H H' → H p = none → H' p = some (.lst (ds.map V.int)) → 20 ≤ ds.length → Q (.ref p) H'
theorem ok__law_padded {f : Addr} {fd : FuncData} (F : Fun K "_law_padded" "_law_padded" s__law_padded f fd) (T : Txt mg) (O__law_digits : Own P w K mg base CX0 1 "_law_digits" ["_law_cell_here", "_law_k", "_law_most"] spDigits) : FnOk P w K mg base CX0 2 f fd ["_law_cell_here", "_law_k"] spPadded := by
  refine F.ok sc__law_padded (fun vs H Q E h => ?_) (fun cdv A outer s H vs Q E hr h => ?_)
  · obtain ⟨c, k, rfl, _⟩ := h
    rfl
  · obtain ⟨c, k, rfl, q⟩ := h
    refine ⟨_, (pss_cons (ps_set (i := 2) sc__law_padded.nd rfl (Or.inl rfl) (pe_own O__law_digits hr (by decide) (by rfl) pass0 (pa_cons (pv 0) (pa_cons (pv 1) (pa_cons pe_int pa_nil)))))
      (pss_cons (ps_for PassesOwn.never rfl (pi_range1 rfl T.f_range (pa_cons pe_int pa_nil)) (pg_name (i := 3) sc__law_padded.nd rfl (Or.inl rfl)) (pss_one (ps_expr (pe_bm PySem.F.plainAttrs_list PySem.F.slot_list_append PySem.F.type_list_append mt_append (pv 2) (pa_cons (pv 3) pa_nil)))))
      (pss_one (ps_ret (pv 2))))), ?_⟩
    refine ⟨_, rfl, _, rfl, c, k, rfl, fun H1 l ds s1 nl g1 hz => ?_⟩
    refine ⟨20, rfl, by decide, by decide, for_range (n := 20) (fun i σ H' => ∃ (v3 : Option V) (es : List Int), σ = [some (.int c), some (vN k), some (.ref l), v3] ∧ Same H H' ∧ H' l = some (.lst (es.map V.int)) ∧ i ≤ es.length ∧ es.length ≤ 20 + i)
      ⟨none, ds, rfl, s1, g1, Nat.zero_le _, hz⟩ ?_ ?_⟩
    · rintro i σ H' hi ⟨v3, es, rfl, s2, g2, h1, h2⟩
      refine ⟨_, rfl, .inl ⟨rfl, _, SqL.of g2⟩, _, rfl, l, _, _, rfl, rfl, g2, lt_line (by rw [List.length_map]; omega), ?_⟩
      refine ⟨_, es ++ [0 + (i : Int)], rfl, same_mod s2 nl, ?_, by rw [List.length_append, List.length_singleton]; omega, by rw [List.length_append, List.length_singleton]; omega⟩
      rw [upd_same, int_snoc]
    · rintro σ H' ⟨v3, es, rfl, s2, g2, h1, h2⟩
      exact ⟨_, rfl, q H' l es s2 nl g2 h1⟩
abbrev s__law_text : Stmt := top 57
theorem sc__law_text : FnScope ["_law_d", "_law_words", "_law_text_here", "_law_j"] ["_law_d"] (defScope s__law_text) := ⟨rfl, rfl, rfl, by decide +kernel, rfl, by decide +kernel, by decide +kernel⟩
def spLText (K : PySem.W.Frag) : Sp := fun vs H Q _ => ∃ (a : Addr) (ds : List Int), vs = [.ref a] ∧ SqL K H a (ds.map V.int) ∧ 20 ≤ ds.length ∧ ∀ H' z, Same H H' → TextOk z → Q (.str z) H'
theorem ok__law_text {f : Addr} {fd : FuncData} (F : Fun K "_law_text" "_law_text" s__law_text f fd) (T : Txt mg) : FnOk P w K mg base CX0 1 f fd ["_law_d"] (spLText K) := by
  refine F.ok sc__law_text (fun vs H Q E h => ?_) (fun cdv A outer s H vs Q E hr h => ?_)
  · obtain ⟨a, ds, rfl, _⟩ := h
    rfl
  · obtain ⟨a, ds, rfl, hS, hz, q⟩ := h
    refine ⟨_, (pss_cons (ps_set (i := 1) sc__law_text.nd rfl (Or.inl rfl) (pe_lst (pa_cons pe_str (pa_cons pe_str (pa_cons pe_str (pa_cons pe_str (pa_cons pe_str (pa_cons pe_str (pa_cons pe_str (pa_cons pe_str (pa_cons pe_str pa_nil)))))))))))
      (pss_cons (ps_set (i := 2) sc__law_text.nd rfl (Or.inl rfl) pe_str)
      (pss_cons (ps_for PassesOwn.never rfl (pi_range1 rfl T.f_range (pa_cons (pe_op op_mod (pe_callTy call_int1 (by rfl) T.f_int (by decide +kernel) (pa_cons (pe_ix ix_list (pv 0) pe_int (fun _ _ => rfl)) pa_nil)) pe_int) pa_nil)) (pg_name (i := 3) sc__law_text.nd rfl (Or.inl rfl)) (pss_one (ps_set (i := 2) sc__law_text.nd rfl (Or.inl rfl) (pe_op op_add_str (pe_op op_add_str (pv 2) (pe_ix ix_list (pv 1) (pe_op op_mod (pe_callTy call_int1 (by rfl) T.f_int (by decide +kernel) (pa_cons (pe_ix ix_list (pv 0) (pe_op op_add pe_int (pv 3)) (fun _ _ => rfl)) pa_nil)) pe_int) (fun _ _ => rfl))) (pe_ix ix_list (pe_lst (pa_cons pe_str (pa_cons pe_str (pa_cons pe_str pa_nil)))) (pe_op op_mod (pe_callTy call_int1 (by rfl) T.f_int (by decide +kernel) (pa_cons (pe_ix ix_list (pv 0) (pe_op op_add pe_int (pv 3)) (fun _ _ => rfl)) pa_nil)) pe_int) (fun _ _ => rfl))))))
      (pss_one (ps_ret (pv 2)))))), ?_⟩
    refine ⟨by show 9 ≤ sizeLine; decide, fun wl hwl => ?_⟩
    have s1 : Same H (upd H wl (.lst (words.map V.str))) := same1 hwl
    obtain ⟨d0, hd0⟩ := at_int (ds := ds) (k := 0) (by omega)
    obtain ⟨n1, n2⟩ := mod_pl (i := d0) (n := 6) (by decide)
    have hb := Int.emod_lt_of_pos d0 (show (0 : Int) < 6 by decide)
    have hb0 := Int.emod_nonneg d0 (show (6 : Int) ≠ 0 by decide)
    refine ⟨_, rfl, a, _, _, _, rfl, rfl, s1.seq hS, hd0, .inl ⟨d0, rfl, _, _, rfl, rfl, (by show (0 : Int) < 6; decide), d0 % 6, rfl, by omega, by omega, ?_⟩⟩
    refine for_range (n := (d0 % 6).toNat) (fun i σ H' => ∃ z v3, σ = [some (.ref a), some (.ref wl), some (.str z), v3] ∧ Same H H' ∧ H' wl = some (.lst (words.map V.str)) ∧ z.length ≤ 10 * i ∧ ∀ c ∈ codes z, CharOk c)
      ⟨_, none, rfl, s1, upd_same, by decide +kernel, fun c hc => by cases hc⟩ ?_ ?_
    · rintro i σ H' hi ⟨z, v3, rfl, s2, g2, hl, hc⟩
      obtain ⟨d1, hd1⟩ := at_int (ds := ds) (k := 1 + i) (by omega)
      obtain ⟨d2, hd2⟩ := at_int (ds := ds) (k := 7 + i) (by omega)
      obtain ⟨v1, m1, e1⟩ := atI_mod (xs := words.map V.str) (n := 9) rfl (by decide) d1
      obtain ⟨v2, m2, e2⟩ := atI_mod (xs := seps.map V.str) (n := 3) rfl (by decide) d2
      obtain ⟨w1, mw1, rfl⟩ := List.mem_map.mp m1
      obtain ⟨w2, mw2, rfl⟩ := List.mem_map.mp m2
      obtain ⟨l1, c1⟩ := word_ok mw1
      obtain ⟨l2, c2⟩ := sep_ok mw2
      have q1 : (1 : Int) + (0 + (i : Int)) = ((1 + i : Nat) : Int) := by omega
      have q2 : (7 : Int) + (0 + (i : Int)) = ((7 + i : Nat) : Int) := by omega
      refine ⟨_, rfl, _, rfl, _, rfl, _, rfl, _, _, rfl, rfl, a, _, _, _, rfl, rfl, s2.seq hS, by rw [q1]; exact hd1, .inl ⟨d1, rfl, _, _, rfl, rfl, (by show (0 : Int) < 9; decide), wl, _, _, _, rfl, rfl, .inl (.inl g2), e1, _, _, rfl, rfl, ?_, ?_⟩⟩
      · exact Nat.le_trans (show z.length + w1.length ≤ 1000 by omega) (by decide)
      refine ⟨by show 3 ≤ sizeLine; decide, fun sl hsl => ?_⟩
      have s3 := same_add s2 (o := .lst (seps.map V.str)) hsl
      have g3 := (same1 hsl (o := .lst (seps.map V.str))) _ _ g2
      refine ⟨_, rfl, _, rfl, _, _, rfl, rfl, a, _, _, _, rfl, rfl, s3.seq hS, by rw [q2]; exact hd2, .inl ⟨d2, rfl, _, _, rfl, rfl, (by show (0 : Int) < 3; decide), sl, _, _, _, rfl, rfl, .inl (.inl upd_same), e2, _, _, rfl, rfl, ?_, ?_⟩⟩
      · exact Nat.le_trans (show (z ++ w1).length + w2.length ≤ 1000 by rw [len_app]; omega) (by decide)
      refine ⟨_, _, rfl, s3, g3, by rw [len_app, len_app]; omega, fun c hcc => ?_⟩
      rw [codes_app, codes_app, List.mem_append, List.mem_append] at hcc
      rcases hcc with (h | h) | h
      · exact hc c h
      · exact c1 c h
      · exact c2 c h
    · rintro σ H' ⟨z, v3, rfl, s2, g2, hl, hc⟩
      exact ⟨_, rfl, q H' z s2 ⟨by omega, hc⟩⟩
abbrev s__law_endings : Stmt := top 58
theorem sc__law_endings : FnScope ["_law_script"] ["_law_script"] (defScope s__law_endings) := ⟨rfl, rfl, rfl, by decide +kernel, rfl, by decide +kernel, by decide +kernel⟩
def spLEnds (K : PySem.W.Frag) : Sp := fun vs H Q _ => ∃ (a : Addr) (ns : List Int), vs = [.ref a] ∧ SqL K H a (ns.map V.int) ∧ ∀ H' p, Same H H' → EsAt K H' p (endsOf (ns.getD 0 0)) → Q (.ref p) H'
theorem ok__law_endings {f : Addr} {fd : FuncData} (F : Fun K "_law_endings" "_law_endings" s__law_endings f fd) (T : Txt mg) (O__law_cell : Own P w K mg base CX0 1 "_law_cell" ["_law_script", "_law_k"] (spLCell K)) : FnOk P w K mg base CX0 2 f fd ["_law_script"] (spLEnds K) := by
  refine F.ok sc__law_endings (fun vs H Q E h => ?_) (fun cdv A outer s H vs Q E hr h => ?_)
  · obtain ⟨a, ns, rfl, _⟩ := h
    rfl
  · obtain ⟨a, ns, rfl, hS, q⟩ := h
    refine ⟨_, (pss_one (ps_ret (pe_ix ix_list (pe_lst (pa_cons (pe_tup pa_nil) (pa_cons (pe_tup (pa_cons (pe_tup (pa_cons pe_str (pa_cons pe_int pa_nil))) pa_nil)) (pa_cons (pe_tup (pa_cons (pe_tup (pa_cons pe_str (pa_cons pe_int pa_nil))) (pa_cons (pe_tup (pa_cons pe_str (pa_cons pe_int pa_nil))) pa_nil))) pa_nil)))) (pe_op op_mod (pe_callTy call_int1 (by rfl) T.f_int (by decide +kernel) (pa_cons (pe_own O__law_cell hr (by decide) (by rfl) pass0 (pa_cons (pv 0) (pa_cons pe_int pa_nil))) pa_nil)) pe_int) (fun _ _ => rfl)))), ?_⟩
    refine ⟨by show 0 ≤ sizeLine; omega, fun p1 n1 => ?_⟩
    have s1 : Same H (upd H p1 (.tup [])) := same1 n1
    have g1 : EsAt K (upd H p1 (.tup [])) p1 [] := ⟨[], .inl (.inl upd_same), .nil⟩
    generalize upd H p1 (.tup []) = H1 at s1 g1
    refine ⟨by show 2 ≤ sizeLine; decide, fun p2 n2 => ?_⟩
    have s2 : Same H1 (upd H1 p2 (.tup [V.str "s", V.int 3])) := same1 n2
    have g2 : EnAt K (upd H1 p2 (.tup [V.str "s", V.int 3])) (.ref p2) ("s", 3) := ⟨p2, rfl, .inl (.inl upd_same)⟩
    generalize upd H1 p2 (.tup [V.str "s", V.int 3]) = H2 at s2 g2
    refine ⟨by show 1 ≤ sizeLine; decide, fun p3 n3 => ?_⟩
    have s3 : Same H2 (upd H2 p3 (.tup [V.ref p2])) := same1 n3
    have g3 : EsAt K (upd H2 p3 (.tup [V.ref p2])) p3 [("s", 3)] := ⟨_, .inl (.inl upd_same), .cons (g2.same s3) .nil⟩
    generalize upd H2 p3 (.tup [V.ref p2]) = H3 at s3 g3
    refine ⟨by show 2 ≤ sizeLine; decide, fun p4 n4 => ?_⟩
    have s4 : Same H3 (upd H3 p4 (.tup [V.str "s", V.int 3])) := same1 n4
    have g4 : EnAt K (upd H3 p4 (.tup [V.str "s", V.int 3])) (.ref p4) ("s", 3) := ⟨p4, rfl, .inl (.inl upd_same)⟩
    generalize upd H3 p4 (.tup [V.str "s", V.int 3]) = H4 at s4 g4
    refine ⟨by show 2 ≤ sizeLine; decide, fun p5 n5 => ?_⟩
    have s5 : Same H4 (upd H4 p5 (.tup [V.str "er", V.int 3])) := same1 n5
    have g5 : EnAt K (upd H4 p5 (.tup [V.str "er", V.int 3])) (.ref p5) ("er", 3) := ⟨p5, rfl, .inl (.inl upd_same)⟩
    generalize upd H4 p5 (.tup [V.str "er", V.int 3]) = H5 at s5 g5
    refine ⟨by show 2 ≤ sizeLine; decide, fun p6 n6 => ?_⟩
    have s6 : Same H5 (upd H5 p6 (.tup [V.ref p4, V.ref p5])) := same1 n6
    have g6 : EsAt K (upd H5 p6 (.tup [V.ref p4, V.ref p5])) p6 [("s", 3), ("er", 3)] := ⟨_, .inl (.inl upd_same), .cons (g4.same (s5.trans s6)) (.cons (g5.same s6) .nil)⟩
    generalize upd H5 p6 (.tup [V.ref p4, V.ref p5]) = H6 at s6 g6
    refine ⟨by show 3 ≤ sizeLine; decide, fun p7 n7 => ?_⟩
    have s7 : Same H6 (upd H6 p7 (.lst [V.ref p1, V.ref p3, V.ref p6])) := same1 n7
    have s36 := (s4.trans s5).trans s6
    have s16 := (s2.trans s3).trans s36
    have s07 := (s1.trans s16).trans s7
    refine ⟨_, rfl, a, ns, 0, rfl, s07.seq hS, ?_⟩
    generalize ns.getD 0 0 = z at q
    refine .inl ⟨z, rfl, _, _, rfl, rfl, (by show (0 : Int) < 3; decide), p7, [V.ref p1, V.ref p3, V.ref p6], z % 3, ?_⟩
    unfold endsOf at q
    rcases (show z % 3 = 0 ∨ z % 3 = 1 ∨ z % 3 = 2 by omega) with e | e | e
    · rw [if_pos e] at q
      exact ⟨.ref p1, rfl, rfl, .inl (.inl upd_same), by rw [e]; rfl, q _ p1 s07 (g1.same (s16.trans s7))⟩
    · rw [if_neg (by omega), if_pos e] at q
      exact ⟨.ref p3, rfl, rfl, .inl (.inl upd_same), by rw [e]; rfl, q _ p3 s07 (g3.same (s36.trans s7))⟩
    · rw [if_neg (by omega), if_neg (by omega)] at q
      exact ⟨.ref p6, rfl, rfl, .inl (.inl upd_same), by rw [e]; rfl, q _ p6 s07 (g6.same s7)⟩
abbrev s__law_change : Stmt := top 59
theorem sc__law_change : FnScope ["_law_cell_here", "_law_k", "_law_d", "_law_time", "_law_key"] ["_law_cell_here", "_law_k"] (defScope s__law_change) := ⟨rfl, rfl, rfl, by decide +kernel, rfl, by decide +kernel, by decide +kernel⟩
def spLChange (K : PySem.W.Frag) : Sp := fun vs H Q _ => ∃ (c : Int) (k : Nat), vs = [.int c, vN k] ∧ ∀ H' p ch, Same H H' → ChAt K H' p ch → ChOk ch → Q (.ref p) H'
theorem ok__law_change {f : Addr} {fd : FuncData} (F : Fun K "_law_change" "_law_change" s__law_change f fd) (T : Txt mg) (O__law_padded : Own P w K mg base CX0 2 "_law_padded" ["_law_cell_here", "_law_k"] spPadded)
    (O__law_text : Own P w K mg base CX0 1 "_law_text" ["_law_d"] (spLText K)) : FnOk P w K mg base CX0 3 f fd ["_law_cell_here", "_law_k"] (spLChange K) := by
  refine F.ok sc__law_change (fun vs H Q E h => ?_) (fun cdv A outer s H vs Q E hr h => ?_)
  · obtain ⟨c, k, rfl, _⟩ := h
    rfl
  · obtain ⟨c, k, rfl, q⟩ := h
    refine ⟨_, (pss_cons (ps_set (i := 2) sc__law_change.nd rfl (Or.inl rfl) (pe_own O__law_padded hr (by decide) (by rfl) pass0 (pa_cons (pv 0) (pa_cons (pv 1) pa_nil))))
      (pss_cons (ps_set (i := 3) sc__law_change.nd rfl (Or.inl rfl) (pe_op op_mod (pe_callTy call_int1 (by rfl) T.f_int (by decide +kernel) (pa_cons (pe_op op_fdiv (pv 0) pe_int) pa_nil)) pe_int))
      (pss_cons (ps_set (i := 4) sc__law_change.nd rfl (Or.inl rfl) (pe_ix ix_list (pe_lst (pa_cons pe_str (pa_cons pe_str (pa_cons pe_str pa_nil)))) (pe_op op_mod (pe_callTy call_int1 (by rfl) T.f_int (by decide +kernel) (pa_cons (pv 0) pa_nil)) pe_int) (fun _ _ => rfl)))
      (pss_cons (ps_if (pt_cmpR op_eq (pe_op op_mod (pe_callTy call_int1 (by rfl) T.f_int (by decide +kernel) (pa_cons (pe_ix ix_list (pv 2) pe_int (fun _ _ => rfl)) pa_nil)) pe_int) pe_int (nomark _)) (pss_one (ps_ret (pe_tup (pa_cons (pv 3) (pa_cons (pv 4) (pa_cons pe_non pa_nil)))))) pss_nil)
      (pss_one (ps_ret (pe_tup (pa_cons (pv 3) (pa_cons (pv 4) (pa_cons (pe_own O__law_text hr (by decide) (by rfl) pass0 (pa_cons (pv 2) pa_nil)) pa_nil)))))))))), ?_⟩
    refine ⟨_, rfl, _, rfl, c, k, rfl, fun H1 l ds s1 nl g1 hz => ?_⟩
    obtain ⟨t1, t2⟩ := mod_pl (i := c / 3) (n := 12) (by decide)
    refine ⟨_, rfl, _, _, rfl, rfl, ⟨by decide, by decide⟩, .inl ⟨_, rfl, _, _, rfl, rfl, (by show (0 : Int) < 12; decide), ?_⟩⟩
    refine ⟨by show 3 ≤ sizeLine; decide, fun kl nkl => ?_⟩
    have s2 := same1 (o := .lst [V.str "a", V.str "b", V.str "k9"]) nkl
    have s02 := s1.trans s2
    obtain ⟨v, mv, ev⟩ := atI_mod (xs := [V.str "a", V.str "b", V.str "k9"]) (n := 3) rfl (by decide) c
    obtain ⟨key, rfl, hkey⟩ : ∃ key : Str, v = .str key ∧ KeyOk key := by
      rcases List.mem_cons.mp mv with rfl | mv
      · exact ⟨_, rfl, .inl rfl⟩
      rcases List.mem_cons.mp mv with rfl | mv
      · exact ⟨_, rfl, .inr (.inl rfl)⟩
      rcases List.mem_cons.mp mv with rfl | mv
      · exact ⟨_, rfl, .inr (.inr rfl)⟩
      cases mv
    refine ⟨_, rfl, .inl ⟨c, rfl, _, _, rfl, rfl, (by show (0 : Int) < 3; decide), kl, _, _, _, rfl, rfl, .inl (.inl upd_same), ev, ?_⟩⟩
    obtain ⟨d15, hd15⟩ := at_int (ds := ds) (k := 15) (by omega)
    have hL : SqL K (upd H1 kl (.lst [V.str "a", V.str "b", V.str "k9"])) l (ds.map V.int) := .inl (.inl (s2 _ _ g1))
    have et : (c / 3 % 12) = (((c / 3 % 12).toNat : Nat) : Int) := t2.symm
    refine ⟨_, rfl, l, _, _, _, rfl, rfl, hL, hd15, .inl ⟨_, rfl, _, _, rfl, rfl, (by show (0 : Int) < 6; decide), rfl, _, rfl, ite2 (fun _ => ?_) (fun _ => ?_)⟩⟩
    · refine ⟨_, rfl, _, rfl, by show 3 ≤ sizeLine; decide, fun p np => ?_⟩
      refine q _ p ⟨(c / 3 % 12).toNat, key, none⟩ (same_add s02 np) (.inl (.inl ?_)) ⟨?_, hkey, fun s h => by cases h⟩
      · rw [upd_same]
        show some (HO.tup [V.int (c / 3 % 12), _, _]) = some (HO.tup [V.int (((c / 3 % 12).toNat : Nat) : Int), _, _])
        rw [← et]
        rfl
      · show (c / 3 % 12).toNat ≤ 1000
        omega
    · refine ⟨_, rfl, _, rfl, _, rfl, l, ds, rfl, hL, hz, fun H5 z s5 hzt => ?_⟩
      refine ⟨by show 3 ≤ sizeLine; decide, fun p np => ?_⟩
      refine q _ p ⟨(c / 3 % 12).toNat, key, some z⟩ (same_add (s02.trans s5) np) (.inl (.inl ?_)) ⟨?_, hkey, fun s h => by injection h with h; rw [← h]; exact hzt⟩
      · rw [upd_same]
        show some (HO.tup [V.int (c / 3 % 12), _, _]) = some (HO.tup [V.int (((c / 3 % 12).toNat : Nat) : Int), _, _])
        rw [← et]
        rfl
      · show (c / 3 % 12).toNat ≤ 1000
        omega
abbrev s__law_tell : Stmt := top 60
theorem sc__law_tell : FnScope ["_law_copy", "_law_cell_here", "_law_k", "_law_change_here"] ["_law_copy", "_law_cell_here", "_law_k"] (defScope s__law_tell) := ⟨rfl, rfl, rfl, by decide +kernel, rfl, by decide +kernel, by decide +kernel⟩
def spLTell (K : PySem.W.Frag) (C : Addr) : Sp := fun vs H Q _ => ∃ (p l e : Addr) (s : Nat) (es : List (Str × Nat)) (ts : List Tl) (c : Int) (k : Nat), vs = [.ref p, .int c, vN k] ∧ CopyAt K C H p l e s es ts ∧ (∀ t ∈ ts, TlOk t) ∧ ts.length < 80 ∧
  ∀ H' t, (∀ b o, b ≠ l → H b = some o → H' b = some o) → CopyAt K C H' p l e s es (ts ++ [t]) → t.src = s → ChOk t.ch → 1 ≤ t.st → (∀ t' ∈ ts, t'.st < t.st) → (t.st = 1 ∨ ∃ t' ∈ ts, t.st = t'.st + 1) → Q .non H'
theorem ok__law_tell {f : Addr} {fd : FuncData} (F : Fun K "_law_tell" "_law_tell" s__law_tell f fd) (T : Txt mg) (L : Cl K C S) (O__law_change : Own P w K mg base CX0 3 "_law_change" ["_law_cell_here", "_law_k"] (spLChange K))
    (O_Copy_tell : OwnM P w K mg base CX0 C 6 "tell" ["self", "time", "key", "text"] (spCopyTell K C)) : FnOk P w K mg base CX0 7 f fd ["_law_copy", "_law_cell_here", "_law_k"] (spLTell K C) := by
  refine F.ok sc__law_tell (fun vs H Q E h => ?_) (fun cdv A outer s H vs Q E hr h => ?_)
  · obtain ⟨p, l, e, s, es, ts, c, k, rfl, _⟩ := h
    rfl
  · obtain ⟨p, l, e, s, es, ts, c, k, rfl, hK, ok, hz, q⟩ := h
    refine ⟨_, (pss_cons (ps_set (i := 3) sc__law_tell.nd rfl (Or.inl rfl) (pe_own O__law_change hr (by decide) (by rfl) pass0 (pa_cons (pv 1) (pa_cons (pv 2) pa_nil))))
      (pss_one (ps_expr (pe_ownM O_Copy_tell hr (by decide) pass0 (pv 0) (pa_cons (pe_ix ix_tup (pv 3) pe_int (fun _ _ => rfl)) (pa_cons (pe_ix ix_tup (pv 3) pe_int (fun _ _ => rfl)) (pa_cons (pe_ix ix_tup (pv 3) pe_int (fun _ _ => rfl)) pa_nil))))))), ?_⟩
    refine ⟨_, rfl, _, rfl, c, k, rfl, fun H1 cp ch s1 hC okc => ?_⟩
    have hC' : SqT K H1 cp [vN ch.time, .str ch.key, optV ch.txt] := hC
    obtain ⟨dx, h1⟩ := (hK.same s1).ob
    refine ⟨_, rfl, p, dx, _, rfl, h1, cf_noM _ _ _ (by decide +kernel), _, rfl, cp, _, _, _, rfl, rfl, hC', rfl, _, rfl, cp, _, _, _, rfl, rfl, hC', rfl, _, rfl, cp, _, _, _, rfl, rfl, hC', rfl, p, l, e, s, es, ts, ch, rfl, hK.same s1, ok, hz, okc, fun H2 v t k2 hK2 e1 e2 e3 e4 e5 => ?_⟩
    exact q H2 t (fun b o hb ho => k2 b o hb (s1 _ _ ho)) hK2 e1 (by rw [e2]; exact okc) e3 e4 e5
abbrev s__law_opened : Stmt := top 68
theorem sc__law_opened : FnScope ["_law_data", "_law_source", "e"] ["_law_data", "_law_source"] (defScope s__law_opened) := ⟨rfl, rfl, rfl, by decide +kernel, rfl, by decide +kernel, by decide +kernel⟩
def spLOpened (K : PySem.W.Frag) (C : Addr) : Sp := fun vs H Q _ => ∃ (a : Addr) (s cut : Nat) (es : List (Str × Nat)) (ts : List Tl), vs = [.ref a, vN s] ∧ ByAt K H a ((cat (bodies es ts)).take cut) ∧ cut ≤ (cat (bodies es ts)).length ∧ EsOk es ∧ (∀ t ∈ ts, TlOk t) ∧ KeysND ts ∧ ts.length ≤ 79 ∧ 1 ≤ s ∧ s ≤ 9 ∧
  (cut < (recB (endsB es)).length → ∀ H', Same H H' → Q (.int 0) H') ∧
  (∀ m, Whole (bodies es ts) cut (m + 1) → ∀ H' q p l e, Same H H' → H p = none → H l = none → SqT K H' q [.ref p, vN (psum (bodies es ts) (m + 1))] → CopyAt K C H' p l e s es (ts.take m) → Q (.ref q) H')
theorem ok__law_opened {f fo : Addr} {fd fdo : FuncData} (F : Fun K "_law_opened" "_law_opened" s__law_opened f fd) (T : Txt mg) (TI : PySem.IbX.IbTxt P K mg CI fI cc cda) (GO : FnOk P w K mg base (L2.CX P w) 6 fo fdo ["data", "source"] (spOpened K C CI))
    (gO : mg "opened" = some (.ref fo)) (kO : PySem.W.keepIn K (.ref fo) = true) (bO : Binds K fdo ["data", "source"] []) : FnOk P w K mg base CX0 8 f fd ["_law_data", "_law_source"] (spLOpened K C) := by
  refine F.ok sc__law_opened (fun vs H Q E h => ?_) (fun cdv A outer s H vs Q E hr h => ?_)
  · obtain ⟨a, s, cut, es, ts, rfl, _⟩ := h
    rfl
  · obtain ⟨a, s, cut, es, ts, rfl, hS, hcut, okE, ok, nd, hz, s1, s9, q0, q1⟩ := h
    have hr1 : Room 6 _ := hr.mono (by decide)
    refine ⟨_, (pss_one (ps_try_as (i := 2) (c := .ref CI) (tb := fun W => tRet (tCallS (spOpened K C CI) (WE W) (tCons (tCB (fun xs H Q => ∃ p ys, xs = [V.ref p] ∧ (SqL K H p ys ∨ SqT K H p ys) ∧ ∀ l, H l = none → Q (.ref l) (upd H l (.lst ys))) (tCons (tVar 0) tNil)) (tCons (tVar 1) tNil)))) (ts := fun a cls d => tRet (tByIb CI a cls d (tVar 2))) (Wout := fun _ _ _ _ => False) rfl rfl sc__law_opened.nd rfl rfl ⟨rfl, by decide, Or.inl TI.gC⟩ takes0
      (fun W pn xe tk _ => pss_one (ps_ret (by exact (pe_callS GO hr1 rfl gO kO bO (fun σ => passAt tk σ) (by exact (pa_cons (pe_callTy call_list_of (by rfl) T.f_list (by decide +kernel) (pa_cons (pv 0) pa_nil)) (pa_cons (pv 1) pa_nil)))))))
      (fun a oe cls d pn hz hf => pss_one (ps_ret (by exact (pe_byIb TI hz hf (pv 2))))))), ?_⟩
    refine ⟨_, rfl, a, _, rfl, .inl hS, fun l nl => ?_⟩
    have sl : Same H (upd H l (.lst (((cat (bodies es ts)).take cut).map vN))) := same1 nl
    refine ⟨_, rfl, l, s, cut, es, ts, rfl, .inl (.inl upd_same), hcut, okE, ok, nd, hz, s1, s9, fun hc H' d sm nd hd => ?_, fun m hw H' qq p ll e sm np nll hT hK => ?_⟩
    · refine ⟨true, TI.te, fun _ a0 _ => ?_, fun z => Bool.noConfusion z⟩
      exact ⟨_, rfl, rfl, rfl, d, 0, rfl, hd, q0 hc H' (sl.trans sm)⟩
    · exact q1 m hw H' qq p ll e (sl.trans sm) (sl.free np) (sl.free nll) hT hK
end
end Ts
namespace Ts
open PySem PySem.Spec PyProof.Rows L2
/-! ### three copies' tellings, as data -/
structure TOk (T : Nat → List Tl) (n : Nat) : Prop where
  ok : ∀ k, k < 3 → ∀ t ∈ T k, TlOk t
  nd : ∀ k, k < 3 → KeysND (T k)
  own : ∀ k, k < 3 → ∀ t ∈ T k, ∃ j, j < 3 ∧ t.src = j + 1 ∧ t ∈ T j
  st : ∀ k, k < 3 → ∀ t ∈ T k, t.st ≤ n
theorem TOk.nil : TOk (fun _ => []) 0 := ⟨fun _ _ _ h => (by cases h), fun _ _ => List.Pairwise.nil, fun _ _ _ h => (by cases h), fun _ _ _ h => (by cases h)⟩
theorem TOk.mono {T : Nat → List Tl} {n m : Nat} (h : TOk T n) (le : n ≤ m) : TOk T m := ⟨h.ok, h.nd, h.own, fun k hk t ht => Nat.le_trans (h.st k hk t ht) le⟩
theorem KeysND.eq {ts : List Tl} (h : KeysND ts) {t t' : Tl} (ht : t ∈ ts) (ht' : t' ∈ ts) (e : t.st = t'.st ∧ t.src = t'.src) : t = t' := by
  obtain ⟨i, hi⟩ := List.getElem?_of_mem ht
  obtain ⟨j, hj⟩ := List.getElem?_of_mem ht'
  obtain ⟨li, hi2⟩ := List.getElem?_eq_some_iff.mp hi
  obtain ⟨lj, hj2⟩ := List.getElem?_eq_some_iff.mp hj
  rcases Nat.lt_trichotomy i j with c | c | c
  · have := List.pairwise_iff_getElem.mp h i j li lj c
    rw [hi2, hj2] at this
    exact absurd e this
  · subst c
    rw [← hi2, ← hj2]
  · have := List.pairwise_iff_getElem.mp h j i lj li c
    rw [hi2, hj2] at this
    exact absurd ⟨e.1.symm, e.2.symm⟩ this
theorem TOk.same {T : Nat → List Tl} {n : Nat} (h : TOk T n) {j k : Nat} (hj : j < 3) (hk : k < 3) : ∀ t ∈ T k, ∀ t' ∈ T j, t.st = t'.st → t.src = t'.src → t = t' := fun t ht t' ht' e1 e2 => by
  obtain ⟨a, ha, ea, ma⟩ := h.own k hk t ht
  obtain ⟨b, hb, eb, mb⟩ := h.own j hj t' ht'
  have : a = b := by omega
  subst this
  exact (h.nd a ha).eq ma mb ⟨e1, e2⟩
def keys39 : List (Nat × Nat) := (List.range 13).flatMap fun i => [(i, 1), (i, 2), (i, 3)]
theorem keys39_len : keys39.length = 39 := by decide +kernel
theorem keys39_mem {i j : Nat} (hi : i ≤ 12) (h1 : 1 ≤ j) (h3 : j ≤ 3) : (i, j) ∈ keys39 := by
  refine List.mem_flatMap.mpr ⟨i, List.mem_range.mpr (by omega), ?_⟩
  rcases (show j = 1 ∨ j = 2 ∨ j = 3 by omega) with rfl | rfl | rfl <;> simp
theorem nd_map {ts : List Tl} (h : KeysND ts) : (ts.map fun t => (t.st, t.src)).Nodup := by
  unfold List.Nodup
  rw [List.pairwise_map]
  exact h.imp fun {a b} hn e => hn ⟨congrArg Prod.fst e, congrArg Prod.snd e⟩
theorem TOk.len {T : Nat → List Tl} {n : Nat} (h : TOk T n) (hn : n ≤ 12) {k : Nat} (hk : k < 3) : (T k).length ≤ 39 := by
  have := nodup_le (m := keys39) (nd_map (h.nd k hk)) fun x hx => by
    obtain ⟨t, ht, rfl⟩ := List.mem_map.mp hx
    obtain ⟨j, hj, ej, _⟩ := h.own k hk t ht
    have := h.st k hk t ht
    exact keys39_mem (by omega) (by omega) (by omega)
  rw [List.length_map, keys39_len] at this
  exact this
/-- T, at k another list -/
def setT (T : Nat → List Tl) (k : Nat) (x : List Tl) : Nat → List Tl := fun i => if i = k then x else T i
theorem setT_eq (T : Nat → List Tl) (k : Nat) (x : List Tl) : setT T k x k = x := if_pos rfl
theorem setT_ne {T : Nat → List Tl} {k i : Nat} {x : List Tl} (h : i ≠ k) : setT T k x i = T i := if_neg h
theorem setT_sub {T : Nat → List Tl} {k : Nat} {x : List Tl} (h : ∀ t ∈ T k, t ∈ x) (i : Nat) : ∀ t ∈ T i, t ∈ setT T k x i := fun t ht => by
  unfold setT
  split
  · rename_i e
    subst e
    exact h t ht
  · exact ht
theorem TOk.tell {T : Nat → List Tl} {n k : Nat} {t : Tl} (h : TOk T n) (hk : k < 3) (hn : n < 12) (e : t.src = k + 1) (hc : ChOk t.ch) (h1 : 1 ≤ t.st) (h2 : ∀ t' ∈ T k, t'.st < t.st) (h3 : t.st = 1 ∨ ∃ t' ∈ T k, t.st = t'.st + 1) :
    TOk (setT T k (T k ++ [t])) (n + 1) := by
  have hst : t.st ≤ n + 1 := by
    rcases h3 with z | ⟨t', z, y⟩
    · omega
    · have := h.st k hk t' z
      omega
  have okt : TlOk t := ⟨h1, by omega, by omega, by omega, hc⟩
  have sub := setT_sub (T := T) (k := k) (x := T k ++ [t]) fun t ht => List.mem_append_left _ ht
  have mem : ∀ {j x}, x ∈ setT T k (T k ++ [t]) j → x ∈ T j ∨ (j = k ∧ x = t) := fun {j x} hx => by
    unfold setT at hx
    split at hx
    · rename_i e
      rcases List.mem_append.mp hx with hx | hx
      · rw [e]
        exact .inl hx
      · exact .inr ⟨e, by simpa using hx⟩
    · exact .inl hx
  refine ⟨fun j hj x hx => ?_, fun j hj => ?_, fun j hj x hx => ?_, fun j hj x hx => ?_⟩
  · rcases mem hx with hx | ⟨_, rfl⟩
    · exact h.ok j hj x hx
    · exact okt
  · unfold setT
    split
    · refine List.pairwise_append.mpr ⟨h.nd k hk, List.pairwise_singleton _ _, fun a ha b hb => ?_⟩
      have eb : b = t := by simpa using hb
      subst eb
      have := h2 a ha
      intro z
      omega
    · exact h.nd j hj
  · rcases mem hx with hx | ⟨rfl, rfl⟩
    · obtain ⟨i, hi, ei, mi⟩ := h.own j hj x hx
      exact ⟨i, hi, ei, sub i x mi⟩
    · exact ⟨j, hj, e, by rw [setT_eq]; simp⟩
  · rcases mem hx with hx | ⟨_, rfl⟩
    · have := h.st j hj x hx
      omega
    · exact hst
theorem newOf_not {ts l : List Tl} {t : Tl} (h : t ∈ newOf ts l) : ∀ t' ∈ ts, ¬ (t'.st = t.st ∧ t'.src = t.src) := fun t' ht' e => by
  have := (List.mem_filter.mp h).2
  rw [any_yes ht' e] at this
  cases this
theorem KeysND.perm {l l' : List Tl} (h : KeysND l) (p : l'.Perm l) : KeysND l' := List.Pairwise.perm h p.symm fun {a b} hn e => hn ⟨e.1.symm, e.2.symm⟩
theorem KeysND.app {ts l : List Tl} (h : KeysND ts) (h2 : KeysND l) : KeysND (ts ++ newOf ts l) :=
  List.pairwise_append.mpr ⟨h, List.Pairwise.sublist List.filter_sublist h2, fun a ha b hb => newOf_not hb a ha⟩
theorem TOk.merge {T : Nat → List Tl} {n j k : Nat} {l : List Tl} (h : TOk T n) (hj : j < 3) (hk : k < 3) (p : l.Perm (T j)) : TOk (setT T k (T k ++ newOf (T k) l)) n := by
  have sub := setT_sub (T := T) (k := k) (x := T k ++ newOf (T k) l) fun t ht => List.mem_append_left _ ht
  have mem : ∀ {i x}, x ∈ setT T k (T k ++ newOf (T k) l) i → x ∈ T i ∨ x ∈ T j := fun {i x} hx => by
    unfold setT at hx
    split at hx
    · rename_i e
      rcases List.mem_append.mp hx with hx | hx
      · rw [e]
        exact .inl hx
      · exact .inr (p.mem_iff.mp (newOf_mem hx))
    · exact .inl hx
  refine ⟨fun i hi x hx => ?_, fun i hi => ?_, fun i hi x hx => ?_, fun i hi x hx => ?_⟩
  · rcases mem hx with hx | hx
    · exact h.ok i hi x hx
    · exact h.ok j hj x hx
  · unfold setT
    split
    · exact (h.nd k hk).app ((h.nd j hj).perm p)
    · exact h.nd i hi
  · rcases mem hx with hx | hx
    · obtain ⟨a, ha, ea, ma⟩ := h.own i hi x hx
      exact ⟨a, ha, ea, sub a x ma⟩
    · obtain ⟨a, ha, ea, ma⟩ := h.own j hj x hx
      exact ⟨a, ha, ea, sub a x ma⟩
  · rcases mem hx with hx | hx
    · exact h.st i hi x hx
    · exact h.st j hj x hx
/-! ### the law's end, as data -/
theorem newOf_nil {ts l : List Tl} (h : ∀ t ∈ l, t ∈ ts) : newOf ts l = [] := by
  unfold newOf
  rw [List.filter_eq_nil_iff]
  intro t ht z
  rw [any_yes (h t ht) ⟨rfl, rfl⟩] at z
  cases z
theorem newOf_all {ts l : List Tl} (h : ∀ t ∈ l, ∀ t' ∈ ts, ¬ (t'.st = t.st ∧ t'.src = t.src)) : newOf ts l = l := by
  unfold newOf
  rw [List.filter_eq_self]
  intro t ht
  rw [any_no (h t ht)]
  rfl
theorem newOf_app (ts a b : List Tl) : newOf ts (a ++ b) = newOf ts a ++ newOf ts b := List.filter_append _ _
/-- found = the first m tellings and one of its own; merged with all: as many as all, and one -/
theorem end_len {ts l : List Tl} {m : Nat} {t : Tl} (nd : KeysND ts) (hs : ∀ x ∈ ts, x.src ≤ 3) (ht : t.src = 7) (p : l.Perm ts) (hm : m ≤ ts.length) : (ts.take m ++ [t] ++ newOf (ts.take m ++ [t]) l).length = ts.length + 1 := by
  have e1 : (newOf (ts.take m ++ [t]) l).length = (newOf (ts.take m ++ [t]) ts).length := (p.filter _).length_eq
  have e2 : newOf (ts.take m ++ [t]) ts = ts.drop m := by
    conv => lhs; rw [← List.take_append_drop m ts]
    rw [newOf_app, newOf_nil, newOf_all, List.nil_append]
    · intro x hx t' ht' e
      rw [List.take_append_drop] at ht'
      rcases List.mem_append.mp ht' with h | h
      · rw [← List.take_append_drop m ts] at nd
        exact (List.pairwise_append.mp nd).2.2 t' h x hx e
      · have et : t' = t := by simpa using h
        have := hs x (List.mem_of_mem_drop hx)
        rw [et, ht] at e
        omega
    · intro x hx
      rw [List.take_append_drop]
      exact List.mem_append_left _ hx
  rw [List.length_append, e1, e2, List.length_append, List.length_take, List.length_drop, List.length_singleton]
  omega
theorem end_mem {ts ts0 l : List Tl} (nd : ∀ x ∈ ts0, ∀ y ∈ ts, x.st = y.st → x.src = y.src → x = y) (p : l.Perm ts) : ∀ x ∈ ts, x ∈ ts0 ++ newOf ts0 l := fun x hx => by
  by_cases h : ∃ t' ∈ ts0, t'.st = x.st ∧ t'.src = x.src
  · obtain ⟨t', h1, h2, h3⟩ := h
    rw [← nd t' h1 x hx h2 h3]
    exact List.mem_append_left _ h1
  · refine List.mem_append_right _ (List.mem_filter.mpr ⟨p.mem_iff.mpr hx, ?_⟩)
    rw [any_no fun t' ht' e => h ⟨t', ht', e⟩]
    rfl
end Ts
namespace Ts
open PySem PySem.Spec PyProof.Rows L2
/-- all but x stays, x no tuple -/
theorem Kt.but {H H' : Hp} {x : Addr} (k : ∀ b o, b ≠ x → H b = some o → H' b = some o) (hx : (∃ xs, H x = some (.lst xs)) ∨ ∃ C dx fs, H x = some (.ins C dx fs)) : Kt H H' := fun b o e z => by
  refine k b o (fun q => ?_) e
  rw [q] at e
  rcases hx with ⟨ys, hx⟩ | ⟨C, dx, fs, hx⟩ <;> rw [hx] at e <;> rcases z with ⟨xs, z⟩ | ⟨o', xs, z⟩ <;> rw [z] at e <;> cases e
theorem CopyAt.but {K : PySem.W.Frag} {C : Addr} {H H' : Hp} {x p l e : Addr} {s : Nat} {es : List (Str × Nat)} {ts : List Tl} (k : ∀ b o, b ≠ x → H b = some o → H' b = some o) (hx : (∃ xs, H x = some (.lst xs)) ∨ ∃ C dx fs, H x = some (.ins C dx fs))
    (hp : p ≠ x) (hl : l ≠ x) (h : CopyAt K C H p l e s es ts) : CopyAt K C H' p l e s es ts := by
  have kt := Kt.but k hx
  obtain ⟨⟨dx, h1⟩, ⟨xe, h2, h3⟩, vs, h4, h5⟩ := h
  exact ⟨⟨dx, k _ _ hp h1⟩, ⟨xe, kt.tup h2, kt.ens h3⟩, vs, k _ _ hl h4, kt.tls h5⟩
/-- f, at k another address -/
def setA (f : Nat → Addr) (k : Nat) (x : Addr) : Nat → Addr := fun i => if i = k then x else f i
theorem setA_eq (f : Nat → Addr) (k : Nat) (x : Addr) : setA f k x k = x := if_pos rfl
theorem setA_ne {f : Nat → Addr} {k i : Nat} {x : Addr} (h : i ≠ k) : setA f k x i = f i := if_neg h
/-- m copies in the list at q; H0 the heap before them -/
structure Cps (K : PySem.W.Frag) (C : Addr) (H0 H : Hp) (q : Addr) (m : Nat) (p l e : Nat → Addr) (es : List (Str × Nat)) (T : Nat → List Tl) : Prop where
  cp : ∀ k, k < m → CopyAt K C H (p k) (l k) (e k) (k + 1) es (T k)
  np : ∀ k, k < m → ∀ j, j < m → j ≠ k → p j ≠ p k ∧ l j ≠ l k
  fr : ∀ k, k < m → H0 (p k) = none ∧ H0 (l k) = none
  nq : ∀ k, k < m → l k ≠ q
  nq0 : H0 q = none
  li : H q = some (.lst ((List.range m).map fun k => V.ref (p k)))
  sm : Same H0 H
section
variable {K : PySem.W.Frag} {C : Addr} {H0 H H' : Hp} {q : Addr} {m : Nat} {p l e : Nat → Addr} {es : List (Str × Nat)} {T : Nat → List Tl}
theorem CopyAt.ins {p l e : Addr} {s : Nat} {ts : List Tl} (h : CopyAt K C H p l e s es ts) : ∃ C dx fs, H p = some (.ins C dx fs) := by
  obtain ⟨dx, h⟩ := h.ob
  exact ⟨_, _, _, h⟩
theorem CopyAt.lst {p l e : Addr} {s : Nat} {ts : List Tl} (h : CopyAt K C H p l e s es ts) : ∃ xs, H l = some (.lst xs) := by
  obtain ⟨us, h, _⟩ := h.ls
  exact ⟨_, h⟩
theorem ins_lst {a b : Addr} (h1 : ∃ C dx fs, H a = some (.ins C dx fs)) (h2 : ∃ xs, H b = some (.lst xs)) : a ≠ b := fun z => by
  obtain ⟨_, _, _, h1⟩ := h1
  obtain ⟨_, h2⟩ := h2
  rw [z, h2] at h1
  cases h1
theorem Cps.same (s : Same H H') (h : Cps K C H0 H q m p l e es T) : Cps K C H0 H' q m p l e es T := ⟨fun k hk => (h.cp k hk).same s, h.np, h.fr, h.nq, h.nq0, s _ _ h.li, h.sm.trans s⟩
theorem Cps.tell {k : Nat} {x : List Tl} (h : Cps K C H0 H q m p l e es T) (hk : k < m) (kp : ∀ b o, b ≠ l k → H b = some o → H' b = some o) (hc : CopyAt K C H' (p k) (l k) (e k) (k + 1) es x) : Cps K C H0 H' q m p l e es (setT T k x) := by
  refine ⟨fun j hj => ?_, h.np, h.fr, h.nq, h.nq0, kp _ _ (Ne.symm (h.nq k hk)) h.li, fun b o hb => kp b o (ne_of_none hb (h.fr k hk).2) (h.sm b o hb)⟩
  by_cases e1 : j = k
  · subst e1
    rw [setT_eq]
    exact hc
  · rw [setT_ne e1]
    exact (h.cp j hj).but kp (.inl (h.cp k hk).lst) (ins_lst (h.cp j hj).ins (h.cp k hk).lst) (h.np k hk j hj e1).2
theorem Cps.merge {k : Nat} {x : List Tl} {l' : Addr} (h : Cps K C H0 H q m p l e es T) (hk : k < m) (kp : ∀ b o, b ≠ p k → H b = some o → H' b = some o) (nl : H l' = none) (hc : CopyAt K C H' (p k) l' (e k) (k + 1) es x) : Cps K C H0 H' q m p (setA l k l') e es (setT T k x) := by
  have hql : ∃ xs, H q = some (.lst xs) := ⟨_, h.li⟩
  refine ⟨fun j hj => ?_, fun i hi j hj hij => ⟨(h.np i hi j hj hij).1, ?_⟩, fun j hj => ⟨(h.fr j hj).1, ?_⟩, fun j hj => ?_, h.nq0, kp _ _ (Ne.symm (ins_lst (h.cp k hk).ins hql)) h.li, fun b o hb => kp b o (ne_of_none hb (h.fr k hk).1) (h.sm b o hb)⟩
  · by_cases e1 : j = k
    · subst e1
      rw [setT_eq, setA_eq]
      exact hc
    · rw [setT_ne e1, setA_ne e1]
      exact (h.cp j hj).but kp (.inr (h.cp k hk).ins) (h.np k hk j hj e1).1 (Ne.symm (ins_lst (h.cp k hk).ins (h.cp j hj).lst))
  · have fresh : ∀ a, a < m → l a ≠ l' := fun a ha z => by
      obtain ⟨_, y⟩ := (h.cp a ha).lst
      rw [z, nl] at y
      cases y
    unfold setA
    split
    · rename_i e1
      split
      · rename_i e2
        exact absurd (e1.trans e2.symm) hij
      · exact Ne.symm (fresh i hi)
    · split
      · exact fresh j hj
      · exact (h.np i hi j hj hij).2
  · unfold setA
    split
    · exact h.sm.free nl
    · exact (h.fr j hj).2
  · unfold setA
    split
    · intro z
      rw [← z, nl] at hql
      obtain ⟨_, y⟩ := hql
      cases y
    · exact h.nq j hj
theorem Cps.add {H1 : Hp} {x lx ex : Addr} (h : Cps K C H0 H q m p l e es T) (s : Same H H1) (nx : H x = none) (nlx : H lx = none) (hc : CopyAt K C H1 x lx ex (m + 1) es []) (hT : T m = []) :
    Cps K C H0 (upd H1 q (.lst (((List.range m).map fun k => V.ref (p k)) ++ [V.ref x]))) q (m + 1) (setA p m x) (setA l m lx) (setA e m ex) es T := by
  have h1 := h.same s
  have hq1 : ∃ xs, H1 q = some (.lst xs) := ⟨_, h1.li⟩
  have kp : ∀ b o, b ≠ q → H1 b = some o → upd H1 q (.lst (((List.range m).map fun k => V.ref (p k)) ++ [V.ref x])) b = some o := fun b o hb ho => by
    rw [upd_ne hb]
    exact ho
  have hxq : x ≠ q := ins_lst hc.ins hq1
  have hlq : lx ≠ q := fun z => by
    have := h.li
    rw [← z, nlx] at this
    cases this
  have px : ∀ a, a < m → p a ≠ x := fun a ha z => by
    obtain ⟨_, _, _, y⟩ := (h.cp a ha).ins
    rw [z, nx] at y
    cases y
  have lxx : ∀ a, a < m → l a ≠ lx := fun a ha z => by
    obtain ⟨_, y⟩ := (h.cp a ha).lst
    rw [z, nlx] at y
    cases y
  refine ⟨fun j hj => ?_, fun i hi j hj hij => ?_, fun j hj => ?_, fun j hj => ?_, h.nq0, ?_, ?_⟩
  · by_cases e1 : j = m
    · subst e1
      rw [setA_eq, setA_eq, setA_eq, hT]
      exact hc.but kp (.inl hq1) hxq hlq
    · rw [setA_ne e1, setA_ne e1, setA_ne e1]
      have hj2 : j < m := by omega
      exact (h1.cp j hj2).but kp (.inl hq1) (ins_lst (h1.cp j hj2).ins hq1) (h1.nq j hj2)
  · by_cases e1 : i = m
    · have e2 : j ≠ m := by omega
      rw [e1, setA_eq, setA_eq, setA_ne e2, setA_ne e2]
      exact ⟨px j (by omega), lxx j (by omega)⟩
    · by_cases e2 : j = m
      · rw [e2, setA_eq, setA_eq, setA_ne e1, setA_ne e1]
        exact ⟨Ne.symm (px i (by omega)), Ne.symm (lxx i (by omega))⟩
      · rw [setA_ne e1, setA_ne e1, setA_ne e2, setA_ne e2]
        exact h.np i (by omega) j (by omega) hij
  · by_cases e1 : j = m
    · subst e1
      rw [setA_eq, setA_eq]
      exact ⟨h.sm.free nx, h.sm.free nlx⟩
    · rw [setA_ne e1, setA_ne e1]
      exact h.fr j (by omega)
  · by_cases e1 : j = m
    · subst e1
      rw [setA_eq]
      exact hlq
    · rw [setA_ne e1]
      exact h.nq j (by omega)
  · rw [upd_same, List.range_succ, List.map_append, List.map_singleton, setA_eq]
    have : ((List.range m).map fun k => V.ref (setA p m x k)) = (List.range m).map fun k => V.ref (p k) := List.map_congr_left fun k hk => by
      rw [setA_ne (Nat.ne_of_lt (List.mem_range.mp hk))]
    rw [this]
  · exact same_mod h1.sm h.nq0
end
section
variable {P : Program} {w : World} {K : PySem.W.Frag} {mg : Str → Option Value} {base : Heap} {C S CI fI cc cda : Addr}
theorem mod3 (i : Int) : ∃ k : Nat, k < 3 ∧ i % 3 = (k : Int) := by
  obtain ⟨h1, h2⟩ := mod_pl (i := i) (n := 3) (by decide)
  exact ⟨_, h1, h2.symm⟩
theorem at3 {p : Nat → Addr} {k : Nat} (h : k < 3) : atI ((List.range 3).map fun k => V.ref (p k)) (k : Int) = some (.ref (p k)) := atI_nat (by rw [List.getElem?_map, List.getElem?_range h]; rfl)
abbrev s__law_copies : Stmt := top 61
theorem sc__law_copies : FnScope ["_law_script", "_law_copies_here", "_law_k", "_law_cell_here", "_law_who"] ["_law_script"] (defScope s__law_copies) := ⟨rfl, rfl, rfl, by decide +kernel, rfl, by decide +kernel, by decide +kernel⟩
def spCopies (K : PySem.W.Frag) (C : Addr) : Sp := fun vs H Q _ => ∃ (a : Addr) (ns : List Int), vs = [.ref a] ∧ SqL K H a (ns.map V.int) ∧ ∀ H' q p l e es T, Cps K C H H' q 3 p l e es T → TOk T 12 → EsOk es → Q (.ref q) H'
theorem ok__law_copies {f : Addr} {fd : FuncData} (F : Fun K "_law_copies" "_law_copies" s__law_copies f fd) (T : Txt mg) (L : Cl K C S) (O_Copy___init__ : OwnC P w K mg base CX0 C 1 "Copy" ["self", "source", "endings"] (spCopyInit K C))
    (O__law_endings : Own P w K mg base CX0 2 "_law_endings" ["_law_script"] (spLEnds K)) (O__law_cell : Own P w K mg base CX0 1 "_law_cell" ["_law_script", "_law_k"] (spLCell K)) (O_Copy_merge : OwnM P w K mg base CX0 C 3 "merge" ["self", "other"] (spMerge K C))
    (O__law_tell : Own P w K mg base CX0 7 "_law_tell" ["_law_copy", "_law_cell_here", "_law_k"] (spLTell K C)) : FnOk P w K mg base CX0 8 f fd ["_law_script"] (spCopies K C) := by
  refine F.ok sc__law_copies (fun vs H Q E h => ?_) (fun cdv A outer s H vs Q E hr h => ?_)
  · obtain ⟨a, ns, rfl, _⟩ := h
    rfl
  · obtain ⟨a, ns, rfl, hS, q⟩ := h
    refine ⟨_, (pss_cons (ps_setLc (i := 1) (own := [("_law_k", 2)]) (g := gName 2) (tt := tYes) rfl sc__law_copies.nd rfl rfl (sw_true rfl rfl rfl (by decide +kernel)) (pi_range1 rfl T.f_range (pa_cons pe_int pa_nil)) (blkOk_by (own := [("_law_k", 2)]) (N := ["_law_script", "_law_copies_here", "_law_k", "_law_cell_here", "_law_who"]) (sc := defScope s__law_copies) (by decide +kernel)) (fun _ _ _ _ _ => pg_name (i := 2) sc__law_copies.nd rfl (Or.inl rfl)) (fun _ _ _ _ _ => pts_nil) (fun _ _ _ _ _ => (pe_makeO O_Copy___init__ hr (by decide) (by rfl) pass0 (pa_cons (pe_op op_add pe_int (pv 2)) (pa_cons (pe_own O__law_endings hr (by decide) (by rfl) pass0 (pa_cons (pv 0) pa_nil)) pa_nil)))))
      (pss_cons (ps_for PassesOwn.never rfl (pi_range2 rfl T.f_range (pa_cons pe_int (pa_cons pe_int pa_nil))) (pg_name (i := 2) sc__law_copies.nd rfl (Or.inl rfl)) (pss_cons (ps_set (i := 3) sc__law_copies.nd rfl (Or.inl rfl) (pe_own O__law_cell hr (by decide) (by rfl) pass0 (pa_cons (pv 0) (pa_cons (pv 2) pa_nil))))
        (pss_cons (ps_set (i := 4) sc__law_copies.nd rfl (Or.inl rfl) (pe_op op_mod (pe_callTy call_int1 (by rfl) T.f_int (by decide +kernel) (pa_cons (pe_op op_fdiv (pv 3) pe_int) pa_nil)) pe_int))
        (pss_one (ps_if (pt_cmpR op_eq (pe_op op_mod (pe_callTy call_int1 (by rfl) T.f_int (by decide +kernel) (pa_cons (pe_op op_fdiv (pv 3) pe_int) pa_nil)) pe_int) pe_int (nomark _)) (pss_one (ps_expr (pe_ownM O_Copy_merge hr (by decide) pass0 (pe_ix ix_list (pv 1) (pv 4) (fun _ _ => rfl)) (pa_cons (pe_ix ix_list (pv 1) (pe_op op_mod (pe_callTy call_int1 (by rfl) T.f_int (by decide +kernel) (pa_cons (pe_op op_add (pe_op op_add (pv 4) pe_int) (pe_op op_fdiv (pv 3) pe_int)) pa_nil)) pe_int) (fun _ _ => rfl)) pa_nil)))) (pss_one (ps_if (pt_cmpR op_lt (pv 2) (pe_callB call_len_seq (by rfl) T.f_len PySem.boot_len (pa_cons (pv 0) pa_nil)) (nomark _)) (pss_one (ps_expr (pe_own O__law_tell hr (by decide) (by rfl) pass0 (pa_cons (pe_ix ix_list (pv 1) (pv 4) (fun _ _ => rfl)) (pa_cons (pv 3) (pa_cons (pv 2) pa_nil)))))) pss_nil)))))))
      (pss_one (ps_ret (pv 1))))), ?_⟩
    generalize hes : endsOf (ns.getD 0 0) = es
    have okE : EsOk es := by
      rw [← hes]
      exact endsOf_ok _
    refine ⟨3, rfl, by decide, by decide, fun D hD => lc_range (lo := 0) (n := 3) (fun i H2 => ∃ p l e, Cps K C H H2 D i p l e es (fun _ => [])) ?_ ?_ ?_⟩
    · exact ⟨fun _ => 0, fun _ => 0, fun _ => 0, fun k hk => absurd hk (by omega), fun k hk => absurd hk (by omega), fun k hk => absurd hk (by omega), fun k hk => absurd hk (by omega), hD, upd_same, same1 hD⟩
    · rintro i H2 hi ⟨p, l, e, hcp⟩
      refine ⟨rfl, ?_⟩
      have e1 : (1 : Int) + (0 + (i : Int)) = ((i + 1 : Nat) : Int) := by omega
      refine ⟨_, rfl, _, _, rfl, rfl, _, rfl, a, ns, rfl, hcp.sm.seq hS, fun H3 ep s3 hE => ?_⟩
      rw [hes] at hE
      refine fun x dx nx ndx hne => ?_
      have sm : Same H3 (upd (upd H3 dx (.own x)) x (.ins C dx [])) := same_mod (same1 ndx) nx
      refine ⟨x, dx, ep, i + 1, es, by show V.ref x :: ([V.int (1 + (0 + (i : Int))), V.ref ep] ++ []) = _; rw [e1]; rfl, upd_same, hE.same sm, by omega, by omega, fun H4 l4 k4 nl4 hK4 => ⟨rfl, ?_⟩⟩
      have s34 : Same H3 H4 := Same.made nx ndx fun b o ho hb => k4 b o hb ho
      have h3 := hcp.same s3
      refine ⟨_, (h3.same s34).li, lt_line (by rw [List.length_map, List.length_range]; omega), ?_⟩
      exact ⟨_, _, _, h3.add s34 nx (sm.free nl4) hK4 rfl⟩
    rintro H2 ⟨p, l, e, hcp⟩
    refine ⟨2, 14, rfl, ⟨by decide, by decide, by decide, by decide⟩, for_range (n := 12) (fun i σ H' => ∃ v2 v3 v4 p l e T, σ = [some (.ref a), some (.ref D), v2, v3, v4] ∧ Cps K C H H' D 3 p l e es T ∧ TOk T i)
      ⟨_, _, _, p, l, e, _, rfl, hcp, TOk.nil⟩ ?_ ?_⟩
    · rintro i σ H' hi ⟨v2, v3, v4, p, l, e, T, rfl, hcp, tok⟩
      refine ⟨_, rfl, _, rfl, a, ns, 2 + i, rfl, hcp.sm.seq hS, ?_⟩
      generalize ns.getD (2 + i) 0 = c
      obtain ⟨k, hk, ek⟩ := mod3 (c / 36)
      refine ⟨_, rfl, _, _, rfl, rfl, ⟨by decide, by decide⟩, .inl ⟨_, rfl, _, _, rfl, rfl, (by show (0 : Int) < 3; decide), ?_⟩⟩
      have hL : SqL K H' D ((List.range 3).map fun k => V.ref (p k)) := .inl (.inl hcp.li)
      have hck := hcp.cp k hk
      have lk := tok.len (by omega) hk
      obtain ⟨dxk, hok⟩ := hck.ob
      refine ⟨_, rfl, _, _, rfl, rfl, ⟨by decide, by decide⟩, .inl ⟨_, rfl, _, _, rfl, rfl, (by show (0 : Int) < 3; decide), rfl, _, rfl, ite2 (fun _ => ?_) (fun _ => ?_)⟩⟩
      · obtain ⟨j, hj, ej⟩ := mod3 (c / 36 % 3 + 1 + c / 324)
        have hcj := hcp.cp j hj
        have lj := tok.len (by omega) hj
        refine ⟨_, rfl, _, rfl, D, _, _, _, rfl, rfl, hL, by rw [ek]; exact at3 hk, p k, dxk, _, rfl, hok, cf_noM _ _ _ (by decide +kernel), ?_⟩
        refine ⟨_, rfl, _, rfl, _, _, rfl, rfl, _, rfl, _, _, rfl, rfl, ⟨by decide, by decide⟩, _, _, rfl, rfl, .inl ⟨_, rfl, _, _, rfl, rfl, (by show (0 : Int) < 3; decide), D, _, _, _, rfl, rfl, hL, by rw [ej]; exact at3 hj, ?_⟩⟩
        refine ⟨p k, l k, e k, k + 1, p j, l j, e j, j + 1, es, T k, T j, rfl, hck, hcj, okE, tok.ok k hk, tok.ok j hj, tok.same hj hk, by omega, fun H3 l' ts2' v kp nl hp hc => ?_⟩
        exact ⟨_, _, _, p, setA l k l', e, _, rfl, hcp.merge hk kp nl hc, (tok.merge hj hk hp).mono (by omega)⟩
      · refine ⟨_, rfl, _, rfl, a, _, rfl, .inl (hcp.sm.seq hS), _, _, rfl, rfl, _, rfl, ite2 (fun _ => ?_) (fun _ => ?_)⟩
        · refine ⟨_, rfl, _, rfl, D, _, _, _, rfl, rfl, hL, by rw [ek]; exact at3 hk, _, rfl, _, rfl, p k, l k, e k, k + 1, es, T k, c, 2 + i, rfl, hck, tok.ok k hk, by omega, fun H3 t kp hc h1 h2 h3 h4 h5 => ?_⟩
          exact ⟨_, _, _, p, l, e, _, rfl, hcp.tell hk kp hc, tok.tell hk hi h1 h2 h3 h4 h5⟩
        · exact ⟨_, _, _, p, l, e, T, rfl, hcp, tok.mono (by omega)⟩
    · rintro σ H' ⟨v2, v3, v4, p, l, e, T, rfl, hcp, tok⟩
      exact ⟨_, rfl, q H' D p l e es T hcp tok okE⟩
end
end Ts
namespace Ts
open PySem PySem.Spec PyProof.Rows L2
theorem cut_to {xs : List V} {j : Nat} (h : j ≤ xs.length) : cutV xs none (some (j : Int)) = xs.take j := by
  unfold cutV
  rw [HT.sIx_none, HT.sIx_nat, Nat.min_eq_left h, List.drop_zero, Nat.sub_zero]
theorem dp_lst {K : PySem.W.Frag} {H : Hp} {a : Addr} {us : List V} {ts : List Tl} (h : SqL K H a us) (hu : TlsAt K H us ts) : Dp K H (.ref a) (.list (ts.map tlD)) := .lst h (dp_tls hu)
theorem eqv_list {as bs : List Tl} : PyData.eqv (.list (as.map tlD)) (.list (bs.map tlD)) = true ↔ as = bs := by
  rw [← eqv_tls]
  simp only [PyData.eqv]
/-- the change that the law tells -/
def late : Ch := ⟨5, "a", some "late weir"⟩
theorem late_ok : ChOk late := ⟨by decide, .inl rfl, fun s h => by
  injection h with h
  subst h
  refine ⟨by decide +kernel, fun c hc => charOk_of ?_⟩
  have : (codes ("late weir" : Str)).all charOkB = true := by decide +kernel
  exact List.all_eq_true.mp this c hc⟩
theorem paired_take {α β : Type} {F : α → β → Prop} : ∀ {l : List α} {m : List β} (n : Nat), Paired F l m → Paired F (l.take n) (m.take n)
  | _, _, 0, _ => by rw [List.take_zero, List.take_zero]; exact .nil
  | _, _, _ + 1, .nil => by simp only [List.take_nil]; exact .nil
  | _, _, n + 1, .cons r t => .cons r (paired_take n t)
section
variable {P : Program} {w : World} {K : PySem.W.Frag} {mg : Str → Option Value} {base : Heap} {C S CI fI cc cda : Addr}
abbrev s_law : Stmt := top 69
theorem sc_law : FnScope ["_law_script", "_law_copies_here", "_law_one", "_law_data", "_law_head", "_law_k", "_law_cut", "_law_found", "_law_end", "_law_due", "_law_telling", "_law_size"] ["_law_script"] (defScope s_law) := ⟨rfl, rfl, rfl, by decide +kernel, rfl, by decide +kernel, by decide +kernel⟩
def spLaw (K : PySem.W.Frag) : Sp := fun vs H Q _ => ∃ (a : Addr) (ns : List Int), vs = [.ref a] ∧ SqL K H a (ns.map V.int) ∧ ∀ H', Q (.bl true) H'
theorem ok_law {f : Addr} {fd : FuncData} (F : Fun K "law" "law" s_law f fd) (T : Txt mg) (L : Cl K C S) (O__law_copies : Own P w K mg base CX0 8 "_law_copies" ["_law_script"] (spCopies K C)) (O__law_cell : Own P w K mg base CX0 1 "_law_cell" ["_law_script", "_law_k"] (spLCell K))
    (O_file_of : Own P w K mg base CX0 4 "file_of" ["copy"] (spFileOf K C)) (O_Copy_endings : OwnM P w K mg base CX0 C 1 "endings" ["self"] (spCopyEndings K C)) (O__law_ending_bytes : Own P w K mg base CX0 3 "_law_ending_bytes" ["_law_endings_here"] (spEndsB K))
    (O__law_record : Own P w K mg base CX0 2 "_law_record" ["_law_body"] (spRecL K)) (O__law_opened : Own P w K mg base CX0 8 "_law_opened" ["_law_data", "_law_source"] (spLOpened K C)) (O_Copy_held : OwnM P w K mg base CX0 C 1 "held" ["self"] (spCopyHeld K C))
    (O__law_telling_bytes : Own P w K mg base CX0 3 "_law_telling_bytes" ["_law_telling"] (spTellB K)) (O_Copy_source : OwnM P w K mg base CX0 C 1 "source" ["self"] (spCopySource K C)) (O_Copy_tell : OwnM P w K mg base CX0 C 6 "tell" ["self", "time", "key", "text"] (spCopyTell K C))
    (O_Copy_merge : OwnM P w K mg base CX0 C 3 "merge" ["self", "other"] (spMerge K C)) (O_Copy_tellings : OwnM P w K mg base CX0 C 2 "tellings" ["self"] (spCopyTellings K C)) : FnOk P w K mg base CX0 9 f fd ["_law_script"] (spLaw K) := by
  refine F.ok sc_law (fun vs H Q E h => ?_) (fun cdv A outer s H vs Q E hr h => ?_)
  · obtain ⟨a, ns, rfl, _⟩ := h
    rfl
  · obtain ⟨a, ns, rfl, hS, q⟩ := h
    refine ⟨_, (pss_cons (ps_set (i := 1) sc_law.nd rfl (Or.inl rfl) (pe_own O__law_copies hr (by decide) (by rfl) pass0 (pa_cons (pv 0) pa_nil)))
      (pss_cons (ps_set (i := 2) sc_law.nd rfl (Or.inl rfl) (pe_ix ix_list (pv 1) (pe_op op_mod (pe_callTy call_int1 (by rfl) T.f_int (by decide +kernel) (pa_cons (pe_own O__law_cell hr (by decide) (by rfl) pass0 (pa_cons (pv 0) (pa_cons pe_int pa_nil))) pa_nil)) pe_int) (fun _ _ => rfl)))
      (pss_cons (ps_set (i := 3) sc_law.nd rfl (Or.inl rfl) (pe_callTy call_list_of (by rfl) T.f_list (by decide +kernel) (pa_cons (pe_own O_file_of hr (by decide) (by rfl) pass0 (pa_cons (pv 2) pa_nil)) pa_nil)))
      (pss_cons (ps_set (i := 4) sc_law.nd rfl (Or.inl rfl) (pe_callB call_len_seq (by rfl) T.f_len PySem.boot_len (pa_cons (pe_own O__law_record hr (by decide) (by rfl) pass0 (pa_cons (pe_own O__law_ending_bytes hr (by decide) (by rfl) pass0 (pa_cons (pe_ownM0 O_Copy_endings hr (by decide) pass0 (pv 2)) pa_nil)) pa_nil)) pa_nil)))
      (pss_cons (ps_for PassesOwn.never rfl (pi_range2 rfl T.f_range (pa_cons pe_int (pa_cons pe_int pa_nil))) (pg_name (i := 5) sc_law.nd rfl (Or.inl rfl)) (pss_cons (ps_set (i := 6) sc_law.nd rfl (Or.inl rfl) (pe_op op_mod (pe_callTy call_int1 (by rfl) T.f_int (by decide +kernel) (pa_cons (pe_own O__law_cell hr (by decide) (by rfl) pass0 (pa_cons (pv 0) (pa_cons (pv 5) pa_nil))) pa_nil)) (pe_op op_add (pe_callB call_len_seq (by rfl) T.f_len PySem.boot_len (pa_cons (pv 3) pa_nil)) pe_int)))
        (pss_cons (ps_set (i := 7) sc_law.nd rfl (Or.inr rfl) (pe_own O__law_opened hr (by decide) (by rfl) pass0 (pa_cons (pe_slice sl_list (pv 3) po_none (po_some (pv 6))) (pa_cons pe_int pa_nil))))
        (pss_one (ps_if (pt_cmpR op_lt (pv 6) (pv 4) (nomark _)) (pss_one (ps_if (pt_cmpR (op_neF (hu0 hr)) (pv 7) pe_int (nomark _)) (pss_one (ps_ret pe_bl)) pss_nil)) (pss_cons (ps_set (i := 8) sc_law.nd rfl (Or.inl rfl) (pv 4))
          (pss_cons (ps_set (i := 9) sc_law.nd rfl (Or.inl rfl) (pe_lst pa_nil))
          (pss_cons (ps_for PassesOwn.never rfl (pi_list (pe_ownM0 O_Copy_held hr (by decide) pass0 (pv 2))) (pg_name (i := 10) sc_law.nd rfl (Or.inl rfl)) (pss_cons (ps_set (i := 11) sc_law.nd rfl (Or.inl rfl) (pe_callB call_len_seq (by rfl) T.f_len PySem.boot_len (pa_cons (pe_own O__law_record hr (by decide) (by rfl) pass0 (pa_cons (pe_own O__law_telling_bytes hr (by decide) (by rfl) pass0 (pa_cons (pv 10) pa_nil)) pa_nil)) pa_nil)))
            (pss_one (ps_if (PW.pt (pw_and (pt_cmpR op_eq (pe_callB call_len_seq (by rfl) T.f_len PySem.boot_len (pa_cons (pv 9) pa_nil)) (pe_bm PySem.F.plainAttrs_list PySem.F.slot_list_index PySem.F.type_list_index (mt_indexD (hu65 hr)) (pe_ownM0 O_Copy_held hr (by decide) pass0 (pv 2)) (pa_cons (pv 10) pa_nil)) (nomark _)) (pw_and1 (pt_cmpR op_le (pe_op op_add (pv 8) (pv 11)) (pv 6) (nomark _))))) (pss_cons (ps_expr (pe_bm PySem.F.plainAttrs_list PySem.F.slot_list_append PySem.F.type_list_append mt_append (pv 9) (pa_cons (pv 10) pa_nil)))
              (pss_one (ps_set (i := 8) sc_law.nd rfl (Or.inl rfl) (pe_op op_add (pv 8) (pv 11))))) pss_nil))))
          (pss_cons (ps_if (PW.pt (pw_or (pt_cmpR (op_eqF (hu0 hr)) (pv 7) pe_int (nomark _)) (pw_or (pt_cmpR op_ne (pe_ix ix_tup (pv 7) pe_int (fun _ _ => rfl)) (pv 8) (nomark _)) (pw_or1 (pt_cmpR (op_neD (hu64 hr)) (pe_ownM0 O_Copy_held hr (by decide) pass0 (pe_ix ix_tup (pv 7) pe_int (fun _ _ => rfl))) (pv 9) (nomark _)))))) (pss_one (ps_ret pe_bl)) pss_nil)
          (pss_cons (ps_if (PW.pt (pw_or (pt_cmpR op_ne (pe_ownM0 O_Copy_source hr (by decide) pass0 (pe_ix ix_tup (pv 7) pe_int (fun _ _ => rfl))) pe_int (nomark _)) (pw_or1 (pt_cmpR (op_neD (hu64 hr)) (pe_ownM0 O_Copy_endings hr (by decide) pass0 (pe_ix ix_tup (pv 7) pe_int (fun _ _ => rfl))) (pe_ownM0 O_Copy_endings hr (by decide) pass0 (pv 2)) (nomark _))))) (pss_one (ps_ret pe_bl)) pss_nil)
          (pss_cons (ps_expr (pe_ownM O_Copy_tell hr (by decide) pass0 (pe_ix ix_tup (pv 7) pe_int (fun _ _ => rfl)) (pa_cons pe_int (pa_cons pe_str (pa_cons pe_str pa_nil)))))
          (pss_cons (ps_expr (pe_ownM O_Copy_merge hr (by decide) pass0 (pe_ix ix_tup (pv 7) pe_int (fun _ _ => rfl)) (pa_cons (pv 2) pa_nil)))
          (pss_cons (ps_if (pt_cmpR (op_neD (hu64 hr)) (pe_lc (own := [("_law_telling", 10)]) (g := gName 10)  rfl sc_law.nd (pi_list (pe_ownM0 O_Copy_tellings hr (by decide) pass0 (pv 2))) (blkOk_by (own := [("_law_telling", 10)]) (N := ["_law_script", "_law_copies_here", "_law_one", "_law_data", "_law_head", "_law_k", "_law_cut", "_law_found", "_law_end", "_law_due", "_law_telling", "_law_size"]) (sc := defScope s_law) (by decide +kernel)) (fun _ _ _ _ _ => pg_name (i := 10) sc_law.nd rfl (Or.inl rfl)) (fun _ _ _ _ _ => (pts_one (pt_cmpR (show OpR _ _ (rNotInD K) from op_notInD (hu65 hr)) (pv 10) (pe_ownM0 O_Copy_tellings hr (by decide) pass0 (pe_ix (show IxR _ (rIxT K) from ix_tup) (pv 7) pe_int (fun _ _ => rfl))) rfl))) (fun _ _ _ _ _ => (pv 10))) (pe_lst pa_nil) (nomark _)) (pss_one (ps_ret pe_bl)) pss_nil)
          (pss_one (ps_if (pt_cmpR op_ne (pe_callB call_len_seq (by rfl) T.f_len PySem.boot_len (pa_cons (pe_ownM0 O_Copy_tellings hr (by decide) pass0 (pe_ix ix_tup (pv 7) pe_int (fun _ _ => rfl))) pa_nil)) (pe_op op_add (pe_callB call_len_seq (by rfl) T.f_len PySem.boot_len (pa_cons (pe_ownM0 O_Copy_tellings hr (by decide) pass0 (pv 2)) pa_nil)) pe_int) (nomark _)) (pss_one (ps_ret pe_bl)) pss_nil)))))))))))))))
      (pss_one (ps_ret pe_bl))))))), ?_⟩
    -- copies; one; data; head
    refine ⟨_, rfl, a, ns, rfl, hS, fun H1 qa p l e es T hcp tok okE => ?_⟩
    have hL : SqL K H1 qa ((List.range 3).map fun k => V.ref (p k)) := .inl (.inl hcp.li)
    obtain ⟨k, hk, ek⟩ := mod3 (ns.getD 20 0)
    refine ⟨_, rfl, _, rfl, a, ns, 20, rfl, hcp.sm.seq hS, .inl ⟨_, rfl, _, _, rfl, rfl, (by show (0 : Int) < 3; decide), qa, _, _, _, rfl, rfl, hL, by rw [ek]; exact at3 hk, ?_⟩⟩
    have hK1 := hcp.cp k hk
    have okT := tok.ok k hk
    have ndT := tok.nd k hk
    have lT := tok.len (Nat.le_refl _) hk
    have srcT : ∀ x ∈ T k, x.src ≤ 3 := fun x hx => by
      obtain ⟨j, hj, ej, _⟩ := tok.own k hk x hx
      omega
    have stT := tok.st k hk
    have s1 := hcp.sm
    generalize p k = pk at hK1
    generalize l k = lk at hK1
    generalize e k = eP at hK1
    generalize T k = ts at hK1 okT ndT lT srcT stT
    clear hcp tok hL
    refine ⟨_, rfl, pk, lk, eP, k + 1, es, ts, rfl, hK1, okE, okT, by omega, fun H2 d0 s2 n2 g2 => ?_⟩
    refine ⟨d0, _, rfl, .inl (SqL.of g2), fun d nd => ?_⟩
    have s3 : Same H2 (upd H2 d (.lst ((cat (bodies es ts)).map vN))) := same1 nd
    have s13 := s2.trans s3
    have hD3 : (upd H2 d (.lst ((cat (bodies es ts)).map vN))) d = some (.lst ((cat (bodies es ts)).map vN)) := upd_same
    generalize upd H2 d (.lst ((cat (bodies es ts)).map vN)) = H3 at s3 s13 hD3
    have hK3 := hK1.same s13
    obtain ⟨dx3, hob3⟩ := hK3.ob
    refine ⟨_, rfl, pk, dx3, _, rfl, hob3, cf_noM _ _ _ (by decide +kernel), pk, lk, eP, k + 1, es, ts, rfl, hK3, eP, es, rfl, hK3.es, okE, fun H4 p4 s4 n4 g4 => ?_⟩
    have lE := endsB_len okE
    refine ⟨p4, endsB es, rfl, g4, by omega, fun H5 p5 s5 n5 g5 => ?_⟩
    refine ⟨p5, _, rfl, .inl (SqL.of g5), ?_⟩
    have s35 := s4.trans s5
    have s05 := s1.trans (s13.trans s35)
    have hS5 := s05.seq hS
    have hD5 := s35 _ _ hD3
    have hK5 := hK3.same s35
    have hb0 : (bodies es ts)[0]? = some (endsB es) := rfl
    have p1e : psum (bodies es ts) 1 = (recB (endsB es)).length := by rw [psum_succ _ hb0, psum_zero, Nat.zero_add]
    have ehead : (((recB (endsB es)).map vN).length : Int) = ((psum (bodies es ts) 1 : Nat) : Int) := by rw [List.length_map, p1e]
    rw [show V.int (((recB (endsB es)).map vN).length : Int) = vN (psum (bodies es ts) 1) from congrArg V.int ehead]
    have bdO := bodies_ok okE okT
    have ltot : (cat (bodies es ts)).length ≤ 305 * 40 := Nat.le_trans (cat_len fun l hl => (bdO l hl).1) (Nat.mul_le_mul_left 305 (by rw [bodies_len]; omega))
    -- the cuts
    refine ⟨21, 24, rfl, ⟨by decide, by decide, by decide, by decide⟩, for_range (n := 3) (fun i σ H' => ∃ v5 v6 v7 v8 v9 v10 v11, σ = [some (.ref a), some (.ref qa), some (.ref pk), some (.ref d), some (vN (psum (bodies es ts) 1)), v5, v6, v7, v8, v9, v10, v11] ∧ Same H5 H')
      ⟨_, _, _, _, _, _, _, rfl, Same.refl _⟩ ?_ ?_⟩
    · rintro i σ H' hi ⟨v5, v6, v7, v8, v9, v10, v11, rfl, s6⟩
      have hD6 : SqL K H' d ((cat (bodies es ts)).map vN) := .inl (.inl (s6 _ _ hD5))
      refine ⟨_, rfl, _, rfl, a, ns, 21 + i, rfl, s6.seq hS5, .inl ⟨_, rfl, _, rfl, d, _, rfl, .inl hD6, _, _, rfl, rfl, _, _, rfl, rfl, ?_, ?_⟩⟩
      · show (0 : Int) < (((cat (bodies es ts)).map vN).length : Int) + 1
        omega
      generalize ns.getD (21 + i) 0 = z
      obtain ⟨cut, hcut, ecut⟩ : ∃ cut : Nat, cut ≤ (cat (bodies es ts)).length ∧ z % ((((cat (bodies es ts)).map vN).length : Int) + 1) = (cut : Int) := by
        rw [List.length_map]
        obtain ⟨h1, h2⟩ := mod_pl (i := z) (n := (cat (bodies es ts)).length + 1) (by omega)
        exact ⟨_, by omega, h2.symm⟩
      have ev : cutV ((cat (bodies es ts)).map vN) none (some (z % ((((cat (bodies es ts)).map vN).length : Int) + 1))) = ((cat (bodies es ts)).take cut).map vN := by
        rw [ecut, cut_to (by rw [List.length_map]; exact hcut), List.map_take]
      refine ⟨_, rfl, _, rfl, _, rfl, d, _, rfl, hD6, fun p7 n7 => ?_⟩
      have s7 : Same H' (upd H' p7 (.lst (cutV ((cat (bodies es ts)).map vN) none (some (z % ((((cat (bodies es ts)).map vN).length : Int) + 1)))))) := same1 n7
      refine ⟨p7, 7, cut, es, ts, rfl, .inl (.inl (by rw [upd_same]; exact congrArg (fun x => some (HO.lst x)) ev)), hcut, okE, okT, ndT, by omega, by decide, by decide, (fun hc H8 s8 => ?_), fun m hw H8 qf pf lf ef s8 npf nlf hTf hKf => ?_⟩
      · refine ⟨_, rfl, _, rfl, _, _, rfl, rfl, _, rfl, ifP (decide_eq_true ?_) ?_⟩
        · show z % ((((cat (bodies es ts)).map vN).length : Int) + 1) < ((psum (bodies es ts) 1 : Nat) : Int)
          rw [ecut]
          omega
        · exact ⟨_, rfl, 0, rfl, .inl ⟨0, rfl, _, rfl, ifN (by decide) ⟨_, _, _, _, _, _, _, rfl, s6.trans (s7.trans s8)⟩⟩⟩
      have hw2 := hw.2.1
      have hmono := psum_mono (bodies es ts) (show 1 ≤ m + 1 by omega)
      have hmlen : m ≤ ts.length := by
        have := hw.1
        rw [bodies_len] at this
        omega
      refine ⟨_, rfl, _, rfl, _, _, rfl, rfl, _, rfl, ifN (fun y => ?_) ?_⟩
      · have y2 : z % ((((cat (bodies es ts)).map vN).length : Int) + 1) < ((psum (bodies es ts) 1 : Nat) : Int) := of_decide_eq_true y
        rw [ecut] at y2
        omega
      have s58 := s6.trans (s7.trans s8)
      have npf5 : H5 pf = none := (s6.trans s7).free npf
      have nlf5 : H5 lf = none := (s6.trans s7).free nlf
      clear s6 s7 s8 hD6
      -- end, due, the loop over one's tellings
      refine ⟨_, rfl, ?_⟩
      refine ⟨by show 0 ≤ sizeLine; omega, fun dl ndl => ?_⟩
      have s9 : Same H8 (upd H8 dl (.lst [])) := same1 ndl
      have hK9 := hK5.same (s58.trans s9)
      obtain ⟨dx9, hob9⟩ := hK9.ob
      refine ⟨_, rfl, pk, dx9, _, rfl, hob9, cf_noM _ _ _ (by decide +kernel), pk, lk, eP, k + 1, es, ts, rfl, hK9, fun H10 qh us s10 n10 g10 hus => ?_⟩
      have lus : us.length = ts.length := Paired.length hus
      have s810 := s9.trans s10
      have gd10 : H10 dl = some (.lst []) := s10 _ _ upd_same
      have hqd : qh ≠ dl := fun y => by
        rw [y, upd_same] at n10
        cases n10
      refine ⟨qh, rfl, ⟨_, SqL.of g10⟩, for_list (K := K) (a := qh) (xs := us) (fun i' σ H' => ∃ j v10 v11, σ = [some (.ref a), some (.ref qa), some (.ref pk), some (.ref d), some (vN (psum (bodies es ts) 1)), some (V.int (21 + (i : Int))), some (V.int (z % ((((cat (bodies es ts)).map vN).length : Int) + 1))), some (.ref qf), some (vN (psum (bodies es ts) (j + 1))), some (.ref dl), v10, v11] ∧
          (∀ b o, b ≠ dl → H10 b = some o → H' b = some o) ∧ H' dl = some (.lst (us.take j)) ∧ j ≤ i' ∧ psum (bodies es ts) (j + 1) ≤ cut ∧ (j = i' ∨ (j < i' ∧ cut < psum (bodies es ts) (j + 2))))
        ⟨0, _, _, rfl, fun b o _ hb => hb, gd10, Nat.le_refl _, Nat.le_trans hmono hw2, .inl rfl⟩ (fun i' σ H' _ ⟨_, _, _, _, kp, _⟩ => .inl (.inl (kp _ _ hqd g10))) ?_ ?_⟩
      · rintro i' x σ H' hix ⟨j, v10, v11, rfl, kp, gd, hj1, hj2, hj3⟩
        have kt10 := Kt.but kp (.inl ⟨_, gd10⟩)
        have sN : Same H8 H' := fun b o hb => kp b o (ne_of_none hb ndl) (s810 b o hb)
        obtain ⟨t, ht, htx⟩ := paired_get hus hix
        have okt := okT t (List.mem_of_getElem? ht)
        have hx := kt10.tl htx
        have lt := tellB_len okt
        have li : i' < us.length := (List.getElem?_eq_some_iff.mp hix).1
        have hbt : (bodies es ts)[i' + 1]? = some (tellB t) := by rw [bodies_at, ht]; rfl
        have hps := psum_succ (bodies es ts) hbt
        refine ⟨_, rfl, x, t, rfl, hx, okt, fun H11 p11 s11 n11 g11 => ?_⟩
        refine ⟨p11, tellB t, rfl, g11, by omega, fun H12 p12 s12 n12 g12 => ?_⟩
        refine ⟨p12, _, rfl, .inl (SqL.of g12), ?_⟩
        have s1012 := s11.trans s12
        have gd12 := s1012 _ _ gd
        have hK12 := hK5.same (s58.trans (sN.trans s1012))
        obtain ⟨dx12, hob12⟩ := hK12.ob
        refine ⟨_, rfl, dl, _, rfl, .inl (SqL.of gd12), _, rfl, pk, dx12, _, rfl, hob12, cf_noM _ _ _ (by decide +kernel), pk, lk, eP, k + 1, es, ts, rfl, hK12, fun H13 q13 us13 s13 n13 g13 hus13 => ?_⟩
        have s1013 := s1012.trans s13
        have gd13 := s1013 _ _ gd
        have fin : ∀ H14 : Hp, (∀ b o, b ≠ dl → H13 b = some o → H14 b = some o) → ∀ b o, b ≠ dl → H10 b = some o → H14 b = some o := fun H14 k14 b o hb ho => k14 b o hb (s1013 _ _ (kp b o hb ho))
        refine ⟨.inl ⟨rfl, _, SqL.of g13⟩, _, rfl, q13, x, tlD t, ts.map tlD, i', tlD t, rfl, rfl, dp_lst (SqL.of g13) hus13, dp_tl (hx.same s1013), shaped_tls okT, shaped_tl okt, by rw [List.getElem?_map, ht]; rfl, (eqv_tl t t).mpr rfl, (fun m' z' hm' hz' => ?_), ?_⟩
        · rw [List.getElem?_map] at hz'
          obtain ⟨t', ht', rfl⟩ := Option.map_eq_some_iff.mp hz'
          refine Bool.eq_false_iff.mpr fun y => ?_
          have et := (eqv_tl t' t).mp y
          refine ndT.fresh ht t' ?_ ⟨by rw [et], by rw [et]⟩
          refine List.mem_of_getElem? (i := m') ?_
          rw [List.getElem?_take, if_pos hm']
          exact ht'
        have ltake : (us.take j).length = j := by rw [List.length_take]; omega
        refine ⟨rfl, _, rfl, ?_⟩
        by_cases hji : j = i'
        · subst hji
          refine ifP (decide_eq_true (by rw [ltake])) ?_
          refine ⟨_, rfl, _, rfl, _, _, rfl, rfl, _, rfl, _, _, rfl, rfl, _, rfl, ite2 (fun hc => ?_) (fun hc => ?_)⟩
          · have hc2 : ((psum (bodies es ts) (j + 1) : Nat) : Int) + (((recB (tellB t)).map vN).length : Int) ≤ z % ((((cat (bodies es ts)).map vN).length : Int) + 1) := of_decide_eq_true hc
            rw [ecut, List.length_map (as := recB (tellB t))] at hc2
            refine ⟨_, rfl, .inl ⟨rfl, _, SqL.of gd13⟩, _, rfl, dl, _, _, rfl, rfl, gd13, lt_line (by omega), ?_⟩
            refine ⟨_, rfl, _, rfl, _, _, rfl, rfl, ?_⟩
            refine ⟨j + 1, some x, some (V.int (((recB (tellB t)).map vN).length : Int)), ?_, fin _ fun b o hb ho => by rw [upd_ne hb]; exact ho, ?_, Nat.le_refl _, by omega, .inl rfl⟩
            · have : ((psum (bodies es ts) (j + 1) : Nat) : Int) + (((recB (tellB t)).map vN).length : Int) = ((psum (bodies es ts) (j + 1 + 1) : Nat) : Int) := by
                rw [List.length_map]
                omega
              rw [show vN (psum (bodies es ts) (j + 1 + 1)) = V.int (((psum (bodies es ts) (j + 1) : Nat) : Int) + (((recB (tellB t)).map vN).length : Int)) from congrArg V.int this.symm]
              rfl
            · rw [upd_same, List.take_add_one, hix]
              rfl
          · have hc2 : ¬ (((psum (bodies es ts) (j + 1) : Nat) : Int) + (((recB (tellB t)).map vN).length : Int) ≤ z % ((((cat (bodies es ts)).map vN).length : Int) + 1)) := fun y => hc (decide_eq_true y)
            rw [ecut, List.length_map (as := recB (tellB t))] at hc2
            exact ⟨j, _, _, rfl, fin _ fun b o hb ho => ho, gd13, by omega, hj2, .inr ⟨by omega, show cut < psum (bodies es ts) (j + 1 + 1) by omega⟩⟩
        · refine ifN (fun y => ?_) ?_
          · have y2 := of_decide_eq_true y
            injection y2 with y3
            omega
          · refine iteF ⟨j, _, _, rfl, fin _ fun b o hb ho => ho, gd13, by omega, hj2, .inr ⟨by omega, ?_⟩⟩
            rcases hj3 with y | y
            · exact absurd y hji
            · exact y.2
      rintro σ H' ⟨j, v10, v11, rfl, kp, gd, hj1, hj2, hj3⟩
      have ejm : j = m := by
        have : Whole (bodies es ts) cut (j + 1) := by
          refine ⟨by rw [bodies_len]; omega, hj2, ?_⟩
          rw [bodies_len]
          rcases hj3 with y | y
          · exact .inl (by omega)
          · exact .inr y.2
        have := this.uniq hw
        omega
      subst ejm
      have kt10 := Kt.but kp (.inl ⟨_, gd10⟩)
      have sN : Same H8 H' := fun b o hb => kp b o (ne_of_none hb ndl) (s810 b o hb)
      have hdue : TlsAt K H' (us.take j) (ts.take j) := kt10.tls (paired_take j hus)
      have s5N := s58.trans sN
      have hTf' := same_tup sN hTf
      have hKf' := hKf.same sN
      clear hj1 hj3 kp hus gd10 hqd s810 s9 hK9 hob9 g10 n10 s10
      have okM : ∀ t ∈ ts.take j, TlOk t := fun t ht => okT t (List.mem_of_mem_take ht)
      obtain ⟨dxf, hobf⟩ := hKf'.ob
      -- found == 0 or ..
      refine ⟨_, rfl, 0, rfl, .inr ⟨qf, _, rfl, hTf', _, rfl, ifN (by decide) ?_⟩⟩
      refine ⟨_, rfl, qf, _, _, _, rfl, rfl, hTf', rfl, _, rfl, rfl, _, rfl, ifN (by simp) ?_⟩
      refine ⟨_, rfl, qf, _, _, _, rfl, rfl, hTf', rfl, pf, dxf, _, rfl, hobf, cf_noM _ _ _ (by decide +kernel), pf, lf, ef, 7, es, ts.take j, rfl, hKf', fun H9 q9 us9 s9 n9 g9 hus9 => ?_⟩
      refine ⟨_, rfl, .list ((ts.take j).map tlD), .list ((ts.take j).map tlD), dp_lst (SqL.of g9) hus9, dp_lst (SqL.of (s9 _ _ gd)) (TlsAt.same s9 hdue), shaped_tls okM, shaped_tls okM, _, rfl, ifN (by rw [eqv_list.mpr rfl]; decide) ?_⟩
      have hTf9 := same_tup s9 hTf'
      have hKf9 := hKf'.same s9
      have s59 := s5N.trans s9
      have hK9 := hK5.same s59
      obtain ⟨dxf9, hobf9⟩ := hKf9.ob
      obtain ⟨dxk9, hobk9⟩ := hK9.ob
      -- source, endings
      refine ⟨_, rfl, qf, _, _, _, rfl, rfl, hTf9, rfl, pf, dxf9, _, rfl, hobf9, cf_noM _ _ _ (by decide +kernel), pf, lf, ef, 7, es, ts.take j, rfl, hKf9, rfl, _, rfl, ifN (by decide) ?_⟩
      refine ⟨_, rfl, qf, _, _, _, rfl, rfl, hTf9, rfl, pf, dxf9, _, rfl, hobf9, cf_noM _ _ _ (by decide +kernel), pf, lf, ef, 7, es, ts.take j, rfl, hKf9, _, rfl, pk, dxk9, _, rfl, hobk9, cf_noM _ _ _ (by decide +kernel), pk, lk, eP, k + 1, es, ts, rfl, hK9, esD es, esD es, dp_es hKf9.es, dp_es hK9.es, shaped_es okE, shaped_es okE, _, rfl, ifN (by rw [eqv_es]; decide) ?_⟩
      -- found[0].tell
      refine ⟨_, rfl, qf, _, _, _, rfl, rfl, hTf9, rfl, pf, dxf9, _, rfl, hobf9, cf_noM _ _ _ (by decide +kernel), pf, lf, ef, 7, es, ts.take j, late, rfl, hKf9, okM, by rw [List.length_take]; omega, late_ok, fun H10 v t k10 hK10 e1 e2 e3 e4 e5 => ?_⟩
      have okt : TlOk t := by
        have hst : t.st ≤ 13 := by
          rcases e5 with y | ⟨t', y1, y2⟩
          · omega
          · have := stT t' (List.mem_of_mem_take y1)
            omega
        exact ⟨e3, by omega, by omega, by omega, by rw [e2]; exact late_ok⟩
      have s510 : Same H5 H10 := fun b o hb => k10 b o (ne_of_none hb nlf5) (s59 _ _ hb)
      have hTf10 := (Kt.but k10 (.inl hKf9.lst)).tup hTf9
      have hKk10 := hK5.same s510
      obtain ⟨dx10, hob10⟩ := hK10.ob
      have ok10 : ∀ x ∈ ts.take j ++ [t], TlOk x := fun x hx => by
        rcases List.mem_append.mp hx with hx | hx
        · exact okM x hx
        · have : x = t := by simpa using hx
          rw [this]
          exact okt
      have same10 : ∀ x ∈ ts.take j ++ [t], ∀ y ∈ ts, x.st = y.st → x.src = y.src → x = y := fun x hx y hy h1 h2 => by
        rcases List.mem_append.mp hx with hx | hx
        · exact ndT.eq (List.mem_of_mem_take hx) hy ⟨h1, h2⟩
        · have : x = t := by simpa using hx
          have := srcT y hy
          rw [‹x = t›, e1] at h2
          omega
      -- merge
      refine ⟨_, rfl, qf, _, _, _, rfl, rfl, hTf10, rfl, pf, dx10, _, rfl, hob10, cf_noM _ _ _ (by decide +kernel), _, rfl, pf, lf, ef, 7, pk, lk, eP, k + 1, es, ts.take j ++ [t], ts, rfl, hK10, hKk10, okE, ok10, okT, same10, by rw [List.length_append, List.length_take, List.length_singleton]; omega, fun H11 l11 tsp v11 k11 nl11 hp hK11 => ?_⟩
      have s511 : Same H5 H11 := fun b o hb => k11 b o (ne_of_none hb npf5) (s510 _ _ hb)
      have hTf11 := (Kt.but k11 (.inr hK10.ins)).tup hTf10
      have hKk11 := hK5.same s511
      have hmem := end_mem same10 hp
      have hlen := end_len (m := j) ndT srcT e1 hp hmlen
      have ok11 : ∀ x ∈ ts.take j ++ [t] ++ newOf (ts.take j ++ [t]) tsp, TlOk x := fun x hx => by
        rcases List.mem_append.mp hx with hx | hx
        · exact ok10 x hx
        · exact okT x (hp.mem_iff.mp (newOf_mem hx))
      generalize ts.take j ++ [t] ++ newOf (ts.take j ++ [t]) tsp = tf at hK11 hmem hlen ok11
      obtain ⟨dxk11, hobk11⟩ := hKk11.ob
      -- the list of what is lacking
      refine ⟨_, rfl, pk, dxk11, _, rfl, hobk11, cf_noM _ _ _ (by decide +kernel), pk, lk, eP, k + 1, es, ts, rfl, hKk11, fun H12 q12 us12 ts12 s12 n12 g12 hp12 hus12 => ?_⟩
      refine ⟨q12, rfl, ⟨_, SqL.of g12⟩, fun D hD => lc_list (K := K) (a := q12) (xs := us12) (fun i' H13 => Same H12 H13 ∧ H13 D = some (.lst [])) ⟨same1 hD, upd_same⟩ (fun i' H13 _ ⟨s13, _⟩ => .inl (.inl (s13 _ _ g12))) ?_ ?_⟩
      · rintro i' x H13 hix ⟨s13, gD⟩
        obtain ⟨y, hy, hyx⟩ := paired_get hus12 hix
        have hyt : y ∈ ts := hp12.mem_iff.mp (List.mem_of_getElem? hy)
        have hK13 := hK11.same (s12.trans s13)
        obtain ⟨dx13, hob13⟩ := hK13.ob
        refine ⟨rfl, ?_⟩
        refine ⟨_, rfl, _, rfl, qf, _, _, _, rfl, rfl, same_tup (s12.trans s13) hTf11, rfl, pf, dx13, _, rfl, hob13, cf_noM _ _ _ (by decide +kernel), pf, l11, ef, 7, es, tf, rfl, hK13, fun H14 q14 us14 ts14 s14 n14 g14 hp14 hus14 => ?_⟩
        refine ⟨tlD y, ts14.map tlD, dp_tl (hyx.same (s13.trans s14)), dp_lst (SqL.of g14) hus14, shaped_tl (okT y hyt), shaped_tls (fun z hz => ok11 z (hp14.mem_iff.mp hz)), _, rfl, ?_⟩
        have hany : ((ts14.map tlD).any fun z => PyData.eqv z (tlD y)) = true := List.any_eq_true.mpr ⟨tlD y, List.mem_map.mpr ⟨y, hp14.mem_iff.mpr (hmem y hyt), rfl⟩, (eqv_tl y y).mpr rfl⟩
        refine ifN (by rw [hany]; decide) ⟨s13.trans s14, s14 _ _ gD⟩
      rintro H13 ⟨s13, gD⟩
      refine ⟨by show 0 ≤ sizeLine; omega, fun p15 n15 => ?_⟩
      have s15 : Same H13 (upd H13 p15 (.lst [])) := same1 n15
      have sh0 : SeqAt.shaped (.list []) = true := shaped_tls (ts := []) fun t h => by cases h
      refine ⟨.list [], .list [], .lst (SqL.of (s15 _ _ gD)) .nil, .lst (SqL.of upd_same) .nil, sh0, sh0, _, rfl, ifN (by simp [PyData.eqv, PyData.eqvAll]) ?_⟩
      -- the counts
      have s1115 := s12.trans (s13.trans s15)
      have hK15 := hK11.same s1115
      obtain ⟨dx15, hob15⟩ := hK15.ob
      refine ⟨_, rfl, qf, _, _, _, rfl, rfl, same_tup s1115 hTf11, rfl, pf, dx15, _, rfl, hob15, cf_noM _ _ _ (by decide +kernel), pf, l11, ef, 7, es, tf, rfl, hK15, fun H16 q16 us16 ts16 s16 n16 g16 hp16 hus16 => ?_⟩
      have hKk16 := hKk11.same (s1115.trans s16)
      obtain ⟨dx16, hob16⟩ := hKk16.ob
      refine ⟨q16, _, rfl, .inl (SqL.of g16), _, rfl, pk, dx16, _, rfl, hob16, cf_noM _ _ _ (by decide +kernel), pk, lk, eP, k + 1, es, ts, rfl, hKk16, fun H17 q17 us17 ts17 s17 n17 g17 hp17 hus17 => ?_⟩
      have l16 : us16.length = ts.length + 1 := by rw [Paired.length hus16, hp16.length_eq, hlen]
      have l17 : us17.length = ts.length := by rw [Paired.length hus17, hp17.length_eq]
      refine ⟨q17, _, rfl, .inl (SqL.of g17), _, _, rfl, rfl, rfl, _, rfl, ifN (fun y => ?_) ?_⟩
      · have : decide (V.int (us16.length : Int) = V.int ((us17.length : Int) + 1)) = true := decide_eq_true (by rw [l16, l17]; rfl)
        have y2 : (!decide (V.int (us16.length : Int) = V.int ((us17.length : Int) + 1))) = true := y
        rw [this] at y2
        cases y2
      · exact ⟨_, _, _, _, _, _, _, rfl, s511.trans (s1115.trans (s16.trans s17))⟩
    · rintro σ H' ⟨v5, v6, v7, v8, v9, v10, v11, rfl, s6⟩
      exact q H'
end
end Ts
namespace Ts
open PySem PySem.Spec PyProof.Rows L2
theorem to_fun {K : PySem.W.Frag} {x qual : Str} {st : Stmt} {f : Addr} {fd : FuncData} (F : FunD K x qual (defArgs st) (defBody st) (defScope st) [] [] f fd) : Fun K x qual st f fd := by
  obtain ⟨⟨oc, od, dV, kV, doc, pm, an, cdv, ct, osl, e, lk, hcd, hD, _⟩, kp⟩ := F
  rcases hD with ⟨_, rfl⟩ | ⟨z, _⟩
  · exact ⟨⟨oc, od, kV, doc, pm, an, cdv, ct, osl, e, lk, hcd⟩, kp⟩
  · exact absurd rfl z
theorem facts {w : World} {K : PySem.W.Frag} {h : Heap} {mg : Str → Option Value} {f : Addr} (X : K.In h) (G : h.Ns mainGlobals mg) (hfa : mg ("law" : Str) = some (.ref f)) (c : SaysX fileX fa fn K) :
    ∃ fd : FuncData, (∀ (s : Shared) (v : Value), BindsTo s fd ⟨[v], []⟩ [("_law_script", v)]) ∧ ∀ base : Heap, K.In base → base.Ns mainGlobals mg → FnOk PySem.Challenge.rw_timeshelf_k50_whole_files_cut_anywhere.prog w K mg base CX0 9 f fd ["_law_script"] (spLaw K) := by
  have cd := c.d
  have TI := ib_txt (P := PySem.Challenge.rw_timeshelf_k50_whole_files_cut_anywhere.prog) X G (cd.fact 43 (f := .glo "InvalidBytes") rfl) (cd.fact 46 (f := .free "super") rfl) c.f c.b (by kernel_rfl)
  have T : Txt mg := {
    f_len := He.free_ok X G (cd.fact 47 (f := .free "len") rfl)
    f_int := He.free_ok X G (cd.fact 48 (f := .free "int") rfl)
    f_ord := He.free_ok X G (cd.fact 49 (f := .free "ord") rfl)
    f_max := He.free_ok X G (cd.fact 50 (f := .free "max") rfl)
    f_all := He.free_ok X G (cd.fact 51 (f := .free "all") rfl)
    f_isinstance := He.free_ok X G (cd.fact 52 (f := .free "isinstance") rfl)
    f_str := He.free_ok X G (cd.fact 53 (f := .free "str") rfl)
    f_bool := He.free_ok X G (cd.fact 54 (f := .free "bool") rfl)
    f_list := He.free_ok X G (cd.fact 55 (f := .free "list") rfl)
    f_tuple := He.free_ok X G (cd.fact 56 (f := .free "tuple") rfl)
    f_sorted := He.free_ok X G (cd.fact 57 (f := .free "sorted") rfl)
    f_range := He.free_ok X G (cd.fact 58 (f := .free "range") rfl)
    g_MOST_TIME := He.int_ok X G (cd.fact 59 (f := .int "MOST_TIME" 100000) rfl)
    g_MOST_KEY := He.int_ok X G (cd.fact 60 (f := .int "MOST_KEY" 8) rfl)
    g_MOST_TEXT := He.int_ok X G (cd.fact 61 (f := .int "MOST_TEXT" 400) rfl)
    g_MOST_CHANGES_shelves := He.int_ok X G (cd.fact 62 (f := .int "MOST_CHANGES_shelves" 80) rfl)
    g_MOST_KEYS_shelves := He.int_ok X G (cd.fact 63 (f := .int "MOST_KEYS_shelves" 12) rfl)
    g_MOST_CHANGES_merging := He.int_ok X G (cd.fact 64 (f := .int "MOST_CHANGES_merging" 80) rfl)
    g_MOST_KEYS_merging := He.int_ok X G (cd.fact 65 (f := .int "MOST_KEYS_merging" 12) rfl)
    g_MOST_SOURCES := He.int_ok X G (cd.fact 66 (f := .int "MOST_SOURCES" 9) rfl)
    g_MODULUS := He.int_ok X G (cd.fact 67 (f := .int "MODULUS" 65521) rfl)
    g_SMALLS := He.str_ok X G (cd.fact 68 (f := .str "SMALLS" "abcdefghijklmnopqrstuvwxyz") rfl)
    g_DIGITS := He.str_ok X G (cd.fact 69 (f := .str "DIGITS" "0123456789") rfl)
    g_PRINTED := He.str_ok X G (cd.fact 70 (f := .str "PRINTED" " !\"#$ &'()*+,-./0123456789:;<=>?@ABCDEFGHIJKLMNOPQRSTUVWXYZ[\\]^_`abcdefghijklmnopqrstuvwxyz{|}~") rfl)
    g_SIGNS := He.str_ok X G (cd.fact 71 (f := .str "SIGNS" "abcdefghijklmnopqrstuvwxyz0123456789") rfl) }
  have L : Cl K (He.ga K "Copy") (He.ga K "Shelf") := { cC := He.cls_ok (cd.fact 73 (f := .cls "Copy") rfl), cOwn := He.noat_ok (cd.fact 78 (f := .noat "Copy" "own") rfl), cCuts := He.noat_ok (cd.fact 79 (f := .noat "Copy" "cuts") rfl), cAll := He.noat_ok (cd.fact 80 (f := .noat "Copy" "all") rfl), sC := He.cls_ok (cd.fact 72 (f := .cls "Shelf") rfl), sEnd := He.noat_ok (cd.fact 76 (f := .noat "Shelf" "_endings") rfl), sChg := He.noat_ok (cd.fact 77 (f := .noat "Shelf" "_changes") rfl) }
  obtain ⟨fd_order_key, D_order_key⟩ := cd.def_ 10 (d := d_order_key) rfl
  have OK : OKey K mg (He.ga K "order_key") := ⟨He.glo_ok X G (cd.fact 7 (f := .glo "order_key") rfl), fd_order_key, to_fun (st := s_order_key) D_order_key⟩
  obtain ⟨fd_number_bytes, D_number_bytes⟩ := cd.def_ 21 (d := d_number_bytes) rfl
  obtain ⟨fd_sum_of, D_sum_of⟩ := cd.def_ 20 (d := d_sum_of) rfl
  obtain ⟨fd_text_bytes, D_text_bytes⟩ := cd.def_ 22 (d := d_text_bytes) rfl
  obtain ⟨fd_record_of, D_record_of⟩ := cd.def_ 26 (d := d_record_of) rfl
  obtain ⟨fd_telling_bytes, D_telling_bytes⟩ := cd.def_ 28 (d := d_telling_bytes) rfl
  obtain ⟨fd_Copy_endings, D_Copy_endings⟩ := cd.def_ 13 (d := d_Copy_endings) rfl
  obtain ⟨fd_Copy_held, D_Copy_held⟩ := cd.def_ 15 (d := d_Copy_held) rfl
  obtain ⟨fd_file_of, D_file_of⟩ := cd.def_ 29 (d := d_file_of) rfl
  obtain ⟨fd__law_number, D__law_number⟩ := cd.def_ 45 (d := d__law_number) rfl
  obtain ⟨fd__law_check, D__law_check⟩ := cd.def_ 46 (d := d__law_check) rfl
  obtain ⟨fd__law_record, D__law_record⟩ := cd.def_ 47 (d := d__law_record) rfl
  obtain ⟨fd__law_string_bytes, D__law_string_bytes⟩ := cd.def_ 48 (d := d__law_string_bytes) rfl
  obtain ⟨fd__law_telling_bytes, D__law_telling_bytes⟩ := cd.def_ 49 (d := d__law_telling_bytes) rfl
  obtain ⟨fd__law_ending_bytes, D__law_ending_bytes⟩ := cd.def_ 50 (d := d__law_ending_bytes) rfl
  obtain ⟨fd_read_number, D_read_number⟩ := cd.def_ 23 (d := d_read_number) rfl
  obtain ⟨fd_char_of, D_char_of⟩ := cd.def_ 24 (d := d_char_of) rfl
  obtain ⟨fd_read_text, D_read_text⟩ := cd.def_ 25 (d := d_read_text) rfl
  obtain ⟨fd_read_record, D_read_record⟩ := cd.def_ 27 (d := d_read_record) rfl
  obtain ⟨fd_is_ending, D_is_ending⟩ := cd.def_ 30 (d := d_is_ending) rfl
  obtain ⟨fd_read_endings, D_read_endings⟩ := cd.def_ 31 (d := d_read_endings) rfl
  obtain ⟨fd_read_numbers, D_read_numbers⟩ := cd.def_ 32 (d := d_read_numbers) rfl
  obtain ⟨fd_read_change_text, D_read_change_text⟩ := cd.def_ 33 (d := d_read_change_text) rfl
  obtain ⟨fd__is_key, D__is_key⟩ := cd.def_ 0 (d := d__is_key) rfl
  obtain ⟨fd__is_text, D__is_text⟩ := cd.def_ 1 (d := d__is_text) rfl
  obtain ⟨fd_check_change, D_check_change⟩ := cd.def_ 2 (d := d_check_change) rfl
  obtain ⟨fd_Shelf___init__, D_Shelf___init__⟩ := cd.def_ 3 (d := d_Shelf___init__) rfl
  obtain ⟨fd_Shelf_known_keys, D_Shelf_known_keys⟩ := cd.def_ 4 (d := d_Shelf_known_keys) rfl
  obtain ⟨fd_Shelf_tell, D_Shelf_tell⟩ := cd.def_ 5 (d := d_Shelf_tell) rfl
  obtain ⟨fd_shelf_of, D_shelf_of⟩ := cd.def_ 6 (d := d_shelf_of) rfl
  obtain ⟨fd_keys_of, D_keys_of⟩ := cd.def_ 7 (d := d_keys_of) rfl
  obtain ⟨fd_stamps_of, D_stamps_of⟩ := cd.def_ 8 (d := d_stamps_of) rfl
  obtain ⟨fd_in_order, D_in_order⟩ := cd.def_ 9 (d := d_in_order) rfl
  obtain ⟨fd_Copy___init__, D_Copy___init__⟩ := cd.def_ 11 (d := d_Copy___init__) rfl
  obtain ⟨fd_Copy_source, D_Copy_source⟩ := cd.def_ 12 (d := d_Copy_source) rfl
  obtain ⟨fd_Copy_tellings, D_Copy_tellings⟩ := cd.def_ 14 (d := d_Copy_tellings) rfl
  obtain ⟨fd_Copy_shelf, D_Copy_shelf⟩ := cd.def_ 16 (d := d_Copy_shelf) rfl
  obtain ⟨fd_Copy_hold, D_Copy_hold⟩ := cd.def_ 17 (d := d_Copy_hold) rfl
  obtain ⟨fd_Copy_tell, D_Copy_tell⟩ := cd.def_ 18 (d := d_Copy_tell) rfl
  obtain ⟨fd_Copy_merge, D_Copy_merge⟩ := cd.def_ 19 (d := d_Copy_merge) rfl
  obtain ⟨fd_read_telling, D_read_telling⟩ := cd.def_ 34 (d := d_read_telling) rfl
  obtain ⟨fd_can_follow, D_can_follow⟩ := cd.def_ 35 (d := d_can_follow) rfl
  obtain ⟨fd_opened, D_opened⟩ := cd.def_ 36 (d := d_opened) rfl
  obtain ⟨fd__law_cell, D__law_cell⟩ := cd.def_ 37 (d := d__law_cell) rfl
  obtain ⟨fd__law_digits, D__law_digits⟩ := cd.def_ 38 (d := d__law_digits) rfl
  obtain ⟨fd__law_padded, D__law_padded⟩ := cd.def_ 39 (d := d__law_padded) rfl
  obtain ⟨fd__law_text, D__law_text⟩ := cd.def_ 40 (d := d__law_text) rfl
  obtain ⟨fd__law_endings, D__law_endings⟩ := cd.def_ 41 (d := d__law_endings) rfl
  obtain ⟨fd__law_change, D__law_change⟩ := cd.def_ 42 (d := d__law_change) rfl
  obtain ⟨fd__law_tell, D__law_tell⟩ := cd.def_ 43 (d := d__law_tell) rfl
  obtain ⟨fd__law_opened, D__law_opened⟩ := cd.def_ 51 (d := d__law_opened) rfl
  obtain ⟨fd__law_copies, D__law_copies⟩ := cd.def_ 44 (d := d__law_copies) rfl
  obtain ⟨fd_law, D_law⟩ := cd.def_ 52 (d := d_law) rfl
  have e := hfa.symm.trans (He.glo_ok X G (cd.fact 40 (f := .glo "law") rfl))
  cases e
  have b_law := FunD.bindsA (ps := ["_law_script"]) D_law fun _ _ _ _ _ _ us hl => match us, hl with | [_], _ => rfl
  refine ⟨fd_law, fun s v => b_law s [v] rfl, fun base _ _ => ?_⟩
  have G_number_bytes := ok_number_bytes (P := PySem.Challenge.rw_timeshelf_k50_whole_files_cut_anywhere.prog) (w := w) (mg := mg) (base := base) (to_fun (st := s_number_bytes) D_number_bytes) T
  have b_number_bytes : Binds K fd_number_bytes ["n"] [] := D_number_bytes.bindsN fun _ _ _ _ _ _ us hl => match us, hl with | [_], _ => rfl
  have O_number_bytes : Own _ w K mg base CX0 1 "number_bytes" ["n"] _ := ⟨_, fd_number_bytes, He.glo_ok X G (cd.fact 9 (f := .glo "number_bytes") rfl), D_number_bytes.kp, b_number_bytes, G_number_bytes⟩
  have G_sum_of := ok_sum_of (P := PySem.Challenge.rw_timeshelf_k50_whole_files_cut_anywhere.prog) (w := w) (mg := mg) (base := base) (to_fun (st := s_sum_of) D_sum_of) T
  have b_sum_of : Binds K fd_sum_of ["row", "modulus"] [] := D_sum_of.bindsN fun _ _ _ _ _ _ us hl => match us, hl with | [_, _], _ => rfl
  have O_sum_of : Own _ w K mg base CX0 1 "sum_of" ["row", "modulus"] _ := ⟨_, fd_sum_of, He.glo_ok X G (cd.fact 8 (f := .glo "sum_of") rfl), D_sum_of.kp, b_sum_of, G_sum_of⟩
  have G_text_bytes := ok_text_bytes (P := PySem.Challenge.rw_timeshelf_k50_whole_files_cut_anywhere.prog) (w := w) (mg := mg) (base := base) (to_fun (st := s_text_bytes) D_text_bytes) T O_number_bytes
  have b_text_bytes : Binds K fd_text_bytes ["text"] [] := D_text_bytes.bindsN fun _ _ _ _ _ _ us hl => match us, hl with | [_], _ => rfl
  have O_text_bytes : Own _ w K mg base CX0 2 "text_bytes" ["text"] _ := ⟨_, fd_text_bytes, He.glo_ok X G (cd.fact 10 (f := .glo "text_bytes") rfl), D_text_bytes.kp, b_text_bytes, G_text_bytes⟩
  have G_record_of := ok_record_of (P := PySem.Challenge.rw_timeshelf_k50_whole_files_cut_anywhere.prog) (w := w) (mg := mg) (base := base) (to_fun (st := s_record_of) D_record_of) T O_number_bytes O_sum_of
  have b_record_of : Binds K fd_record_of ["body"] [] := D_record_of.bindsN fun _ _ _ _ _ _ us hl => match us, hl with | [_], _ => rfl
  have O_record_of : Own _ w K mg base CX0 2 "record_of" ["body"] _ := ⟨_, fd_record_of, He.glo_ok X G (cd.fact 14 (f := .glo "record_of") rfl), D_record_of.kp, b_record_of, G_record_of⟩
  have G_telling_bytes := ok_telling_bytes (P := PySem.Challenge.rw_timeshelf_k50_whole_files_cut_anywhere.prog) (w := w) (mg := mg) (base := base) (to_fun (st := s_telling_bytes) D_telling_bytes) T O_number_bytes O_text_bytes
  have b_telling_bytes : Binds K fd_telling_bytes ["telling"] [] := D_telling_bytes.bindsN fun _ _ _ _ _ _ us hl => match us, hl with | [_], _ => rfl
  have O_telling_bytes : Own _ w K mg base CX0 3 "telling_bytes" ["telling"] _ := ⟨_, fd_telling_bytes, He.glo_ok X G (cd.fact 16 (f := .glo "telling_bytes") rfl), D_telling_bytes.kp, b_telling_bytes, G_telling_bytes⟩
  have G_Copy_endings := ok_Copy_endings (P := PySem.Challenge.rw_timeshelf_k50_whole_files_cut_anywhere.prog) (w := w) (mg := mg) (base := base) (to_fun (st := s_Copy_endings) D_Copy_endings) L
  have b_Copy_endings : Binds K fd_Copy_endings ["self"] [] := D_Copy_endings.bindsN fun _ _ _ _ _ _ us hl => match us, hl with | [_], _ => rfl
  have O_Copy_endings : OwnM _ w K mg base CX0 (He.ga K "Copy") 1 "endings" ["self"] _ := ⟨L.cC, _, fd_Copy_endings, He.meth_ok (cd.fact 84 (f := .meth "Copy" "endings") rfl), b_Copy_endings, G_Copy_endings⟩
  have G_Copy_held := ok_Copy_held (P := PySem.Challenge.rw_timeshelf_k50_whole_files_cut_anywhere.prog) (w := w) (mg := mg) (base := base) (to_fun (st := s_Copy_held) D_Copy_held) T L
  have b_Copy_held : Binds K fd_Copy_held ["self"] [] := D_Copy_held.bindsN fun _ _ _ _ _ _ us hl => match us, hl with | [_], _ => rfl
  have O_Copy_held : OwnM _ w K mg base CX0 (He.ga K "Copy") 1 "held" ["self"] _ := ⟨L.cC, _, fd_Copy_held, He.meth_ok (cd.fact 86 (f := .meth "Copy" "held") rfl), b_Copy_held, G_Copy_held⟩
  have G_file_of := ok_file_of (P := PySem.Challenge.rw_timeshelf_k50_whole_files_cut_anywhere.prog) (w := w) (mg := mg) (base := base) (to_fun (st := s_file_of) D_file_of) T O_number_bytes O_text_bytes O_record_of O_telling_bytes O_Copy_endings O_Copy_held
  have b_file_of : Binds K fd_file_of ["copy"] [] := D_file_of.bindsN fun _ _ _ _ _ _ us hl => match us, hl with | [_], _ => rfl
  have O_file_of : Own _ w K mg base CX0 4 "file_of" ["copy"] _ := ⟨_, fd_file_of, He.glo_ok X G (cd.fact 17 (f := .glo "file_of") rfl), D_file_of.kp, b_file_of, G_file_of⟩
  have G__law_number := ok__law_number (P := PySem.Challenge.rw_timeshelf_k50_whole_files_cut_anywhere.prog) (w := w) (mg := mg) (base := base) (to_fun (st := s__law_number) D__law_number) T
  have b__law_number : Binds K fd__law_number ["_law_n"] [] := D__law_number.bindsN fun _ _ _ _ _ _ us hl => match us, hl with | [_], _ => rfl
  have O__law_number : Own _ w K mg base CX0 1 "_law_number" ["_law_n"] _ := ⟨_, fd__law_number, He.glo_ok X G (cd.fact 33 (f := .glo "_law_number") rfl), D__law_number.kp, b__law_number, G__law_number⟩
  have G__law_check := ok__law_check (P := PySem.Challenge.rw_timeshelf_k50_whole_files_cut_anywhere.prog) (w := w) (mg := mg) (base := base) (to_fun (st := s__law_check) D__law_check) T
  have b__law_check : Binds K fd__law_check ["_law_data"] [] := D__law_check.bindsN fun _ _ _ _ _ _ us hl => match us, hl with | [_], _ => rfl
  have O__law_check : Own _ w K mg base CX0 1 "_law_check" ["_law_data"] _ := ⟨_, fd__law_check, He.glo_ok X G (cd.fact 34 (f := .glo "_law_check") rfl), D__law_check.kp, b__law_check, G__law_check⟩
  have G__law_record := ok__law_record (P := PySem.Challenge.rw_timeshelf_k50_whole_files_cut_anywhere.prog) (w := w) (mg := mg) (base := base) (to_fun (st := s__law_record) D__law_record) T O__law_number O__law_check
  have b__law_record : Binds K fd__law_record ["_law_body"] [] := D__law_record.bindsN fun _ _ _ _ _ _ us hl => match us, hl with | [_], _ => rfl
  have O__law_record : Own _ w K mg base CX0 2 "_law_record" ["_law_body"] _ := ⟨_, fd__law_record, He.glo_ok X G (cd.fact 35 (f := .glo "_law_record") rfl), D__law_record.kp, b__law_record, G__law_record⟩
  have G__law_string_bytes := ok__law_string_bytes (P := PySem.Challenge.rw_timeshelf_k50_whole_files_cut_anywhere.prog) (w := w) (mg := mg) (base := base) (to_fun (st := s__law_string_bytes) D__law_string_bytes) T O__law_number
  have b__law_string_bytes : Binds K fd__law_string_bytes ["_law_text_here"] [] := D__law_string_bytes.bindsN fun _ _ _ _ _ _ us hl => match us, hl with | [_], _ => rfl
  have O__law_string_bytes : Own _ w K mg base CX0 2 "_law_string_bytes" ["_law_text_here"] _ := ⟨_, fd__law_string_bytes, He.glo_ok X G (cd.fact 36 (f := .glo "_law_string_bytes") rfl), D__law_string_bytes.kp, b__law_string_bytes, G__law_string_bytes⟩
  have G__law_telling_bytes := ok__law_telling_bytes (P := PySem.Challenge.rw_timeshelf_k50_whole_files_cut_anywhere.prog) (w := w) (mg := mg) (base := base) (to_fun (st := s__law_telling_bytes) D__law_telling_bytes) T O__law_number O__law_string_bytes
  have b__law_telling_bytes : Binds K fd__law_telling_bytes ["_law_telling"] [] := D__law_telling_bytes.bindsN fun _ _ _ _ _ _ us hl => match us, hl with | [_], _ => rfl
  have O__law_telling_bytes : Own _ w K mg base CX0 3 "_law_telling_bytes" ["_law_telling"] _ := ⟨_, fd__law_telling_bytes, He.glo_ok X G (cd.fact 37 (f := .glo "_law_telling_bytes") rfl), D__law_telling_bytes.kp, b__law_telling_bytes, G__law_telling_bytes⟩
  have G__law_ending_bytes := ok__law_ending_bytes (P := PySem.Challenge.rw_timeshelf_k50_whole_files_cut_anywhere.prog) (w := w) (mg := mg) (base := base) (to_fun (st := s__law_ending_bytes) D__law_ending_bytes) T O__law_number O__law_string_bytes
  have b__law_ending_bytes : Binds K fd__law_ending_bytes ["_law_endings_here"] [] := D__law_ending_bytes.bindsN fun _ _ _ _ _ _ us hl => match us, hl with | [_], _ => rfl
  have O__law_ending_bytes : Own _ w K mg base CX0 3 "_law_ending_bytes" ["_law_endings_here"] _ := ⟨_, fd__law_ending_bytes, He.glo_ok X G (cd.fact 38 (f := .glo "_law_ending_bytes") rfl), D__law_ending_bytes.kp, b__law_ending_bytes, G__law_ending_bytes⟩
  have G_read_number := ok_read_number (P := PySem.Challenge.rw_timeshelf_k50_whole_files_cut_anywhere.prog) (w := w) (mg := mg) (base := base) (to_fun (st := s_read_number) D_read_number) T
  have b_read_number : Binds K fd_read_number ["data", "at"] [] := D_read_number.bindsN fun _ _ _ _ _ _ us hl => match us, hl with | [_, _], _ => rfl
  have O_read_number : Own _ w K mg base CX0 1 "read_number" ["data", "at"] _ := ⟨_, fd_read_number, He.glo_ok X G (cd.fact 11 (f := .glo "read_number") rfl), D_read_number.kp, b_read_number, G_read_number⟩
  have G_char_of := ok_char_of (P := PySem.Challenge.rw_timeshelf_k50_whole_files_cut_anywhere.prog) (w := w) (mg := mg) (base := base) (to_fun (st := s_char_of) D_char_of) T
  have b_char_of : Binds K fd_char_of ["code"] [] := D_char_of.bindsN fun _ _ _ _ _ _ us hl => match us, hl with | [_], _ => rfl
  have O_char_of : Own _ w K mg base CX0 1 "char_of" ["code"] _ := ⟨_, fd_char_of, He.glo_ok X G (cd.fact 12 (f := .glo "char_of") rfl), D_char_of.kp, b_char_of, G_char_of⟩
  have G_read_text := ok_read_text (P := PySem.Challenge.rw_timeshelf_k50_whole_files_cut_anywhere.prog) (w := w) (mg := mg) (base := base) (to_fun (st := s_read_text) D_read_text) T O_read_number O_char_of
  have b_read_text : Binds K fd_read_text ["data", "at"] [] := D_read_text.bindsN fun _ _ _ _ _ _ us hl => match us, hl with | [_, _], _ => rfl
  have O_read_text : Own _ w K mg base CX0 2 "read_text" ["data", "at"] _ := ⟨_, fd_read_text, He.glo_ok X G (cd.fact 13 (f := .glo "read_text") rfl), D_read_text.kp, b_read_text, G_read_text⟩
  have G_read_record := ok_read_record (P := PySem.Challenge.rw_timeshelf_k50_whole_files_cut_anywhere.prog) (w := w) (mg := mg) (base := base) (to_fun (st := s_read_record) D_read_record) T O_read_number O_sum_of
  have b_read_record : Binds K fd_read_record ["data", "at"] [] := D_read_record.bindsN fun _ _ _ _ _ _ us hl => match us, hl with | [_, _], _ => rfl
  have O_read_record : Own _ w K mg base CX0 2 "read_record" ["data", "at"] _ := ⟨_, fd_read_record, He.glo_ok X G (cd.fact 15 (f := .glo "read_record") rfl), D_read_record.kp, b_read_record, G_read_record⟩
  have G_is_ending := ok_is_ending (P := PySem.Challenge.rw_timeshelf_k50_whole_files_cut_anywhere.prog) (w := w) (mg := mg) (base := base) (to_fun (st := s_is_ending) D_is_ending) T
  have b_is_ending : Binds K fd_is_ending ["ending", "least"] [] := D_is_ending.bindsN fun _ _ _ _ _ _ us hl => match us, hl with | [_, _], _ => rfl
  have O_is_ending : Own _ w K mg base CX0 1 "is_ending" ["ending", "least"] _ := ⟨_, fd_is_ending, He.glo_ok X G (cd.fact 18 (f := .glo "is_ending") rfl), D_is_ending.kp, b_is_ending, G_is_ending⟩
  have G_read_endings := ok_read_endings (P := PySem.Challenge.rw_timeshelf_k50_whole_files_cut_anywhere.prog) (w := w) (mg := mg) (base := base) (to_fun (st := s_read_endings) D_read_endings) T O_read_number O_read_text O_is_ending
  have b_read_endings : Binds K fd_read_endings ["body"] [] := D_read_endings.bindsN fun _ _ _ _ _ _ us hl => match us, hl with | [_], _ => rfl
  have O_read_endings : Own _ w K mg base CX0 3 "read_endings" ["body"] _ := ⟨_, fd_read_endings, He.glo_ok X G (cd.fact 19 (f := .glo "read_endings") rfl), D_read_endings.kp, b_read_endings, G_read_endings⟩
  have G_read_numbers := ok_read_numbers (P := PySem.Challenge.rw_timeshelf_k50_whole_files_cut_anywhere.prog) (w := w) (mg := mg) (base := base) (to_fun (st := s_read_numbers) D_read_numbers) T O_read_number
  have b_read_numbers : Binds K fd_read_numbers ["body"] [] := D_read_numbers.bindsN fun _ _ _ _ _ _ us hl => match us, hl with | [_], _ => rfl
  have O_read_numbers : Own _ w K mg base CX0 2 "read_numbers" ["body"] _ := ⟨_, fd_read_numbers, He.glo_ok X G (cd.fact 20 (f := .glo "read_numbers") rfl), D_read_numbers.kp, b_read_numbers, G_read_numbers⟩
  have G_read_change_text := ok_read_change_text (P := PySem.Challenge.rw_timeshelf_k50_whole_files_cut_anywhere.prog) (w := w) (mg := mg) (base := base) (to_fun (st := s_read_change_text) D_read_change_text) T O_read_number O_read_text
  have b_read_change_text : Binds K fd_read_change_text ["body", "at"] [] := D_read_change_text.bindsN fun _ _ _ _ _ _ us hl => match us, hl with | [_, _], _ => rfl
  have O_read_change_text : Own _ w K mg base CX0 3 "read_change_text" ["body", "at"] _ := ⟨_, fd_read_change_text, He.glo_ok X G (cd.fact 21 (f := .glo "read_change_text") rfl), D_read_change_text.kp, b_read_change_text, G_read_change_text⟩
  have G__is_key := ok__is_key (P := PySem.Challenge.rw_timeshelf_k50_whole_files_cut_anywhere.prog) (w := w) (mg := mg) (base := base) (to_fun (st := s__is_key) D__is_key) T
  have b__is_key : Binds K fd__is_key ["key"] [] := D__is_key.bindsN fun _ _ _ _ _ _ us hl => match us, hl with | [_], _ => rfl
  have O__is_key : Own _ w K mg base CX0 1 "_is_key" ["key"] _ := ⟨_, fd__is_key, He.glo_ok X G (cd.fact 0 (f := .glo "_is_key") rfl), D__is_key.kp, b__is_key, G__is_key⟩
  have G__is_text := ok__is_text (P := PySem.Challenge.rw_timeshelf_k50_whole_files_cut_anywhere.prog) (w := w) (mg := mg) (base := base) (to_fun (st := s__is_text) D__is_text) T
  have b__is_text : Binds K fd__is_text ["text"] [] := D__is_text.bindsN fun _ _ _ _ _ _ us hl => match us, hl with | [_], _ => rfl
  have O__is_text : Own _ w K mg base CX0 1 "_is_text" ["text"] _ := ⟨_, fd__is_text, He.glo_ok X G (cd.fact 1 (f := .glo "_is_text") rfl), D__is_text.kp, b__is_text, G__is_text⟩
  have G_check_change := ok_check_change (P := PySem.Challenge.rw_timeshelf_k50_whole_files_cut_anywhere.prog) (w := w) (mg := mg) (base := base) (to_fun (st := s_check_change) D_check_change) T O__is_key O__is_text
  have b_check_change : Binds K fd_check_change ["change"] [] := D_check_change.bindsN fun _ _ _ _ _ _ us hl => match us, hl with | [_], _ => rfl
  have O_check_change : Own _ w K mg base CX0 2 "check_change" ["change"] _ := ⟨_, fd_check_change, He.glo_ok X G (cd.fact 2 (f := .glo "check_change") rfl), D_check_change.kp, b_check_change, G_check_change⟩
  have G_Shelf___init__ := ok_Shelf___init__ (P := PySem.Challenge.rw_timeshelf_k50_whole_files_cut_anywhere.prog) (w := w) (mg := mg) (base := base) (to_fun (st := s_Shelf___init__) D_Shelf___init__) T L
  have b_Shelf___init__ : Binds K fd_Shelf___init__ ["self", "endings"] [] := D_Shelf___init__.bindsN fun _ _ _ _ _ _ us hl => match us, hl with | [_, _], _ => rfl
  have O_Shelf___init__ : OwnC _ w K mg base CX0 (He.ga K "Shelf") 1 "Shelf" ["self", "endings"] _ := ⟨He.glo_ok X G (cd.fact 41 (f := .glo "Shelf") rfl), _, fd_Shelf___init__, He.mkr_ok (cd.fact 74 (f := .mkr "Shelf") rfl), b_Shelf___init__, G_Shelf___init__⟩
  have G_Shelf_known_keys := ok_Shelf_known_keys (P := PySem.Challenge.rw_timeshelf_k50_whole_files_cut_anywhere.prog) (w := w) (mg := mg) (base := base) (to_fun (st := s_Shelf_known_keys) D_Shelf_known_keys) T L
  have b_Shelf_known_keys : Binds K fd_Shelf_known_keys ["self"] [] := D_Shelf_known_keys.bindsN fun _ _ _ _ _ _ us hl => match us, hl with | [_], _ => rfl
  have O_Shelf_known_keys : OwnM _ w K mg base CX0 (He.ga K "Shelf") 1 "known_keys" ["self"] _ := ⟨L.sC, _, fd_Shelf_known_keys, He.meth_ok (cd.fact 81 (f := .meth "Shelf" "known_keys") rfl), b_Shelf_known_keys, G_Shelf_known_keys⟩
  have G_Shelf_tell := ok_Shelf_tell (P := PySem.Challenge.rw_timeshelf_k50_whole_files_cut_anywhere.prog) (w := w) (mg := mg) (base := base) (to_fun (st := s_Shelf_tell) D_Shelf_tell) T L O_check_change O_Shelf_known_keys
  have b_Shelf_tell : Binds K fd_Shelf_tell ["self", "time", "key", "text"] [] := D_Shelf_tell.bindsN fun _ _ _ _ _ _ us hl => match us, hl with | [_, _, _, _], _ => rfl
  have O_Shelf_tell : OwnM _ w K mg base CX0 (He.ga K "Shelf") 3 "tell" ["self", "time", "key", "text"] _ := ⟨L.sC, _, fd_Shelf_tell, He.meth_ok (cd.fact 82 (f := .meth "Shelf" "tell") rfl), b_Shelf_tell, G_Shelf_tell⟩
  have G_shelf_of := ok_shelf_of (P := PySem.Challenge.rw_timeshelf_k50_whole_files_cut_anywhere.prog) (w := w) (mg := mg) (base := base) (to_fun (st := s_shelf_of) D_shelf_of) T L O_Shelf___init__ O_Shelf_tell
  have b_shelf_of : Binds K fd_shelf_of ["endings", "tellings"] [] := D_shelf_of.bindsN fun _ _ _ _ _ _ us hl => match us, hl with | [_, _], _ => rfl
  have O_shelf_of : Own _ w K mg base CX0 4 "shelf_of" ["endings", "tellings"] _ := ⟨_, fd_shelf_of, He.glo_ok X G (cd.fact 3 (f := .glo "shelf_of") rfl), D_shelf_of.kp, b_shelf_of, G_shelf_of⟩
  have G_keys_of := ok_keys_of (P := PySem.Challenge.rw_timeshelf_k50_whole_files_cut_anywhere.prog) (w := w) (mg := mg) (base := base) (to_fun (st := s_keys_of) D_keys_of) T
  have b_keys_of : Binds K fd_keys_of ["tellings"] [] := D_keys_of.bindsN fun _ _ _ _ _ _ us hl => match us, hl with | [_], _ => rfl
  have O_keys_of : Own _ w K mg base CX0 1 "keys_of" ["tellings"] _ := ⟨_, fd_keys_of, He.glo_ok X G (cd.fact 4 (f := .glo "keys_of") rfl), D_keys_of.kp, b_keys_of, G_keys_of⟩
  have G_stamps_of := ok_stamps_of (P := PySem.Challenge.rw_timeshelf_k50_whole_files_cut_anywhere.prog) (w := w) (mg := mg) (base := base) (to_fun (st := s_stamps_of) D_stamps_of) T
  have b_stamps_of : Binds K fd_stamps_of ["tellings"] [] := D_stamps_of.bindsN fun _ _ _ _ _ _ us hl => match us, hl with | [_], _ => rfl
  have O_stamps_of : Own _ w K mg base CX0 1 "stamps_of" ["tellings"] _ := ⟨_, fd_stamps_of, He.glo_ok X G (cd.fact 5 (f := .glo "stamps_of") rfl), D_stamps_of.kp, b_stamps_of, G_stamps_of⟩
  have G_in_order := ok_in_order (P := PySem.Challenge.rw_timeshelf_k50_whole_files_cut_anywhere.prog) (w := w) (mg := mg) (base := base) (to_fun (st := s_in_order) D_in_order) T OK
  have b_in_order : Binds K fd_in_order ["tellings"] [] := D_in_order.bindsN fun _ _ _ _ _ _ us hl => match us, hl with | [_], _ => rfl
  have O_in_order : Own _ w K mg base CX0 1 "in_order" ["tellings"] _ := ⟨_, fd_in_order, He.glo_ok X G (cd.fact 6 (f := .glo "in_order") rfl), D_in_order.kp, b_in_order, G_in_order⟩
  have G_Copy___init__ := ok_Copy___init__ (P := PySem.Challenge.rw_timeshelf_k50_whole_files_cut_anywhere.prog) (w := w) (mg := mg) (base := base) (to_fun (st := s_Copy___init__) D_Copy___init__) T L
  have b_Copy___init__ : Binds K fd_Copy___init__ ["self", "source", "endings"] [] := D_Copy___init__.bindsN fun _ _ _ _ _ _ us hl => match us, hl with | [_, _, _], _ => rfl
  have O_Copy___init__ : OwnC _ w K mg base CX0 (He.ga K "Copy") 1 "Copy" ["self", "source", "endings"] _ := ⟨He.glo_ok X G (cd.fact 42 (f := .glo "Copy") rfl), _, fd_Copy___init__, He.mkr_ok (cd.fact 75 (f := .mkr "Copy") rfl), b_Copy___init__, G_Copy___init__⟩
  have G_Copy_source := ok_Copy_source (P := PySem.Challenge.rw_timeshelf_k50_whole_files_cut_anywhere.prog) (w := w) (mg := mg) (base := base) (to_fun (st := s_Copy_source) D_Copy_source) L
  have b_Copy_source : Binds K fd_Copy_source ["self"] [] := D_Copy_source.bindsN fun _ _ _ _ _ _ us hl => match us, hl with | [_], _ => rfl
  have O_Copy_source : OwnM _ w K mg base CX0 (He.ga K "Copy") 1 "source" ["self"] _ := ⟨L.cC, _, fd_Copy_source, He.meth_ok (cd.fact 83 (f := .meth "Copy" "source") rfl), b_Copy_source, G_Copy_source⟩
  have G_Copy_tellings := ok_Copy_tellings (P := PySem.Challenge.rw_timeshelf_k50_whole_files_cut_anywhere.prog) (w := w) (mg := mg) (base := base) (to_fun (st := s_Copy_tellings) D_Copy_tellings) T L O_in_order
  have b_Copy_tellings : Binds K fd_Copy_tellings ["self"] [] := D_Copy_tellings.bindsN fun _ _ _ _ _ _ us hl => match us, hl with | [_], _ => rfl
  have O_Copy_tellings : OwnM _ w K mg base CX0 (He.ga K "Copy") 2 "tellings" ["self"] _ := ⟨L.cC, _, fd_Copy_tellings, He.meth_ok (cd.fact 85 (f := .meth "Copy" "tellings") rfl), b_Copy_tellings, G_Copy_tellings⟩
  have G_Copy_shelf := ok_Copy_shelf (P := PySem.Challenge.rw_timeshelf_k50_whole_files_cut_anywhere.prog) (w := w) (mg := mg) (base := base) (to_fun (st := s_Copy_shelf) D_Copy_shelf) T L O_shelf_of O_Copy_tellings
  have b_Copy_shelf : Binds K fd_Copy_shelf ["self"] [] := D_Copy_shelf.bindsN fun _ _ _ _ _ _ us hl => match us, hl with | [_], _ => rfl
  have O_Copy_shelf : OwnM _ w K mg base CX0 (He.ga K "Copy") 5 "shelf" ["self"] _ := ⟨L.cC, _, fd_Copy_shelf, He.meth_ok (cd.fact 87 (f := .meth "Copy" "shelf") rfl), b_Copy_shelf, G_Copy_shelf⟩
  have G_Copy_hold := ok_Copy_hold (P := PySem.Challenge.rw_timeshelf_k50_whole_files_cut_anywhere.prog) (w := w) (mg := mg) (base := base) (to_fun (st := s_Copy_hold) D_Copy_hold) T L
  have b_Copy_hold : Binds K fd_Copy_hold ["self", "tellings"] [] := D_Copy_hold.bindsN fun _ _ _ _ _ _ us hl => match us, hl with | [_, _], _ => rfl
  have O_Copy_hold : OwnM _ w K mg base CX0 (He.ga K "Copy") 1 "hold" ["self", "tellings"] _ := ⟨L.cC, _, fd_Copy_hold, He.meth_ok (cd.fact 88 (f := .meth "Copy" "hold") rfl), b_Copy_hold, G_Copy_hold⟩
  have G_Copy_tell := ok_Copy_tell (P := PySem.Challenge.rw_timeshelf_k50_whole_files_cut_anywhere.prog) (w := w) (mg := mg) (base := base) (to_fun (st := s_Copy_tell) D_Copy_tell) T L O_Shelf_tell O_Copy_shelf
  have b_Copy_tell : Binds K fd_Copy_tell ["self", "time", "key", "text"] [] := D_Copy_tell.bindsN fun _ _ _ _ _ _ us hl => match us, hl with | [_, _, _, _], _ => rfl
  have O_Copy_tell : OwnM _ w K mg base CX0 (He.ga K "Copy") 6 "tell" ["self", "time", "key", "text"] _ := ⟨L.cC, _, fd_Copy_tell, He.meth_ok (cd.fact 89 (f := .meth "Copy" "tell") rfl), b_Copy_tell, G_Copy_tell⟩
  have G_Copy_merge := ok_Copy_merge (P := PySem.Challenge.rw_timeshelf_k50_whole_files_cut_anywhere.prog) (w := w) (mg := mg) (base := base) (to_fun (st := s_Copy_merge) D_Copy_merge) T L O_Copy_endings O_stamps_of O_Copy_tellings O_keys_of O_Copy_hold
  have b_Copy_merge : Binds K fd_Copy_merge ["self", "other"] [] := D_Copy_merge.bindsN fun _ _ _ _ _ _ us hl => match us, hl with | [_, _], _ => rfl
  have O_Copy_merge : OwnM _ w K mg base CX0 (He.ga K "Copy") 3 "merge" ["self", "other"] _ := ⟨L.cC, _, fd_Copy_merge, He.meth_ok (cd.fact 90 (f := .meth "Copy" "merge") rfl), b_Copy_merge, G_Copy_merge⟩
  have G_read_telling := ok_read_telling (P := PySem.Challenge.rw_timeshelf_k50_whole_files_cut_anywhere.prog) (w := w) (mg := mg) (base := base) (to_fun (st := s_read_telling) D_read_telling) T O_read_numbers O_read_text O_read_change_text O_check_change
  have b_read_telling : Binds K fd_read_telling ["body"] [] := D_read_telling.bindsN fun _ _ _ _ _ _ us hl => match us, hl with | [_], _ => rfl
  have O_read_telling : Own _ w K mg base CX0 4 "read_telling" ["body"] _ := ⟨_, fd_read_telling, He.glo_ok X G (cd.fact 22 (f := .glo "read_telling") rfl), D_read_telling.kp, b_read_telling, G_read_telling⟩
  have G_can_follow := ok_can_follow (P := PySem.Challenge.rw_timeshelf_k50_whole_files_cut_anywhere.prog) (w := w) (mg := mg) (base := base) (to_fun (st := s_can_follow) D_can_follow) T O_stamps_of O_keys_of
  have b_can_follow : Binds K fd_can_follow ["tellings", "telling"] [] := D_can_follow.bindsN fun _ _ _ _ _ _ us hl => match us, hl with | [_, _], _ => rfl
  have O_can_follow : Own _ w K mg base CX0 2 "can_follow" ["tellings", "telling"] _ := ⟨_, fd_can_follow, He.glo_ok X G (cd.fact 23 (f := .glo "can_follow") rfl), D_can_follow.kp, b_can_follow, G_can_follow⟩
  have G_opened := ok_opened (P := PySem.Challenge.rw_timeshelf_k50_whole_files_cut_anywhere.prog) (w := w) (mg := mg) (base := base) (to_fun (st := s_opened) D_opened) T L TI O_read_record O_read_endings O_Copy___init__ O_can_follow O_read_telling O_Copy_hold
  have b_opened : Binds K fd_opened ["data", "source"] [] := D_opened.bindsN fun _ _ _ _ _ _ us hl => match us, hl with | [_, _], _ => rfl
  have G__law_cell := ok__law_cell (P := PySem.Challenge.rw_timeshelf_k50_whole_files_cut_anywhere.prog) (w := w) (mg := mg) (base := base) (to_fun (st := s__law_cell) D__law_cell) T
  have b__law_cell : Binds K fd__law_cell ["_law_script", "_law_k"] [] := D__law_cell.bindsN fun _ _ _ _ _ _ us hl => match us, hl with | [_, _], _ => rfl
  have O__law_cell : Own _ w K mg base CX0 1 "_law_cell" ["_law_script", "_law_k"] _ := ⟨_, fd__law_cell, He.glo_ok X G (cd.fact 25 (f := .glo "_law_cell") rfl), D__law_cell.kp, b__law_cell, G__law_cell⟩
  have G__law_digits := ok__law_digits (P := PySem.Challenge.rw_timeshelf_k50_whole_files_cut_anywhere.prog) (w := w) (mg := mg) (base := base) (to_fun (st := s__law_digits) D__law_digits) T
  have b__law_digits : Binds K fd__law_digits ["_law_cell_here", "_law_k", "_law_most"] [] := D__law_digits.bindsN fun _ _ _ _ _ _ us hl => match us, hl with | [_, _, _], _ => rfl
  have O__law_digits : Own _ w K mg base CX0 1 "_law_digits" ["_law_cell_here", "_law_k", "_law_most"] _ := ⟨_, fd__law_digits, He.glo_ok X G (cd.fact 26 (f := .glo "_law_digits") rfl), D__law_digits.kp, b__law_digits, G__law_digits⟩
  have G__law_padded := ok__law_padded (P := PySem.Challenge.rw_timeshelf_k50_whole_files_cut_anywhere.prog) (w := w) (mg := mg) (base := base) (to_fun (st := s__law_padded) D__law_padded) T O__law_digits
  have b__law_padded : Binds K fd__law_padded ["_law_cell_here", "_law_k"] [] := D__law_padded.bindsN fun _ _ _ _ _ _ us hl => match us, hl with | [_, _], _ => rfl
  have O__law_padded : Own _ w K mg base CX0 2 "_law_padded" ["_law_cell_here", "_law_k"] _ := ⟨_, fd__law_padded, He.glo_ok X G (cd.fact 27 (f := .glo "_law_padded") rfl), D__law_padded.kp, b__law_padded, G__law_padded⟩
  have G__law_text := ok__law_text (P := PySem.Challenge.rw_timeshelf_k50_whole_files_cut_anywhere.prog) (w := w) (mg := mg) (base := base) (to_fun (st := s__law_text) D__law_text) T
  have b__law_text : Binds K fd__law_text ["_law_d"] [] := D__law_text.bindsN fun _ _ _ _ _ _ us hl => match us, hl with | [_], _ => rfl
  have O__law_text : Own _ w K mg base CX0 1 "_law_text" ["_law_d"] _ := ⟨_, fd__law_text, He.glo_ok X G (cd.fact 28 (f := .glo "_law_text") rfl), D__law_text.kp, b__law_text, G__law_text⟩
  have G__law_endings := ok__law_endings (P := PySem.Challenge.rw_timeshelf_k50_whole_files_cut_anywhere.prog) (w := w) (mg := mg) (base := base) (to_fun (st := s__law_endings) D__law_endings) T O__law_cell
  have b__law_endings : Binds K fd__law_endings ["_law_script"] [] := D__law_endings.bindsN fun _ _ _ _ _ _ us hl => match us, hl with | [_], _ => rfl
  have O__law_endings : Own _ w K mg base CX0 2 "_law_endings" ["_law_script"] _ := ⟨_, fd__law_endings, He.glo_ok X G (cd.fact 29 (f := .glo "_law_endings") rfl), D__law_endings.kp, b__law_endings, G__law_endings⟩
  have G__law_change := ok__law_change (P := PySem.Challenge.rw_timeshelf_k50_whole_files_cut_anywhere.prog) (w := w) (mg := mg) (base := base) (to_fun (st := s__law_change) D__law_change) T O__law_padded O__law_text
  have b__law_change : Binds K fd__law_change ["_law_cell_here", "_law_k"] [] := D__law_change.bindsN fun _ _ _ _ _ _ us hl => match us, hl with | [_, _], _ => rfl
  have O__law_change : Own _ w K mg base CX0 3 "_law_change" ["_law_cell_here", "_law_k"] _ := ⟨_, fd__law_change, He.glo_ok X G (cd.fact 30 (f := .glo "_law_change") rfl), D__law_change.kp, b__law_change, G__law_change⟩
  have G__law_tell := ok__law_tell (P := PySem.Challenge.rw_timeshelf_k50_whole_files_cut_anywhere.prog) (w := w) (mg := mg) (base := base) (to_fun (st := s__law_tell) D__law_tell) T L O__law_change O_Copy_tell
  have b__law_tell : Binds K fd__law_tell ["_law_copy", "_law_cell_here", "_law_k"] [] := D__law_tell.bindsN fun _ _ _ _ _ _ us hl => match us, hl with | [_, _, _], _ => rfl
  have O__law_tell : Own _ w K mg base CX0 7 "_law_tell" ["_law_copy", "_law_cell_here", "_law_k"] _ := ⟨_, fd__law_tell, He.glo_ok X G (cd.fact 31 (f := .glo "_law_tell") rfl), D__law_tell.kp, b__law_tell, G__law_tell⟩
  have G__law_opened := ok__law_opened (P := PySem.Challenge.rw_timeshelf_k50_whole_files_cut_anywhere.prog) (w := w) (mg := mg) (base := base) (to_fun (st := s__law_opened) D__law_opened) T TI G_opened (He.glo_ok X G (cd.fact 24 (f := .glo "opened") rfl)) D_opened.kp b_opened
  have b__law_opened : Binds K fd__law_opened ["_law_data", "_law_source"] [] := D__law_opened.bindsN fun _ _ _ _ _ _ us hl => match us, hl with | [_, _], _ => rfl
  have O__law_opened : Own _ w K mg base CX0 8 "_law_opened" ["_law_data", "_law_source"] _ := ⟨_, fd__law_opened, He.glo_ok X G (cd.fact 39 (f := .glo "_law_opened") rfl), D__law_opened.kp, b__law_opened, G__law_opened⟩
  have G__law_copies := ok__law_copies (P := PySem.Challenge.rw_timeshelf_k50_whole_files_cut_anywhere.prog) (w := w) (mg := mg) (base := base) (to_fun (st := s__law_copies) D__law_copies) T L O_Copy___init__ O__law_endings O__law_cell O_Copy_merge O__law_tell
  have b__law_copies : Binds K fd__law_copies ["_law_script"] [] := D__law_copies.bindsN fun _ _ _ _ _ _ us hl => match us, hl with | [_], _ => rfl
  have O__law_copies : Own _ w K mg base CX0 8 "_law_copies" ["_law_script"] _ := ⟨_, fd__law_copies, He.glo_ok X G (cd.fact 32 (f := .glo "_law_copies") rfl), D__law_copies.kp, b__law_copies, G__law_copies⟩
  exact ok_law (P := PySem.Challenge.rw_timeshelf_k50_whole_files_cut_anywhere.prog) (w := w) (mg := mg) (base := base) (to_fun (st := s_law) D_law) T L O__law_copies O__law_cell O_file_of O_Copy_endings O__law_ending_bytes O__law_record O__law_opened O_Copy_held O__law_telling_bytes O_Copy_source O_Copy_tell O_Copy_merge O_Copy_tellings
end Ts
set_option maxHeartbeats 0
open PySem PySem.W PySem.Calls PyProof.Rows
theorem PySem.Challenge.cw_timeshelf_k50_whole_files_cut_anywhere_holds : PySem.Challenge.rw_timeshelf_k50_whole_files_cut_anywhere.Holds := by
  w_on; o_law
  refine HandSHeadRun.head_any (r := Ts.Rw) (q := view Ts.Rw.prog [Ts.lawAt]) (H := Ts.hk) (ob := Ts.ob) (M := 4000) (loose := Ts.loose) (d := HandSHeadRun.topDef Ts.Rw.prog Ts.lawAt) (kwd := []) Ts.ob_eq
    (by kernel_rfl) (fun s => by kernel_rfl) Ts.run (by kernel_rfl) (by kernel_rfl) (by kernel_rfl) (by rfl) (by first | assumption | decide +kernel) (by decide +kernel) ⟨rfl, rfl, rfl, rfl, rfl, by decide +kernel⟩ ?hw ?hc
  case hw => w_witness2
  case hc =>
    refine L2.walk_ofE (l := PySem.Challenge.rw_timeshelf_k50_whole_files_cut_anywhere) (n := 63) (k := 9) (x := "_law_script") (CX := L2.CX0) rfl (by decide) (by kernel_rfl) ⟨rfl, by decide, by decide⟩ ?F (fun _ _ _ _ z => z)
    intro w mg fa h Y G hmg0
    obtain ⟨K, KX, c⟩ := Y
    have hmg : mg ("law" : PySem.Str) = some (.ref fa) := by
      have e : (HandSHeadRun.topDef Ts.Rw.prog Ts.lawAt).name = ("law" : PySem.Str) := by kernel_rfl
      rw [← e]
      exact hmg0
    obtain ⟨fd, hb, hF⟩ := Ts.facts (w := w) KX G hmg c
    exact ⟨K, fd, Ts.spLaw K, KX, hb, fun H a ns hl _ hS => ⟨a, ns, rfl, hS, fun _ => rfl⟩, hF⟩
