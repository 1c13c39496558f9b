import PyProof.Rows.All
import Wide.All
import OpenK.AllK
import Wide.FinOn
import KE.KStateDown
import HandS.ForMost
import HandS.ForExc
import HandS.More
import HandS.Words
import HandS.WordsExc
import HandS.Walk
import HandS.HeadHook1
import HandS.HeadWalk
import PyProof.ReprRoads
import KE.KExcSuper
import KE.KSuper
import HandS.ExcInit
import HandS.TryOnly
import HandS.Lambda
import HandS.ExcValue
import HandS.Wide
import HandS.TupAny
import HandS.TupLe
import HandS.TupMul
import HandS.Deep
import HandS.Style
import HandS.Conv
import HandS.Zip
import HandS.Rev
import KE.GoesEnum
import KE.DataMinMax
import KE.DataAny
import KE.SortData
import KE.KTupSum
import HandS.IsInst
import HandS.RaiseMore
import PyProof.ListCopy
import PyProof.FactsAll.tuple_2
import HandS.Defaults
import HandS.Head0
import HandS.Head1
import HandS.Head2
import HandS.HeadEnd
import HandS.HeadHook2
import KE.KExcIs
import HandS.ExcField
import HandS.DictTup
import HandS.DictEq
import KE.KDictDisplayH
import KE.KDictKeyed
import HandS.SetFor
import HandS.Strs
import KE.SortKeyHeap
import HandS.Sort
import KE.IntBitsLaws
import HandS.EndTab
import HandS.HeadHook4
import PySem.Challenge.RW_tracksenough_k67_whole_codes_value_by_va
set_option Elab.async false
set_option linter.all false
set_option maxRecDepth 100000
set_option maxHeartbeats 4000000
set_option autoImplicit false
/-! defs that may ask for a repr: nothing is under way of being shown -/
namespace VS
open PySem PySem.Spec PyProof.Rows L2
section
variable {P : Program} {w : World} {K : PySem.W.Frag} {mg : Str → Option Value} {base : Heap} {CX : CXT} {k : Nat} {f : Addr} {fd : FuncData} {ps : List Str} {sp : Sp}
/-- cdv is the code of the def at f -/
def CodeAt (K : PySem.W.Frag) (f : Addr) (cdv : Value) : Prop := ∃ (oc : Value) (od : Option Addr) (fd : FuncData) (osl : Array (Option Value)), K.lookup f = some ⟨oc, od, .func fd, osl⟩ ∧ fd.code = cdv
/-- what a call of the def gives where no repr is under way -/
structure FnG (P : Program) (w : World) (K : PySem.W.Frag) (mg : Str → Option Value) (base : Heap) (CX : CXT) (k : Nat) (f : Addr) (fd : FuncData) (ps : List Str) (sp : Sp) : Prop where
  arity : ∀ ws H Q E, sp ws H Q E → ps.length = ws.length
  gives : ∀ A below st H pack given ws Q E, A.guards = some [] → Room k A → Env0 P w K mg base A below st H → Vals ws given → BindsTo st fd pack (ps.zip given) → sp ws H Q E → codeAny (model P w) A (.call (.ref f) pack) (CR CX below P w H st Q E) st
theorem FnG.of (F : FnOk P w K mg base CX k f fd ps sp) : FnG P w K mg base CX k f fd ps sp :=
  ⟨fun _ _ _ _ q => (F.len _ _ _ _ q).symm, fun A below st H pack given ws Q E _ r e v b q => F.run A below st H pack given ws Q E r e b v q⟩
theorem FnG.level {j : Nat} (F : FnG P w K mg base CX j f fd ps sp) (h : j ≤ k) : FnG P w K mg base CX k f fd ps sp :=
  ⟨F.arity, fun A below st H pack given ws Q E g r => F.gives A below st H pack given ws Q E g (r.mono h)⟩
theorem FnG.weak {sp' : Sp} (F : FnG P w K mg base CX k f fd ps sp) (h : ∀ ws H Q E, sp' ws H Q E → sp ws H Q E) : FnG P w K mg base CX k f fd ps sp' :=
  ⟨fun _ _ _ _ q => F.arity _ _ _ _ (h _ _ _ _ q), fun A below st H pack given ws Q E g r e v b q => F.gives A below st H pack given ws Q E g r e v b (h _ _ _ _ q)⟩
/-- how a def's flow ends for its caller -/
theorem ends_of {X : Cx} {below : List PySem.Env} {H : Hp} {st s' : Shared} {fl : Flow} {Q : L2.VK} {E : XK} (h0 : X.H_0 = H) (hs : X.s_0 = st) (hf : X.outer = below) (hP : X.prog = P) (hw : X.w = w) (hx : X.ex = [])
    (h : SP X [] { nx := fun _ H' => Q .non H', rt := Q } fl s') : CR CX below P w H st Q E (.ok (.ret (match fl with | .ret u => u | _ => .none))) s' := by
  subst h0 hs hf hP hw
  have out : ∀ {τ : L2.St} {H1 : Hp} {v : V} {u : Value}, Inv X [] τ H1 s' → RelV v u → Q v H1 → CE X.outer X.prog X.w X.H_0 X.s_0 Q u s' := fun {τ H1 v u} J rv q => by
    have hb := J.base
    rw [hx] at hb
    exact ⟨v, H1, J.os, J.bare, hb, J.hok, rv, q⟩
  match fl, h with
  | .ret u, ⟨v, τ, H1, J, rv, q⟩ => exact out J rv q
  | .next, ⟨τ, H1, J, q⟩ => exact out (v := .non) J rfl q
  | .brk, ⟨_, _, _, q⟩ => exact q.elim
  | .cont, ⟨_, _, _, q⟩ => exact q.elim
theorem FnG.make {x qual : Str} {top : Stmt} {N : List Str} (F : Fun K x qual top f fd) (S : FnScope N ps (defScope top)) (hlen : ∀ ws H Q E, sp ws H Q E → ps.length = ws.length)
    (body : ∀ (cdv : Value) A below st H ws Q E, CodeAt K f cdv → A.guards = some [] → Room k (A.deeper (envOfC qual (defScope top) st.heap.objs.size f cdv)) → sp ws H Q E →
      ∃ t, PSs (cxOf (L2.CX P w) P w K mg base N qual (defScope top) f cdv A below st H E) (defBody top) t ∧ t { nx := fun _ H1 => Q .non H1, rt := Q } (L2.start N ws) H) :
    FnG P w K mg base (L2.CX P w) (k + 1) f fd ps sp := by
  obtain ⟨oc, od, kV, doc, pm, an, cdv, ct, osl, rfl, look, isCode⟩ := F.ex
  refine ⟨hlen, fun A below st H pack given ws Q E g r e0 vals bnd q => ?_⟩
  have same : ∀ b o, base.get? b = some o → st.heap.get? b = some o := fun b o z => (e0.bs b o z).1
  have kin : K.In st.heap := e0.mod.kin.keeps same
  have places : ∀ y ∈ ps.zip given, (defScope top).names.lookup y.1 = some .local ∨ ((defScope top).names.lookup y.1 = some .cell ∧ ((cellsFrom (st.heap.objs.size + 1) (defScope top).names []).lookup y.1).isSome = true) := by
    rintro ⟨y, u⟩ hy
    exact (S.par y (List.of_mem_zip hy).1).imp id fun z => ⟨z, PySem.W.cellsFrom_some _ _ _ (.inl z)⟩
  refine codeAny_call_function r.depth (kin _ _ look) rfl S.co S.gen rfl (PySem.W.codeRec_of kin isCode) (bnd _ _ _ _ ?_)
  refine wpAny_newFunctionEnv_cells S.kind places fun env he st' made => ?_
  subst he
  obtain ⟨t, run, pre⟩ := body cdv A below st H ws Q E ⟨oc, od, _, osl, look, rfl⟩ g (r.deeper _) q
  have lim : st.heap.NoLimit := e0.mod.nolimit.keeps same
  refine ⟨lim.keeps made.toInCall.keep, codeAny_func ?_⟩
  have begun := inv_start (CX := L2.CX P w) (E := E) (cd := cdv) (qual := qual) S r.hd e0 (hlen _ _ _ _ q).symm vals made
  refine wpAny_mono (run.run [] st' (L2.start N ws) H _ begun pre) (fun fl s' hs => ?_) fun e s' hs => hs
  have z := ends_of (CX := L2.CX P w) (E := E) (P := P) (w := w) (H := H) (st := st) (below := below) rfl rfl rfl rfl rfl rfl hs
  cases fl <;> exact z
end
section
variable {X : Cx} {CX : CXT} {k : Nat} {f : Addr} {fd : FuncData} {ps : List Str} {sp : Sp} {E : XK} {x : Str} {p pos : Pos} {e : Expr} {es : List Expr} {t : TA}
theorem run_G {pins : List (Addr × Obj)} {σ : L2.St} {H : Hp} {s : Shared} {Q : L2.VK} {us : List Value} {vs : List V} (F : FnG X.prog X.w X.K X.mg X.base CX k f fd ps sp) (hG : X.A.guards = some []) (hr : Room k X.A) (hb : Binds X.K fd ps []) (hx : Passes CX X E)
    (I : Inv X pins σ H s) (r : Vals vs us) (q : sp vs H Q E) : wpAny (model X.prog X.w) X.A (call (.ref f) us) (EP X pins σ Q) X.xe s := by
  have bnd := hb s us I.kIn (by rw [List.append_nil, ← r.length]; exact (F.arity _ _ _ _ q).symm)
  rw [List.append_nil] at bnd
  have := F.gives X.A X.stack s H ⟨us, []⟩ us vs Q E hG hr I.env0 r bnd q
  exact wpAny_call (codeAny_mono this fun res s' hq => match res, hq with
    | .error e, hq => hx pins σ H s e s' I hq
    | .ok (.ret u), hq => I.after hq
    | .ok .next, hq => hq.elim
    | .ok .brk, hq => hq.elim
    | .ok .cont, hq => hq.elim)
theorem pe_callG (F : FnG X.prog X.w X.K X.mg X.base CX k f fd ps sp) (hG : X.A.guards = some []) (hr : Room k X.A) (hm : X.mg x = some (.ref f)) (hk : PySem.W.keepIn X.K (.ref f) = true) (hb : Binds X.K fd ps []) (hx : Passes CX X E) (ha : PA X (e :: es) t) (hg : Gl X x := by rfl)
    (hdb : (x == ("__debug__" : Str)) = false := by decide) (he : starEach (e :: es) X.env = (false, eval e X.env) :: starEach es X.env := by rfl) (hpl : (backTo pos (starEach es X.env)).any (·.1) = false := by rfl) :
    PE X (.Call (.Name x p) (e :: es) [] pos) (tCall sp [] E t) := ⟨fun pins s σ H Q I h =>
  wpAny_Call_Name_kw (ld_glob I hg hm (PySem.W.callWith_K (h₀ := X.base) I.ok.mod.kin hk (thn (ha.run pos pins s σ H _ I h) fun us s1 ⟨vs, H1, J, r, q⟩ => ⟨J.kIn, run_G F hG hr hb hx J r (by have q : sp (vs ++ []) H1 Q E := q; rwa [List.append_nil] at q)⟩) he hpl) hdb)⟩
theorem pe_callG0 (F : FnG X.prog X.w X.K X.mg X.base CX k f fd ps sp) (hG : X.A.guards = some []) (hr : Room k X.A) (hm : X.mg x = some (.ref f)) (hk : PySem.W.keepIn X.K (.ref f) = true) (hb : Binds X.K fd ps []) (hx : Passes CX X E) (hg : Gl X x := by rfl)
    (hdb : (x == ("__debug__" : Str)) = false := by decide) : PE X (.Call (.Name x p) [] [] pos) (tCall sp [] E tNil) := ⟨fun pins s σ H Q I h =>
  wpAny_Call_Name_kw (ld_glob I hg hm (PySem.W.callWith_K0 I.kIn hk (run_G (us := []) F hG hr hb hx I .nil h)) hdb)⟩
end
/-! ### the end -/
def KLst (K : PySem.W.Frag) (a : Addr) (xs : List V) : Prop :=
  ∃ (o : Obj) (its : Array Value) (n : Nat), K.lookup a = some o ∧ o.cls = .type "list" ∧ o.dict = none ∧ o.data = .seq its n ∧ its.size ≤ sizeLine ∧ Vals xs its.toList
/-- a list that is not written -/
def RoL (K : PySem.W.Frag) (H : Hp) (a : Addr) (xs : List V) : Prop := (∃ o, H a = some (.frz o (.lst xs))) ∨ KLst K a xs
/-- what is known of the law's promise at the head's heap -/
def LawG (l : PySem.W.OpenLaw) (w : World) (K : PySem.W.Frag) (CX : CXT) (k n : Nat) (x : Str) (mg : Str → Option Value) (fa : Addr) : Prop :=
  ∀ base : Heap, K.In base → base.Ns mainGlobals mg → ∃ (fd : FuncData) (sp : Sp), Binds K fd [x] [] ∧
    (∀ (H : Hp) (a : Addr) (ns : List Int), ns.length ≤ n → (∀ z ∈ ns, Builtin.Int.intBits z ≤ 1048576) → RoL K H a (ns.map V.int) → sp [.ref a] H (fun v _ => v = .bl true) fun _ _ _ => False) ∧
    FnG l.prog w K mg base CX k fa fd [x] sp
/-- the script, not known to the module, is tracked alone -/
def onlyH (a : Addr) (o : Obj) (xs : List V) : Hp := fun b => if b = a then some (.frz o (.lst xs)) else none
theorem law_atG {P : Program} {w : World} {K : PySem.W.Frag} {mg mb : Str → Option Value} {CX : CXT} {k : Nat} {fa a : Addr} {x : Str} {st : Shared} {vs : List Value} {ns : List Int}
    (kin : K.In st.heap) (glob : st.heap.Ns mainGlobals mg) (blt : st.heap.Ns builtinsNs mb) (std : ∀ y : Str, y ≠ "__name__" → mb y = bootBuiltins y) (lim : st.heap.NoLimit) (gens : st.gens = #[])
    (script : st.heap.get? a = some { cls := .type "list", data := .seq vs.toArray }) (nums : IntsAre vs ns) (few : ns.length ≤ sizeLine) (room : Room k callerA)
    (F : ∀ base : Heap, K.In base → base.Ns mainGlobals mg → ∃ (fd : FuncData) (sp : Sp), Binds K fd [x] [] ∧ (∀ H : Hp, RoL K H a (ns.map V.int) → sp [.ref a] H (fun v _ => v = .bl true) fun _ _ _ => False) ∧ FnG P w K mg base CX k fa fd [x] sp)
    (noexc : ∀ H e s', ¬ CX [] H st (fun _ _ _ => False) e s') :
    codeAny (model P w) callerA (.call (.ref fa) ⟨[.ref a], []⟩) (fun r s' => r = .ok (.ret (.bool true)) ∧ OldK st.heap s'.heap ∧ s'.os = st.os ∧ AllBare s'.gens) st := by
  have rel := vals_ints nums
  have hlen : (ns.map V.int).length ≤ sizeLine := by rw [List.length_map]; exact few
  -- either way: an abstract heap, and what of the heap is left to the module
  have go : ∀ H : Hp, RoL K H a (ns.map V.int) → HOk P w H st.heap → (∀ b u, H b = some u → ∃ o xs, u = .frz o (.lst xs)) → (∀ b o, st.heap.get? b = some o → H b ≠ none → b = a ∧ K.lookup a = none) →
      codeAny (model P w) callerA (.call (.ref fa) ⟨[.ref a], []⟩) (fun r s' => r = .ok (.ret (.bool true)) ∧ OldK st.heap s'.heap ∧ s'.os = st.os ∧ AllBare s'.gens) st := by
    intro H seq ok frozen mine
    -- dictionaries stay
    have keepD : ∀ b o es m, st.heap.get? b = some o → o.data = .dict es m → (hidT st.heap H).get? b = some o := fun b o es m e d => hidT_get e (by
      refine Classical.byContradiction fun z => ?_
      obtain ⟨q, _⟩ := mine b o e z
      subst q
      rw [script] at e; cases e; cases d)
    have spaces : ∀ b m, st.heap.Ns b m → (hidT st.heap H).Ns b m := fun b m ⟨o, es, n, e, d, z⟩ => ⟨o, es, n, keepD b o es n e d, d, z⟩
    have kin2 : K.In (hidT st.heap H) := fun b o e => hidT_get (kin b o e) (Classical.byContradiction fun z => by
      obtain ⟨q, n⟩ := mine b o (kin b o e) z
      rw [q, n] at e; cases e)
    obtain ⟨lm, l1, l2⟩ := lim
    have env : Env0 P w K mg (hidT st.heap H) callerA [] st H := ⟨rfl, ⟨kin2, spaces _ _ glob, ⟨mb, spaces _ _ blt, std⟩, ⟨lm, spaces _ _ l1, l2⟩⟩, fun _ _ e => of_hidT e, Nat.le_of_eq (hidT_size _ _), trivial, (fun _ z => nomatch z), ok, .of_eq gens⟩
    obtain ⟨fd, sp, bnd, pre, F1⟩ := F _ kin2 (spaces _ _ glob)
    have run := F1.gives callerA [] st H ⟨[.ref a], []⟩ [.ref a] [.ref a] _ _ rfl room env (.cons rfl .nil) (bnd st [.ref a] kin rfl) (pre H seq)
    refine codeAny_mono run fun res s' z => ?_
    match res, z with
    | .error e, z => exact (noexc H e s' z).elim
    | .ok .next, z => exact z.elim
    | .ok .brk, z => exact z.elim
    | .ok .cont, z => exact z.elim
    | .ok (.ret u), ⟨v, H', os, bare, un, ok', rv, q⟩ =>
      have q' : v = .bl true := q
      subst q'
      obtain rfl : u = Value.bool true := rv
      refine ⟨rfl, OldK.of_keep fun b o e => ?_, os, bare⟩
      cases hb : H b with
      | none => exact un.keep b o e hb (fun z => nomatch z) (fun z => nomatch z)
      | some u =>
        obtain ⟨o', xs, rfl⟩ := frozen b u hb
        have e1 := (ok b _ hb).1
        rw [e] at e1
        cases e1
        exact (ok' b _ (un.frzs b _ _ hb)).1
  cases hk : K.lookup a with
  | some o =>
    have e := kin a o hk
    rw [script] at e
    cases e
    exact go (fun _ => none) (.inr ⟨_, _, _, hk, rfl, rfl, rfl, by rw [List.size_toArray, nums.length]; exact few, by simpa using rel⟩) (fun _ _ z => nomatch z) (fun _ _ z => nomatch z) (fun _ _ _ z => absurd rfl z)
  | none =>
    have at_ : onlyH a { cls := .type "list", data := .seq vs.toArray } (ns.map V.int) a = some (.frz { cls := .type "list", data := .seq vs.toArray } (.lst (ns.map V.int))) := if_pos rfl
    have off : ∀ b, b ≠ a → onlyH a { cls := .type "list", data := .seq vs.toArray } (ns.map V.int) b = none := fun b n => if_neg n
    refine go (onlyH a { cls := .type "list", data := .seq vs.toArray } (ns.map V.int)) (.inl ⟨_, at_⟩) (fun b u z => ?_) (fun b u z => ?_) fun b o _ z => ?_
    · by_cases n : b = a
      · subst n
        rw [at_] at z
        cases z
        exact ⟨script, hlen, vs, 0, rel, script⟩
      · rw [off b n] at z; cases z
    · by_cases n : b = a
      · subst n
        rw [at_] at z
        cases z
        exact ⟨_, _, rfl⟩
      · rw [off b n] at z; cases z
    · by_cases n : b = a
      · exact ⟨n, hk⟩
      · exact absurd (off b n) z
theorem walk_G {l : PySem.W.OpenLaw} {n k : Nat} {q : Program} {loose : List Str} {XP : (Str → Option Value) → Heap → Prop} {YP : World → Heap → Prop} {d : DefRec} {CX : World → CXT} {x : Str}
    (hn : l.most = some n) (hn2 : n ≤ sizeLine) (hdf : d.params.defaults = []) (room : Room k callerA)
    (F : ∀ (w : World) (mg : Str → Option Value) (fa : Addr) (h : Heap), YP w h → h.Ns mainGlobals mg → mg d.name = some (.ref fa) → ∃ K : PySem.W.Frag, K.In h ∧ LawG l w K (CX w) k n x mg fa)
    (noexc : ∀ (w : World) (H : Hp) (s : Shared) (e : Value) (s' : Shared), ¬ CX w [] H s (fun _ _ _ => False) e s') : PySem.W.WalkO q loose XP YP l.row.toRowW d [] (fun f vs => PySem.call f vs) := by
  refine Att.attach_callB hn hdf fun w s₀ s₁ mg mb fa o pm cd doc a vs ns G Y ho hd hcd hmg hobj hints hlen hbits hg => ?_
  obtain ⟨K, kin, F⟩ := F w mg fa _ Y G.T.g hmg
  exact law_atG kin G.T.g G.T.b G.T.builtins G.T.nolimit hg hobj hints (Nat.le_trans hlen hn2) room (fun base hk hb => let ⟨fd, sp, bnd, pre, F1⟩ := F base hk hb; ⟨fd, sp, bnd, fun H hS => pre H a ns hlen hbits hS, F1⟩) (noexc w · s₁ · ·)
end VS

set_option maxHeartbeats 400000
/-! an __init__ that says super().__init__(value); self.value = value -/
namespace VS
open PySem PySem.Spec PyProof.Rows L2
/-- ValueError's __init__, bound to an exception and called -/
theorem call_mw {prog : Program} {w : World} {A : Around} {E : Value → Shared → Prop} {h : Heap} {g : Array GenState} {d : Drawn} {t : Nat} {os : OsState} {nm q : Str} {C N : Addr} {bs bm : List Value} {hdct : Bool} {sn : List Str} {sub : List Value} {ab : Bool} {col : Option Bool} {dd : Option Addr} {k0 k1 k2 k3 k5 : Option Value}
    {u e t0 : Addr} {rest : List Value} {Q : Value → Shared → Prop} (hC : h.get? C = some (excClassObj nm q C N bs bm hdct sn sub ab col dd k0 k1 k2 k3 k5 "ValueError.__new__")) (hT : ∀ Y : String, (Value.ref C :: bm).contains (.type Y) = HandSPX.veTail.contains (.type Y))
    (he : h.get? e = some (HandSPX.excO C t0)) (hu : h.get? u = some (PySem.W.kxs_mw "ValueError.__init__" e)) (hrest : rest.length ≤ sizeLine)
    (hq : ∀ h' t1, (∀ b o, b ≠ e → h.get? b = some o → h'.get? b = some o) → h'.get? e = some (HandSPX.excO C t1) → Q .none ⟨h', g, d, t, os⟩) :
    wpAny (model prog w) A (call (.ref u) rest) Q E ⟨h, g, d, t, os⟩ := by
  refine wpAny_call (codeAny_of_tree ?_)
  show wpAny _ A.in1 (callAny (.ref u) ⟨rest, []⟩) _ _ _
  simp only [callAny]
  refine wpAny_bind (wpAny_load hu ?_)
  simp only [PySem.W.kxs_mw, show (Value.type "method-wrapper" == Value.type "method" || Value.type "method-wrapper" == Value.type "builtin_function_or_method" || Value.type "method-wrapper" == Value.type "method-wrapper") = true by decide, if_true]
  refine PySem.W.KFB.if_so (by decide) ?_
  refine wpAny_bind (PySem.W.check_bound_init F.excBase_ValueError.toExcCallFacts hC he rfl ?_)
  refine wpAny_bind (wpAny_pure (wpAny_pure ?_))
  refine ⟨Code.quiet_builtin _ (by decide +kernel), codeAny_builtin F.excBase_ValueError.initEntry ?_⟩
  exact PySem.W.exc_init_tree (cls := .ref C) (t0 := t0) (dv := none) (c2 := .none) (c3 := .none) (b4 := .bool false) he hrest fun h' k e1 _ => hq h' _ k e1
end VS
namespace VS
open PySem PySem.Spec PyProof.Rows L2
/-- the context of such an __init__ -/
def icx (P : Program) (w : World) (K : PySem.W.Frag) (mg : Str → Option Value) (base : Heap) (q : Str) (scope : Scope) (f : Addr) (cd : Value) (cc : Addr) (A : Around) (outer : List PySem.Env) (s : Shared) (H : Hp) : Cx where
  prog := P
  w := w
  K := K
  mg := mg
  base := base
  A := A.deeper (PySem.W.ksEnv q scope s.heap.objs.size f cd cc)
  N := ["self", "value"]
  s_0 := s
  H_0 := H
  env := PySem.W.ksEnv q scope s.heap.objs.size f cd cc
  outer := outer
  stack := PySem.W.ksEnv q scope s.heap.objs.size f cd cc :: outer
  ex := []
  fn := fun _ => false
  calm := true
  pn := []
  xe := fun _ _ => False
/-- what the text and the written part say of it -/
structure InitF (P : Program) (K : PySem.W.Frag) (f D cc : Addr) (q : Str) (params : Arguments) (body : List Stmt) (scope : Scope) (fd : FuncData) : Prop where
  lk : ∃ oc od dV kV doc pm an cdv ct osl, fd = PySem.W.ksFn "__init__" q params body scope dV kV doc pm an cdv ct cc ∧ K.lookup f = some ⟨oc, od, .func fd, osl⟩ ∧ PySem.W.codeIn K cdv q = true ∧
    ∃ ca ccl cdd vs ccs file tf, cdv = .ref ca ∧ K.lookup ca = some ⟨ccl, cdd, .fields vs, ccs⟩ ∧ vs[2]? = some (.str file tf) ∧ ((P.main.file : Str) == file) = true
  bd : ∀ (oc : Value) (kV doc pm : Value) (an : Option Addr) (cdv ct : Value), True
  cell : ∃ cl cld csl, K.lookup cc = some ⟨cl, cld, .cell (some (.ref D)), csl⟩
  cls : ∃ cd, PySem.W.clsIn K D = some cd
  sup : PySem.W.nsIn K mainGlobals "super" = some none
  par : ∃ ar : Arg, (params.posonlyargs ++ params.args).head? = some ar ∧ ar.arg = "self"
  top : (P.main.scope.names.lookup ("super" : Str)).isSome = false
  thr : PySem.W.nsIn K cStatics "thirdparty.any" = some none
  ks : scope.names.lookup ("super" : Str) = some .globalImplicit
  kc : scope.names.lookup ("__class__" : Str) = some .free
  ka : scope.names.lookup ("self" : Str) = some .local
  kv : scope.names.lookup ("value" : Str) = some .local
  nc : ∀ x ∈ scope.names, x.2 ≠ .cell
  fr : ∀ x : Str, scope.names.lookup x = some .free → x = "__class__"
  co : scope.isCoroutine = false
  gn : scope.isGenerator = false
  kd : scope.kind = .function
theorem lookup_mem {α : Type} {x : Str} {k : α} : ∀ {l : List (Str × α)}, l.lookup x = some k → (x, k) ∈ l := fun {l} h => PySem.mem_of_lookup h
/-- the state at its begin -/
theorem icx_start {P : Program} {w : World} {K : PySem.W.Frag} {mg : Str → Option Value} {base : Heap} {q : Str} {params : Arguments} {body : List Stmt} {scope : Scope} {f D cc : Addr} {cd : Value} {fd : FuncData} {A : Around} {outer : List PySem.Env} {s : Shared} {H : Hp} {a : Addr} {y : V} {u : Value} {h₀ : Heap} {tk : Nat}
    (F : InitF P K f D cc q params body scope fd) (hd : A.handled = none) (e0 : Env0 P w K mg base A outer s H) (r : RelV y u)
    (hns : h₀.Ns s.heap.objs.size fun x => ([("self", Value.ref a), ("value", u)] : List (Str × Value)).reverse.lookup x) (hk : ∀ b o, s.heap.get? b = some o → h₀.get? b = some o) :
    Inv (icx P w K mg base q scope f cd cc A outer s H) [] [some (.ref a), some y] H { s with heap := h₀, toks := tk } := by
  obtain ⟨cl, cld, csl, hcell⟩ := F.cell
  have inb : base.get? cc = some ⟨cl, cld, .cell (some (.ref D)), csl⟩ := e0.mod.kin _ _ hcell
  have one : ∀ (x : Str) (c : Addr), ([("__class__", cc)] : List (Str × Addr)).lookup x = some c → x = "__class__" ∧ c = cc := by
    intro x c h
    rw [List.lookup_cons] at h
    split at h
    · rename_i e
      exact ⟨by simpa using e, by cases h; rfl⟩
    · cases h
  have noA : ∀ b : Addr, b ∉ (icx P w K mg base q scope f cd cc A outer s H).ex := fun b z => absurd (show b ∈ ([] : List Addr) from z) (by simp)
  refine ⟨⟨e0.mod, F.kd, rfl, rfl, Nat.le_refl _, fun y z c h1 h2 => ?_, fun y hy => ?_, fun y c z _ => ?_, fun _ => hd, Around.frames_deeper e0.frames, .inr ⟨rfl, rfl⟩, fun b z => absurd z (noA b), e0.bs, e0.bsz, fun b _ _ => noA b, fun b z => absurd z (noA b), e0.funs, e0.frf⟩,
    rfl, e0.bare, Un.kept hk, ⟨_, hns, fun i y v h1 h2 h3 => ?_⟩, fun y c h => ?_, e0.hok.fresh (Nat.le_refl _), fun y c h => ?_, fun p hp => absurd (show p ∈ ([] : List (Addr × Obj)) from hp) (by simp), e0.hok.kept hk, rfl⟩
  · rw [(one y c h1).1, (one z c h2).1]
  · have hy : scope.names.lookup y = some .cell ∨ scope.names.lookup y = some .free := hy
    rcases hy with hy | hy
    · exact absurd rfl (F.nc _ (lookup_mem hy))
    · rw [F.fr y hy]
      exact ⟨cc, by show ([("__class__", cc)] : List (Str × Addr)).lookup ("__class__" : Str) = some cc; simp⟩
  · exact absurd (show false = true from z) (by decide)
  · match i, h1, h2 with
    | 0, h1, h2 =>
      cases h1; cases h2
      exact ⟨.ref a, rfl, .inl ⟨F.ka, by rfl⟩⟩
    | 1, h1, h2 =>
      cases h1; cases h2
      exact ⟨u, r, .inl ⟨F.kv, by rfl⟩⟩
    | _ + 2, h1, _ => cases h1
  · obtain ⟨rfl, rfl⟩ := one y c h
    exact ⟨some (.ref D), _, hk _ _ (e0.bs _ _ inb).1, rfl⟩
  · obtain ⟨rfl, rfl⟩ := one y c h
    exact (e0.bs _ _ inb).2
end VS
namespace VS
open PySem PySem.Spec PyProof.Rows L2
/-- what the written part says of a class of errors below D's -/
structure ExcF (K : PySem.W.Frag) (C D : Addr) : Prop where
  oex : OexC K C
  sup : PySem.W.ks_superIn K C D "__init__" = some (some (.builtin "ValueError.__init__"))
  sub : PySem.W.subIn K (.ref C) (.type "ValueError") = some true
  mro : PySem.W.mroIn K C (.ref D) = some true
theorem icx_super {P : Program} {w : World} {K : PySem.W.Frag} {mg : Str → Option Value} {base : Heap} {q : Str} {params : Arguments} {body : List Stmt} {scope : Scope} {f D cc a C : Addr} {cd : Value} {fd : FuncData} {A : Around} {outer : List PySem.Env} {s s1 : Shared} {H0 H : Hp} {y : V} {p0 p1 p2 p3 p4 : Pos} {E : Value → Shared → Prop} {Q : Value → Shared → Prop}
    {pl : Sem Bool} (he : eval (.Call (.Attribute (.Call (.Name "super" p0) [] [] p1) "__init__" p2) [.Name "value" p3] [] p4) (icx P w K mg base q scope f cd cc A outer s H0).env = (do
      let ov ← attributeBase (.Call (.Name "super" p0) [] [] p1) "__init__" (icx P w K mg base q scope f cd cc A outer s H0).env (eval (.Call (.Name "super" p0) [] [] p1) (icx P w K mg base q scope f cd cc A outer s H0).env)
      standAt p2.atName
      let (fx, first) ← holding [ov] (getMethod ov "__init__" pl)
      callWith p4 fx first (backTo p4 (starEach [.Name "value" p3] (icx P w K mg base q scope f cd cc A outer s H0).env)) []))
    (F : InitF P K f D cc q params body scope fd) (hcd : ∃ oc od dV kV doc pm an ct osl, fd = PySem.W.ksFn "__init__" q params body scope dV kV doc pm an cd ct cc ∧ K.lookup f = some ⟨oc, od, .func fd, osl⟩)
    (hca : ∃ ca ccl cdd vs ccs file tf, cd = .ref ca ∧ K.lookup ca = some ⟨ccl, cdd, .fields vs, ccs⟩ ∧ vs[2]? = some (.str file tf) ∧ ((P.main.file : Str) == file) = true)
    (G : ExcF K C D) (I : Inv (icx P w K mg base q scope f cd cc A outer s H0) [] [some (.ref a), some y] H s1) (e : H a = some (exo a C none))
    (h : ∀ s', Inv (icx P w K mg base q scope f cd cc A outer s H0) [] [some (.ref a), some y] H s' → Q .none s') :
    _root_.PySem.wpAt (model P w) (icx P w K mg base q scope f cd cc A outer s H0).A (.func body (icx P w K mg base q scope f cd cc A outer s H0).env) (eval (.Call (.Attribute (.Call (.Name "super" p0) [] [] p1) "__init__" p2) [.Name "value" p3] [] p4) (icx P w K mg base q scope f cd cc A outer s H0).env) Q E s1 := by
  obtain ⟨oc, od, dV, kV, doc, pm, an, ct, osl, hfd, hlk⟩ := hcd
  obtain ⟨ca, ccl, cdd, vs, ccs, file, tf, rfl, hcode, hvs, hfile⟩ := hca
  obtain ⟨cl, cld, csl, hcell⟩ := F.cell
  obtain ⟨cdD, hD⟩ := F.cls
  obtain ⟨ar, har, hself⟩ := F.par
  have kin : K.In s1.heap := I.kIn
  have base_ := I.ok.mod
  have bk := I.bk
  obtain ⟨oD, hD1, hD2⟩ : ∃ oD, s1.heap.get? D = some oD ∧ oD.data = .cls cdD := by
    unfold PySem.W.clsIn at hD
    split at hD
    · rename_i c d cd' sl ho
      cases hD
      exact ⟨_, kin _ _ ho, rfl⟩
    · cases hD
  obtain ⟨t1, ho⟩ := exo_at I.hok e
  obtain ⟨nm, qn, N, bs, bm, sn, sub, ab, col, dd, k0, k1, k2, k3, k5, hC, hbm⟩ := G.oex.cls
  have hclC : PySem.W.clsIn K C = some { name := nm, bases := bs, mro := .ref C :: bm, ns := N, qualname := qn, hasDict := true, slotNames := sn, subclasses := sub, abstract := ab, collection := col, hasDel := false } := by unfold PySem.W.clsIn; rw [hC] <;> rfl
  have naC : a ≠ C := by
    rintro rfl
    have z := (I.bs a _ (base_.kin _ _ hC)).2
    rw [e] at z; cases z
  obtain ⟨m, hn, hl⟩ := id I.loc
  have hm : m "self" = some (.ref a) := by
    obtain ⟨u, hu, q | q⟩ := hl 0 "self" (.ref a) rfl rfl (.inl F.ka)
    · rw [q.2]; exact congrArg some hu
    · have z := q.1
      rcases z with z | z
      · have z' : scope.names.lookup ("self" : Str) = some .cell := z
        rw [F.ka] at z'; cases z'
      · have z' : scope.names.lookup ("self" : Str) = some .free := z
        rw [F.ka] at z'; cases z'
  obtain ⟨mb, hb, hbt⟩ := base_.blt
  refine PySem.ks_wpAt_MethodCall ?_ he
  refine PySem.ks_wpAt_super_base F.ks F.kc (by decide) rfl (kin _ _ hlk) rfl (by rw [hfd]; exact har) rfl (kin _ _ hcode) rfl hvs hfile F.top ?_
  refine PySem.W.ks_loadName_global F.kd F.ks (PySem.Calls.loadGlobal_builtin (env := (icx P w K mg base q scope f (.ref ca) cc A outer s H0).env) (base_.glob.keeps bk) (PySem.W.mg_none_of base_.kin base_.glob F.sup) (hb.keeps bk) ((hbt _ (by decide +kernel)).trans (by decide +kernel)) ⟨rfl, ?_⟩)
  refine wpAny_loadName_free F.kd F.kc (by rfl) ⟨_, kin _ _ hcell, rfl⟩ ?_
  rw [hself]
  refine wpAny_loadName_local F.kd F.ka hn hm ?_
  obtain ⟨hp, g, d, tk, os⟩ := s1
  refine PySem.ks_wpAny_isType_cls hD1 hD2 ⟨rfl, ?_⟩
  refine PySem.ks_wpAny_call_super hD1 hD2 ho rfl (fun c e => by cases e) (PySem.W.looks_mroIn kin G.mro) (fun h' e1 k => ?_)
  have I1 : Inv (icx P w K mg base q scope f (.ref ca) cc A outer s H0) [] [some (.ref a), some y] H ⟨h', g, d, tk, os⟩ := I.kept (t' := tk) k
  have kin1 : K.In h' := I1.kIn
  obtain ⟨t2, ho1⟩ := exo_at I1.hok e
  have hI : PySem.W.Looks (model P w) h' (isInstance (.ref a) (.type "ValueError")) true := by
    have IA : PySem.W.InstAt h' a _ C none := ⟨ho1, rfl, rfl, trivial⟩
    exact IA.type.andThen (PySem.W.looks_subIn kin1 G.sub)
  have hs := G.sup
  unfold PySem.W.ks_superIn at hs
  rw [hclC] at hs
  refine PySem.W.kxs_getMethod PySem.W.kxs_ValueError e1 (PySem.W.looks_opaque kin1 F.thr) (l₀ := .ref C :: bm) ?_ rfl kin1 hs hI naC (by decide) ?_
  · exact fun A Q E s k q => wpAny_bind ((PySem.W.looks_clsIn kin1 hclC) A _ E s k (wpAny_pure q))
  · have I2 : Inv (icx P w K mg base q scope f (.ref ca) cc A outer s H0) [] [some (.ref a), some y] H ⟨h'.push (PySem.W.kxs_mw "ValueError.__init__" a), g, d, tk + 1, os⟩ := I1.kept (t' := tk + 1) fun b u z => Heap.get?_push_of_some _ z
    have I3 : Inv (icx P w K mg base q scope f (.ref ca) cc A outer s H0) [(h'.objs.size, PySem.W.kxs_mw "ValueError.__init__" a)] [some (.ref a), some y] H ⟨h'.push (PySem.W.kxs_mw "ValueError.__init__" a), g, d, tk + 1, os⟩ := I2.pins_of fun pr hpr => by
      have hpr' : pr = (h'.objs.size, PySem.W.kxs_mw "ValueError.__init__" a) := by simpa [icx] using hpr
      subst hpr'
      exact ⟨Heap.get?_push_at rfl rfl, I1.hok.fresh (Nat.le_refl _), Nat.ne_of_gt I1.lt, I1.nofs (Nat.le_refl _), fun v z => by cases z⟩
    refine PySem.W.kxs_callWith (i := "ValueError.__init__") (x := a) (by rfl) (PySem.Calls.evalArgs_plain ?_)
    refine wpAny_mono ((pa_cons (pe_var (pos := p3) (i := 1) (x := "value") rfl (.inl F.kv)) pa_nil).run p4 _ _ _ H (fun vs H1 => vs = [y] ∧ H1 = H) I3 ⟨y, rfl, rfl, rfl⟩) (fun us s2 hq => ?_) fun _ _ z => z.elim
    obtain ⟨vs1, H1, I4, r, hv, hH⟩ := hq
    subst hv
    subst hH
    obtain ⟨hu, hnu, _⟩ := I4.pin (h'.objs.size, PySem.W.kxs_mw "ValueError.__init__" a) (by simp)
    refine ⟨hu, ?_⟩
    obtain ⟨hp2, g2, d2, tk2, os2⟩ := s2
    obtain ⟨t3, ho3⟩ := exo_at I4.hok e
    have len : us.length ≤ sizeLine := by
      rw [← Paired.length r, sizeLine_eq]; simp
    refine call_mw (I4.kIn _ _ hC) (fun Y => HandSPX.refsVE_contains Y (.ref C :: bm) hbm) ho3 hu len fun h3 t4 k3 e3 => ?_
    have J := I4.write (t' := tk2) (x := a) (e := a) (o := exo a C none) (by rw [e]; exact True.intro) (.inl rfl) k3 ⟨_, e3⟩ (exo_ok e3)
    have eu : upd H1 a (exo a C none) = H1 := by
      funext b
      by_cases hb : b = a
      · rw [hb, upd_same, e]
      · rw [upd_ne hb]
    rw [eu] at J
    exact h _ (J.pins_of fun pr hpr => J.pin pr (by
      have : pr ∈ (icx P w K mg base q scope f (.ref ca) cc A outer s H0).pn := by simpa using hpr
      exact List.mem_append_left _ this))
end VS
namespace VS
open PySem PySem.Spec PyProof.Rows L2
/-- what such an __init__ promises -/
def spInit (K : PySem.W.Frag) (D : Addr) : Sp := fun vs H Q _ => ∃ (a C : Addr) (y : V), vs = [.ref a, y] ∧ ExcF K C D ∧ PySem.W.findIn K (.ref C) "value" = some none ∧ H a = some (exo a C none) ∧
  ∀ dx, H dx = none → dx ≠ a → Q .non (upd (upd H dx (exd dx [("value", y)])) a (exo a C (some dx)))
theorem init_ok {CX : CXT} {P : Program} {w : World} {K : PySem.W.Frag} {mg : Str → Option Value} {base : Heap} {q : Str} {params : Arguments} {scope : Scope} {f D cc : Addr} {fd : FuncData} {p0 p1 p2 p3 p4 p5 q1 q2 q3 q4 : Pos}
    (he : ∀ env : PySem.Env, ∃ pl : Sem Bool, eval (.Call (.Attribute (.Call (.Name "super" p0) [] [] p1) "__init__" p2) [.Name "value" p3] [] p4) env = (do
      let ov ← attributeBase (.Call (.Name "super" p0) [] [] p1) "__init__" env (eval (.Call (.Name "super" p0) [] [] p1) env)
      standAt p2.atName
      let (fx, first) ← holding [ov] (getMethod ov "__init__" pl)
      callWith p4 fx first (backTo p4 (starEach [.Name "value" p3] env)) []))
    (F : InitF P K f D cc q params [.Expr (.Call (.Attribute (.Call (.Name "super" p0) [] [] p1) "__init__" p2) [.Name "value" p3] [] p4) p5, .Assign [.Attribute (.Name "self" q1) "value" q2] (.Name "value" q3) q4] scope fd) :
    FnOk P w K mg base CX 1 f fd ["self", "value"] (spInit K D) := by
  obtain ⟨oc, od, dV, kV, doc, pm, an, cdv, ct, osl, hfd, hlk, hcd, ca, ccl, cdd, vs, ccs, file, tf, hcdv, hcode, hvs, hfile⟩ := F.lk
  refine ⟨fun vs H Q E ⟨a, C, y, e, _⟩ => by rw [e]; rfl, fun A outer s H args us vs Q E hr e0 hb r hsp => ?_⟩
  obtain ⟨a, C, y, rfl, G, hno, ea, hfin⟩ := hsp
  obtain ⟨u0, u1, rfl, r0, r1⟩ : ∃ u0 u1, us = [u0, u1] ∧ RelV (.ref a) u0 ∧ RelV y u1 := by
    cases r with
    | cons r0 r =>
      cases r with
      | cons r1 r => cases r; exact ⟨_, _, rfl, r0, r1⟩
  obtain rfl : u0 = .ref a := r0
  have KX : K.In s.heap := e0.mod.kin.keeps fun b o z => (e0.bs b o z).1
  have lim : s.heap.NoLimit := e0.mod.nolimit.keeps fun b o z => (e0.bs b o z).1
  refine PySem.ks_codeAny_call_defAt (binds := [("self", .ref a), ("value", u1)]) hr.depth (KX _ _ hlk) rfl lim (by rw [hfd]; exact PySem.W.codeRec_of KX hcd) (by rw [hfd]) hb (by rw [hfd]; exact F.nc) (by
    rw [hfd]
    intro x hx
    rcases List.mem_cons.mp hx with rfl | hx
    · exact F.ka
    · obtain rfl := List.mem_singleton.mp hx
      exact F.kv) (fun h₀ hns hk => ?_) (by rw [hfd]; exact F.co) (by rw [hfd]; exact F.gn) (by rw [hfd]; exact F.kd)
  have hce : callEnv fd s.heap.objs.size f = PySem.W.ksEnv q scope s.heap.objs.size f cdv cc := by rw [hfd] <;> rfl
  rw [hce]
  have I := icx_start (tk := s.toks + 2) F hr.hd e0 r1 hns hk (cd := cdv)
  obtain ⟨pl, hpl⟩ := he (icx P w K mg base q scope f cdv cc A outer s H).env
  refine PySem.ks_wpAt_execs_cons (PySem.ks_wpAt_Expr_any ?_ ?_ ?_)
  · refine icx_super hpl F ⟨oc, od, dV, kV, doc, pm, an, ct, osl, hfd, hlk⟩ ⟨ca, ccl, cdd, vs, ccs, file, tf, hcdv, hcode, hvs, hfile⟩ G I ea fun s' J => ?_
    refine wpAt_of_wpAny ?_
    refine wpAny_mono ((pss_one (ps_ost (pe_var (pos := q1) (i := 0) (x := "self") rfl (.inl F.ka)) (pe_var (pos := q3) (i := 1) (x := "value") rfl (.inl F.kv)))).run [] s' _ H { nx := fun _ H' => Q .non H', rt := Q } J
      ⟨y, rfl, .ref a, rfl, a, C, rfl, G.oex, hno, .inl ⟨ea, hfin⟩⟩) (fun fl s2 hq => ?_) fun _ _ z => z.elim
    have z := ends_of (X := icx P w K mg base q scope f cdv cc A outer s H) (CX := CX) (E := E) (P := P) (w := w) (H := H) (st := s) (below := outer) rfl rfl rfl rfl rfl rfl hq
    cases fl <;> exact z
  · simp [interactive, PySem.W.ksEnv, F.kd]
  · rfl
end VS

/-! raising such an exception; a try that hands the caught one out -/
namespace VS
open PySem PySem.Spec PyProof.Rows L2
theorem xd_end {H1 : Hp} {a C dx : Addr} {fs : List (Str × V)} (ha : H1 a = none) (hd : dx ≠ a) :
    upd (del (upd (upd (upd H1 a (exo a C none)) dx (exd dx fs)) a (exo a C (some dx))) a) dx (.xd fs) = upd H1 dx (.xd fs) := by
  funext b
  by_cases h1 : b = dx
  · rw [h1, upd_same, upd_same]
  · rw [upd_ne h1, upd_ne h1]
    by_cases h2 : b = a
    · rw [h2, del_same, ha]
    · rw [del_ne h2, upd_ne h2, upd_ne h1, upd_ne h2]
/-- X(e) for a class below D's -/
theorem pmk_val {X : Cx} {CX : CXT} {x : Str} {C D fI : Addr} {fd : FuncData} {e : Expr} {te : TE} {p pos : Pos} (hmono : ∀ σ H (Q Q' : L2.VK), (∀ v H', Q v H' → Q' v H') → te σ H Q → te σ H Q') (G : ExcF X.K C D) (iC : PySem.W.findIn X.K (.ref C) "__init__" = some (some (.ref fI))) (tI : PySem.W.typeIn X.K (.ref fI) = some (.type "function")) (hno : PySem.W.findIn X.K (.ref C) "value" = some none)
    (F1 : FnOk X.prog X.w X.K X.mg X.base CX 1 fI fd ["self", "value"] (spInit X.K D)) (hr : Room 2 X.A) (hb : Binds X.K fd ["self", "value"] []) (hx : Passes CX X (fun _ _ _ => False)) (hg : Gl X x) (hm : X.mg x = some (.ref C)) (he : PE X e te)
    (hdb : (x == ("__debug__" : Str)) = false := by decide) (hs : starEach [e] X.env = (false, eval e X.env) :: starEach [] X.env := by rfl) :
    PMk X (.Call (.Name x p) [e] [] pos) (fun σ H Q => te σ H fun y H1 => ∀ dx, H1 dx = none → Q (.ref C) (some dx) (upd H1 dx (.xd [("value", y)]))) := by
  have base_ := pmk_oex (ds := []) (dvs := []) (p := p) (pos := pos) G.oex iC tI F1 hr hb .nil hx hg hm (pa_cons he pa_nil hs) hdb hs (by rfl)
  intro pins s σ H Q I h
  refine base_ pins s σ H Q I (hmono σ H _ _ (fun y H1 q => ⟨by simp, fun a ha => ⟨a, C, y, rfl, G, hno, upd_same, fun dx hdx hda => ⟨rfl, dx, [("value", y)], upd_same, ?_, ?_, ?_⟩⟩⟩) h)
  · rw [upd_ne hda, upd_same]
  · rw [upd_ne hda] at hdx; exact hdx
  · have hdx' : H1 dx = none := by rw [upd_ne hda] at hdx; exact hdx
    rw [xd_end ha hda]
    exact q dx hdx'
/-- an exception held as a value: its class, its dict's place -/
def ExV (cls : Value) (dx a : Addr) : HO := .ext fun h => ∃ (oe : Obj) (vs : Array Value), h.get? a = some oe ∧ Zc cls (some dx) oe ∧ oe.data = .fields vs
theorem exV_ok {P : Program} {w : World} {H : Hp} {h : Heap} {a dx : Addr} {cls : Value} {oe : Obj} {vs : Array Value} (e : h.get? a = some oe) (z : Zc cls (some dx) oe) (d : oe.data = .fields vs) : ObjOk P w H h a (ExV cls dx a) :=
  ⟨⟨oe, vs, e, z, d⟩, ⟨oe, e⟩, fun h1 h2 ⟨oe, vs, e1, z, d⟩ k => ⟨oe, vs, k _ e1, z, d⟩⟩
theorem exV_at {P : Program} {w : World} {H : Hp} {h : Heap} {a dx : Addr} {cls : Value} (x : HOk P w H h) (e : H a = some (ExV cls dx a)) : ∃ (oe : Obj) (vs : Array Value), h.get? a = some oe ∧ Zc cls (some dx) oe ∧ oe.data = .fields vs := by
  have z := x a _ e
  exact z.1
/-- an object that came to be behind the entry is tracked from now on -/
theorem un_track {fs ex : List Addr} {H0 H : Hp} {h0 h : Heap} {a : Addr} {o : HO} (u : Un fs ex H0 H h0 h) (hn : h0.get? a = none) (hH : H a = none) : Un fs ex H0 (upd H a o) h0 h where
  keep := u.keep
  slot := u.slot
  free := fun b ob q n hx => by
    rw [upd_ne (by rintro rfl; rw [hn] at q; cases q)]
    exact u.free b ob q n hx
  there := u.there
  tups := fun b xs q => by
    have z := u.tups b xs q
    rw [upd_ne (ne_of_none z hH)]; exact z
  frzs := fun b ob v q => by
    have z := u.frzs b ob v q
    rw [upd_ne (ne_of_none z hH)]; exact z
  tbls := fun b ps q => by
    obtain ⟨more, z⟩ := u.tbls b ps q
    exact ⟨more, by rw [upd_ne (ne_of_none z hH)]; exact z⟩
theorem inv_track {X : Cx} {pins : List (Addr × Obj)} {σ : L2.St} {H : Hp} {s : Shared} {a : Addr} {o : HO} {oe : Obj} {vs : Array Value} (I : Inv X pins σ H s) (hn : X.s_0.heap.get? a = none) (hH : H a = none) (ho : s.heap.get? a = some oe) (hd : oe.data = .fields vs) (hL : a ≠ X.env.locals)
    (hp : ∀ p ∈ X.pn ++ pins, p.1 ≠ a) (new : ObjOk X.prog X.w (upd H a o) s.heap a o) : Inv X pins σ (upd H a o) s :=
  ⟨I.ok, I.os, I.bare, un_track I.base hn hH, I.loc, I.cell, by rw [upd_ne (Ne.symm hL)]; exact I.free, fun x c e => by
    rw [upd_ne (by
      rintro rfl
      obtain ⟨v, ob, e1, e2⟩ := I.cell x c e
      rw [ho] at e1; cases e1
      rw [hd] at e2; cases e2)]
    exact I.freeC x c e, fun p h => by
    obtain ⟨z1, z2, z3⟩ := I.pin p h
    exact ⟨z1, by rw [upd_ne (hp p h)]; exact z2, z3⟩, I.hok.laidN (fun _ _ z => z) hH new, I.len⟩
end VS
namespace VS
open PySem PySem.Spec PyProof.Rows L2
/-- what 'except c as n: return n' wishes of an exception of the body -/
def wVal (K : PySem.W.Frag) (c : Value) (D : Ends) : WX := fun cls d _ H => PySem.W.exmOne K cls c = some true ∧ ∃ dx, d = some dx ∧ ∀ a, H a = none → D.rt (.ref a) (upd H a (ExV cls dx a))
theorem ps_try_val {X : Cx} {x n : Str} {c : Value} {i : Nat} {body : List Stmt} {np rp rpos pos pos' : Pos} {tb : WX → TS} (hs : X.stack = X.env :: X.outer) (hf : X.env.frame = some X.env.locals) (hN : X.N.Nodup) (hi : X.N[i]? = some n) (hln : X.env.kindOf n = some .local) (hc : Names X x c)
    (hex : X.ex = []) (hdn : (n == ("__debug__" : Str)) = false) (hcn : (n == ("__classdict__" : Str)) = false)
    (hb : ∀ (W : WX) (pn : List (Addr × Obj)) (xe : Value → Shared → Prop), Takes (X.tr pn xe) W → PassesOwn (model X.prog X.w) X.A X.env xe → PSs (X.tr pn xe) body (tb W)) :
    PS X (.Try body [.ExceptHandler (some (.Name x np)) (some n) [.Return (some (.Name n rp)) rpos] pos'] [] [] pos) (fun D σ H => tb (wVal X.K c D) D σ H) := by
  refine ⟨fun pins s σ H D I h => ?_⟩
  have ok := I.ok
  have hfr : X.A.frames = some (X.env :: X.outer) := by rw [ok.frames, hs]
  refine wpAny_Try_except ?_
  have clause : ∀ u s', XE (X.tr (X.pn ++ pins) (fun e s₁ => wpAny (model X.prog X.w) X.A (noteFrame e X.env) (fun _ s₂ => wpAny (model X.prog X.w) X.A (setFlight e none) (fun _ s₃ =>
      wpAny (model X.prog X.w) X.A (handleBy e X.env [.ExceptHandler (some (.Name x np)) (some n) [.Return (some (.Name n rp)) rpos] pos']) (SP X pins D) X.xe s₃) X.xe s₂) X.xe s₁)) (wVal X.K c D) u s' →
      wpAny (model X.prog X.w) X.A (noteFrame u X.env) (fun _ s₂ => wpAny (model X.prog X.w) X.A (setFlight u none) (fun _ s₃ =>
      wpAny (model X.prog X.w) X.A (handleBy u X.env [.ExceptHandler (some (.Name x np)) (some n) [.Return (some (.Name n rp)) rpos] pos']) (SP X pins D) X.xe s₃) X.xe s₂) X.xe s' := by
    rintro u s' ⟨a, B, sI, own, τ, Hx, cls, d, rfl, J0, nb, up, sky, na, os, ag, hm, dx, rfl, fin⟩
    have J : Inv X pins τ Hx sI := J0.ofTry ok
    have air : Sky B (X.env :: X.outer) a (Zc cls (some dx)) X.env.locals s'.heap := by rw [← hs]; exact sky
    refine Sky.land Zc.steady hfr hf air fun h3 fl3 up3 => ?_
    have J3 : Inv X pins τ Hx { s' with heap := h3 } := J.landed nb fl3.1 (up.trans up3) os ag
    obtain ⟨o3, v3, get3, z3, data3⟩ := fl3.there
    have nfr : a ∉ frs (X.env :: X.outer) := fun hm => by
      obtain ⟨_, o', e', hnf⟩ := fl3.2.2.1.mem hm
      rw [get3] at e'; cases e'
      exact hnf _ data3
    have nL : a ≠ X.env.locals := fun z => nfr (List.mem_filterMap.mpr ⟨X.env, List.mem_cons_self, by rw [hf, z]⟩)
    have nF : a ∉ X.fs := fun hm => by
      obtain ⟨e, he, q⟩ := List.mem_filterMap.mp hm
      exact nfr (List.mem_filterMap.mpr ⟨e, List.mem_cons_of_mem _ he, q⟩)
    have notI : sI.heap.get? a = none := by
      cases q : sI.heap.get? a with
      | none => rfl
      | some ob =>
        have z := nb a ob q (by show a ∉ frs X.stack; rw [hs]; exact nfr)
        rw [fl3.2.1] at z; cases z
    have notS : X.s_0.heap.get? a = none := by
      cases q : X.s_0.heap.get? a with
      | none => rfl
      | some ob =>
        by_cases hx : a ∈ X.ex
        · rw [hex] at hx; cases hx
        · obtain ⟨o', e'⟩ := J.base.there a ob q hx
          rw [notI] at e'; cases e'
    have S3 := J3.suite get3 data3 na nL nF
    refine wpAny_handleBy_cons (codeAny_handlers_test ?_) (by intro q; cases q)
    have LT : PySem.W.Looks (model X.prog X.w) h3 (typeOf (.ref a)) cls := fun A Q E s k q => wpAny_typeOf_ref (k _ _ get3) (by rw [z3.1]; exact q)
    have LM := PySem.W.exm_one (M := model X.prog X.w) (J3.kIn) LT hm
    have test : ∀ {Q : Value → Shared → Prop} {E : Value → Shared → Prop}, Q c { s' with heap := h3 } → wpAny (model X.prog X.w) (X.A.mark (some (.ref a))) (eval (.Name x np) X.env) Q E { s' with heap := h3 } := fun {Q E} q => by
      obtain ⟨hg, hdbg, hm | ⟨hm, hv, hnn⟩⟩ := hc
      · exact ld_glob (X := X.suite a ((a, o3) :: (X.pn ++ pins))) S3 hg hm q hdbg
      · exact ld_blt (X := X.suite a ((a, o3) :: (X.pn ++ pins))) S3 hg hm hv q hnn hdbg
    refine test (LM.here ?_)
    refine codeAny_handlers_suite_as ?_
    refine HandSPX.lands_againZ fl3 fun h4 fl4 up4 => ?_
    have J4 : Inv X pins τ Hx { s' with heap := h4 } := J.landed nb fl4.1 ((up.trans up3).trans up4) os ag
    obtain ⟨o4, v4, get4, z4, data4⟩ := fl4.there
    have S4 := J4.suite get4 data4 na nL nF
    refine store_ok (X := X.suite a ((a, o4) :: (X.pn ++ pins))) (v := .ref a) S4 hN hi (.inl hln) rfl (fun s5 S5 => ?_) (.inr hln)
    have ret := pss_one (ps_ret (pos := rpos) (pe_var (X := X.suite a ((a, o4) :: (X.pn ++ pins))) (pos := rp) (i := i) hi (.inl hln) hdn hcn))
    have slot : (τ.set i (some (V.ref a)))[i]? = some (some (.ref a)) := by
      rw [List.getElem?_set_self]
      have := (List.getElem?_eq_some_iff.mp hi).1
      rw [J.len]; exact this
    refine wpAny_mono (ret.run [] s5 _ Hx { nx := fun _ _ => False, rt := fun v H6 => v = .ref a ∧ H6 = Hx } S5 ⟨_, slot, rfl, rfl⟩) (fun f s6 hsp => ?_) (fun _ _ z => False.elim z)
    match f, hsp with
    | .next, ⟨_, _, _, q6⟩ => exact q6.elim
    | .brk, ⟨_, _, _, q6⟩ => exact q6.elim
    | .cont, ⟨_, _, _, q6⟩ => exact q6.elim
    | .ret u, ⟨v6, σ6, H6, S6, r6, e6, eH⟩ =>
      subst e6
      subst eH
      have at6 := (S6.pin (a, o4) (by simp)).1
      have J6 : Inv X (pins ++ [(a, o4)]) σ6 H6 s6 := (S6.unsuite ok).pins_of fun p hp => by
        rcases List.mem_append.mp hp with h | h
        · exact S6.pin p (by simp [h])
        · obtain rfl := List.mem_singleton.mp h
          exact S6.pin (a, o4) (by simp)
      refine gone_ok J6 hN hi hln fun s7 J7 => ?_
      have at7 := (J7.pin (a, o4) (by simp)).1
      refine ⟨.ref a, _, _, inv_track (o := ExV cls dx a) (J7.pins_of fun p hp => J7.pin p (by simp [hp])) notS na at7 data4 nL (fun p hp z => ?_) (exV_ok at7 z4 data4), r6, fin a na⟩
      have := (J.pin p hp).1
      rw [z, notI] at this; cases this
  refine wpAny_mono ((hb (wVal X.K c D) (X.pn ++ pins) _ clause PassesOwn.looking).run [] s σ H D (I.toTry _) h) (fun f s1 hsp => ?_) (fun e s1 he => he)
  match f, hsp with
  | .next, ⟨σ', H', J', q⟩ => exact wpAny_execs_nil ⟨σ', H', J'.ofTry ok, q⟩
  | .brk, ⟨σ', H', J', q⟩ => exact ⟨σ', H', J'.ofTry ok, q⟩
  | .cont, ⟨σ', H', J', q⟩ => exact ⟨σ', H', J'.ofTry ok, q⟩
  | .ret u, ⟨v, σ', H', J', r, q⟩ => exact ⟨v, σ', H', J'.ofTry ok, r, q⟩
end VS

set_option maxHeartbeats 4000000
/-! VS: data as values over the hand layer -/
namespace VS
open PySem PySem.Spec PyProof.Rows L2
variable {Θ : List (Addr × Str)}

/-- a datum -/
inductive D where
  | non | bl (b : Bool) | int (i : Int) | str (x : Str) | tup (xs : List D) | lst (xs : List D) | rol (xs : List D)
  | dic (kvs : List (Key × D)) | dit (kvs : List (List Key × D)) | ins (C : Addr) (fs : List (Str × D)) | pot | exc (x : Str) (d : D) | rdi (o : Obj) (kvs : List (List Key × V)) (kds : List (List Key × D))

mutual
/-- nothing in it can change -/
def D.imm : D → Bool
  | .lst _ => false
  | .rol _ => false
  | .dic _ => false
  | .dit _ => false
  | .ins _ _ => false
  | .rdi _ _ _ => false
  | .tup xs => immAll xs
  | .exc _ d => d.imm
  | _ => true
def immAll : List D → Bool
  | [] => true
  | d :: ds => d.imm && immAll ds
end
theorem immAll_iff {ds : List D} : immAll ds = true ↔ ∀ d ∈ ds, d.imm = true := by
  induction ds with
  | nil => simp [immAll]
  | cons d ds ih => simp [immAll, ih]

mutual
inductive DV (K : PySem.W.Frag) (P : List Addr) (H : Hp) : D → V → List Addr → Prop
  | non : DV K P H .non .non []
  | bl (b : Bool) : DV K P H (.bl b) (.bl b) []
  | int (i : Int) : DV K P H (.int i) (.int i) []
  | str (x : Str) : DV K P H (.str x) (.str x) []
  | tup {a : Addr} {vs : List V} {ds : List D} {F : List Addr} : (H a = some (.tup vs) ∧ a ∉ P) → DVs K P H ds vs F → DV K P H (.tup ds) (.ref a) F
  | lst {a : Addr} {vs : List V} {ds : List D} {F : List Addr} : H a = some (.lst vs) → a ∉ P → DVs K P H ds vs F → DV K P H (.lst ds) (.ref a) (a :: F)
  | rol {a : Addr} {vs : List V} {ds : List D} {F : List Addr} : ((∃ o, H a = some (.frz o (.lst vs))) ∧ a ∉ P) ∨ KLst K a vs → DVs K P H ds vs F → DV K P H (.rol ds) (.ref a) F
  | dic {a : Addr} {kvs : List (Key × V)} {kds : List (Key × D)} {F : List Addr} : Rd H a (.dK kvs) → a ∉ P → kvs.map (·.1) = kds.map (·.1) → DVs K P H (kds.map (·.2)) (kvs.map (·.2)) F → DV K P H (.dic kds) (.ref a) (a :: F)
  | dit {a : Addr} {kvs : List (List Key × V)} {kds : List (List Key × D)} {F : List Addr} : Rd H a (.dT kvs) → a ∉ P → kvs.map (·.1) = kds.map (·.1) → DVs K P H (kds.map (·.2)) (kvs.map (·.2)) F → DV K P H (.dit kds) (.ref a) (a :: F)
  | ins {a C dx : Addr} {fvs : List (Str × V)} {fds : List (Str × D)} {F : List Addr} : H a = some (.ins C dx fvs) → H dx = some (.own a) → a ∉ P → dx ∉ P → fvs.map (·.1) = fds.map (·.1) → DVs K P H (fds.map (·.2)) (fvs.map (·.2)) F → DV K P H (.ins C fds) (.ref a) (a :: F)
  | pot {a : Addr} : a ∈ P → DV K P H .pot (.ref a) []
  | rdi {o : Obj} {a : Addr} {kvs : List (List Key × V)} {kds : List (List Key × D)} {F : List Addr} : H a = some (.frz o (.dT kvs)) → a ∉ P → kvs.map (·.1) = kds.map (·.1) → DVs K P H (kds.map (·.2)) (kvs.map (·.2)) F → DV K P H (.rdi o kvs kds) (.ref a) F
  | exc {a dx : Addr} {x : Str} {w : V} {d : D} {F : List Addr} : H a = some (ExV (.ref (He.ga K x)) dx a) → H dx = some (.xd [("value", w)]) → a ∉ P → dx ∉ P → d.imm = true → DVs K P H [d] [w] F → DV K P H (.exc x d) (.ref a) F
inductive DVs (K : PySem.W.Frag) (P : List Addr) (H : Hp) : List D → List V → List Addr → Prop
  | nil : DVs K P H [] [] []
  | cons {d : D} {ds : List D} {v : V} {vs : List V} {F G : List Addr} : DV K P H d v F → DVs K P H ds vs G → DVs K P H (d :: ds) (v :: vs) (F ++ G)
end

/-- no table of code objects -/
def NT (o : HO) : Prop := ∀ ps, o ≠ .tbl ps
theorem nt_ext {φ : Heap → Prop} : NT (.ext φ) := fun _ z => nomatch z
theorem nt_tup {xs : List V} : NT (.tup xs) := fun _ z => nomatch z
theorem nt_lst {xs : List V} : NT (.lst xs) := fun _ z => nomatch z
theorem nt_frz {o : Obj} {u : HO} : NT (.frz o u) := fun _ z => nomatch z
theorem nt_dK {xs : List (Key × V)} : NT (.dK xs) := fun _ z => nomatch z
theorem nt_dT {xs : List (List Key × V)} : NT (.dT xs) := fun _ z => nomatch z
theorem nt_ins {C dx : Addr} {fs : List (Str × V)} : NT (.ins C dx fs) := fun _ z => nomatch z
theorem nt_own {x : Addr} : NT (.own x) := fun _ z => nomatch z
theorem nt_xd {fs : List (Str × V)} : NT (.xd fs) := fun _ z => nomatch z
/-- the heap goes on: what is tracked stays, but for the pots and the tables of code objects -/
structure Evo (Θ : List (Addr × Str)) (P P' : List Addr) (H H' : Hp) : Prop where
  keep : ∀ a o, H a = some o → a ∉ P → NT o → H' a = some o
  tab : ∀ p ∈ Θ, LamX.TabS H p.1 p.2 → LamX.TabS H' p.1 p.2
  there : ∀ a, H a ≠ none → H' a ≠ none
  sub : ∀ a ∈ P, a ∈ P'
  new : ∀ a ∈ P', a ∉ P → H a = none

section
variable {K : PySem.W.Frag} {P P' P'' : List Addr} {H H' H'' : Hp}
theorem Evo.refl : Evo Θ P P H H := ⟨fun _ _ h _ _ => h, fun _ _ h => h, fun _ h => h, fun _ h => h, fun _ h n => absurd h n⟩
theorem Evo.trans (a : Evo Θ P P' H H') (b : Evo Θ P' P'' H' H'') : Evo Θ P P'' H H'' where
  keep := fun x o h n nt => by
    have h' := a.keep x o h n nt
    refine b.keep x o h' (fun hp => ?_) nt
    have := a.new x hp n
    rw [h] at this; cases this
  tab := fun x q h => b.tab x q (a.tab x q h)
  there := fun x h => b.there x (a.there x h)
  sub := fun x h => b.sub x (a.sub x h)
  new := fun x h n => by
    by_cases hp : x ∈ P'
    · exact a.new x hp n
    · have := b.new x h hp
      cases q : H x with
      | none => rfl
      | some o => exact absurd this (a.there x (by rw [q]; simp))
theorem Evo.notin (e : Evo Θ P P' H H') {a : Addr} (h : H a ≠ none) (n : a ∉ P) : a ∉ P' := fun hp => h (e.new a hp n)
/-- a table is not touched by a change of something else -/
theorem tabS_upd {a Pt : Addr} {q : Str} {o : HO} (t : LamX.TabS H Pt q) (h1 : ∀ ps, H a ≠ some (.tbl ps)) (h2 : ∀ q, H a ≠ some (LamX.CodeO a q)) : LamX.TabS (upd H a o) Pt q := by
  obtain ⟨ps, e1, e2, e3⟩ := t
  refine ⟨ps, ?_, e2, fun pos cv hc => ?_⟩
  · rw [upd_ne (by rintro rfl; exact h1 _ e1)]; exact e1
  · obtain ⟨c, z1, z2⟩ := e3 pos cv hc
    exact ⟨c, z1, by rw [upd_ne (by rintro rfl; exact h2 _ z2)]; exact z2⟩
theorem Evo.upd {a : Addr} {o : HO} (h : H a = none) : Evo Θ P P H (upd H a o) :=
  ⟨fun b u q _ _ => by rw [upd_ne (ne_of_none q h)]; exact q, fun b q t => t.ext fun c u z => by rw [upd_ne (ne_of_none z h)]; exact z, fun b q => by
    by_cases e : b = a
    · subst e; exact absurd h q
    · rw [upd_ne e]; exact q, fun _ h => h, fun _ h n => absurd h n⟩
theorem Evo.fresh (e : Evo Θ P P' H H') {a : Addr} (h : H' a = none) : H a = none := by
  cases q : H a with
  | none => rfl
  | some o => exact absurd h (e.there a (by rw [q]; simp))
theorem Evo.same (h : Same H H') : Evo Θ P P H H' := ⟨fun a o q _ _ => h a o q, fun b q t => t.ext h, fun a q => by
  cases e : H a with
  | none => exact absurd e q
  | some o => rw [h a o e]; simp, fun _ h => h, fun _ h n => absurd h n⟩

theorem Rd.evo {a : Addr} {u : HO} (e : Evo Θ P P' H H') (h : Rd H a u) (n : a ∉ P) (nt : NT u) : Rd H' a u := h.imp (fun h => e.keep _ _ h n nt) fun ⟨o, h⟩ => ⟨o, e.keep _ _ h n nt_frz⟩
theorem Rd.some {a : Addr} {u : HO} (h : Rd H a u) : H a ≠ none := by
  rcases h with h | ⟨o, h⟩ <;> rw [h] <;> simp
mutual
theorem DV.evo (e : Evo Θ P P' H H') : ∀ {d : D} {v : V} {F : List Addr}, DV K P H d v F → DV K P' H' d v F
  | _, _, _, .non => .non
  | _, _, _, .bl b => .bl b
  | _, _, _, .int i => .int i
  | _, _, _, .str x => .str x
  | _, _, _, .tup h hs => .tup ⟨e.keep _ _ h.1 h.2 nt_tup, e.notin (by rw [h.1]; simp) h.2⟩ (DVs.evo e hs)
  | _, _, _, .lst h n hs => .lst (e.keep _ _ h n nt_lst) (e.notin (by rw [h]; simp) n) (DVs.evo e hs)
  | _, _, _, .rol h hs => .rol (h.imp (fun ⟨⟨o, h⟩, n⟩ => ⟨⟨o, e.keep _ _ h n nt_frz⟩, e.notin (by rw [h]; simp) n⟩) id) (DVs.evo e hs)
  | _, _, _, .dic h n q hs => .dic (Rd.evo e h n nt_dK) (e.notin (Rd.some h) n) q (DVs.evo e hs)
  | _, _, _, .dit h n q hs => .dit (Rd.evo e h n nt_dT) (e.notin (Rd.some h) n) q (DVs.evo e hs)
  | _, _, _, .ins h h2 n n2 q hs => .ins (e.keep _ _ h n nt_ins) (e.keep _ _ h2 n2 nt_own) (e.notin (by rw [h]; simp) n) (e.notin (by rw [h2]; simp) n2) q (DVs.evo e hs)
  | _, _, _, .pot h => .pot (e.sub _ h)
  | _, _, _, .rdi h n q hs => .rdi (e.keep _ _ h n nt_frz) (e.notin (by rw [h]; simp) n) q (DVs.evo e hs)
  | _, _, _, .exc h h2 n n2 im hs => .exc (e.keep _ _ h n nt_ext) (e.keep _ _ h2 n2 nt_xd) (e.notin (by rw [h]; simp) n) (e.notin (by rw [h2]; simp) n2) im (DVs.evo e hs)
theorem DVs.evo (e : Evo Θ P P' H H') : ∀ {ds : List D} {vs : List V} {F : List Addr}, DVs K P H ds vs F → DVs K P' H' ds vs F
  | _, _, _, .nil => .nil
  | _, _, _, .cons h hs => .cons (DV.evo e h) (DVs.evo e hs)
end
/-- an object that can be changed -/
def MutO : HO → Prop
  | .lst _ => True
  | .dK _ => True
  | .dT _ => True
  | .ins _ _ _ => True
  | _ => False
mutual
theorem DV.live : ∀ {d : D} {v : V} {F : List Addr}, DV K P H d v F → ∀ a ∈ F, H a ≠ none ∧ a ∉ P
  | _, _, _, .non, _, h => by cases h
  | _, _, _, .bl _, _, h => by cases h
  | _, _, _, .int _, _, h => by cases h
  | _, _, _, .str _, _, h => by cases h
  | _, _, _, .tup _ hs, a, h => DVs.live hs a h
  | _, _, _, .lst h0 n hs, a, h => by
    rcases List.mem_cons.mp h with rfl | h
    · exact ⟨by rw [h0]; simp, n⟩
    · exact DVs.live hs a h
  | _, _, _, .rol _ hs, a, h => DVs.live hs a h
  | _, _, _, .dic h0 n _ hs, a, h => by
    rcases List.mem_cons.mp h with rfl | h
    · exact ⟨Rd.some h0, n⟩
    · exact DVs.live hs a h
  | _, _, _, .dit h0 n _ hs, a, h => by
    rcases List.mem_cons.mp h with rfl | h
    · exact ⟨Rd.some h0, n⟩
    · exact DVs.live hs a h
  | _, _, _, .ins h0 _ n _ _ hs, a, h => by
    rcases List.mem_cons.mp h with rfl | h
    · exact ⟨by rw [h0]; simp, n⟩
    · exact DVs.live hs a h
  | _, _, _, .pot _, _, h => by cases h
  | _, _, _, .exc _ _ _ _ _ hs, a, h => DVs.live hs a h
  | _, _, _, .rdi _ _ _ hs, a, h => DVs.live hs a h
theorem DVs.live : ∀ {ds : List D} {vs : List V} {F : List Addr}, DVs K P H ds vs F → ∀ a ∈ F, H a ≠ none ∧ a ∉ P
  | _, _, _, .nil, _, h => by cases h
  | _, _, _, .cons h hs, a, q => by
    rcases List.mem_append.mp q with q | q
    · exact DV.live h a q
    · exact DVs.live hs a q
end
mutual
theorem DV.imm_nil : ∀ {d : D} {v : V} {F : List Addr}, DV K P H d v F → d.imm = true → F = []
  | _, _, _, .non, _ => rfl
  | _, _, _, .bl _, _ => rfl
  | _, _, _, .int _, _ => rfl
  | _, _, _, .str _, _ => rfl
  | _, _, _, .tup _ hs, h => DVs.imm_nil hs (by simpa [D.imm] using h)
  | _, _, _, .lst _ _ _, h => by simp [D.imm] at h
  | _, _, _, .rol _ _, h => by simp [D.imm] at h
  | _, _, _, .dic _ _ _ _, h => by simp [D.imm] at h
  | _, _, _, .dit _ _ _ _, h => by simp [D.imm] at h
  | _, _, _, .ins _ _ _ _ _ _, h => by simp [D.imm] at h
  | _, _, _, .rdi _ _ _ _, h => by simp [D.imm] at h
  | _, _, _, .pot _, _ => rfl
  | _, _, _, .exc _ _ _ _ im hs, _ => DVs.imm_nil hs (by simp [immAll, im])
theorem DVs.imm_nil : ∀ {ds : List D} {vs : List V} {F : List Addr}, DVs K P H ds vs F → immAll ds = true → F = []
  | _, _, _, .nil, _ => rfl
  | _, _, _, .cons h hs, q => by
    simp only [immAll, Bool.and_eq_true] at q
    rw [DV.imm_nil h q.1, DVs.imm_nil hs q.2] <;> rfl
end
theorem Rd.mut {a b : Addr} {o u : HO} (h : Rd H a u) (n : b ≠ a) : Rd (upd H b o) a u := h.imp (fun h => by rw [upd_ne (Ne.symm n)]; exact h) fun ⟨q, h⟩ => ⟨q, by rw [upd_ne (Ne.symm n)]; exact h⟩
mutual
/-- an object outside of its own is changed -/
theorem DV.mut {b : Addr} {o u : HO} (hb : H b = some u) (mu : MutO u) : ∀ {d : D} {v : V} {F : List Addr}, DV K P H d v F → b ∉ F → DV K P (upd H b o) d v F
  | _, _, _, .non, _ => .non
  | _, _, _, .bl b, _ => .bl b
  | _, _, _, .int i, _ => .int i
  | _, _, _, .str x, _ => .str x
  | _, _, _, .tup h hs, n => .tup ⟨by rw [upd_ne (ne_of h.1 hb (by rintro rfl; exact mu))]; exact h.1, h.2⟩ (DVs.mut hb mu hs n)
  | _, _, _, .lst h q hs, n => .lst (by rw [upd_ne (fun z => n (by rw [z]; simp))]; exact h) q (DVs.mut hb mu hs fun z => n (List.mem_cons_of_mem _ z))
  | _, _, _, .rol h hs, n => .rol (h.imp (fun ⟨⟨o, h⟩, q⟩ => ⟨⟨o, by rw [upd_ne (ne_of h hb (by rintro rfl; exact mu))]; exact h⟩, q⟩) id) (DVs.mut hb mu hs n)
  | _, _, _, .dic h q e hs, n => .dic (Rd.mut h (fun z => n (by rw [z]; simp))) q e (DVs.mut hb mu hs fun z => n (List.mem_cons_of_mem _ z))
  | _, _, _, .dit h q e hs, n => .dit (Rd.mut h (fun z => n (by rw [z]; simp))) q e (DVs.mut hb mu hs fun z => n (List.mem_cons_of_mem _ z))
  | _, _, _, .ins h h2 q q2 e hs, n => .ins (by rw [upd_ne (fun z => n (by rw [z]; simp))]; exact h) (by rw [upd_ne (ne_of h2 hb (by rintro rfl; exact mu))]; exact h2) q q2 e (DVs.mut hb mu hs fun z => n (List.mem_cons_of_mem _ z))
  | _, _, _, .pot h, _ => .pot h
  | _, _, _, .rdi h n q hs, nn => .rdi (by rw [upd_ne (ne_of h hb (by rintro rfl; exact mu))]; exact h) n q (DVs.mut hb mu hs nn)
  | _, _, _, .exc h h2 n n2 im hs, nn => .exc (by rw [upd_ne (ne_of h hb (by intro z; rw [← z] at mu; exact mu))]; exact h) (by rw [upd_ne (ne_of h2 hb (by rintro rfl; exact mu))]; exact h2) n n2 im (DVs.mut hb mu hs nn)
theorem DVs.mut {b : Addr} {o u : HO} (hb : H b = some u) (mu : MutO u) : ∀ {ds : List D} {vs : List V} {F : List Addr}, DVs K P H ds vs F → b ∉ F → DVs K P (upd H b o) ds vs F
  | _, _, _, .nil, _ => .nil
  | _, _, _, .cons h hs, n => .cons (DV.mut hb mu h fun z => n (List.mem_append_left _ z)) (DVs.mut hb mu hs fun z => n (List.mem_append_right _ z))
end
theorem DVs.length : ∀ {ds : List D} {vs : List V} {F : List Addr}, DVs K P H ds vs F → ds.length = vs.length
  | _, _, _, .nil => rfl
  | _, _, _, .cons _ hs => congrArg (· + 1) (DVs.length hs)
theorem DVs.get : ∀ {ds : List D} {vs : List V} {F : List Addr} {i : Nat} {v : V}, DVs K P H ds vs F → vs[i]? = some v → ∃ d G, ds[i]? = some d ∧ DV K P H d v G ∧ G.Sublist F
  | _, _, _, _, _, .nil, e => by simp at e
  | _, _, _, 0, _, .cons h _, e => by simp at e; subst e; exact ⟨_, _, rfl, h, List.sublist_append_left _ _⟩
  | _, _, _, i + 1, v, .cons _ hs, e => by
    obtain ⟨d, G, h1, h2, h3⟩ := DVs.get (i := i) (v := v) hs (by simpa using e)
    exact ⟨d, G, by simpa using h1, h2, h3.trans (List.sublist_append_right _ _)⟩
theorem DVs.getD : ∀ {ds : List D} {vs : List V} {F : List Addr} {i : Nat} {d : D}, DVs K P H ds vs F → ds[i]? = some d → ∃ v G, vs[i]? = some v ∧ DV K P H d v G ∧ G.Sublist F := fun {ds vs F i d} h e => by
  have hl := h.length
  obtain ⟨hi, e2⟩ := List.getElem?_eq_some_iff.mp e
  obtain ⟨d', G, h1, h2, h3⟩ := DVs.get (i := i) (v := vs[i]'(by omega)) h (by simp [hl ▸ hi])
  rw [e] at h1; cases h1
  exact ⟨_, G, by simp [hl ▸ hi], h2, h3⟩
theorem DVs.append : ∀ {ds es : List D} {vs ws : List V} {F G : List Addr}, DVs K P H ds vs F → DVs K P H es ws G → DVs K P H (ds ++ es) (vs ++ ws) (F ++ G)
  | _, _, _, _, _, _, .nil, g => g
  | _, _, _, _, _, _, .cons h hs, g => by rw [List.append_assoc]; exact .cons h (DVs.append hs g)
/-- a part of it -/
theorem DVs.take : ∀ {ds : List D} {vs : List V} {F : List Addr} (n : Nat), DVs K P H ds vs F → ∃ G, DVs K P H (ds.take n) (vs.take n) G ∧ G.Sublist F
  | _, _, _, 0, _ => ⟨[], by simpa using DVs.nil, List.nil_sublist _⟩
  | _, _, _, _ + 1, .nil => ⟨[], by simpa using DVs.nil, List.nil_sublist _⟩
  | _, _, _, n + 1, .cons h hs => by
    obtain ⟨G, h1, h2⟩ := DVs.take n hs
    exact ⟨_, .cons h h1, List.Sublist.append_left h2 _⟩
theorem DVs.drop : ∀ {ds : List D} {vs : List V} {F : List Addr} (n : Nat), DVs K P H ds vs F → ∃ G, DVs K P H (ds.drop n) (vs.drop n) G ∧ G.Sublist F
  | _, _, _, 0, h => ⟨_, by simpa using h, List.Sublist.refl _⟩
  | _, _, _, _ + 1, .nil => ⟨[], by simpa using DVs.nil, List.nil_sublist _⟩
  | _, _, _, n + 1, .cons h hs => by
    obtain ⟨G, h1, h2⟩ := DVs.drop n hs
    exact ⟨_, by simpa using h1, h2.trans (List.sublist_append_right _ _)⟩
/-- reading a tuple, a list -/
theorem DV.sqT {a : Addr} {ds : List D} {F : List Addr} (h : DV K P H (.tup ds) (.ref a) F) : ∃ vs, SqT K H a vs ∧ DVs K P H ds vs F := by
  cases h with
  | tup h hs => exact ⟨_, .inl (.inl h.1), hs⟩
theorem DV.lst_inv {v : V} {ds : List D} {F : List Addr} (h : DV K P H (.lst ds) v F) : ∃ a vs G, v = .ref a ∧ H a = some (.lst vs) ∧ a ∉ P ∧ DVs K P H ds vs G ∧ F = a :: G := by
  cases h with
  | lst h n hs => exact ⟨_, _, _, rfl, h, n, hs, rfl⟩
theorem DV.rol_inv {v : V} {ds : List D} {F : List Addr} (h : DV K P H (.rol ds) v F) : ∃ a vs, v = .ref a ∧ SqL K H a vs ∧ DVs K P H ds vs F := by
  cases h with
  | rol h hs => exact ⟨_, _, rfl, h.imp (fun h => .inr h.1) id, hs⟩
theorem DV.tup_inv {v : V} {ds : List D} {F : List Addr} (h : DV K P H (.tup ds) v F) : ∃ a vs, v = .ref a ∧ SqT K H a vs ∧ DVs K P H ds vs F := by
  cases h with
  | tup h hs => exact ⟨_, _, rfl, .inl (.inl h.1), hs⟩
theorem DV.tup_is {v : V} {ds : List D} {F : List Addr} (h : DV K P H (.tup ds) v F) : ∃ a vs, v = .ref a ∧ H a = some (.tup vs) ∧ a ∉ P ∧ DVs K P H ds vs F := by
  cases h with
  | tup h hs => exact ⟨_, _, rfl, h.1, h.2, hs⟩
theorem DV.ref_tup {ds : List D} {v : V} {F : List Addr} (h : DV K P H (.tup ds) v F) : ∃ a, v = .ref a := by cases h; exact ⟨_, rfl⟩
/-- a new object beside what is there -/
theorem DV.evoU {a : Addr} {o : HO} {d : D} {v : V} {F : List Addr} (hn : H a = none) (h : DV K P H d v F) : DV K P (L2.upd H a o) d v F := h.evo (Evo.upd (Θ := []) hn)
theorem DVs.evoU {a : Addr} {o : HO} {ds : List D} {vs : List V} {F : List Addr} (hn : H a = none) (h : DVs K P H ds vs F) : DVs K P (L2.upd H a o) ds vs F := h.evo (Evo.upd (Θ := []) hn)
end

/-! ### pots -/
def CAP : Nat := 2 ^ 100000
/-- a pot: n more draws are allowed -/
def PotAt (n : Nat) (H : Hp) (a : Addr) : Prop :=
  ∃ x y c : Int, H a = some (.lst [.int x, .int y, .int c]) ∧ (0 ≤ x ∧ x < 2 ^ 1000) ∧ (0 ≤ y ∧ y < 2 ^ 62) ∧ 0 ≤ c ∧ c + n ≤ CAP
def Pots (n : Nat) (P : List Addr) (H : Hp) : Prop := n ≤ CAP ∧ ∀ a ∈ P, PotAt n H a
theorem Pots.le {n m : Nat} {P : List Addr} {H : Hp} (p : Pots n P H) (h : m ≤ n) : Pots m P H := ⟨Nat.le_trans h p.1, fun a ha =>
  let ⟨x, y, c, h1, h2, h3, h4, h5⟩ := p.2 a ha
  ⟨x, y, c, h1, h2, h3, h4, by omega⟩⟩
theorem Pots.upd {n : Nat} {P : List Addr} {H : Hp} {a : Addr} {o : HO} (p : Pots n P H) (h : a ∉ P) : Pots n P (upd H a o) := ⟨p.1, fun b hb =>
  let ⟨x, y, c, h1, r⟩ := p.2 b hb
  ⟨x, y, c, by rw [upd_ne (fun e => h (by rw [← e]; exact hb))]; exact h1, r⟩⟩
theorem Pots.updN {n : Nat} {P : List Addr} {H : Hp} {a : Addr} {o : HO} (p : Pots n P H) (h : H a = none) : Pots n P (L2.upd H a o) :=
  p.upd fun ha => by
    obtain ⟨x, y, c, h1, _⟩ := p.2 a ha
    rw [h] at h1; cases h1

/-! ### what the slots hold -/
inductive Fl | own | lck | bor
  deriving DecidableEq
abbrev Env := List (Option (Fl × D))
/-- where a value comes from: new; all of the slot i; part of it; anywhere -/
inductive Prov | fresh | all (i : Nat) | sub (i : Nat) | any
structure RC where
  H0 : Hp
  P0 : List Addr
  /-- the tables of code objects, each with the one name that its lambdas bear -/
  T : List (Addr × Str)
  /-- what is wished of an exception -/
  W : WX
/-- the slot holds it, and it stays while nothing but own slots is changed -/
def Env.firm (env : Env) (i : Nat) : Prop := ∃ f d, env[i]? = some (some (f, d)) ∧ f ≠ Fl.bor
def Live (H : Hp) (a : Addr) : Prop := ∃ o, H a = some o ∧ MutO o
/-- what is held beside the slots: what loops walk; ex: it can become a slot's own again -/
structure Tm where
  d : D
  v : V
  F : List Addr
  ex : Bool
abbrev Tmp := List Tm
def Disj (F G : List Addr) : Prop := ∀ a ∈ F, a ∉ G
structure Rep (K : PySem.W.Frag) (R : RC) (env : Env) (σ : L2.St) (H : Hp) (P : List Addr) (fp : Nat → List Addr) (T : Tmp) : Prop where
  len : env.length = σ.length
  base : Evo R.T R.P0 P R.H0 H
  tab : LamX.Tabs R.T H
  slot : ∀ i f d, env[i]? = some (some (f, d)) → ∃ v, σ[i]? = some (some v) ∧ DV K P H d v (fp i)
  own : ∀ i d, env[i]? = some (some (Fl.own, d)) → (fp i).Nodup ∧ ∀ a ∈ fp i, R.H0 a = none ∧ Live H a
  dis : ∀ i j d e, i ≠ j → env[i]? = some (some (Fl.own, d)) → env[j]? = some (some (Fl.own, e)) → Disj (fp i) (fp j)
  lck : ∀ i d, env[i]? = some (some (Fl.lck, d)) → ∀ a ∈ fp i, R.H0 a ≠ none
  tmp : ∀ t ∈ T, DV K P H t.d t.v t.F
  tds : ∀ t ∈ T, ∀ i d, env[i]? = some (some (Fl.own, d)) → Disj (fp i) t.F
  tex : ∀ t ∈ T, t.ex = true → t.F.Nodup ∧ ∀ a ∈ t.F, R.H0 a = none ∧ Live H a
  tdj : T.Pairwise fun t u => (t.ex = true ∨ u.ex = true) → Disj t.F u.F
theorem MutO.ntb {H : Hp} {a : Addr} {o : HO} (h : H a = some o) (m : MutO o) : (∀ ps, H a ≠ some (.tbl ps)) ∧ ∀ q, H a ≠ some (LamX.CodeO a q) :=
  ⟨fun ps z => by rw [h] at z; cases z; exact m, fun q z => by rw [h] at z; cases z; exact m⟩
theorem MutO.nt {o : HO} (h : MutO o) : NT o := fun ps z => by rw [z] at h; exact h
theorem Live.evo {P P' : List Addr} {H H' : Hp} {a : Addr} (e : Evo Θ P P' H H') (n : a ∉ P) (h : Live H a) : Live H' a := let ⟨o, h1, h2⟩ := h; ⟨o, e.keep a o h1 n (MutO.nt h2), h2⟩
theorem Rep.evo {K : PySem.W.Frag} {R : RC} {env : Env} {σ : L2.St} {H H' : Hp} {P P' : List Addr} {fp : Nat → List Addr} {T : Tmp} (r : Rep K R env σ H P fp T) (e : Evo R.T P P' H H') : Rep K R env σ H' P' fp T :=
  ⟨r.len, r.base.trans e, fun p hp => e.tab p hp (r.tab p hp), fun i f d h => let ⟨v, h1, h2⟩ := r.slot i f d h; ⟨v, h1, h2.evo e⟩, fun i d h => ⟨(r.own i d h).1, fun a ha => by
    obtain ⟨v, _, dv⟩ := r.slot i _ d h
    exact ⟨((r.own i d h).2 a ha).1, ((r.own i d h).2 a ha).2.evo e (dv.live a ha).2⟩⟩, r.dis, r.lck, fun t ht => (r.tmp t ht).evo e, r.tds, fun t ht hx => ⟨(r.tex t ht hx).1, fun a ha =>
    ⟨((r.tex t ht hx).2 a ha).1, ((r.tex t ht hx).2 a ha).2.evo e ((r.tmp t ht).live a ha).2⟩⟩, r.tdj⟩
def POk (fp : Nat → List Addr) (env : Env) (Hs H' : Hp) (d : D) (F : List Addr) : Prov → Prop
  | .fresh => F.Nodup ∧ ∀ a ∈ F, Hs a = none ∧ Live H' a
  | .all i => (∃ f, env[i]? = some (some (f, d)) ∧ f ≠ Fl.bor) ∧ F = fp i
  | .sub i => env.firm i ∧ F.Sublist (fp i)
  | .any => True
/-- what an expression has given -/
def Fin (K : PySem.W.Frag) (fp : Nat → List Addr) (env : Env) (Hs : Hp) (d : D) (p : Prov) (v : V) (H' : Hp) (P' : List Addr) : Prop := ∃ F, DV K P' H' d v F ∧ POk fp env Hs H' d F p
section
variable {K : PySem.W.Frag} {fp : Nat → List Addr} {env : Env} {Hs Hs' H H' : Hp} {d : D} {p : Prov} {v : V} {P P' : List Addr} {F : List Addr}
theorem POk.back (e : Evo Θ P P' Hs Hs') (h : POk fp env Hs' H d F p) : POk fp env Hs H d F p := by
  cases p with
  | fresh => exact ⟨h.1, fun a ha => ⟨e.fresh (h.2 a ha).1, (h.2 a ha).2⟩⟩
  | all i => exact h
  | sub i => exact h
  | any => exact h
/-- what a part of it is -/
def Prov.part : Prov → Prov
  | .all i => .sub i
  | p => p
theorem POk.part {F' : List Addr} {d' : D} (h : POk fp env Hs H d F p) (s : F'.Sublist F) : POk fp env Hs H d' F' p.part := by
  cases p with
  | fresh => exact ⟨h.1.sublist s, fun a ha => h.2 a (s.subset ha)⟩
  | all i =>
    obtain ⟨⟨f, h1, h2⟩, h3⟩ := h
    subst h3
    exact ⟨⟨f, d, h1, h2⟩, s⟩
  | sub i => exact ⟨h.1, s.trans h.2⟩
  | any => exact h
theorem POk.evo (e : Evo Θ P P' H H') (n : ∀ a ∈ F, a ∉ P) (h : POk fp env Hs H d F p) : POk fp env Hs H' d F p := by
  cases p with
  | fresh => exact ⟨h.1, fun a ha => ⟨(h.2 a ha).1, (h.2 a ha).2.evo e (n a ha)⟩⟩
  | all i => exact h
  | sub i => exact h
  | any => exact h
theorem POk.nil : POk fp env Hs H d [] .fresh := ⟨List.nodup_nil, fun _ h => by cases h⟩
theorem Fin.back (e : Evo Θ P P' Hs Hs') {Q : List Addr} (h : Fin K fp env Hs' d p v H' Q) : Fin K fp env Hs d p v H' Q := let ⟨F, h1, h2⟩ := h; ⟨F, h1, h2.back e⟩
theorem Fin.evo (e : Evo Θ P P' H H') (h : Fin K fp env Hs d p v H P) : Fin K fp env Hs d p v H' P' := let ⟨F, h1, h2⟩ := h; ⟨F, h1.evo e, h2.evo e fun a ha => (h1.live a ha).2⟩
theorem Fin.imm (h : DV K P H d v F) (hi : d.imm = true) : Fin K fp env Hs d .fresh v H P := ⟨F, h, by rw [h.imm_nil hi]; exact POk.nil⟩
end

/-! ### expressions -/
abbrev VT := Env → (D → Prov → Prop) → Prop
def MonoE (t : VT) : Prop := ∀ env (Q Q' : D → Prov → Prop), (∀ d p, Q d p → Q' d p) → t env Q → t env Q'
def liftE (K : PySem.W.Frag) (R : RC) (c : Nat) (t : VT) : TE := fun σ H Q => ∃ env P fp T r, Rep K R env σ H P fp T ∧ Pots (c + r) P H ∧
  t env fun d p => ∀ v H' P', Evo R.T P P' H H' → Pots r P' H' → Fin K fp env H d p v H' P' → Q v H'
structure VE (X : Cx) (R : RC) (c : Nat) (e : Expr) (t : VT) : Prop where
  mono : MonoE t
  run : PE X e (liftE X.K R c t)
theorem PE.imp {X : Cx} {e : Expr} {t t' : TE} (h : PE X e t) (hi : ∀ σ H Q, t' σ H Q → t σ H Q) : PE X e t' := ⟨fun pins s σ H Q I q => h.run pins s σ H Q I (hi σ H Q q)⟩
theorem PT.imp {X : Cx} {e : Expr} {t t' : TT} (h : PT X e t) (hi : ∀ σ H Q, t' σ H Q → t σ H Q) : PT X e t' := ⟨fun pins s σ H Q I q => h.run pins s σ H Q I (hi σ H Q q)⟩
theorem PA.imp {X : Cx} {e : List Expr} {t t' : TA} (h : PA X e t) (hi : ∀ σ H Q, t' σ H Q → t σ H Q) : PA X e t' := ⟨fun pos pins s σ H Q I q => h.run pos pins s σ H Q I (hi σ H Q q)⟩
theorem PS.imp {X : Cx} {e : Stmt} {t t' : TS} (h : PS X e t) (hi : ∀ D σ H, t' D σ H → t D σ H) : PS X e t' := ⟨fun pins s σ H D I q => h.run pins s σ H D I (hi D σ H q)⟩
theorem PSs.imp {X : Cx} {e : List Stmt} {t t' : TS} (h : PSs X e t) (hi : ∀ D σ H, t' D σ H → t D σ H) : PSs X e t' := ⟨fun pins s σ H D I q => h.run pins s σ H D I (hi D σ H q)⟩
end VS

namespace VS
open PySem PySem.Spec PyProof.Rows L2
variable {Θ : List (Addr × Str)}
abbrev SZ : Nat := 16777216
theorem sz_of {n : Nat} (h : n ≤ SZ) : n ≤ sizeLine := by rw [sizeLine_eq]; exact h
theorem sz_lt {n : Nat} (h : n < SZ) : n < sizeLine := by rw [sizeLine_eq]; exact h

/-! ### judgements -/
abbrev VB := Env → (Bool → Prop) → Prop
def MonoB (t : VB) : Prop := ∀ env (Q Q' : Bool → Prop), (∀ b, Q b → Q' b) → t env Q → t env Q'
def liftB (K : PySem.W.Frag) (R : RC) (c : Nat) (t : VB) : TT := fun σ H Q => ∃ env P fp T r, Rep K R env σ H P fp T ∧ Pots (c + r) P H ∧
  t env fun b => ∀ H' P', Evo R.T P P' H H' → Pots r P' H' → Q b H'
/-- a test -/
structure VC (X : Cx) (R : RC) (c : Nat) (e : Expr) (t : VB) : Prop where
  mono : MonoB t
  run : PT X e (liftB X.K R c t)
/-- a test within and, or -/
structure VW (X : Cx) (R : RC) (c : Nat) (e : Expr) (t : VB) : Prop where
  mono : MonoB t
  run : PW X e (liftB X.K R c t)
abbrev DP := D × Prov
abbrev VA := Env → (List DP → Prop) → Prop
def MonoA (t : VA) : Prop := ∀ env (Q Q' : List DP → Prop), (∀ xs, Q xs → Q' xs) → t env Q → t env Q'
/-- what an argument list has given -/
def FinL (K : PySem.W.Frag) (fp : Nat → List Addr) (env : Env) (Hs H' : Hp) (P' : List Addr) : List DP → List V → List (List Addr) → Prop
  | [], [], [] => True
  | x :: xs, v :: vs, F :: Fs => DV K P' H' x.1 v F ∧ POk fp env Hs H' x.1 F x.2 ∧ FinL K fp env Hs H' P' xs vs Fs
  | _, _, _ => False
/-- the objects of those that are new -/
def frOf (p : Prov) (F : List Addr) : List Addr := match p with | .fresh => F | _ => []
def freshF : List DP → List (List Addr) → List Addr
  | x :: xs, F :: Fs => frOf x.2 F ++ freshF xs Fs
  | _, _ => []
def FinA (K : PySem.W.Frag) (fp : Nat → List Addr) (env : Env) (Hs H' : Hp) (P' : List Addr) (xs : List DP) (vs : List V) : Prop := ∃ Fs, FinL K fp env Hs H' P' xs vs Fs ∧ (freshF xs Fs).Nodup
def liftA (K : PySem.W.Frag) (R : RC) (c : Nat) (t : VA) : TA := fun σ H Q => ∃ env P fp T r, Rep K R env σ H P fp T ∧ Pots (c + r) P H ∧
  t env fun xs => ∀ vs H' P', Evo R.T P P' H H' → Pots r P' H' → FinA K fp env H H' P' xs vs → Q vs H'
structure VL (X : Cx) (R : RC) (c : Nat) (es : List Expr) (t : VA) : Prop where
  mono : MonoA t
  run : PA X es (liftA X.K R c t)
section
variable {K : PySem.W.Frag} {fp : Nat → List Addr} {env : Env} {Hs Hs' H H' : Hp} {P P' Q' : List Addr}
theorem FinL.evo (e : Evo Θ P P' H H') : ∀ {xs : List DP} {vs : List V} {Fs : List (List Addr)}, FinL K fp env Hs H P xs vs Fs → FinL K fp env Hs H' P' xs vs Fs
  | [], [], [], _ => trivial
  | _ :: _, _ :: _, _ :: _, h => ⟨h.1.evo e, h.2.1.evo e fun a ha => (h.1.live a ha).2, FinL.evo e h.2.2⟩
  | [], _ :: _, _, h => h.elim
  | [], [], _ :: _, h => h.elim
  | _ :: _, [], _, h => h.elim
  | _ :: _, _ :: _, [], h => h.elim
theorem FinL.back (e : Evo Θ P P' Hs Hs') : ∀ {xs : List DP} {vs : List V} {Fs : List (List Addr)}, FinL K fp env Hs' H Q' xs vs Fs → FinL K fp env Hs H Q' xs vs Fs
  | [], [], [], _ => trivial
  | _ :: _, _ :: _, _ :: _, h => ⟨h.1, h.2.1.back e, FinL.back e h.2.2⟩
  | [], _ :: _, _, h => h.elim
  | [], [], _ :: _, h => h.elim
  | _ :: _, [], _, h => h.elim
  | _ :: _, _ :: _, [], h => h.elim
theorem FinA.evo (e : Evo Θ P P' H H') {xs : List DP} {vs : List V} (h : FinA K fp env Hs H P xs vs) : FinA K fp env Hs H' P' xs vs := let ⟨Fs, h1, h2⟩ := h; ⟨Fs, h1.evo e, h2⟩
theorem FinA.back (e : Evo Θ P P' Hs Hs') {xs : List DP} {vs : List V} (h : FinA K fp env Hs' H Q' xs vs) : FinA K fp env Hs H Q' xs vs := let ⟨Fs, h1, h2⟩ := h; ⟨Fs, h1.back e, h2⟩
theorem FinL.fresh_new : ∀ {xs : List DP} {vs : List V} {Fs : List (List Addr)}, FinL K fp env Hs H P xs vs Fs → ∀ a ∈ freshF xs Fs, Hs a = none
  | [], [], [], _, a, ha => by simp [freshF] at ha
  | x :: _, _ :: _, F :: _, h, a, ha => by
    simp only [freshF] at ha
    rcases List.mem_append.mp ha with ha | ha
    · obtain ⟨h1, h2, h3⟩ := h
      obtain ⟨d, p⟩ := x
      cases p with
      | fresh => exact (h2.2 a ha).1
      | all i => cases ha
      | sub i => cases ha
      | any => cases ha
    · exact FinL.fresh_new h.2.2 a ha
  | [], _ :: _, _, h, _, _ => h.elim
  | [], [], _ :: _, h, _, _ => h.elim
  | _ :: _, [], _, h, _, _ => h.elim
  | _ :: _, _ :: _, [], h, _, _ => h.elim
theorem FinA.nil : FinA K fp env Hs H P [] [] := ⟨[], trivial, List.nodup_nil⟩
/-- one more item ahead, known before the others came -/
theorem FinA.push {x : DP} {v : V} {xs : List DP} {vs : List V} (e : Evo Θ P P' H H') (e0 : Evo Θ Q' P Hs H) (f : Fin K fp env Hs x.1 x.2 v H P) (g : FinA K fp env H H' P' xs vs) : FinA K fp env Hs H' P' (x :: xs) (v :: vs) := by
  obtain ⟨F, h1, h2⟩ := f
  obtain ⟨Fs, g1, g2⟩ := g
  refine ⟨F :: Fs, ⟨h1.evo e, h2.evo e fun a ha => (h1.live a ha).2, g1.back e0⟩, ?_⟩
  show (frOf x.2 F ++ freshF xs Fs).Nodup
  refine List.nodup_append.mpr ⟨?_, g2, fun a ha b hb z => ?_⟩
  · obtain ⟨d, p⟩ := x
    cases p with
    | fresh => exact h2.1
    | all i => exact List.nodup_nil
    | sub i => exact List.nodup_nil
    | any => exact List.nodup_nil
  · subst z
    have hn := g1.fresh_new a hb
    obtain ⟨d, p⟩ := x
    cases p with
    | fresh => exact (h1.live a ha).1 hn
    | all i => cases ha
    | sub i => cases ha
    | any => cases ha
theorem FinA.nil_inv {vs : List V} (h : FinA K fp env Hs H P [] vs) : vs = [] := by
  obtain ⟨Fs, h, _⟩ := h
  cases vs with
  | nil => rfl
  | cons _ _ => cases Fs <;> exact h.elim
theorem FinA.cons_inv {x : DP} {xs : List DP} {vs : List V} (h : FinA K fp env Hs H P (x :: xs) vs) : ∃ v ws, vs = v :: ws ∧ Fin K fp env Hs x.1 x.2 v H P ∧ FinA K fp env Hs H P xs ws := by
  obtain ⟨Fs, h, n⟩ := h
  cases vs with
  | nil => cases Fs <;> exact h.elim
  | cons v ws =>
    cases Fs with
    | nil => exact h.elim
    | cons F Fs => exact ⟨v, ws, rfl, ⟨F, h.1, h.2.1⟩, Fs, h.2.2, (List.nodup_append.mp n).2.1⟩
theorem FinA.one {x : DP} {vs : List V} (h : FinA K fp env Hs H P [x] vs) : ∃ v, vs = [v] ∧ Fin K fp env Hs x.1 x.2 v H P := by
  obtain ⟨v, ws, rfl, h1, h2⟩ := h.cons_inv
  rw [h2.nil_inv]
  exact ⟨v, rfl, h1⟩
theorem FinA.two {x y : DP} {vs : List V} (h : FinA K fp env Hs H P [x, y] vs) : ∃ v w, vs = [v, w] ∧ Fin K fp env Hs x.1 x.2 v H P ∧ Fin K fp env Hs y.1 y.2 w H P := by
  obtain ⟨v, ws, rfl, h1, h2⟩ := h.cons_inv
  obtain ⟨w, rfl, h3⟩ := h2.one
  exact ⟨v, w, rfl, h1, h3⟩
end

/-! ### names and constants -/
def pvOf (f : Fl) (i : Nat) : Prov := match f with | .bor => .any | _ => .all i
def vVar (i : Nat) : VT := fun env Q => ∃ f d, env[i]? = some (some (f, d)) ∧ Q d (pvOf f i)
def vC (d : D) : VT := fun _ Q => Q d .fresh
section
variable {X : Cx} {R : RC} {pos : Pos}
theorem ve_var (i : Nat) {x : Str} (hN : X.N[i]? = some x := by rfl) (hv : Vis X.env.scope x := by first | exact Or.inl rfl | exact Or.inr (Or.inl rfl) | exact Or.inr (Or.inr rfl)) (hd : (x == ("__debug__" : Str)) = false := by decide)
    (hcd : (x == ("__classdict__" : Str)) = false := by decide) : VE X R 0 (.Name x pos) (vVar i) where
  mono := fun env Q Q' h ⟨f, d, e, q⟩ => ⟨f, d, e, h _ _ q⟩
  run := PE.imp (pe_var hN hv hd hcd) fun σ H Q ⟨env, P, fp, T, r, rep, pots, f, d, e, q⟩ => by
    obtain ⟨v, h1, h2⟩ := rep.slot i f d e
    refine ⟨v, h1, q v H P Evo.refl (pots.le (by omega)) ⟨fp i, h2, ?_⟩⟩
    cases f with
    | own => exact ⟨⟨_, e, by decide⟩, rfl⟩
    | lck => exact ⟨⟨_, e, by decide⟩, rfl⟩
    | bor => trivial
theorem ve_c {e : Expr} {d : D} {v : V} (h : PE X e (tC v)) (hv : ∀ P H, DV X.K P H d v []) : VE X R 0 e (vC d) where
  mono := fun env Q Q' h q => h _ _ q
  run := PE.imp h fun σ H Q ⟨env, P, fp, T, r, rep, pots, q⟩ => q v H P Evo.refl (pots.le (by omega)) ⟨[], hv P H, POk.nil⟩
theorem ve_int {i : Int} {j} : VE X R 0 (.Constant (.int i) j pos) (vC (.int i)) := ve_c pe_int fun _ _ => .int i
theorem ve_bl {b : Bool} {j} : VE X R 0 (.Constant (.bool b) j pos) (vC (.bl b)) := ve_c pe_bl fun _ _ => .bl b
theorem ve_non {j} : VE X R 0 (.Constant .none j pos) (vC .non) := ve_c pe_non fun _ _ => .non
theorem ve_str {x : Str} {j} : VE X R 0 (.Constant (.str x) j pos) (vC (.str x)) := ve_c pe_str fun _ _ => .str x
/-- a module's constant -/
theorem ve_globI {x : Str} {i : Int} {t : Tok} (hm : X.mg x = some (.int i t)) (hg : Gl X x := by rfl) (hd : (x == ("__debug__" : Str)) = false := by decide) : VE X R 0 (.Name x pos) (vC (.int i)) := ve_c (pe_glob (v := .int i) hg hm ⟨_, rfl⟩ hd) fun _ _ => .int i
theorem ve_globS {x z : Str} {t : Tok} (hm : X.mg x = some (.str z t)) (hg : Gl X x := by rfl) (hd : (x == ("__debug__" : Str)) = false := by decide) : VE X R 0 (.Name x pos) (vC (.str z)) := ve_c (pe_glob (v := .str z) hg hm ⟨_, rfl⟩ hd) fun _ _ => .str z
end

/-! ### two-place operations -/
abbrev Op2 := DP → DP → (D → Prov → Prop) → Prop
structure Lift2 (K : PySem.W.Frag) (r : R2) (o : Op2) : Prop where
  mono : ∀ x y (Q Q' : D → Prov → Prop), (∀ d p, Q d p → Q' d p) → o x y Q → o x y Q'
  run : ∀ (fp : Nat → List Addr) (env : Env) (Hs H : Hp) (P : List Addr) (x y : DP) (v w : V) (Q : VK), (∀ a, H a = none → Hs a = none) → (∀ a ∈ P, H a ≠ none) → Fin K fp env Hs x.1 x.2 v H P → Fin K fp env Hs y.1 y.2 w H P →
    o x y (fun d p => ∀ u H', Same H H' → Fin K fp env Hs d p u H' P → Q u H') → r v w H Q
theorem Pots.some {n : Nat} {P : List Addr} {H : Hp} (p : Pots n P H) : ∀ a ∈ P, H a ≠ none := fun a ha => by
  obtain ⟨x, y, c, h1, _⟩ := p.2 a ha
  rw [h1]; simp
def vOp (o : Op2) (ta tb : VT) : VT := fun env Q => ta env fun d p => tb env fun d' p' => o (d, p) (d', p') Q
theorem Pots.same {n : Nat} {P : List Addr} {H H' : Hp} (p : Pots n P H) (h : Same H H') : Pots n P H' := ⟨p.1, fun a ha =>
  let ⟨x, y, c, h1, r⟩ := p.2 a ha
  ⟨x, y, c, h _ _ h1, r⟩⟩
section
variable {X : Cx} {R : RC} {pos : Pos} {a b : Expr} {ta tb : VT} {c₁ c₂ : Nat}
theorem op_imp {r : R2} {o : Op2} {ea eb : Nat} (l : Lift2 X.K r o) (ha : VE X R c₁ a ta) (hb : VE X R c₂ b tb) (σ : L2.St) (H : Hp) (Q : VK) (h : liftE X.K R (c₁ + c₂) (vOp o ta tb) σ H Q) :
    tOp r (liftE X.K R c₁ ta) (liftE X.K R c₂ tb) σ H Q := by
  obtain ⟨env, P, fp, T, k, rep, pots, q⟩ := h
  refine ⟨env, P, fp, T, c₂ + k, rep, by rw [← Nat.add_assoc]; exact pots, ha.mono _ _ _ (fun d1 p1 h1 => ?_) q⟩
  intro v1 H1 P1 e1 pots1 f1
  refine ⟨env, P1, fp, T, k, rep.evo e1, pots1, hb.mono _ _ _ (fun d2 p2 h2 => ?_) h1⟩
  intro v2 H2 P2 e2 pots2 f2
  refine l.run fp env H H2 P2 (d1, p1) (d2, p2) v1 v2 Q (fun x hx => (e1.trans e2).fresh hx) pots2.some (f1.evo e2) (f2.back e1) (l.mono _ _ _ _ (fun d p hq => ?_) h2)
  intro u H' hs f
  exact hq u H' P2 ((e1.trans e2).trans (Evo.same hs)) (pots2.same hs) f
theorem mono_op {o : Op2} (hm : ∀ x y (Q Q' : D → Prov → Prop), (∀ d p, Q d p → Q' d p) → o x y Q → o x y Q') (ha : MonoE ta) (hb : MonoE tb) : MonoE (vOp o ta tb) := fun env Q Q' h q =>
  ha _ _ _ (fun d p q1 => hb _ _ _ (fun d' p' q2 => hm _ _ _ _ h q2) q1) q
theorem ve_op {op : Operator} {r : R2} {o : Op2} (ho : OpR X (binaryOp op) r) (l : Lift2 X.K r o) (ha : VE X R c₁ a ta) (hb : VE X R c₂ b tb) : VE X R (c₁ + c₂) (.BinOp a op b pos) (vOp o ta tb) :=
  ⟨mono_op l.mono ha.mono hb.mono, PE.imp (pe_op ho ha.run hb.run) (op_imp (ea := 0) (eb := 0) l ha hb)⟩
theorem ve_cmp {op : CmpOp} {r : R2} {o : Op2} (ho : OpR X (compareOp op) r) (l : Lift2 X.K r o) (ha : VE X R c₁ a ta) (hb : VE X R c₂ b tb) (hm : behindInMarks op b = false) : VE X R (c₁ + c₂) (.Compare a [op] [b] pos) (vOp o ta tb) :=
  ⟨mono_op l.mono ha.mono hb.mono, PE.imp (pe_cmpR ho ha.run hb.run hm) (op_imp (ea := 0) (eb := 0) l ha hb)⟩
/-- a value's reading as a test: the value a bool -/
def vTest (t : VT) : VB := fun env Q => t env fun d _ => ∃ b, d = .bl b ∧ Q b
theorem mono_test {t : VT} (h : MonoE t) : MonoB (vTest t) := fun env Q Q' hq q => h _ _ _ (fun d p ⟨b, e, q⟩ => ⟨b, e, hq _ q⟩) q
theorem test_imp {t : VT} {te : TE} {c : Nat} (hm : MonoE t) (hi : ∀ σ H Q, liftE X.K R c t σ H Q → te σ H Q) (σ : L2.St) (H : Hp) (Q : Bool → Hp → Prop) (h : liftB X.K R c (vTest t) σ H Q) : te σ H fun x H' => ∃ k, x = .bl k ∧ Q k H' := by
  obtain ⟨env, P, fp, T, k, rep, pots, q⟩ := h
  refine hi σ H _ ⟨env, P, fp, T, k, rep, pots, hm _ _ _ (fun d p ⟨b, e, q⟩ => ?_) q⟩
  intro v H' P' e' pots' f
  subst e
  obtain ⟨F, hd, _⟩ := f
  cases hd
  exact ⟨b, rfl, q H' P' e' pots'⟩
theorem vc_cmp {op : CmpOp} {r : R2} {o : Op2} (ho : OpR X (compareOp op) r) (l : Lift2 X.K r o) (ha : VE X R c₁ a ta) (hb : VE X R c₂ b tb) (hm : behindInMarks op b = false) : VC X R (c₁ + c₂) (.Compare a [op] [b] pos) (vTest (vOp o ta tb)) :=
  ⟨mono_test (mono_op l.mono ha.mono hb.mono), PT.imp (pt_cmpR ho ha.run hb.run hm) (test_imp (mono_op l.mono ha.mono hb.mono) (op_imp (ea := 0) (eb := 0) l ha hb))⟩
/-- an expression whose value is a bool, as a test -/
theorem vc_val {c : Nat} {e : Expr} {t : VT} (h : VE X R c e t) (he : ∀ whole, isTrue e X.env whole = (do let v ← whole; standAt e.pos; holding [v] (truthy v)) := by intro _; rfl) : VC X R c e (vTest t) :=
  ⟨mono_test h.mono, PT.imp (pt_val h.run he) (test_imp h.mono fun _ _ _ q => q)⟩
end

/-! ### and, or, not, if -/
section
variable {X : Cx} {R : RC} {pos : Pos} {a b e : Expr} {rest : List Expr} {ta tb : VT} {sa sb : VB} {c c₁ c₂ c₃ : Nat}
def vAnd (t u : VB) : VB := fun env Q => t env fun b => if b = true then u env Q else Q false
def vOr (t u : VB) : VB := fun env Q => t env fun b => if b = true then Q true else u env Q
def vNot (t : VB) : VB := fun env Q => t env fun b => Q (!b)
theorem mono_and (ha : MonoB sa) (hb : MonoB sb) : MonoB (vAnd sa sb) := fun env Q Q' h q => ha _ _ _ (fun b q => by
  cases b with
  | true => exact hb _ _ _ h q
  | false => exact h _ q) q
theorem mono_or (ha : MonoB sa) (hb : MonoB sb) : MonoB (vOr sa sb) := fun env Q Q' h q => ha _ _ _ (fun b q => by
  cases b with
  | true => exact h _ q
  | false => exact hb _ _ _ h q) q
theorem mono_not (ha : MonoB sa) : MonoB (vNot sa) := fun env Q Q' h q => ha _ _ _ (fun b q => h _ q) q
theorem and_imp (ha : MonoB sa) (hb : MonoB sb) (σ : L2.St) (H : Hp) (Q : Bool → Hp → Prop) (h : liftB X.K R (c₁ + c₂) (vAnd sa sb) σ H Q) : tAnd (liftB X.K R c₁ sa) (liftB X.K R c₂ sb) σ H Q := by
  obtain ⟨env, P, fp, T, k, rep, pots, q⟩ := h
  refine ⟨env, P, fp, T, c₂ + k, rep, by rw [← Nat.add_assoc]; exact pots, ha _ _ _ (fun d q => ?_) q⟩
  intro H1 P1 e1 pots1
  cases d with
  | true => exact ⟨env, P1, fp, T, k, rep.evo e1, pots1, hb _ _ _ (fun b q H2 P2 e2 p2 => q H2 P2 (e1.trans e2) p2) q⟩
  | false => exact q H1 P1 e1 (pots1.le (by omega))
theorem or_imp (ha : MonoB sa) (hb : MonoB sb) (σ : L2.St) (H : Hp) (Q : Bool → Hp → Prop) (h : liftB X.K R (c₁ + c₂) (vOr sa sb) σ H Q) : tOr (liftB X.K R c₁ sa) (liftB X.K R c₂ sb) σ H Q := by
  obtain ⟨env, P, fp, T, k, rep, pots, q⟩ := h
  refine ⟨env, P, fp, T, c₂ + k, rep, by rw [← Nat.add_assoc]; exact pots, ha _ _ _ (fun d q => ?_) q⟩
  intro H1 P1 e1 pots1
  cases d with
  | false => exact ⟨env, P1, fp, T, k, rep.evo e1, pots1, hb _ _ _ (fun b q H2 P2 e2 p2 => q H2 P2 (e1.trans e2) p2) q⟩
  | true => exact q H1 P1 e1 (pots1.le (by omega))
theorem PW.imp {e : Expr} {t t' : TT} (h : PW X e t) (hi : ∀ σ H Q, t' σ H Q → t σ H Q) : PW X e t' := ⟨fun wh pins s σ H Q I q => h.run wh pins s σ H Q I (hi σ H Q q)⟩
theorem vw_and1 (h : VC X R c a sa) : VW X R c (.BoolOp .And [a] pos) sa := ⟨h.mono, pw_and1 h.run⟩
theorem vw_or1 (h : VC X R c a sa) : VW X R c (.BoolOp .Or [a] pos) sa := ⟨h.mono, pw_or1 h.run⟩
theorem vw_and (ha : VC X R c₁ a sa) (hb : VW X R c₂ (.BoolOp .And (b :: rest) pos) sb) : VW X R (c₁ + c₂) (.BoolOp .And (a :: b :: rest) pos) (vAnd sa sb) :=
  ⟨mono_and ha.mono hb.mono, PW.imp (pw_and ha.run hb.run) (and_imp ha.mono hb.mono)⟩
theorem vw_or (ha : VC X R c₁ a sa) (hb : VW X R c₂ (.BoolOp .Or (b :: rest) pos) sb) : VW X R (c₁ + c₂) (.BoolOp .Or (a :: b :: rest) pos) (vOr sa sb) :=
  ⟨mono_or ha.mono hb.mono, PW.imp (pw_or ha.run hb.run) (or_imp ha.mono hb.mono)⟩
theorem vc_w (h : VW X R c e sa) : VC X R c e sa := ⟨h.mono, h.run.pt⟩
theorem vc_not (ha : VC X R c a sa) : VC X R c (.UnaryOp .Not a pos) (vNot sa) :=
  ⟨mono_not ha.mono, PT.imp (pt_not ha.run) fun σ H Q ⟨env, P, fp, T, k, rep, pots, q⟩ => ⟨env, P, fp, T, k, rep, pots, ha.mono _ _ _ (fun b q => q) q⟩⟩
/-- .. as values (bools) -/
def vAndV (t u : VT) : VT := fun env Q => t env fun d _ => ∃ b, d = .bl b ∧ if b = true then u env Q else Q (.bl false) .fresh
def vOrV (t u : VT) : VT := fun env Q => t env fun d _ => ∃ b, d = .bl b ∧ if b = true then Q (.bl true) .fresh else u env Q
def vNotV (t : VT) : VT := fun env Q => t env fun d _ => ∃ b, d = .bl b ∧ Q (.bl !b) .fresh
theorem fin_bl {K : PySem.W.Frag} {fp : Nat → List Addr} {env : Env} {Hs H : Hp} {P : List Addr} {b : Bool} : Fin K fp env Hs (.bl b) .fresh (.bl b) H P := Fin.imm (.bl b) rfl
theorem fin_int {K : PySem.W.Frag} {fp : Nat → List Addr} {env : Env} {Hs H : Hp} {P : List Addr} {b : Int} : Fin K fp env Hs (.int b) .fresh (.int b) H P := Fin.imm (.int b) rfl
theorem fin_str {K : PySem.W.Frag} {fp : Nat → List Addr} {env : Env} {Hs H : Hp} {P : List Addr} {b : Str} : Fin K fp env Hs (.str b) .fresh (.str b) H P := Fin.imm (.str b) rfl
theorem fin_non {K : PySem.W.Frag} {fp : Nat → List Addr} {env : Env} {Hs H : Hp} {P : List Addr} : Fin K fp env Hs .non .fresh .non H P := Fin.imm .non rfl
theorem Fin.bl_inv {K : PySem.W.Frag} {fp : Nat → List Addr} {env : Env} {Hs H : Hp} {P : List Addr} {b : Bool} {p : Prov} {v : V} (f : Fin K fp env Hs (.bl b) p v H P) : v = .bl b := by obtain ⟨F, h, _⟩ := f; cases h; rfl
theorem Fin.int_inv {K : PySem.W.Frag} {fp : Nat → List Addr} {env : Env} {Hs H : Hp} {P : List Addr} {b : Int} {p : Prov} {v : V} (f : Fin K fp env Hs (.int b) p v H P) : v = .int b := by obtain ⟨F, h, _⟩ := f; cases h; rfl
theorem Fin.str_inv {K : PySem.W.Frag} {fp : Nat → List Addr} {env : Env} {Hs H : Hp} {P : List Addr} {b : Str} {p : Prov} {v : V} (f : Fin K fp env Hs (.str b) p v H P) : v = .str b := by obtain ⟨F, h, _⟩ := f; cases h; rfl
theorem Fin.non_inv {K : PySem.W.Frag} {fp : Nat → List Addr} {env : Env} {Hs H : Hp} {P : List Addr} {p : Prov} {v : V} (f : Fin K fp env Hs .non p v H P) : v = .non := by obtain ⟨F, h, _⟩ := f; cases h; rfl
theorem ve_and1 (h : VE X R c a ta) : VE X R c (.BoolOp .And [a] pos) ta := ⟨h.mono, pe_one h.run⟩
theorem ve_or1 (h : VE X R c a ta) : VE X R c (.BoolOp .Or [a] pos) ta := ⟨h.mono, pe_one h.run⟩
theorem ve_and (ha : VE X R c₁ a ta) (hb : VE X R c₂ (.BoolOp .And (b :: rest) pos) tb) : VE X R (c₁ + c₂) (.BoolOp .And (a :: b :: rest) pos) (vAndV ta tb) where
  mono := fun env Q Q' h q => ha.mono _ _ _ (fun d p ⟨b, e, q⟩ => ⟨b, e, by
    cases b with
    | true => exact hb.mono _ _ _ h q
    | false => exact h _ _ q⟩) q
  run := PE.imp (pe_and ha.run hb.run) fun σ H Q ⟨env, P, fp, T, k, rep, pots, q⟩ => by
    refine ⟨env, P, fp, T, c₂ + k, rep, by rw [← Nat.add_assoc]; exact pots, ha.mono _ _ _ (fun d p ⟨b, e, q⟩ => ?_) q⟩
    intro v H1 P1 e1 pots1 f
    subst e
    obtain rfl := f.bl_inv
    refine ⟨b, rfl, ?_⟩
    cases b with
    | true => exact ⟨env, P1, fp, T, k, rep.evo e1, pots1, hb.mono _ _ _ (fun d p q v H2 P2 e2 p2 f2 => q v H2 P2 (e1.trans e2) p2 (f2.back e1)) q⟩
    | false => exact q _ H1 P1 e1 (pots1.le (by omega)) fin_bl
theorem ve_or (ha : VE X R c₁ a ta) (hb : VE X R c₂ (.BoolOp .Or (b :: rest) pos) tb) : VE X R (c₁ + c₂) (.BoolOp .Or (a :: b :: rest) pos) (vOrV ta tb) where
  mono := fun env Q Q' h q => ha.mono _ _ _ (fun d p ⟨b, e, q⟩ => ⟨b, e, by
    cases b with
    | false => exact hb.mono _ _ _ h q
    | true => exact h _ _ q⟩) q
  run := PE.imp (pe_or ha.run hb.run) fun σ H Q ⟨env, P, fp, T, k, rep, pots, q⟩ => by
    refine ⟨env, P, fp, T, c₂ + k, rep, by rw [← Nat.add_assoc]; exact pots, ha.mono _ _ _ (fun d p ⟨b, e, q⟩ => ?_) q⟩
    intro v H1 P1 e1 pots1 f
    subst e
    obtain rfl := f.bl_inv
    refine ⟨b, rfl, ?_⟩
    cases b with
    | false => exact ⟨env, P1, fp, T, k, rep.evo e1, pots1, hb.mono _ _ _ (fun d p q v H2 P2 e2 p2 f2 => q v H2 P2 (e1.trans e2) p2 (f2.back e1)) q⟩
    | true => exact q _ H1 P1 e1 (pots1.le (by omega)) fin_bl
theorem ve_not (ha : VE X R c a ta) : VE X R c (.UnaryOp .Not a pos) (vNotV ta) where
  mono := fun env Q Q' h q => ha.mono _ _ _ (fun d p ⟨b, e, q⟩ => ⟨b, e, h _ _ q⟩) q
  run := PE.imp (pe_not ha.run) fun σ H Q ⟨env, P, fp, T, k, rep, pots, q⟩ => by
    refine ⟨env, P, fp, T, k, rep, pots, ha.mono _ _ _ (fun d p ⟨b, e, q⟩ => ?_) q⟩
    intro v H1 P1 e1 pots1 f
    subst e
    obtain rfl := f.bl_inv
    exact ⟨b, rfl, q _ H1 P1 e1 pots1 fin_bl⟩
/-- a if t else b -/
def vIf (t : VB) (u w : VT) : VT := fun env Q => t env fun b => if b = true then u env Q else w env Q
theorem ve_if (hc : VC X R c₁ e sa) (ha : VE X R c₂ a ta) (hb : VE X R c₃ b tb) : VE X R (c₁ + (c₂ + c₃)) (.IfExp e a b pos) (vIf sa ta tb) where
  mono := fun env Q Q' h q => hc.mono _ _ _ (fun b q => by
    cases b with
    | true => exact ha.mono _ _ _ h q
    | false => exact hb.mono _ _ _ h q) q
  run := PE.imp (pe_ifExp hc.run ha.run hb.run) fun σ H Q ⟨env, P, fp, T, k, rep, pots, q⟩ => by
    refine ⟨env, P, fp, T, (c₂ + c₃) + k, rep, by rw [← Nat.add_assoc]; exact pots, hc.mono _ _ _ (fun b q => ?_) q⟩
    intro H1 P1 e1 pots1
    cases b with
    | true => exact ⟨env, P1, fp, T, k, rep.evo e1, pots1.le (by omega), ha.mono _ _ _ (fun d p q v H2 P2 e2 p2 f2 => q v H2 P2 (e1.trans e2) p2 (f2.back e1)) q⟩
    | false => exact ⟨env, P1, fp, T, k, rep.evo e1, pots1.le (by omega), hb.mono _ _ _ (fun d p q v H2 P2 e2 p2 f2 => q v H2 P2 (e1.trans e2) p2 (f2.back e1)) q⟩
end
end VS

namespace VS
open PySem PySem.Spec PyProof.Rows L2
/-! ### new objects -/
section
variable {K : PySem.W.Frag} {fp : Nat → List Addr} {env : Env} {Hs H : Hp} {P : List Addr}
theorem DVs.imm_any {ds : List D} {vs : List V} {F : List Addr} (h : DVs K P H ds vs F) (hi : immAll ds = true) : DVs K P H ds vs [] := by
  have e := h.imm_nil hi
  subst e
  exact h
theorem fin_tup {p : Addr} {ds : List D} {vs : List V} {F : List Addr} (hp : H p = none) (hP : ∀ a ∈ P, H a ≠ none) (h : DVs K P H ds vs F) (hi : immAll ds = true) :
    Fin K fp env Hs (.tup ds) .fresh (.ref p) (upd H p (.tup vs)) P :=
  Fin.imm (.tup ⟨upd_same, fun z => hP p z hp⟩ ((h.imm_any hi).evoU hp)) (by simpa [D.imm] using hi)
theorem fin_lst {p : Addr} {ds : List D} {vs : List V} {F : List Addr} (hs : ∀ a, H a = none → Hs a = none) (hp : H p = none) (hP : ∀ a ∈ P, H a ≠ none) (h : DVs K P H ds vs F) (hi : immAll ds = true) :
    Fin K fp env Hs (.lst ds) .fresh (.ref p) (upd H p (.lst vs)) P :=
  ⟨[p], .lst upd_same (fun z => hP p z hp) ((h.imm_any hi).evoU hp), by simp, fun a ha => by
    have e : a = p := by simpa using ha
    subst e; exact ⟨hs _ hp, _, upd_same, trivial⟩⟩
theorem same_upd {p : Addr} {o : HO} (hp : H p = none) : Same H (upd H p o) := fun b u q => by rw [upd_ne (ne_of_none q hp)]; exact q
theorem Fin.tup_inv {ds : List D} {p : Prov} {v : V} (f : Fin K fp env Hs (.tup ds) p v H P) : ∃ a vs F, v = .ref a ∧ SqT K H a vs ∧ DVs K P H ds vs F := by
  obtain ⟨F, h, _⟩ := f
  obtain ⟨a, vs, e, h1, h2⟩ := h.tup_inv
  exact ⟨a, vs, F, e, h1, h2⟩
theorem Fin.lst_inv {ds : List D} {p : Prov} {v : V} (f : Fin K fp env Hs (.lst ds) p v H P) : ∃ a vs F, v = .ref a ∧ H a = some (.lst vs) ∧ DVs K P H ds vs F := by
  obtain ⟨F, h, _⟩ := f
  obtain ⟨a, vs, G, e, h1, _, h2, _⟩ := h.lst_inv
  exact ⟨a, vs, G, e, h1, h2⟩
theorem Fin.rol_inv {ds : List D} {p : Prov} {v : V} (f : Fin K fp env Hs (.rol ds) p v H P) : ∃ a vs F, v = .ref a ∧ SqL K H a vs ∧ DVs K P H ds vs F := by
  obtain ⟨F, h, _⟩ := f
  obtain ⟨a, vs, e, h1, h2⟩ := h.rol_inv
  exact ⟨a, vs, F, e, h1, h2⟩
end

/-! ### arithmetic -/
def MulOk (i j : Int) : Prop := i.natAbs < 2 ^ 64 ∨ j.natAbs < 2 ^ 64 ∨ (i.natAbs < 2 ^ 400000 ∧ j.natAbs < 2 ^ 400000)
theorem MulOk.ok {i j : Int} (h : MulOk i j) : IntMulOk i j := by
  rcases h with h | h | ⟨h1, h2⟩
  · exact .of_left (intBits_le_64 (by omega) (by omega))
  · exact .of_right (intBits_le_64 (by omega) (by omega))
  · exact (wide_mul h1 h2 (by decide) (by decide) (by decide)).ok
theorem op_mulA {X : Cx} : OpR X (binaryOp .Mult) (rI MulOk fun i j => .int (i * j)) := opI fun _ _ _ _ _ _ _ hc q => mul_int q hc.ok
def PowOk (i j : Int) : Prop := 0 ≤ j ∧ (Builtin.Int.intBits i : Int) * j ≤ 2 ^ 27
theorem op_powA {X : Cx} : OpR X (binaryOp .Pow) (rI PowOk fun i j => .int (i ^ j.toNat)) := opI fun _ _ _ _ _ _ _ hc q => pow_int hc.1 hc.2 q
def rAddA (K : PySem.W.Frag) : R2 := fun x y H Q => rI0 (fun i j => .int (i + j)) x y H Q ∨ rCatA K x y H Q ∨ rCat x y H Q ∨ (∃ i j, x = .str i ∧ y = .str j ∧ i.length + j.length ≤ sizeLine ∧ Q (.str (i ++ j)) H)
theorem op_addA {X : Cx} : OpR X (binaryOp .Add) (rAddA X.K) := op_add.or (op_catA.or (op_cat.or op_add_str))
def rMulA (K : PySem.W.Frag) : R2 := fun x y H Q => rI MulOk (fun i j => .int (i * j)) x y H Q ∨ rRep x y H Q ∨ rRepT K x y H Q
theorem op_mulAll {X : Cx} : OpR X (binaryOp .Mult) (rMulA X.K) := op_mulA.or (op_rep.or op_repT)

def oAdd : Op2 := fun x y Q => match x.1, y.1 with
  | .int i, .int j => Q (.int (i + j)) .fresh
  | .tup xs, .tup ys => xs.length + ys.length ≤ SZ ∧ immAll xs = true ∧ immAll ys = true ∧ Q (.tup (xs ++ ys)) .fresh
  | .lst xs, .lst ys => xs.length + ys.length ≤ SZ ∧ immAll xs = true ∧ immAll ys = true ∧ Q (.lst (xs ++ ys)) .fresh
  | .str a, .str b => a.length + b.length ≤ SZ ∧ Q (.str (a ++ b)) .fresh
  | _, _ => False
def oSub : Op2 := fun x y Q => match x.1, y.1 with
  | .int i, .int j => Q (.int (i - j)) .fresh
  | _, _ => False
def oMul : Op2 := fun x y Q => match x.1, y.1 with
  | .int i, .int j => MulOk i j ∧ Q (.int (i * j)) .fresh
  | .lst xs, .int k => k ≤ 1000000 ∧ -1000000 ≤ k ∧ xs.length * k.toNat ≤ SZ ∧ immAll xs = true ∧ Q (.lst (List.replicate k.toNat xs).flatten) .fresh
  | .tup xs, .int k => xs ≠ [] ∧ 2 ≤ k ∧ k ≤ 1000 ∧ xs.length ≤ 1000 ∧ immAll xs = true ∧ Q (.tup (List.replicate k.toNat xs).flatten) .fresh
  | _, _ => False
def oDiv : Op2 := fun x y Q => match x.1, y.1 with
  | .int i, .int j => (0 < j ∧ j.natAbs.log2 < 9000) ∧ Q (.int (i / j)) .fresh
  | _, _ => False
def oMod : Op2 := fun x y Q => match x.1, y.1 with
  | .int i, .int j => 0 < j ∧ Q (.int (i % j)) .fresh
  | _, _ => False
def oPow : Op2 := fun x y Q => match x.1, y.1 with
  | .int i, .int j => PowOk i j ∧ Q (.int (i ^ j.toNat)) .fresh
  | _, _ => False
def oXor : Op2 := fun x y Q => match x.1, y.1 with
  | .int i, .int j => Q (.int (Builtin.bitXor i j)) .fresh
  | _, _ => False
theorem immAll_app {xs ys : List D} (h1 : immAll xs = true) (h2 : immAll ys = true) : immAll (xs ++ ys) = true := by
  rw [immAll_iff] at *
  intro d hd
  rcases List.mem_append.mp hd with h | h
  · exact h1 d h
  · exact h2 d h
theorem immAll_rep {xs : List D} (h : immAll xs = true) (k : Nat) : immAll (List.replicate k xs).flatten = true := by
  rw [immAll_iff] at *
  intro d hd
  obtain ⟨l, hl, hd⟩ := List.mem_flatten.mp hd
  rw [List.eq_of_mem_replicate hl] at hd
  exact h d hd
theorem DVs.rep {K : PySem.W.Frag} {P : List Addr} {H : Hp} {ds : List D} {vs : List V} (h : DVs K P H ds vs []) : ∀ k : Nat, DVs K P H (List.replicate k ds).flatten (List.replicate k vs).flatten []
  | 0 => .nil
  | k + 1 => by
    rw [List.replicate_succ, List.replicate_succ, List.flatten_cons, List.flatten_cons]
    exact DVs.append (F := []) (G := []) h (DVs.rep h k)
section
variable {K : PySem.W.Frag}
theorem l_add : Lift2 K (rAddA K) oAdd where
  mono := fun x y Q Q' h q => by
    unfold oAdd at *
    split at q
    · exact h _ _ q
    · exact ⟨q.1, q.2.1, q.2.2.1, h _ _ q.2.2.2⟩
    · exact ⟨q.1, q.2.1, q.2.2.1, h _ _ q.2.2.2⟩
    · exact ⟨q.1, h _ _ q.2⟩
    · exact q
  run := fun fp env Hs H P x y v w Q hs hP f g h => by
    obtain ⟨d, p⟩ := x
    obtain ⟨e, p'⟩ := y
    unfold oAdd at h
    dsimp only at h f g
    split at h
    · obtain rfl := f.int_inv
      obtain rfl := g.int_inv
      exact .inl ⟨_, _, rfl, rfl, h _ H (Same.refl H) fin_int⟩
    · obtain ⟨hl, i1, i2, h⟩ := h
      obtain ⟨a, vs, F, rfl, ha, dv⟩ := f.tup_inv
      obtain ⟨b, ws, G, rfl, hb, dw⟩ := g.tup_inv
      refine .inr (.inl ⟨a, b, vs, ws, rfl, rfl, ha, hb, sz_of (by rw [← dv.length, ← dw.length]; exact hl), fun e0 => ?_, fun e1 e0 => ?_, fun e1 e2 p0 hp => ?_⟩)
      · have z := dv.length
        rw [e0] at z
        have z' := List.eq_nil_of_length_eq_zero z
        subst z'
        exact h _ H (Same.refl H) (let ⟨F, q1, q2⟩ := g; Fin.imm q1 (by simpa [D.imm] using i2))
      · have z := dw.length
        rw [e0] at z
        have z' := List.eq_nil_of_length_eq_zero z
        subst z'
        rw [List.append_nil] at h
        exact h _ H (Same.refl H) (let ⟨F, q1, q2⟩ := f; Fin.imm q1 (by simpa [D.imm] using i1))
      · exact h _ _ (same_upd hp) (fin_tup hp hP (dv.append dw) (immAll_app i1 i2))
    · obtain ⟨hl, i1, i2, h⟩ := h
      obtain ⟨a, vs, F, rfl, ha, dv⟩ := f.lst_inv
      obtain ⟨b, ws, G, rfl, hb, dw⟩ := g.lst_inv
      exact .inr (.inr (.inl ⟨a, b, vs, ws, rfl, rfl, ha, hb, sz_of (by rw [← dv.length, ← dw.length]; exact hl), fun p0 hp => h _ _ (same_upd hp) (fin_lst hs hp hP (dv.append dw) (immAll_app i1 i2))⟩))
    · obtain rfl := f.str_inv
      obtain rfl := g.str_inv
      exact .inr (.inr (.inr ⟨_, _, rfl, rfl, sz_of h.1, h.2 _ H (Same.refl H) fin_str⟩))
    · exact h.elim
theorem l_int {r : R2} {o : Op2} {C : Int → Int → Prop} {g : Int → Int → Int} (ho : ∀ x y Q, o x y Q = match x.1, y.1 with | .int i, .int j => C i j ∧ Q (.int (g i j)) .fresh | _, _ => False)
    (hr : ∀ i j H Q, C i j → Q (.int (g i j)) H → r (.int i) (.int j) H Q) : Lift2 K r o where
  mono := fun x y Q Q' h q => by
    rw [ho] at q ⊢
    split at q
    · exact ⟨q.1, h _ _ q.2⟩
    · exact q
  run := fun fp env Hs H P x y v w Q hs hP f g h => by
    obtain ⟨d, p⟩ := x
    obtain ⟨e, p'⟩ := y
    rw [ho] at h
    dsimp only at h f g
    split at h
    · obtain rfl := f.int_inv
      obtain rfl := g.int_inv
      exact hr _ _ _ _ h.1 (h.2 _ H (Same.refl H) fin_int)
    · exact h.elim
theorem l_sub : Lift2 K (rI0 fun i j => .int (i - j)) oSub := l_int (C := fun _ _ => True) (g := fun i j => i - j) (fun x y Q => by
    obtain ⟨d, p⟩ := x; obtain ⟨e, p'⟩ := y
    cases d <;> cases e <;> simp [oSub]) fun i j H Q _ q => ⟨i, j, rfl, rfl, q⟩
theorem l_xor : Lift2 K (rI0 fun i j => .int (Builtin.bitXor i j)) oXor := l_int (C := fun _ _ => True) (g := fun i j => Builtin.bitXor i j) (fun x y Q => by
    obtain ⟨d, p⟩ := x; obtain ⟨e, p'⟩ := y
    cases d <;> cases e <;> simp [oXor]) fun i j H Q _ q => ⟨i, j, rfl, rfl, q⟩
theorem l_div : Lift2 K (rI CDivW fun i j => .int (i / j)) oDiv := l_int (C := CDivW) (g := fun i j => i / j) (fun x y Q => by
    obtain ⟨d, p⟩ := x; obtain ⟨e, p'⟩ := y
    cases d <;> cases e <;> simp [oDiv, CDivW]) fun i j H Q c q => ⟨i, j, rfl, rfl, c, q⟩
theorem l_mod : Lift2 K (rI (fun _ j => 0 < j) fun i j => .int (i % j)) oMod := l_int (C := fun _ j => 0 < j) (g := fun i j => i % j) (fun x y Q => by
    obtain ⟨d, p⟩ := x; obtain ⟨e, p'⟩ := y
    cases d <;> cases e <;> simp [oMod]) fun i j H Q c q => ⟨i, j, rfl, rfl, c, q⟩
theorem l_pow : Lift2 K (rI PowOk fun i j => .int (i ^ j.toNat)) oPow := l_int (C := PowOk) (g := fun i j => i ^ j.toNat) (fun x y Q => by
    obtain ⟨d, p⟩ := x; obtain ⟨e, p'⟩ := y
    cases d <;> cases e <;> simp [oPow]) fun i j H Q c q => ⟨i, j, rfl, rfl, c, q⟩
theorem l_mul : Lift2 K (rMulA K) oMul where
  mono := fun x y Q Q' h q => by
    unfold oMul at *
    split at q
    · exact ⟨q.1, h _ _ q.2⟩
    · obtain ⟨q1, q2, q3, q4, q5⟩ := q
      exact ⟨q1, q2, q3, q4, h _ _ q5⟩
    · obtain ⟨q1, q2, q3, q4, q5, q6⟩ := q
      exact ⟨q1, q2, q3, q4, q5, h _ _ q6⟩
    · exact q
  run := fun fp env Hs H P x y v w Q hs hP f g h => by
    obtain ⟨d, p⟩ := x
    obtain ⟨e, p'⟩ := y
    unfold oMul at h
    dsimp only at h f g
    split at h
    · obtain rfl := f.int_inv
      obtain rfl := g.int_inv
      exact .inl ⟨_, _, rfl, rfl, h.1, h.2 _ H (Same.refl H) fin_int⟩
    · obtain ⟨h1, h2, h3, hi, h⟩ := h
      obtain ⟨a, vs, F, rfl, ha, dv⟩ := f.lst_inv
      obtain rfl := g.int_inv
      exact .inr (.inl ⟨a, _, vs, rfl, rfl, ha, by omega, by omega, sz_of (by rw [← dv.length]; exact h3), fun p0 hp => h _ _ (same_upd hp) (fin_lst hs hp hP ((dv.imm_any hi).rep _) (immAll_rep hi _))⟩)
    · obtain ⟨h1, h2, h3, h4, hi, h⟩ := h
      obtain ⟨a, vs, F, rfl, ha, dv⟩ := f.tup_inv
      obtain rfl := g.int_inv
      refine .inr (.inr ⟨a, _, vs, rfl, rfl, ha, fun z => h1 ?_, h2, h3, by rw [← dv.length]; exact h4, fun p0 hp => h _ _ (same_upd hp) (fin_tup hp hP ((dv.imm_any hi).rep _) (immAll_rep hi _))⟩)
      have z' := dv.length
      rw [z] at z'
      exact List.eq_nil_of_length_eq_zero z'
    · exact h.elim
end

/-! ### comparisons -/
mutual
def D.toPy : D → PyData
  | .non => .none
  | .bl b => .bool b
  | .int i => .int i
  | .str x => .str x
  | .tup xs => .tuple (toPys xs)
  | .lst xs => .list (toPys xs)
  | .rol xs => .list (toPys xs)
  | .dic _ => .dict []
  | .dit _ => .dict []
  | .ins _ _ => .dict []
  | .pot => .dict []
  | .rdi _ _ _ => .dict []
  | .exc _ _ => .dict []
def toPys : List D → List PyData
  | [] => []
  | d :: ds => d.toPy :: toPys ds
end
theorem toPys_map {ds : List D} : toPys ds = ds.map D.toPy := by
  induction ds with
  | nil => rfl
  | cons d ds ih => simp [toPys, ih]
mutual
theorem DV.dp {K : PySem.W.Frag} {P : List Addr} {H : Hp} : ∀ {d : D} {v : V} {F : List Addr}, DV K P H d v F → d.toPy.canLay0 = true → Dp K H v d.toPy
  | _, _, _, .non, _ => .non
  | _, _, _, .bl b, _ => .bl b
  | _, _, _, .int i, _ => .int i
  | _, _, _, .str x, _ => .str x
  | _, _, _, .tup h hs, q => .tup (.inl (.inl h.1)) (DVs.dp hs (by simpa [D.toPy, PyData.canLay0] using q))
  | _, _, _, .lst h _ hs, q => .lst (.inl (.inl h)) (DVs.dp hs (by simpa [D.toPy, PyData.canLay0] using q))
  | _, _, _, .rol h hs, q => .lst (h.imp (fun h => .inr h.1) id) (DVs.dp hs (by simpa [D.toPy, PyData.canLay0] using q))
  | _, _, _, .dic _ _ _ _, q => by simp [D.toPy, PyData.canLay0] at q
  | _, _, _, .dit _ _ _ _, q => by simp [D.toPy, PyData.canLay0] at q
  | _, _, _, .ins _ _ _ _ _ _, q => by simp [D.toPy, PyData.canLay0] at q
  | _, _, _, .pot _, q => by simp [D.toPy, PyData.canLay0] at q
  | _, _, _, .rdi _ _ _ _, q => by simp [D.toPy, PyData.canLay0] at q
  | _, _, _, .exc _ _ _ _ _ _, q => by simp [D.toPy, PyData.canLay0] at q
theorem DVs.dp {K : PySem.W.Frag} {P : List Addr} {H : Hp} : ∀ {ds : List D} {vs : List V} {F : List Addr}, DVs K P H ds vs F → PyData.canLayAll0 (toPys ds) = true → DpAll K H vs (toPys ds)
  | _, _, _, .nil, _ => .nil
  | _, _, _, .cons h hs, q => by
    simp only [toPys, PyData.canLayAll0, Bool.and_eq_true] at q
    exact .cons (DV.dp h q.1) (DVs.dp hs q.2)
end
/-- plain data, not too deep -/
def D.plain (d : D) : Bool := SeqAt.shaped d.toPy
def D.eqd (d e : D) : Bool := PyData.eqv d.toPy e.toPy
def oEq : Op2 := fun x y Q => x.1.plain = true ∧ y.1.plain = true ∧ Q (.bl (x.1.eqd y.1)) .fresh
def oNe : Op2 := fun x y Q => x.1.plain = true ∧ y.1.plain = true ∧ Q (.bl (!x.1.eqd y.1)) .fresh
section
variable {K : PySem.W.Frag}
theorem plain_lay {d : D} (h : d.plain = true) : d.toPy.canLay0 = true := SeqAt.canLay_of_shaped h
theorem l_eq : Lift2 K (rEqD K) oEq where
  mono := fun x y Q Q' h q => ⟨q.1, q.2.1, h _ _ q.2.2⟩
  run := fun fp env Hs H P x y v w Q hs hP ⟨F, f, _⟩ ⟨G, g, _⟩ h => ⟨_, _, f.dp (plain_lay h.1), g.dp (plain_lay h.2.1), h.1, h.2.1, h.2.2 _ H (Same.refl H) fin_bl⟩
theorem l_ne : Lift2 K (rNeD K) oNe where
  mono := fun x y Q Q' h q => ⟨q.1, q.2.1, h _ _ q.2.2⟩
  run := fun fp env Hs H P x y v w Q hs hP ⟨F, f, _⟩ ⟨G, g, _⟩ h => ⟨_, _, f.dp (plain_lay h.1), g.dp (plain_lay h.2.1), h.1, h.2.1, h.2.2 _ H (Same.refl H) fin_bl⟩
def oCmp (g : Int → Int → Bool) : Op2 := fun x y Q => match x.1, y.1 with
  | .int i, .int j => Q (.bl (g i j)) .fresh
  | _, _ => False
theorem l_cmp {g : Int → Int → Bool} : Lift2 K (rI0 fun i j => .bl (g i j)) (oCmp g) where
  mono := fun x y Q Q' h q => by
    unfold oCmp at *
    split at q
    · exact h _ _ q
    · exact q
  run := fun fp env Hs H P x y v w Q hs hP f f' h => by
    obtain ⟨d, p⟩ := x
    obtain ⟨e, p'⟩ := y
    unfold oCmp at h
    dsimp only at h f f'
    split at h
    · obtain rfl := f.int_inv
      obtain rfl := f'.int_inv
      exact ⟨_, _, rfl, rfl, h _ H (Same.refl H) fin_bl⟩
    · exact h.elim
abbrev oLt : Op2 := oCmp fun i j => decide (i < j)
abbrev oLe : Op2 := oCmp fun i j => decide (i ≤ j)
abbrev oGt : Op2 := oCmp fun i j => decide (j < i)
abbrev oGe : Op2 := oCmp fun i j => decide (j ≤ i)
/-- is None, is True, is False -/
def isD : D → D → Option Bool
  | .non, .non => some true
  | .bl a, .bl b => some (a == b)
  | .pot, .non => some false
  | .int _, .non => some false
  | .bl _, .non => some false
  | .str _, .non => some false
  | .tup _, .non => some false
  | .lst _, .non => some false
  | _, _ => none
def oIs : Op2 := fun x y Q => ∃ b, isD x.1 y.1 = some b ∧ Q (.bl b) .fresh
def oIsNot : Op2 := fun x y Q => ∃ b, isD x.1 y.1 = some b ∧ Q (.bl (!b)) .fresh
def rIsA : R2 := fun x y H Q => (y = .non ∧ Q (.bl (decide (x = .non))) H) ∨ rIsB x y H Q
def rNotA : R2 := fun x y H Q => (y = .non ∧ Q (.bl (!decide (x = .non))) H) ∨ rNotB x y H Q
theorem op_isA {X : Cx} : OpR X (compareOp .Is) rIsA := op_isN.or op_isBl
theorem op_notA {X : Cx} : OpR X (compareOp .IsNot) rNotA := op_notN.or op_notBl
theorem isD_V {K : PySem.W.Frag} {P : List Addr} {H : Hp} {d e : D} {v w : V} {F G : List Addr} {b : Bool} (h : isD d e = some b) (f : DV K P H d v F) (g : DV K P H e w G) :
    (w = .non ∧ b = decide (v = .non)) ∨ ∃ x y, v = .bl x ∧ w = .bl y ∧ b = decide (x = y) := by
  cases f <;> cases g <;> simp [isD] at h <;> first
    | exact .inl ⟨rfl, by simp [← h]⟩
    | exact .inr ⟨_, _, rfl, rfl, by rw [← h]; exact Bool.beq_eq_decide_eq _ _⟩
theorem l_is : Lift2 K rIsA oIs where
  mono := fun x y Q Q' h ⟨b, e, q⟩ => ⟨b, e, h _ _ q⟩
  run := fun fp env Hs H P x y v w Q hs hP ⟨F, f, _⟩ ⟨G, g, _⟩ ⟨b, e, h⟩ => by
    have q := h _ H (Same.refl H) fin_bl
    rcases isD_V e f g with ⟨rfl, rfl⟩ | ⟨a, c, rfl, rfl, rfl⟩
    · exact .inl ⟨rfl, q⟩
    · exact .inr ⟨a, c, rfl, rfl, q⟩
theorem l_isnot : Lift2 K rNotA oIsNot where
  mono := fun x y Q Q' h ⟨b, e, q⟩ => ⟨b, e, h _ _ q⟩
  run := fun fp env Hs H P x y v w Q hs hP ⟨F, f, _⟩ ⟨G, g, _⟩ ⟨b, e, h⟩ => by
    have q := h _ H (Same.refl H) fin_bl
    rcases isD_V e f g with ⟨rfl, rfl⟩ | ⟨a, c, rfl, rfl, rfl⟩
    · exact .inl ⟨rfl, q⟩
    · exact .inr ⟨a, c, rfl, rfl, q⟩
/-- flat data -/
def D.flat : D → Bool
  | .non => true | .bl _ => true | .int _ => true | .str _ => true
  | _ => false
def D.toV : D → V
  | .non => .non | .bl b => .bl b | .int i => .int i | .str x => .str x
  | _ => .non
theorem flat_V {P : List Addr} {H : Hp} {d : D} {v : V} {F : List Addr} (f : DV K P H d v F) (h : d.flat = true) : v = d.toV ∧ flatV v = true := by
  cases f <;> simp [D.flat] at h <;> exact ⟨rfl, rfl⟩
theorem flats_V {P : List Addr} {H : Hp} : ∀ {ds : List D} {vs : List V} {F : List Addr}, DVs K P H ds vs F → ds.all D.flat = true → vs = ds.map D.toV ∧ vs.all flatV = true
  | _, _, _, .nil, _ => ⟨rfl, rfl⟩
  | _, _, _, .cons h hs, q => by
    simp only [List.all_cons, Bool.and_eq_true] at q
    obtain ⟨e, g⟩ := flat_V h q.1
    obtain ⟨e2, g2⟩ := flats_V hs q.2
    exact ⟨by rw [List.map_cons, ← e, ← e2], by rw [List.all_cons, g, g2] <;> rfl⟩
def inD (x : D) (xs : List D) : Bool := inV x.toV (xs.map D.toV)
def oIn : Op2 := fun x y Q => x.1.flat = true ∧ match y.1 with
  | .tup xs => xs.all D.flat = true ∧ Q (.bl (inD x.1 xs)) .fresh
  | .lst xs => xs.all D.flat = true ∧ Q (.bl (inD x.1 xs)) .fresh
  | _ => False
def oNotIn : Op2 := fun x y Q => x.1.flat = true ∧ match y.1 with
  | .tup xs => xs.all D.flat = true ∧ Q (.bl (!inD x.1 xs)) .fresh
  | .lst xs => xs.all D.flat = true ∧ Q (.bl (!inD x.1 xs)) .fresh
  | _ => False
theorem l_in : Lift2 K (rIn K false) oIn where
  mono := fun x y Q Q' h q => by
    obtain ⟨q1, q2⟩ := q
    refine ⟨q1, ?_⟩
    split at q2
    · exact ⟨q2.1, h _ _ q2.2⟩
    · exact ⟨q2.1, h _ _ q2.2⟩
    · exact q2
  run := fun fp env Hs H P x y v w Q hs hP f g h => by
    obtain ⟨d, p⟩ := x
    obtain ⟨e, p'⟩ := y
    obtain ⟨hf, h⟩ := h
    obtain ⟨F, f, _⟩ := f
    obtain ⟨ev, fv⟩ := flat_V f hf
    dsimp only at h g ev
    split at h
    · obtain ⟨a, vs, G, rfl, ha, dv⟩ := g.tup_inv
      obtain ⟨ew, fw⟩ := flats_V dv h.1
      refine ⟨a, vs, rfl, .inr ha, fv, fw, ?_⟩
      have q := h.2 _ H (Same.refl H) fin_bl
      unfold inD at q
      rw [← ev, ← ew] at q
      exact q
    · obtain ⟨a, vs, G, rfl, ha, dv⟩ := g.lst_inv
      obtain ⟨ew, fw⟩ := flats_V dv h.1
      refine ⟨a, vs, rfl, .inl (SqL.of ha), fv, fw, ?_⟩
      have q := h.2 _ H (Same.refl H) fin_bl
      unfold inD at q
      rw [← ev, ← ew] at q
      exact q
    · exact h.elim
theorem l_notin : Lift2 K (rIn K true) oNotIn where
  mono := fun x y Q Q' h q => by
    obtain ⟨q1, q2⟩ := q
    refine ⟨q1, ?_⟩
    split at q2
    · exact ⟨q2.1, h _ _ q2.2⟩
    · exact ⟨q2.1, h _ _ q2.2⟩
    · exact q2
  run := fun fp env Hs H P x y v w Q hs hP f g h => by
    obtain ⟨d, p⟩ := x
    obtain ⟨e, p'⟩ := y
    obtain ⟨hf, h⟩ := h
    obtain ⟨F, f, _⟩ := f
    obtain ⟨ev, fv⟩ := flat_V f hf
    dsimp only at h g ev
    split at h
    · obtain ⟨a, vs, G, rfl, ha, dv⟩ := g.tup_inv
      obtain ⟨ew, fw⟩ := flats_V dv h.1
      refine ⟨a, vs, rfl, .inr ha, fv, fw, ?_⟩
      have q := h.2 _ H (Same.refl H) fin_bl
      unfold inD at q
      rw [← ev, ← ew] at q
      exact q
    · obtain ⟨a, vs, G, rfl, ha, dv⟩ := g.lst_inv
      obtain ⟨ew, fw⟩ := flats_V dv h.1
      refine ⟨a, vs, rfl, .inl (SqL.of ha), fv, fw, ?_⟩
      have q := h.2 _ H (Same.refl H) fin_bl
      unfold inD at q
      rw [← ev, ← ew] at q
      exact q
    · exact h.elim
end
/-! ### short words: a binary operation -/
section
variable {X : Cx} {R : RC} {pos : Pos} {a b c : Expr} {ta tb tc : VT} {c₁ c₂ c₃ : Nat}
theorem ve_add (ha : VE X R c₁ a ta) (hb : VE X R c₂ b tb) : VE X R (c₁ + c₂) (.BinOp a .Add b pos) (vOp oAdd ta tb) := ve_op op_addA l_add ha hb
theorem ve_sub (ha : VE X R c₁ a ta) (hb : VE X R c₂ b tb) : VE X R (c₁ + c₂) (.BinOp a .Sub b pos) (vOp oSub ta tb) := ve_op op_sub l_sub ha hb
theorem ve_mul (ha : VE X R c₁ a ta) (hb : VE X R c₂ b tb) : VE X R (c₁ + c₂) (.BinOp a .Mult b pos) (vOp oMul ta tb) := ve_op op_mulAll l_mul ha hb
theorem ve_div (ha : VE X R c₁ a ta) (hb : VE X R c₂ b tb) : VE X R (c₁ + c₂) (.BinOp a .FloorDiv b pos) (vOp oDiv ta tb) := ve_op op_fdivW l_div ha hb
theorem ve_mod (ha : VE X R c₁ a ta) (hb : VE X R c₂ b tb) : VE X R (c₁ + c₂) (.BinOp a .Mod b pos) (vOp oMod ta tb) := ve_op op_mod l_mod ha hb
theorem ve_pow (ha : VE X R c₁ a ta) (hb : VE X R c₂ b tb) : VE X R (c₁ + c₂) (.BinOp a .Pow b pos) (vOp oPow ta tb) := ve_op op_powA l_pow ha hb
theorem ve_xor (ha : VE X R c₁ a ta) (hb : VE X R c₂ b tb) : VE X R (c₁ + c₂) (.BinOp a .BitXor b pos) (vOp oXor ta tb) := ve_op op_xor l_xor ha hb
theorem ve_eq (hu : X.A.units + 64 < cLine) (ha : VE X R c₁ a ta) (hb : VE X R c₂ b tb) : VE X R (c₁ + c₂) (.Compare a [.Eq] [b] pos) (vOp oEq ta tb) := ve_cmp (op_eqD hu) l_eq ha hb (nomark b)
theorem ve_ne (hu : X.A.units + 64 < cLine) (ha : VE X R c₁ a ta) (hb : VE X R c₂ b tb) : VE X R (c₁ + c₂) (.Compare a [.NotEq] [b] pos) (vOp oNe ta tb) := ve_cmp (op_neD hu) l_ne ha hb (nomark b)
theorem ve_lt (ha : VE X R c₁ a ta) (hb : VE X R c₂ b tb) : VE X R (c₁ + c₂) (.Compare a [.Lt] [b] pos) (vOp oLt ta tb) := ve_cmp op_lt l_cmp ha hb (nomark b)
theorem ve_le (ha : VE X R c₁ a ta) (hb : VE X R c₂ b tb) : VE X R (c₁ + c₂) (.Compare a [.LtE] [b] pos) (vOp oLe ta tb) := ve_cmp op_le l_cmp ha hb (nomark b)
theorem ve_gt (ha : VE X R c₁ a ta) (hb : VE X R c₂ b tb) : VE X R (c₁ + c₂) (.Compare a [.Gt] [b] pos) (vOp oGt ta tb) := ve_cmp op_gt l_cmp ha hb (nomark b)
theorem ve_ge (ha : VE X R c₁ a ta) (hb : VE X R c₂ b tb) : VE X R (c₁ + c₂) (.Compare a [.GtE] [b] pos) (vOp oGe ta tb) := ve_cmp op_ge l_cmp ha hb (nomark b)
theorem ve_is (ha : VE X R c₁ a ta) (hb : VE X R c₂ b tb) : VE X R (c₁ + c₂) (.Compare a [.Is] [b] pos) (vOp oIs ta tb) := ve_cmp op_isA l_is ha hb (nomark b)
theorem ve_isnot (ha : VE X R c₁ a ta) (hb : VE X R c₂ b tb) : VE X R (c₁ + c₂) (.Compare a [.IsNot] [b] pos) (vOp oIsNot ta tb) := ve_cmp op_notA l_isnot ha hb (nomark b)
theorem ve_in (ha : VE X R c₁ a ta) (hb : VE X R c₂ b tb) (hm : behindInMarks .In b = false := by with_unfolding_all rfl) : VE X R (c₁ + c₂) (.Compare a [.In] [b] pos) (vOp oIn ta tb) := ve_cmp op_in_seq l_in ha hb hm
theorem ve_notin (ha : VE X R c₁ a ta) (hb : VE X R c₂ b tb) (hm : behindInMarks .NotIn b = false := by with_unfolding_all rfl) : VE X R (c₁ + c₂) (.Compare a [.NotIn] [b] pos) (vOp oNotIn ta tb) := ve_cmp op_notIn_seq l_notin ha hb hm
theorem vc_eq (hu : X.A.units + 64 < cLine) (ha : VE X R c₁ a ta) (hb : VE X R c₂ b tb) : VC X R (c₁ + c₂) (.Compare a [.Eq] [b] pos) (vTest (vOp oEq ta tb)) := vc_cmp (op_eqD hu) l_eq ha hb (nomark b)
theorem vc_ne (hu : X.A.units + 64 < cLine) (ha : VE X R c₁ a ta) (hb : VE X R c₂ b tb) : VC X R (c₁ + c₂) (.Compare a [.NotEq] [b] pos) (vTest (vOp oNe ta tb)) := vc_cmp (op_neD hu) l_ne ha hb (nomark b)
theorem vc_lt (ha : VE X R c₁ a ta) (hb : VE X R c₂ b tb) : VC X R (c₁ + c₂) (.Compare a [.Lt] [b] pos) (vTest (vOp oLt ta tb)) := vc_cmp op_lt l_cmp ha hb (nomark b)
theorem vc_le (ha : VE X R c₁ a ta) (hb : VE X R c₂ b tb) : VC X R (c₁ + c₂) (.Compare a [.LtE] [b] pos) (vTest (vOp oLe ta tb)) := vc_cmp op_le l_cmp ha hb (nomark b)
theorem vc_gt (ha : VE X R c₁ a ta) (hb : VE X R c₂ b tb) : VC X R (c₁ + c₂) (.Compare a [.Gt] [b] pos) (vTest (vOp oGt ta tb)) := vc_cmp op_gt l_cmp ha hb (nomark b)
theorem vc_ge (ha : VE X R c₁ a ta) (hb : VE X R c₂ b tb) : VC X R (c₁ + c₂) (.Compare a [.GtE] [b] pos) (vTest (vOp oGe ta tb)) := vc_cmp op_ge l_cmp ha hb (nomark b)
theorem vc_is (ha : VE X R c₁ a ta) (hb : VE X R c₂ b tb) : VC X R (c₁ + c₂) (.Compare a [.Is] [b] pos) (vTest (vOp oIs ta tb)) := vc_cmp op_isA l_is ha hb (nomark b)
theorem vc_isnot (ha : VE X R c₁ a ta) (hb : VE X R c₂ b tb) : VC X R (c₁ + c₂) (.Compare a [.IsNot] [b] pos) (vTest (vOp oIsNot ta tb)) := vc_cmp op_notA l_isnot ha hb (nomark b)
theorem vc_in (ha : VE X R c₁ a ta) (hb : VE X R c₂ b tb) (hm : behindInMarks .In b = false := by with_unfolding_all rfl) : VC X R (c₁ + c₂) (.Compare a [.In] [b] pos) (vTest (vOp oIn ta tb)) := vc_cmp op_in_seq l_in ha hb hm
theorem vc_notin (ha : VE X R c₁ a ta) (hb : VE X R c₂ b tb) (hm : behindInMarks .NotIn b = false := by with_unfolding_all rfl) : VC X R (c₁ + c₂) (.Compare a [.NotIn] [b] pos) (vTest (vOp oNotIn ta tb)) := vc_cmp op_notIn_seq l_notin ha hb hm
/-- a op1 b op2 c -/
def vChain (o o' : Op2) (ta tb tc : VT) : VT := fun env Q => ta env fun d p => tb env fun d' p' => o (d, p) (d', p') fun z _ => ∃ k, z = .bl k ∧ if k = true then tc env fun d2 p2 => o' (d', p') (d2, p2) Q else Q (.bl false) .fresh
theorem chain_mono {o o' : Op2} {r r' : R2} {K : PySem.W.Frag} (l : Lift2 K r o) (l' : Lift2 K r' o') (ha : MonoE ta) (hb : MonoE tb) (hc : MonoE tc) : MonoE (vChain o o' ta tb tc) := fun env Q Q' h q =>
  ha _ _ _ (fun d p q => hb _ _ _ (fun d' p' q => l.mono _ _ _ _ (fun z pz ⟨k, e, q⟩ => ⟨k, e, by
    cases k with
    | true => exact hc _ _ _ (fun d2 p2 q => l'.mono _ _ _ _ h q) q
    | false => exact h _ _ q⟩) q) q) q
theorem chain_imp {o o' : Op2} {r r' : R2} (l : Lift2 X.K r o) (l' : Lift2 X.K r' o') (ha : VE X R c₁ a ta) (hb : VE X R c₂ b tb) (hc : VE X R c₃ c tc) (σ : L2.St) (H : Hp) (Q : VK)
    (h : liftE X.K R (c₁ + (c₂ + c₃)) (vChain o o' ta tb tc) σ H Q) : tChain r r' (liftE X.K R c₁ ta) (liftE X.K R c₂ tb) (liftE X.K R c₃ tc) σ H Q := by
  obtain ⟨env, P, fp, T, k, rep, pots, q⟩ := h
  refine ⟨env, P, fp, T, (c₂ + c₃) + k, rep, by rw [← Nat.add_assoc]; exact pots, ha.mono _ _ _ (fun d1 p1 h1 => ?_) q⟩
  intro v1 H1 P1 e1 pots1 f1
  refine ⟨env, P1, fp, T, c₃ + k, rep.evo e1, by rw [← Nat.add_assoc]; exact pots1, hb.mono _ _ _ (fun d2 p2 h2 => ?_) h1⟩
  intro v2 H2 P2 e2 pots2 f2
  refine l.run fp env H H2 P2 (d1, p1) (d2, p2) v1 v2 _ (fun x hx => (e1.trans e2).fresh hx) pots2.some (f1.evo e2) (f2.back e1) (l.mono _ _ _ _ (fun z pz ⟨b, e, hq⟩ => ?_) h2)
  intro u H3 hs f3
  subst e
  obtain rfl := f3.bl_inv
  have e3 := (e1.trans e2).trans (Evo.same hs)
  refine ⟨b, rfl, ?_⟩
  cases b with
  | false => exact hq _ H3 P2 e3 ((pots2.same hs).le (by omega)) fin_bl
  | true =>
    refine ⟨env, P2, fp, T, k, rep.evo e3, pots2.same hs, hc.mono _ _ _ (fun d3 p3 h3 => ?_) hq⟩
    intro v4 H4 P4 e4 pots4 f4
    refine l'.run fp env H H4 P4 (d2, p2) (d3, p3) v2 v4 Q (fun x hx => (e3.trans e4).fresh hx) pots4.some (((f2.back e1).evo (Evo.same (Θ := []) hs)).evo e4) (f4.back e3) (l'.mono _ _ _ _ (fun d p hq => ?_) h3)
    intro u5 H5 hs5 f5
    exact hq u5 H5 P4 ((e3.trans e4).trans (Evo.same hs5)) (pots4.same hs5) f5
theorem ve_chain {op op' : CmpOp} {o o' : Op2} {r r' : R2} (ho : OpR X (compareOp op) r) (ho' : OpR X (compareOp op') r') (l : Lift2 X.K r o) (l' : Lift2 X.K r' o') (ha : VE X R c₁ a ta) (hb : VE X R c₂ b tb) (hc : VE X R c₃ c tc)
    (hm : lastMarks [op, op'] [b, c] = false := by with_unfolding_all rfl) : VE X R (c₁ + (c₂ + c₃)) (.Compare a [op, op'] [b, c] pos) (vChain o o' ta tb tc) :=
  ⟨chain_mono l l' ha.mono hb.mono hc.mono, PE.imp (pe_chain ho ho' ha.run hb.run hc.run hm) (chain_imp l l' ha hb hc)⟩
theorem vc_chain {op op' : CmpOp} {o o' : Op2} {r r' : R2} (ho : OpR X (compareOp op) r) (ho' : OpR X (compareOp op') r') (l : Lift2 X.K r o) (l' : Lift2 X.K r' o') (ha : VE X R c₁ a ta) (hb : VE X R c₂ b tb) (hc : VE X R c₃ c tc)
    (hm : lastMarks [op, op'] [b, c] = false := by with_unfolding_all rfl) : VC X R (c₁ + (c₂ + c₃)) (.Compare a [op, op'] [b, c] pos) (vTest (vChain o o' ta tb tc)) :=
  ⟨mono_test (chain_mono l l' ha.mono hb.mono hc.mono), PT.imp (pt_chain ho ho' ha.run hb.run hc.run hm) (test_imp (chain_mono l l' ha.mono hb.mono hc.mono) (chain_imp l l' ha hb hc))⟩
/-- -a -/
def vNeg (t : VT) : VT := fun env Q => t env fun d _ => ∃ i, d = .int i ∧ Q (.int (-i)) .fresh
theorem ve_neg (ha : VE X R c₁ a ta) : VE X R c₁ (.UnaryOp .USub a pos) (vNeg ta) where
  mono := fun env Q Q' h q => ha.mono _ _ _ (fun d p ⟨i, e, q⟩ => ⟨i, e, h _ _ q⟩) q
  run := PE.imp (pe_un un_neg ha.run) fun σ H Q ⟨env, P, fp, T, k, rep, pots, q⟩ => by
    refine ⟨env, P, fp, T, k, rep, pots, ha.mono _ _ _ (fun d p ⟨i, e, q⟩ => ?_) q⟩
    intro v H1 P1 e1 pots1 f
    subst e
    obtain rfl := f.int_inv
    exact ⟨i, rfl, q _ H1 P1 e1 pots1 fin_int⟩
end
end VS

namespace VS
open PySem PySem.Spec PyProof.Rows L2
variable {Θ : List (Addr × Str)}
/-! ### argument lists -/
def vNil : VA := fun _ Q => Q []
def vCons (t : VT) (u : VA) : VA := fun env Q => t env fun d p => u env fun xs => Q ((d, p) :: xs)
section
variable {X : Cx} {R : RC} {pos : Pos} {e : Expr} {es : List Expr} {t : VT} {u : VA} {c₁ c₂ c : Nat}
theorem vl_nil : VL X R 0 [] vNil := ⟨fun env Q Q' h q => h _ q, PA.imp pa_nil fun σ H Q ⟨env, P, fp, T, k, rep, pots, q⟩ => q [] H P Evo.refl (pots.le (by omega)) FinA.nil⟩
theorem mono_cons (h1 : MonoE t) (h2 : MonoA u) : MonoA (vCons t u) := fun env Q Q' h q => h1 _ _ _ (fun d p q => h2 _ _ _ (fun xs q => h _ q) q) q
theorem vl_cons (h1 : VE X R c₁ e t) (h2 : VL X R c₂ es u) (hs : starEach (e :: es) X.env = (false, eval e X.env) :: starEach es X.env := by rfl) : VL X R (c₁ + c₂) (e :: es) (vCons t u) where
  mono := mono_cons h1.mono h2.mono
  run := PA.imp (pa_cons h1.run h2.run hs) fun σ H Q ⟨env, P, fp, T, k, rep, pots, q⟩ => by
    refine ⟨env, P, fp, T, c₂ + k, rep, by rw [← Nat.add_assoc]; exact pots, h1.mono _ _ _ (fun d1 p1 h1 => ?_) q⟩
    intro v1 H1 P1 e1 pots1 f1
    refine ⟨env, P1, fp, T, k, rep.evo e1, pots1, h2.mono _ _ _ (fun xs h2 => ?_) h1⟩
    intro vs H2 P2 e2 pots2 f2
    exact h2 (v1 :: vs) H2 P2 (e1.trans e2) pots2 (FinA.push (x := (d1, p1)) e2 e1 f1 f2)
/-- *e, e a tuple or a list -/
def tStar (K : PySem.W.Frag) (te : TE) (t : TA) : TA := fun σ H Q => te σ H fun x H1 => ∃ a ys, x = .ref a ∧ (SqL K H1 a ys ∨ SqT K H1 a ys) ∧ t σ H1 fun vs H2 => Q (ys ++ vs) H2
theorem pa_star {p : Pos} {te : TE} {ta : TA} (h1 : PE X e te) (h2 : PA X es ta) (he : starEach (.Starred e p :: es) X.env = (true, eval e X.env) :: starEach es X.env := by rfl) : PA X (.Starred e p :: es) (tStar X.K te ta) := by
  refine ⟨fun pos pins s σ H Q I h => ?_⟩
  refine PySem.W.items_star (thn (h1.run pins s σ H _ I h) fun v s1 ⟨x, H1, I1, r1, a, ys, ex, hS, q1⟩ => ?_) he
  subst ex
  cases r1
  rcases hS with hS | hS
  · obtain ⟨its, rv, ⟨o, n, e1, e2, e3, e4⟩, hz⟩ := I1.list hS
    have hlen := rv.length
    have hT' : s1.TypeIs (.ref a) "list" := ⟨o, e1, e2⟩
    refine wpAny_bind (wpAny_specialOf hT' PySem.F.slot_list_iter.lookup (wpAny_pure ⟨rfl, ?_⟩))
    refine wpAny_collect_seq a (.inl rfl) e1 e2 e4 (fun h' hk => ?_) (by simpa [← hlen] using hz)
    refine thn (h2.run pos pins _ σ H1 _ (I1.kept (t' := s1.toks) hk) q1) fun us s2 ⟨vs, H2, I2, r2, q2⟩ => ⟨ys ++ vs, H2, I2, ?_, q2⟩
    exact Vals.append (by simpa using rv) r2
  · obtain ⟨its, rv, ⟨o, e1, e2, n, e4⟩, hz⟩ := I1.tuple hS
    have hlen := rv.length
    have hT' : s1.TypeIs (.ref a) "tuple" := ⟨o, e1, e2⟩
    refine wpAny_bind (wpAny_specialOf hT' PySem.F.slot_tuple_iter.lookup (wpAny_pure ⟨rfl, ?_⟩))
    refine wpAny_collect_seq a (.inr rfl) e1 e2 e4 (fun h' hk => ?_) (by simpa [← hlen] using hz)
    refine thn (h2.run pos pins _ σ H1 _ (I1.kept (t' := s1.toks) hk) q1) fun us s2 ⟨vs, H2, I2, r2, q2⟩ => ⟨ys ++ vs, H2, I2, ?_, q2⟩
    exact Vals.append (by simpa using rv) r2
/-- the items of a tuple or a list, immutable -/
def itemsD : D → Option (List D)
  | .tup xs => some xs
  | .lst xs => some xs
  | .rol xs => some xs
  | _ => none
theorem Fin.items {K : PySem.W.Frag} {fp : Nat → List Addr} {env : Env} {Hs H : Hp} {P : List Addr} {d : D} {p : Prov} {v : V} {xs : List D} (f : Fin K fp env Hs d p v H P) (h : itemsD d = some xs) :
    ∃ a vs F, v = .ref a ∧ (SqL K H a vs ∨ SqT K H a vs) ∧ DVs K P H xs vs F := by
  cases d <;> simp [itemsD] at h
  · subst h
    obtain ⟨a, vs, F, h1, h2, h3⟩ := f.tup_inv
    exact ⟨a, vs, F, h1, .inr h2, h3⟩
  · subst h
    obtain ⟨a, vs, F, h1, h2, h3⟩ := f.lst_inv
    exact ⟨a, vs, F, h1, .inl (SqL.of h2), h3⟩
  · subst h
    obtain ⟨a, vs, F, h1, h2, h3⟩ := f.rol_inv
    exact ⟨a, vs, F, h1, .inl h2, h3⟩
def vStar (t : VT) (u : VA) : VA := fun env Q => t env fun d _ => ∃ xs, itemsD d = some xs ∧ immAll xs = true ∧ u env fun ys => Q (xs.map (fun x => (x, .fresh)) ++ ys)
theorem finA_imm {K : PySem.W.Frag} {fp : Nat → List Addr} {env : Env} {Hs H : Hp} {P : List Addr} : ∀ {xs : List D} {vs : List V} {F : List Addr}, DVs K P H xs vs F → immAll xs = true → ∀ {ys : List DP} {ws : List V}, FinA K fp env Hs H P ys ws → FinA K fp env Hs H P (xs.map (fun x => (x, Prov.fresh)) ++ ys) (vs ++ ws)
  | _, _, _, .nil, _, _, _, h => h
  | _, _, _, .cons h1 h2, q, _, _, h => by
    simp only [immAll, Bool.and_eq_true] at q
    obtain ⟨Fs, g1, g2⟩ := finA_imm h2 q.2 h
    have e := h1.imm_nil q.1
    subst e
    exact ⟨[] :: Fs, ⟨h1, POk.nil, g1⟩, g2⟩
theorem vl_star {p : Pos} (h1 : VE X R c₁ e t) (h2 : VL X R c₂ es u) (he : starEach (.Starred e p :: es) X.env = (true, eval e X.env) :: starEach es X.env := by rfl) : VL X R (c₁ + c₂) (.Starred e p :: es) (vStar t u) where
  mono := fun env Q Q' h q => h1.mono _ _ _ (fun d p ⟨xs, e, i, q⟩ => ⟨xs, e, i, h2.mono _ _ _ (fun ys q => h _ q) q⟩) q
  run := PA.imp (pa_star h1.run h2.run he) fun σ H Q ⟨env, P, fp, T, k, rep, pots, q⟩ => by
    refine ⟨env, P, fp, T, c₂ + k, rep, by rw [← Nat.add_assoc]; exact pots, h1.mono _ _ _ (fun d1 p1 ⟨xs, ex, hi, h1⟩ => ?_) q⟩
    intro v1 H1 P1 e1 pots1 f1
    obtain ⟨a, vs, F, rfl, hS, dv⟩ := f1.items ex
    refine ⟨a, vs, rfl, hS, env, P1, fp, T, k, rep.evo e1, pots1, h2.mono _ _ _ (fun ys h2 => ?_) h1⟩
    intro ws H2 P2 e2 pots2 f2
    exact h2 (vs ++ ws) H2 P2 (e1.trans e2) pots2 (finA_imm (dv.evo e2) hi (f2.back e1))

/-! ### displays -/
/-- where a display's items come from: all immutable but at most one -/
def prOf : List DP → Prov
  | [] => .fresh
  | x :: xs => if x.1.imm = true then prOf xs else if immAll (xs.map (·.1)) = true then x.2.part else .any
theorem finL_all {K : PySem.W.Frag} {fp : Nat → List Addr} {env : Env} {Hs H : Hp} {P : List Addr} : ∀ {xs : List DP} {vs : List V} {Fs : List (List Addr)}, FinL K fp env Hs H P xs vs Fs → ∃ F, DVs K P H (xs.map (·.1)) vs F ∧ ∀ d', POk fp env Hs H d' F (prOf xs)
  | [], [], [], _ => ⟨[], .nil, fun _ => POk.nil⟩
  | x :: xs, v :: vs, F :: Fs, ⟨h1, h2, h3⟩ => by
    obtain ⟨G, g1, g2⟩ := finL_all h3
    by_cases hi : x.1.imm = true
    · have e := h1.imm_nil hi
      subst e
      exact ⟨_, .cons h1 g1, by unfold prOf; rw [if_pos hi]; exact g2⟩
    · refine ⟨_, .cons h1 g1, ?_⟩
      unfold prOf
      rw [if_neg hi]
      by_cases hj : immAll (xs.map (·.1)) = true
      · have e := g1.imm_nil hj
        subst e
        rw [if_pos hj, List.append_nil]
        exact fun d' => h2.part (List.Sublist.refl _)
      · rw [if_neg hj]; exact fun _ => trivial
  | [], _ :: _, _, h => h.elim
  | [], [], _ :: _, h => h.elim
  | _ :: _, [], _, h => h.elim
  | _ :: _, _ :: _, [], h => h.elim
theorem finA_all {K : PySem.W.Frag} {fp : Nat → List Addr} {env : Env} {Hs H : Hp} {P : List Addr} {xs : List DP} {vs : List V} (h : FinA K fp env Hs H P xs vs) : ∃ F, DVs K P H (xs.map (·.1)) vs F ∧ ∀ d', POk fp env Hs H d' F (prOf xs) := let ⟨_, h1, _⟩ := h; finL_all h1
def vTup (u : VA) : VT := fun env Q => u env fun xs => xs.length ≤ SZ ∧ Q (.tup (xs.map (·.1))) (prOf xs)
theorem ve_tup {x1} (h : VL X R c es u) : VE X R c (.Tuple es x1 pos) (vTup u) where
  mono := fun env Q Q' hq q => h.mono _ _ _ (fun xs ⟨l, q⟩ => ⟨l, hq _ _ q⟩) q
  run := PE.imp (pe_tup h.run) fun σ H Q ⟨env, P, fp, T, k, rep, pots, q⟩ => by
    refine ⟨env, P, fp, T, k, rep, pots, h.mono _ _ _ (fun xs ⟨l, q⟩ => ?_) q⟩
    intro vs H1 P1 e1 pots1 f1
    obtain ⟨F, dv, pk⟩ := finA_all f1
    have hl := dv.length
    rw [List.length_map] at hl
    refine ⟨sz_of (by omega), fun p hp => q _ _ P1 (e1.trans (Evo.upd hp)) (pots1.updN hp) ⟨F, .tup ⟨upd_same, fun z => pots1.some p z hp⟩ (dv.evoU hp), (pk _).evo (Evo.upd (Θ := []) hp) fun a ha => (dv.live a ha).2⟩⟩
/-- a list display: its items immutable, or one of them new -/
def prLst (xs : List DP) : Prov := match prOf xs with | .fresh => .fresh | _ => .any
def vLst (u : VA) : VT := fun env Q => u env fun xs => xs.length ≤ SZ ∧ Q (.lst (xs.map (·.1))) (prLst xs)
theorem ve_lst (h : VL X R c es u) : VE X R c (.List es pos) (vLst u) where
  mono := fun env Q Q' hq q => h.mono _ _ _ (fun xs ⟨l, q⟩ => ⟨l, hq _ _ q⟩) q
  run := PE.imp (pe_lst h.run) fun σ H Q ⟨env, P, fp, T, k, rep, pots, q⟩ => by
    refine ⟨env, P, fp, T, k, rep, pots, h.mono _ _ _ (fun xs ⟨l, q⟩ => ?_) q⟩
    intro vs H1 P1 e1 pots1 f1
    obtain ⟨F, dv, pk⟩ := finA_all f1
    have hl := dv.length
    rw [List.length_map] at hl
    refine ⟨sz_of (by omega), fun p hp => q _ _ P1 (e1.trans (Evo.upd hp)) (pots1.updN hp) ⟨p :: F, .lst upd_same (fun z => pots1.some p z hp) (dv.evoU hp), ?_⟩⟩
    unfold prLst
    cases e : prOf xs with
    | fresh =>
      have pk := pk .non
      rw [e] at pk
      refine ⟨List.nodup_cons.mpr ⟨fun z => ?_, pk.1⟩, fun a ha => ?_⟩
      · exact (dv.live p z).1 hp
      · rcases List.mem_cons.mp ha with rfl | ha
        · exact ⟨e1.fresh hp, _, upd_same, trivial⟩
        · exact (POk.evo (d := .non) (P := P1) (P' := P1) (p := .fresh) (fp := fp) (env := env) (Hs := H) (F := F) (Evo.upd (Θ := []) hp) (fun a ha => (dv.live a ha).2) pk).2 a ha
    | all i => trivial
    | sub i => trivial
    | any => trivial
end

/-! ### items -/
section
variable {X : Cx} {R : RC} {pos : Pos} {a b : Expr} {ta tb : VT} {c₁ c₂ : Nat}
def oIx : Op2 := fun x y Q => match x.1, y.1 with
  | .tup xs, .int i => ∃ d, atI xs i = some d ∧ Q d x.2.part
  | .lst xs, .int i => ∃ d, atI xs i = some d ∧ Q d x.2.part
  | .rol xs, .int i => ∃ d, atI xs i = some d ∧ Q d x.2.part
  | .str z, .int i => ∃ c, z.length ≤ SZ ∧ atI z.cps.toList i = some c ∧ Q (.str ⟨#[c]⟩) .fresh
  | _, _ => False
theorem atI_len {α β : Type} {xs : List α} {ys : List β} {i : Int} {x : α} (hl : xs.length = ys.length) (h : atI xs i = some x) : ∃ j : Nat, xs[j]? = some x ∧ ∀ y : β, ys[j]? = some y → atI ys i = some y := by
  unfold atI at h ⊢
  cases e : ixN xs.length i with
  | none => rw [e] at h; cases h
  | some j =>
    rw [e] at h
    exact ⟨j, h, fun y hy => by rw [← hl, e]; exact hy⟩
theorem l_ix {K : PySem.W.Frag} : Lift2 K (rIx K) oIx where
  mono := fun x y Q Q' h q => by
    unfold oIx at *
    split at q
    · exact ⟨q.choose, q.choose_spec.1, h _ _ q.choose_spec.2⟩
    · exact ⟨q.choose, q.choose_spec.1, h _ _ q.choose_spec.2⟩
    · exact ⟨q.choose, q.choose_spec.1, h _ _ q.choose_spec.2⟩
    · obtain ⟨c, q1, q2, q3⟩ := q
      exact ⟨c, q1, q2, h _ _ q3⟩
    · exact q
  run := fun fp env Hs H P x y v w Q hs hP f g h => by
    obtain ⟨d, p⟩ := x
    obtain ⟨e, p'⟩ := y
    unfold oIx at h
    dsimp only at h f g
    split at h
    · obtain ⟨r, e, h⟩ := h
      obtain rfl := g.int_inv
      obtain ⟨F, f, pk⟩ := f
      obtain ⟨a, vs, rfl, ha, dv⟩ := f.tup_inv
      obtain ⟨j, e1, e2⟩ := atI_len dv.length e
      obtain ⟨u, G, q1, q2, q3⟩ := dv.getD e1
      exact .inr (.inl ⟨a, vs, _, u, rfl, rfl, ha, e2 u q1, h u H (Same.refl H) ⟨G, q2, pk.part q3⟩⟩)
    · obtain ⟨r, e, h⟩ := h
      obtain rfl := g.int_inv
      obtain ⟨F, f, pk⟩ := f
      obtain ⟨a, vs, G0, rfl, ha, _, dv, rfl⟩ := f.lst_inv
      obtain ⟨j, e1, e2⟩ := atI_len dv.length e
      obtain ⟨u, G, q1, q2, q3⟩ := dv.getD e1
      exact .inl ⟨a, vs, _, u, rfl, rfl, SqL.of ha, e2 u q1, h u H (Same.refl H) ⟨G, q2, pk.part (q3.trans (List.sublist_cons_self _ _))⟩⟩
    · obtain ⟨r, e, h⟩ := h
      obtain rfl := g.int_inv
      obtain ⟨F, f, pk⟩ := f
      obtain ⟨a, vs, rfl, ha, dv⟩ := f.rol_inv
      obtain ⟨j, e1, e2⟩ := atI_len dv.length e
      obtain ⟨u, G, q1, q2, q3⟩ := dv.getD e1
      exact .inl ⟨a, vs, _, u, rfl, rfl, ha, e2 u q1, h u H (Same.refl H) ⟨G, q2, pk.part q3⟩⟩
    · obtain ⟨c, h1, h2, h3⟩ := h
      obtain rfl := f.str_inv
      obtain rfl := g.int_inv
      exact .inr (.inr ⟨_, _, c, rfl, rfl, sz_of h1, h2, h3 _ H (Same.refl H) fin_str⟩)
    · exact h.elim
theorem ve_ix (ha : VE X R c₁ a ta) (hb : VE X R c₂ b tb) (hs : PlainIx b := by exact fun _ _ => rfl) : VE X R (c₁ + c₂) (.Subscript a b pos) (vOp oIx ta tb) :=
  ⟨mono_op (l_ix (K := X.K)).mono ha.mono hb.mono, PE.imp (pe_ix ix_seq ha.run hb.run hs) (op_imp (ea := 0) (eb := 0) l_ix ha hb)⟩

/-! ### slices -/
abbrev VO := Env → (Option Int → Prop) → Prop
def vNo : VO := fun _ Q => Q none
def vPart (t : VT) : VO := fun env Q => t env fun d _ => ∃ i, d = .int i ∧ Q (some i)
def liftO (K : PySem.W.Frag) (R : RC) (c : Nat) (t : VO) : TO := fun σ H Q => ∃ env P fp T r, Rep K R env σ H P fp T ∧ Pots (c + r) P H ∧
  t env fun b => ∀ H' P', Evo R.T P P' H H' → Pots r P' H' → Q b H'
structure VP (X : Cx) (R : RC) (c : Nat) (e : Option Expr) (t : VO) : Prop where
  mono : ∀ env (Q Q' : Option Int → Prop), (∀ b, Q b → Q' b) → t env Q → t env Q'
  run : PO X e (liftO X.K R c t)
theorem PO.imp {e : Option Expr} {t t' : TO} (h : PO X e t) (hi : ∀ σ H Q, t' σ H Q → t σ H Q) : PO X e t' := by
  obtain ⟨h⟩ := h
  first
    | exact ⟨fun pins s σ H Q I q => h pins s σ H Q I (hi σ H Q q)⟩
    | exact ⟨fun a pins s σ H Q I q => h a pins s σ H Q I (hi σ H Q q)⟩
theorem vp_no : VP X R 0 none vNo := ⟨fun env Q Q' h q => h _ q, PO.imp po_none fun σ H Q ⟨env, P, fp, T, k, rep, pots, q⟩ => q H P Evo.refl (pots.le (by omega))⟩
theorem vp_some (h : VE X R c₁ a ta) : VP X R c₁ (some a) (vPart ta) where
  mono := fun env Q Q' hq q => h.mono _ _ _ (fun d p ⟨i, e, q⟩ => ⟨i, e, hq _ q⟩) q
  run := PO.imp (po_some h.run) fun σ H Q ⟨env, P, fp, T, k, rep, pots, q⟩ => by
    refine ⟨env, P, fp, T, k, rep, pots, h.mono _ _ _ (fun d p ⟨i, e, q⟩ => ?_) q⟩
    intro v H1 P1 e1 pots1 f
    subst e
    obtain rfl := f.int_inv
    exact ⟨i, rfl, q H1 P1 e1 pots1⟩
def cutL {α : Type} (xs : List α) (lo hi : Option Int) : List α := (xs.drop (HT.sIx xs.length 0 lo)).take (HT.sIx xs.length xs.length hi - HT.sIx xs.length 0 lo)
theorem DVs.cut {K : PySem.W.Frag} {P : List Addr} {H : Hp} {ds : List D} {vs : List V} {F : List Addr} (h : DVs K P H ds vs F) (lo hi : Option Int) : ∃ G, DVs K P H (cutL ds lo hi) (cutV vs lo hi) G ∧ G.Sublist F := by
  unfold cutL cutV
  rw [← h.length]
  obtain ⟨G, g1, g2⟩ := h.drop (HT.sIx ds.length 0 lo)
  obtain ⟨G', g3, g4⟩ := g1.take (HT.sIx ds.length ds.length hi - HT.sIx ds.length 0 lo)
  exact ⟨G', g3, g4.trans g2⟩
theorem immAll_cut {ds : List D} (h : immAll ds = true) (lo hi : Option Int) : immAll (cutL ds lo hi) = true := by
  rw [immAll_iff] at *
  intro d hd
  exact h d (List.mem_of_mem_drop (List.mem_of_mem_take hd))
/-- a slice of a tuple, a list, a text -/
def slD (d : D) (p : Prov) (lo hi : Option Int) (Q : D → Prov → Prop) : Prop := match d with
  | .tup xs => Q (.tup (cutL xs lo hi)) p.part
  | .lst xs => immAll xs = true ∧ Q (.lst (cutL xs lo hi)) .fresh
  | .rol xs => immAll xs = true ∧ Q (.lst (cutL xs lo hi)) .fresh
  | _ => False
def vSl (t : VT) (lo hi : VO) : VT := fun env Q => t env fun d p => lo env fun l => hi env fun u => slD d p l u Q
def rSlAll (K : PySem.W.Frag) : V → Option Int → Option Int → Hp → VK → Prop := fun x lo hi H Q => rSlA K x lo hi H Q ∨ rSlL K x lo hi H Q
theorem sl_all : SlR X (rSlAll X.K) := sl_tupA.or sl_list
theorem cutL_whole {α : Type} {xs : List α} {lo hi : Option Int} (h : HT.sIx xs.length 0 lo = 0 ∧ HT.sIx xs.length xs.length hi = xs.length) : cutL xs lo hi = xs := by
  unfold cutL
  rw [h.1, h.2]
  simp
theorem slD_mono {d : D} {p : Prov} {lo hi : Option Int} {Q Q' : D → Prov → Prop} (h : ∀ d p, Q d p → Q' d p) (q : slD d p lo hi Q) : slD d p lo hi Q' := by
  unfold slD at *
  split at q
  · exact h _ _ q
  · exact ⟨q.1, h _ _ q.2⟩
  · exact ⟨q.1, h _ _ q.2⟩
  · exact q
theorem slD_run {K : PySem.W.Frag} {fp : Nat → List Addr} {env : Env} {Hs H : Hp} {P : List Addr} {d : D} {p : Prov} {v : V} {lo hi : Option Int} {Q : VK} (hs : ∀ a, H a = none → Hs a = none) (hP : ∀ a ∈ P, H a ≠ none) (f : Fin K fp env Hs d p v H P)
    (h : slD d p lo hi fun d p => ∀ u H', Same H H' → Fin K fp env Hs d p u H' P → Q u H') : rSlAll K v lo hi H Q := by
  unfold slD at h
  split at h
  · obtain ⟨F, f, pk⟩ := f
    obtain ⟨a, vs, rfl, ha, dv⟩ := f.tup_inv
    refine .inl ⟨a, vs, rfl, ha, fun z => ?_, fun _ p0 hp => ?_⟩
    · rw [← dv.length] at z
      rw [cutL_whole z] at h
      exact h _ H (Same.refl H) ⟨F, f, pk.part (List.Sublist.refl _)⟩
    · obtain ⟨G, g1, g2⟩ := dv.cut lo hi
      exact h _ _ (same_upd hp) ⟨G, .tup ⟨upd_same, fun z => hP p0 z hp⟩ (g1.evoU hp), (pk.part g2).evo (Evo.upd (Θ := []) (P := P) hp) fun a ha => (g1.live a ha).2⟩
  · obtain ⟨a, vs, F, rfl, ha, dv⟩ := f.lst_inv
    obtain ⟨G, g1, g2⟩ := dv.cut lo hi
    exact .inr ⟨a, vs, rfl, SqL.of ha, fun p0 hp => h.2 _ _ (same_upd hp) (fin_lst hs hp hP g1 (immAll_cut h.1 _ _))⟩
  · obtain ⟨a, vs, F, rfl, ha, dv⟩ := f.rol_inv
    obtain ⟨G, g1, g2⟩ := dv.cut lo hi
    exact .inr ⟨a, vs, rfl, ha, fun p0 hp => h.2 _ _ (same_upd hp) (fin_lst hs hp hP g1 (immAll_cut h.1 _ _))⟩
  · exact h.elim
theorem ve_slice {lo hi : Option Expr} {tl th : VO} {cl ch : Nat} {p2 : Pos} (ha : VE X R c₁ a ta) (hl : VP X R cl lo tl) (hh : VP X R ch hi th) : VE X R (c₁ + (cl + ch)) (.Subscript a (.Slice lo hi none p2) pos) (vSl ta tl th) where
  mono := fun env Q Q' h q => ha.mono _ _ _ (fun d p q => hl.mono _ _ _ (fun l q => hh.mono _ _ _ (fun u q => slD_mono h q) q) q) q
  run := PE.imp (pe_slice sl_all ha.run hl.run hh.run) fun σ H Q ⟨env, P, fp, T, k, rep, pots, q⟩ => by
    refine ⟨env, P, fp, T, (cl + ch) + k, rep, by rw [← Nat.add_assoc]; exact pots, ha.mono _ _ _ (fun d1 p1 h1 => ?_) q⟩
    intro v1 H1 P1 e1 pots1 f1
    refine ⟨env, P1, fp, T, ch + k, rep.evo e1, by rw [← Nat.add_assoc]; exact pots1, hl.mono _ _ _ (fun l h2 => ?_) h1⟩
    intro H2 P2 e2 pots2
    refine ⟨env, P2, fp, T, k, rep.evo (e1.trans e2), pots2, hh.mono _ _ _ (fun u h3 => ?_) h2⟩
    intro H3 P3 e3 pots3
    have e13 := (e1.trans e2).trans e3
    refine slD_run (fp := fp) (env := env) (Hs := H) (p := p1) (P := P3) (fun x hx => e13.fresh hx) pots3.some ((f1.evo e2).evo e3) (slD_mono (fun d p hq => ?_) h3)
    intro u' H' hs f
    exact hq u' H' P3 (e13.trans (Evo.same hs)) (pots3.same hs) f
end
end VS

namespace VS
open PySem PySem.Spec PyProof.Rows L2
variable {Θ : List (Addr × Str)}
/-! ### storing -/
structure VK where
  nx : Env → Prop
  rt : D → Prop
  bk : Env → Prop := fun _ => False
  ct : Env → Prop := fun _ => False
  ex : Str → D → Prop := fun _ _ => False
def flg (d : D) (p : Prov) : Fl := match p with | .fresh => .own | _ => if d.imm = true then .own else .bor
def stE (env : Env) (i : Nat) (d : D) (p : Prov) : Env := env.set i (some (flg d p, d))
/-- no other slot holds a part of it -/
def Excl (R : RC) (env : Env) (H : Hp) (fp : Nat → List Addr) (T : Tmp) (F : List Addr) : Prop :=
  F.Nodup ∧ ∀ a ∈ F, R.H0 a = none ∧ Live H a ∧ (∀ j e, env[j]? = some (some (Fl.own, e)) → a ∉ fp j) ∧ ∀ t ∈ T, a ∉ t.F
def PIn (R : RC) (env : Env) (H : Hp) (fp : Nat → List Addr) (T : Tmp) (F : List Addr) : Prov → Prop
  | .fresh => Excl R env H fp T F
  | _ => True
section
variable {K : PySem.W.Frag} {R : RC} {env : Env} {σ : L2.St} {H H' Hs : Hp} {P P' : List Addr} {fp : Nat → List Addr} {T : Tmp} {d : D} {p : Prov} {v : V} {F : List Addr} {i : Nat}
theorem Excl.nil : Excl R env H fp T [] := ⟨List.nodup_nil, fun _ h => by cases h⟩
theorem Excl.part {F' : List Addr} (h : Excl R env H fp T F) (s : F'.Sublist F) : Excl R env H fp T F' := ⟨h.1.sublist s, fun a ha => h.2 a (s.subset ha)⟩
theorem PIn.part {F' : List Addr} (h : PIn R env H fp T F p) (s : F'.Sublist F) : PIn R env H fp T F' p := by
  cases p with
  | fresh => exact Excl.part h s
  | all i => trivial
  | sub i => trivial
  | any => trivial
/-- what an expression gave, at the end of it -/
theorem PIn.of (rep : Rep K R env σ H P fp T) (e : Evo R.T P P' H H') (dv : DV K P' H' d v F) (h : POk fp env H H' d F p) : PIn R env H' fp T F p := by
  cases p with
  | fresh =>
    refine ⟨h.1, fun a ha => ⟨?_, (h.2 a ha).2, fun j e' hj hm => ?_, fun t ht hm => ?_⟩⟩
    · exact rep.base.fresh (h.2 a ha).1
    · obtain ⟨v', _, dv'⟩ := rep.slot j _ e' hj
      exact (dv'.live a hm).1 (h.2 a ha).1
    · exact ((rep.tmp t ht).live a hm).1 (h.2 a ha).1
  | all i => trivial
  | sub i => trivial
  | any => trivial
theorem getElem?_stE {j : Nat} (hi : i < env.length) : (stE env i d p)[j]? = if j = i then some (some (flg d p, d)) else env[j]? := by
  unfold stE
  by_cases h : j = i
  · subst h; rw [if_pos rfl, List.getElem?_set_self hi]
  · rw [if_neg h, List.getElem?_set_ne (Ne.symm h)]
theorem flg_cases (d : D) (p : Prov) : flg d p = Fl.own ∨ flg d p = Fl.bor := by
  cases p <;> simp [flg]
  all_goals (split <;> simp)
theorem Rep.store (rep : Rep K R env σ H P fp T) (hi : i < env.length) (dv : DV K P H d v F) (h : PIn R env H fp T F p) : Rep K R (stE env i d p) (σ.set i (some v)) H P (fun j => if j = i then F else fp j) T := by
  have hiσ : i < σ.length := by rw [← rep.len]; exact hi
  -- an own slot: its objects are its own alone
  have excl : flg d p = Fl.own → Excl R env H fp T F := fun hf => by
    cases p with
    | fresh => exact h
    | all k =>
      by_cases hd : d.imm = true
      · rw [dv.imm_nil hd]; exact Excl.nil
      · simp [flg, hd] at hf
    | sub k =>
      by_cases hd : d.imm = true
      · rw [dv.imm_nil hd]; exact Excl.nil
      · simp [flg, hd] at hf
    | any =>
      by_cases hd : d.imm = true
      · rw [dv.imm_nil hd]; exact Excl.nil
      · simp [flg, hd] at hf
  refine ⟨by simp [stE, rep.len], rep.base, rep.tab, fun j f e hj => ?_, fun j e hj => ?_, fun j k e e2 hjk hj hk => ?_, fun j e hj => ?_, rep.tmp, fun t ht j e hj => ?_, rep.tex, rep.tdj⟩
  · rw [getElem?_stE hi] at hj
    by_cases hji : j = i
    · subst hji
      rw [if_pos rfl] at hj
      cases hj
      refine ⟨v, by rw [List.getElem?_set_self hiσ], ?_⟩
      simp only [if_pos]
      exact dv
    · rw [if_neg hji] at hj
      obtain ⟨v', h1, h2⟩ := rep.slot j f e hj
      refine ⟨v', by rw [List.getElem?_set_ne (Ne.symm hji)]; exact h1, ?_⟩
      simp only [if_neg hji]
      exact h2
  · rw [getElem?_stE hi] at hj
    by_cases hji : j = i
    · subst hji
      rw [if_pos rfl] at hj
      injection hj with hj; injection hj with hj; injection hj with h1 h2
      simp only [if_pos]
      obtain ⟨x1, x2⟩ := excl h1
      exact ⟨x1, fun a ha => ⟨(x2 a ha).1, (x2 a ha).2.1⟩⟩
    · rw [if_neg hji] at hj
      simp only [if_neg hji]
      exact rep.own j e hj
  · rw [getElem?_stE hi] at hj hk
    by_cases hji : j = i
    · subst hji
      rw [if_pos rfl] at hj
      rw [if_neg (Ne.symm hjk)] at hk
      injection hj with hj; injection hj with hj; injection hj with h1 h2
      simp only [if_pos, if_neg (Ne.symm hjk)]
      exact fun a ha => ((excl h1).2 a ha).2.2.1 k e2 hk
    · rw [if_neg hji] at hj
      by_cases hki : k = i
      · subst hki
        rw [if_pos rfl] at hk
        injection hk with hk; injection hk with hk; injection hk with h1 h2
        simp only [if_pos, if_neg hji]
        intro a ha hm
        exact ((excl h1).2 a hm).2.2.1 j e hj ha
      · rw [if_neg hki] at hk
        simp only [if_neg hji, if_neg hki]
        exact rep.dis j k e e2 hjk hj hk
  · rw [getElem?_stE hi] at hj
    by_cases hji : j = i
    · subst hji
      rw [if_pos rfl] at hj
      injection hj with hj; injection hj with hj; injection hj with h1 h2
      rcases flg_cases d p with z | z <;> rw [h1] at z <;> cases z
    · rw [if_neg hji] at hj
      simp only [if_neg hji]
      exact rep.lck j e hj
  · rw [getElem?_stE hi] at hj
    by_cases hji : j = i
    · subst hji
      rw [if_pos rfl] at hj
      injection hj with hj; injection hj with hj; injection hj with h1 h2
      simp only [if_pos]
      exact fun a ha => ((excl h1).2 a ha).2.2.2 t ht
    · rw [if_neg hji] at hj
      simp only [if_neg hji]
      exact rep.tds t ht j e hj
end

/-! ### statements -/
abbrev VTS := VK → Env → Prop
structure VK.le (k k' : VK) : Prop where
  nx : ∀ e, k.nx e → k'.nx e
  rt : ∀ d, k.rt d → k'.rt d
  bk : ∀ e, k.bk e → k'.bk e
  ct : ∀ e, k.ct e → k'.ct e
  ex : ∀ x d, k.ex x d → k'.ex x d
theorem VK.le.refl (k : VK) : k.le k := ⟨fun _ h => h, fun _ h => h, fun _ h => h, fun _ h => h, fun _ _ h => h⟩
def MonoS (t : VTS) : Prop := ∀ (k k' : VK), k.le k' → ∀ env, t k env → t k' env
def RetOk (K : PySem.W.Frag) (R : RC) (d : D) (v : V) (H' : Hp) (P' : List Addr) : Prop :=
  Evo R.T R.P0 P' R.H0 H' ∧ ∃ F, DV K P' H' d v F ∧ F.Nodup ∧ ∀ a ∈ F, R.H0 a = none ∧ Live H' a
structure Good (K : PySem.W.Frag) (R : RC) (T : Tmp) (r : Nat) (k : VK) (Dn : Ends) : Prop where
  nx : ∀ env' σ' H' P' fp', Rep K R env' σ' H' P' fp' T → Pots r P' H' → k.nx env' → Dn.nx σ' H'
  bk : ∀ env' σ' H' P' fp', Rep K R env' σ' H' P' fp' T → Pots r P' H' → k.bk env' → Dn.bk σ' H'
  ct : ∀ env' σ' H' P' fp', Rep K R env' σ' H' P' fp' T → Pots r P' H' → k.ct env' → Dn.ct σ' H'
  rt : ∀ d v H' P', RetOk K R d v H' P' → Pots r P' H' → k.rt d → Dn.rt v H'
  ex : ∀ x d w dx σ' H' P', Evo R.T R.P0 P' R.H0 H' → H' dx = some (.xd [("value", w)]) → R.H0 dx = none → dx ∉ P' → (∃ F, DV K P' H' d w F) → d.imm = true → Pots r P' H' → k.ex x d → R.W (.ref (He.ga K x)) (some dx) σ' H'
def liftS (K : PySem.W.Frag) (R : RC) (c : Nat) (t : VTS) : TS := fun Dn σ H => ∃ env P fp T r k, Rep K R env σ H P fp T ∧ Pots (c + r) P H ∧ t k env ∧ Good K R T r k Dn
structure VS (X : Cx) (R : RC) (c : Nat) (st : Stmt) (t : VTS) : Prop where
  mono : MonoS t
  run : PS X st (liftS X.K R c t)
structure VSs (X : Cx) (R : RC) (c : Nat) (sts : List Stmt) (t : VTS) : Prop where
  mono : MonoS t
  run : PSs X sts (liftS X.K R c t)
section
variable {X : Cx} {R : RC} {pos : Pos} {st : Stmt} {sts : List Stmt} {e : Expr} {t u : VTS} {te : VT} {c c₁ c₂ c₃ : Nat}
def vNext : VTS := fun k env => k.nx env
def vSeq (t u : VTS) : VTS := fun k env => t { k with nx := u k } env
theorem vs_nil : VSs X R 0 [] vNext := ⟨fun k k' h env q => h.nx _ q, PSs.imp pss_nil fun Dn σ H ⟨env, P, fp, T, r, k, rep, pots, q, g⟩ => g.nx _ _ _ _ _ rep (pots.le (by omega)) q⟩
theorem Good.le {K : PySem.W.Frag} {T : Tmp} {r r' : Nat} {k : VK} {Dn : Ends} (g : Good K R T r k Dn) (h : r ≤ r') : Good K R T r' k Dn :=
  ⟨fun a b c d e f p q => g.nx a b c d e f (p.le h) q, fun a b c d e f p q => g.bk a b c d e f (p.le h) q, fun a b c d e f p q => g.ct a b c d e f (p.le h) q, fun a b c d f p q => g.rt a b c d f (p.le h) q, fun x d w dx σ' H' P' h1 h2 h3 h4 h5 h6 p q => g.ex x d w dx σ' H' P' h1 h2 h3 h4 h5 h6 (p.le h) q⟩
theorem vs_cons (h1 : VS X R c₁ st t) (h2 : VSs X R c₂ sts u) : VSs X R (c₁ + c₂) (st :: sts) (vSeq t u) where
  mono := fun k k' h env q => h1.mono { k with nx := u k } { k' with nx := u k' } ⟨fun e q => h2.mono _ _ h _ q, h.rt, h.bk, h.ct, h.ex⟩ env q
  run := PSs.imp (pss_cons h1.run h2.run) fun Dn σ H ⟨env, P, fp, T, r, k, rep, pots, q, g⟩ =>
    ⟨env, P, fp, T, c₂ + r, _, rep, by rw [← Nat.add_assoc]; exact pots, q, fun env' σ' H' P' fp' rep' pots' q' => ⟨env', P', fp', T, r, k, rep', pots', q', g⟩, (g.le (Nat.le_add_left _ _)).bk, (g.le (Nat.le_add_left _ _)).ct, (g.le (Nat.le_add_left _ _)).rt, (g.le (Nat.le_add_left _ _)).ex⟩
theorem vs_one (h : VS X R c st t) : VSs X R c [st] t := ⟨h.mono, pss_one h.run⟩
theorem VSs.cost {c' : Nat} (h : VSs X R c sts t) (hc : c ≤ c') : VSs X R c' sts t := ⟨h.mono, PSs.imp h.run fun Dn σ H ⟨env, P, fp, T, r, k, rep, pots, q, g⟩ => ⟨env, P, fp, T, r, k, rep, pots.le (by omega), q, g⟩⟩
theorem vs_pass : VS X R 0 (.Pass pos) vNext := ⟨fun k k' h env q => h.nx _ q, PS.imp ps_pass fun Dn σ H ⟨env, P, fp, T, r, k, rep, pots, q, g⟩ => g.nx _ _ _ _ _ rep (pots.le (by omega)) q⟩
def vBrk : VTS := fun k env => k.bk env
def vCnt : VTS := fun k env => k.ct env
theorem vs_break : VS X R 0 (.Break pos) vBrk := ⟨fun k k' h env q => h.bk _ q, PS.imp ps_break fun Dn σ H ⟨env, P, fp, T, r, k, rep, pots, q, g⟩ => g.bk _ _ _ _ _ rep (pots.le (by omega)) q⟩
theorem vs_continue : VS X R 0 (.Continue pos) vCnt := ⟨fun k k' h env q => h.ct _ q, PS.imp ps_continue fun Dn σ H ⟨env, P, fp, T, r, k, rep, pots, q, g⟩ => g.ct _ _ _ _ _ rep (pots.le (by omega)) q⟩
/-- a statement that is never come to -/
def vNever : VTS := fun _ _ => False
theorem vs_never : VS X R 0 st vNever := ⟨fun k k' h env q => q, PS.imp ps_never fun Dn σ H ⟨env, P, fp, T, r, k, rep, pots, q, g⟩ => q⟩
theorem vss_never : VSs X R 0 sts vNever := ⟨fun k k' h env q => q, PSs.imp pss_never fun Dn σ H ⟨env, P, fp, T, r, k, rep, pots, q, g⟩ => q⟩
/-- what may be handed back -/
def retB (env : Env) (d : D) (p : Prov) : Bool := match p with
  | .fresh => true
  | .all i => d.imm || (match env[i]? with | some (some (.own, _)) => true | _ => false)
  | .sub i => d.imm || (match env[i]? with | some (some (.own, _)) => true | _ => false)
  | .any => d.imm
theorem ret_ok {K : PySem.W.Frag} {env : Env} {σ : L2.St} {H H' : Hp} {P P' : List Addr} {fp : Nat → List Addr} {T : Tmp} {d : D} {p : Prov} {v : V} (rep : Rep K R env σ H P fp T) (e : Evo R.T P P' H H') (f : Fin K fp env H d p v H' P') (hr : retB env d p = true) :
    RetOk K R d v H' P' := by
  obtain ⟨F, dv, pk⟩ := f
  refine ⟨rep.base.trans e, F, dv, ?_⟩
  have himm : d.imm = true → F.Nodup ∧ ∀ a ∈ F, R.H0 a = none ∧ Live H' a := fun h => by
    rw [dv.imm_nil h]
    exact ⟨List.nodup_nil, fun _ h => by cases h⟩
  have hown : ∀ i, (d.imm || (match env[i]? with | some (some (.own, _)) => true | _ => false)) = true → F.Sublist (fp i) → F.Nodup ∧ ∀ a ∈ F, R.H0 a = none ∧ Live H' a := fun i hr hs => by
    simp only [Bool.or_eq_true] at hr
    rcases hr with h | h
    · exact himm h
    · cases z : env[i]? with
      | none => rw [z] at h; cases h
      | some o =>
        rw [z] at h
        cases o with
        | none => cases h
        | some q =>
          obtain ⟨f, d'⟩ := q
          cases f with
          | own =>
            obtain ⟨n, l⟩ := (rep.evo e).own i d' z
            exact ⟨n.sublist hs, fun a ha => l a (hs.subset ha)⟩
          | lck => cases h
          | bor => cases h
  cases p with
  | fresh => exact ⟨pk.1, fun a ha => ⟨rep.base.fresh (pk.2 a ha).1, (pk.2 a ha).2⟩⟩
  | all i => exact hown i hr (by rw [pk.2]; exact List.Sublist.refl _)
  | sub i => exact hown i hr pk.2
  | any => exact himm hr
def vRet (te : VT) : VTS := fun k env => te env fun d p => retB env d p = true ∧ k.rt d
theorem vs_ret (h : VE X R c e te) : VS X R c (.Return (some e) pos) (vRet te) where
  mono := fun k k' hk env q => h.mono _ _ _ (fun d p q => ⟨q.1, hk.rt _ q.2⟩) q
  run := PS.imp (ps_ret h.run) fun Dn σ H ⟨env, P, fp, T, r, k, rep, pots, q, g⟩ =>
    ⟨env, P, fp, T, r, rep, pots, h.mono _ _ _ (fun d p q v H' P' e' pots' f => g.rt d v H' P' (ret_ok rep e' f q.1) pots' q.2) q⟩
def vRetN : VTS := fun k _ => k.rt .non
theorem vs_retN : VS X R 0 (.Return none pos) vRetN where
  mono := fun k k' hk env q => hk.rt _ q
  run := PS.imp ps_retN fun Dn σ H ⟨env, P, fp, T, r, k, rep, pots, q, g⟩ => g.rt _ _ _ _ ⟨rep.base, [], .non, List.nodup_nil, fun _ h => by cases h⟩ (pots.le (by omega)) q
def vIfS (t : VB) (u w : VTS) : VTS := fun k env => t env fun b => if b = true then u k env else w k env
theorem vs_if {tb : VB} {a b : List Stmt} (hc : VC X R c₁ e tb) (ha : VSs X R c₂ a t) (hb : VSs X R c₃ b u) : VS X R (c₁ + (c₂ + c₃)) (.If e a b pos) (vIfS tb t u) where
  mono := fun k k' hk env q => hc.mono _ _ _ (fun b q => by
    cases b with
    | true => exact ha.mono _ _ hk _ q
    | false => exact hb.mono _ _ hk _ q) q
  run := PS.imp (ps_if hc.run ha.run hb.run) fun Dn σ H ⟨env, P, fp, T, r, k, rep, pots, q, g⟩ => by
    refine ⟨env, P, fp, T, (c₂ + c₃) + r, rep, by rw [← Nat.add_assoc]; exact pots, hc.mono _ _ _ (fun b q => ?_) q⟩
    intro H1 P1 e1 pots1
    cases b with
    | true => exact ⟨env, P1, fp, T, r, k, rep.evo e1, pots1.le (by omega), q, g⟩
    | false => exact ⟨env, P1, fp, T, r, k, rep.evo e1, pots1.le (by omega), q, g⟩
def vDrop (te : VT) : VTS := fun k env => te env fun _ _ => k.nx env
theorem vs_expr (h : VE X R c e te) (hs : swapsWith e none pos.line X.env = pure false := by rfl) : VS X R c (.Expr e pos) (vDrop te) where
  mono := fun k k' hk env q => h.mono _ _ _ (fun d p q => hk.nx _ q) q
  run := PS.imp (ps_expr h.run hs) fun Dn σ H ⟨env, P, fp, T, r, k, rep, pots, q, g⟩ =>
    ⟨env, P, fp, T, r, rep, pots, h.mono _ _ _ (fun d p q v H' P' e' pots' f => g.nx _ _ _ _ _ (rep.evo e') pots' q) q⟩
/-- x = e, x in the slot i -/
def vSet (i : Nat) (te : VT) : VTS := fun k env => i < env.length ∧ te env fun d p => k.nx (stE env i d p)
theorem set_imp {i : Nat} (hm : MonoE te) {tE : TE} (hi : ∀ σ H Q, liftE X.K R c te σ H Q → tE σ H Q) (Dn : Ends) (σ : L2.St) (H : Hp) (h : liftS X.K R c (vSet i te) Dn σ H) : tAsg tE (gName i) Dn σ H := by
  obtain ⟨env, P, fp, T, r, k, rep, pots, ⟨hl, q⟩, g⟩ := h
  refine hi σ H _ ⟨env, P, fp, T, r, rep, pots, hm _ _ _ (fun d p q => ?_) q⟩
  intro v H' P' e' pots' f
  obtain ⟨F, dv, pk⟩ := f
  exact g.nx _ _ _ _ _ ((rep.evo e').store hl dv (PIn.of rep e' dv pk)) pots' q
theorem mono_set {i : Nat} (hm : MonoE te) : MonoS (vSet i te) := fun k k' hk env q => ⟨q.1, hm _ _ _ (fun d p q => hk.nx _ q) q.2⟩
theorem vs_set {i : Nat} {x : Str} {pos' : Pos} (hN : X.N.Nodup) (he : VE X R c e te) (hi : X.N[i]? = some x := by rfl) (hx : Loc X.env.scope x := by first | exact Or.inl rfl | exact Or.inr rfl) (hs : swapsWith e (some (.Name x pos')) pos.line X.env = pure false := by rfl) (hf : X.fn x = true ∨ X.env.scope.names.lookup x = some .local := by first | exact .inl rfl | exact .inr rfl | assumption) :
    VS X R c (.Assign [.Name x pos'] e pos) (vSet i te) :=
  ⟨mono_set he.mono, PS.imp (ps_set hN hi hx he.run hs hf) (set_imp he.mono fun _ _ _ q => q)⟩
end

/-! ### several names at once -/
section
variable {X : Cx} {R : RC} {pos : Pos} {c : Nat}
/-- values to slots, one behind the other -/
def stAll : Env → List Nat → List DP → Option Env
  | env, [], [] => some env
  | env, i :: is, x :: xs => if i < env.length then stAll (stE env i x.1 x.2) is xs else none
  | _, _, _ => none
def stσ : L2.St → List Nat → List V → L2.St
  | σ, i :: is, v :: vs => stσ (σ.set i (some v)) is vs
  | σ, _, _ => σ
theorem stAll_rep {K : PySem.W.Frag} {H : Hp} {P : List Addr} {T : Tmp} : ∀ {is : List Nat} {xs : List DP} {vs : List V} {Fs : List (List Addr)} {env env' : Env} {σ : L2.St} {fp : Nat → List Addr},
    Rep K R env σ H P fp T → (∀ x F v, (x, v, F) ∈ (xs.zip (vs.zip Fs)) → DV K P H x.1 v F ∧ PIn R env H fp T F x.2) → vs.length = xs.length → Fs.length = xs.length → (freshF xs Fs).Nodup → is.Nodup → stAll env is xs = some env' →
    ∃ fp', Rep K R env' (stσ σ is vs) H P fp' T
  | [], [], [], _, env, env', σ, fp, rep, _, _, _, _, _, h => by
    simp only [stAll, Option.some.injEq] at h
    subst h
    exact ⟨fp, rep⟩
  | i :: is, x :: xs, v :: vs, F :: Fs, env, env', σ, fp, rep, hall, hl, hl2, hn, hd, h => by
    simp only [stAll] at h
    by_cases hi : i < env.length
    · rw [if_pos hi] at h
      obtain ⟨dv, pin⟩ := hall x F v (by simp)
      have rep1 := rep.store (p := x.2) hi dv pin
      have hn' : (frOf x.2 F ++ freshF xs Fs).Nodup := hn
      rw [List.nodup_append] at hn'
      show ∃ fp', Rep K R env' (stσ (σ.set i (some v)) is vs) H P fp' T
      refine stAll_rep (is := is) (xs := xs) (vs := vs) (Fs := Fs) rep1 (fun y G w hm => ?_) (by simpa using hl) (by simpa using hl2) hn'.2.1 (List.nodup_cons.mp hd).2 h
      obtain ⟨dv2, pin2⟩ := hall y G w (by simp [hm])
      refine ⟨dv2, ?_⟩
      obtain ⟨dy, py⟩ := y
      cases py with
      | all k => trivial
      | sub k => trivial
      | any => trivial
      | fresh =>
        have hG : ∀ a ∈ G, a ∈ freshF xs Fs := by
          have aux : ∀ (xs : List DP) (vs : List V) (Fs : List (List Addr)), ((dy, Prov.fresh), w, G) ∈ xs.zip (vs.zip Fs) → ∀ a ∈ G, a ∈ freshF xs Fs := by
            intro xs
            induction xs with
            | nil => intro vs Fs hm; simp at hm
            | cons z zs ih =>
              intro vs Fs hm a ha
              cases vs with
              | nil => simp at hm
              | cons u us =>
                cases Fs with
                | nil => simp at hm
                | cons B Bs =>
                  simp only [List.zip_cons_cons, List.mem_cons] at hm
                  rcases hm with e | hm
                  · injection e with e1 e2
                    injection e2 with e2 e3
                    subst e1 e3
                    exact List.mem_append_left _ ha
                  · exact List.mem_append_right _ (ih us Bs hm a ha)
          exact aux xs vs Fs hm
        refine ⟨pin2.1, fun a ha => ?_⟩
        obtain ⟨q1, q2, q3, q4⟩ := pin2.2 a ha
        refine ⟨q1, q2, fun j e hj => ?_, q4⟩
        rw [getElem?_stE hi] at hj
        by_cases hji : j = i
        · subst hji
          rw [if_pos rfl] at hj
          injection hj with hj; injection hj with hj; injection hj with h1 h2
          simp only [if_pos]
          intro hm2
          obtain ⟨dx, px⟩ := x
          cases px with
          | fresh => exact hn'.2.2 a hm2 a (hG a ha) rfl
          | all k =>
            by_cases hd2 : dx.imm = true
            · rw [dv.imm_nil hd2] at hm2; cases hm2
            · simp [flg, hd2] at h1
          | sub k =>
            by_cases hd2 : dx.imm = true
            · rw [dv.imm_nil hd2] at hm2; cases hm2
            · simp [flg, hd2] at h1
          | any =>
            by_cases hd2 : dx.imm = true
            · rw [dv.imm_nil hd2] at hm2; cases hm2
            · simp [flg, hd2] at h1
        · rw [if_neg hji] at hj
          simp only [if_neg hji]
          exact q3 j e hj
    · rw [if_neg hi] at h; cases h
  | [], [], v :: vs, _, _, _, _, _, _, _, hl, _, _, _, _ => by simp at hl
  | [], x :: xs, _, _, _, _, _, _, _, _, _, _, _, _, h => by simp [stAll] at h
  | i :: is, [], _, _, _, _, _, _, _, _, _, _, _, _, h => by simp [stAll] at h
  | i :: is, x :: xs, [], _, _, _, _, _, _, _, hl, _, _, _, _ => by simp at hl
  | i :: is, x :: xs, v :: vs, [], _, _, _, _, _, _, _, hl, _, _, _ => by simp at hl
theorem finL_zip {K : PySem.W.Frag} {fp : Nat → List Addr} {env : Env} {Hs H : Hp} {P : List Addr} : ∀ {xs : List DP} {vs : List V} {Fs : List (List Addr)}, FinL K fp env Hs H P xs vs Fs →
    vs.length = xs.length ∧ Fs.length = xs.length ∧ ∀ x F v, (x, v, F) ∈ xs.zip (vs.zip Fs) → DV K P H x.1 v F ∧ POk fp env Hs H x.1 F x.2
  | [], [], [], _ => ⟨rfl, rfl, fun x F v h => by simp at h⟩
  | y :: ys, w :: ws, G :: Gs, ⟨h1, h2, h3⟩ => by
    obtain ⟨a, b, c⟩ := finL_zip h3
    refine ⟨by simp [a], by simp [b], fun x F v h => ?_⟩
    simp only [List.zip_cons_cons, List.mem_cons] at h
    rcases h with e | h
    · injection e with e1 e2
      injection e2 with e2 e3
      subst e1 e2 e3
      exact ⟨h1, h2⟩
    · exact c x F v h
  | [], _ :: _, _, h => h.elim
  | [], [], _ :: _, h => h.elim
  | _ :: _, [], _, h => h.elim
  | _ :: _, _ :: _, [], h => h.elim
/-- a, b, .. = x, y, .. with plain local names -/
def vPar (is : List Nat) (u : VA) : VTS := fun k env => u env fun xs => ∃ env', stAll env is xs = some env' ∧ k.nx env'
theorem par_imp {is : List Nat} {u : VA} {es : List Expr} (hnd : is.Nodup) (h : VL X R c es u) (Dn : Ends) (σ : L2.St) (H : Hp) (q : liftS X.K R c (vPar is u) Dn σ H) : liftA X.K R c u σ H fun vs H1 => vs.length = is.length ∧ Dn.nx (stσ σ is vs) H1 := by
  obtain ⟨env, P, fp, T, r, k, rep, pots, q, g⟩ := q
  refine ⟨env, P, fp, T, r, rep, pots, h.mono _ _ _ (fun xs ⟨env', he, q⟩ => ?_) q⟩
  intro vs H' P' e' pots' ⟨Fs, fl, fn⟩
  obtain ⟨l1, l2, hz⟩ := finL_zip fl
  obtain ⟨fp', rep'⟩ := stAll_rep (rep.evo e') (fun x F v hm => ⟨(hz x F v hm).1, PIn.of rep e' (hz x F v hm).1 (hz x F v hm).2⟩) l1 l2 fn hnd he
  refine ⟨?_, g.nx _ _ _ _ _ rep' pots' q⟩
  have : ∀ (is : List Nat) (xs : List DP) (env : Env), stAll env is xs = some env' → xs.length = is.length := by
    intro is
    induction is with
    | nil => intro xs env h; cases xs <;> simp [stAll] at h ⊢
    | cons i is ih =>
      intro xs env h
      cases xs with
      | nil => simp [stAll] at h
      | cons x xs =>
        simp only [stAll] at h
        split at h
        · simp [ih _ _ h]
        · cases h
  rw [l1, this _ _ _ he]
theorem mono_par {is : List Nat} {u : VA} (h : MonoA u) : MonoS (vPar is u) := fun k k' hk env q => h _ _ _ (fun xs ⟨e, h1, h2⟩ => ⟨e, h1, hk.nx _ h2⟩) q
theorem vs_par2 {i j : Nat} {x y : Str} {a b : Expr} {u : VA} {px py pt : Pos} {kt k2 pt2} (hc : X.calm = true) (hN : X.N.Nodup) (ha : VL X R c [a, b] u) (hij : i ≠ j) (hi : X.N[i]? = some x := by rfl) (hj : X.N[j]? = some y := by rfl)
    (hx : X.env.scope.names.lookup x = some .local := by rfl) (hy : X.env.scope.names.lookup y = some .local := by rfl)
    (hw : swappedStores [.Tuple [.Name x px, .Name y py] kt pt] (.Tuple [a, b] k2 pt2) X.env = pure (some [x, y]) := by rfl)
    (hs : swapsWithSole [.Tuple [.Name x px, .Name y py] kt pt] (.Tuple [a, b] k2 pt2) pos.line X.env = pure false := by rfl) :
    VS X R c (.Assign [.Tuple [.Name x px, .Name y py] kt pt] (.Tuple [a, b] k2 pt2) pos) (vPar [i, j] u) :=
  ⟨mono_par ha.mono, PS.imp (ps_par hc hN hi hj hij hx hy ha.run hw hs) fun Dn σ H q => by
    obtain ⟨env, P, fp, T, r, rep, pots, q⟩ := par_imp (by simp [hij]) ha Dn σ H q
    refine ⟨env, P, fp, T, r, rep, pots, ha.mono _ _ _ (fun xs q vs H' P' e' pots' f => ?_) q⟩
    obtain ⟨hl, q⟩ := q vs H' P' e' pots' f
    match vs, hl with
    | [v, w], _ => exact ⟨v, w, rfl, q⟩⟩
theorem vs_par3 {i j l : Nat} {x y z : Str} {a b d : Expr} {u : VA} {px py pz pt : Pos} {kt k2 pt2} (hc : X.calm = true) (hN : X.N.Nodup) (ha : VL X R c [a, b, d] u) (hij : i ≠ j) (hil : i ≠ l) (hjl : j ≠ l) (hi : X.N[i]? = some x := by rfl) (hj : X.N[j]? = some y := by rfl) (hl : X.N[l]? = some z := by rfl)
    (hx : X.env.scope.names.lookup x = some .local := by rfl) (hy : X.env.scope.names.lookup y = some .local := by rfl) (hz : X.env.scope.names.lookup z = some .local := by rfl)
    (hw : swappedStores [.Tuple [.Name x px, .Name y py, .Name z pz] kt pt] (.Tuple [a, b, d] k2 pt2) X.env = pure (some [x, y, z]) := by rfl)
    (hs : swapsWithSole [.Tuple [.Name x px, .Name y py, .Name z pz] kt pt] (.Tuple [a, b, d] k2 pt2) pos.line X.env = pure false := by rfl) :
    VS X R c (.Assign [.Tuple [.Name x px, .Name y py, .Name z pz] kt pt] (.Tuple [a, b, d] k2 pt2) pos) (vPar [i, j, l] u) :=
  ⟨mono_par ha.mono, PS.imp (ps_par3 hc hN hi hj hl hij hil hjl hx hy hz ha.run hw hs) fun Dn σ H q => by
    obtain ⟨env, P, fp, T, r, rep, pots, q⟩ := par_imp (by simp [hij, hil, hjl]) ha Dn σ H q
    refine ⟨env, P, fp, T, r, rep, pots, ha.mono _ _ _ (fun xs q vs H' P' e' pots' f => ?_) q⟩
    obtain ⟨hl, q⟩ := q vs H' P' e' pots' f
    match vs, hl with
    | [v, w, z], _ => exact ⟨v, w, z, rfl, q⟩⟩
end
end VS

namespace VS
open PySem PySem.Spec PyProof.Rows L2
variable {Θ : List (Addr × Str)}
/-! ### defs -/
abbrev Spec := List D → (D → Prop) → Prop
def MonoF (f : Spec) : Prop := ∀ ds (Q Q' : D → Prop), (∀ d, Q d → Q' d) → f ds Q → f ds Q'
def spV (T : List (Addr × Str)) (K : PySem.W.Frag) (C : Nat) (f : Spec) : Sp := fun vs H Q _ => ∃ ds P r F, DVs K P H ds vs F ∧ Pots (C + r) P H ∧ LamX.Tabs T H ∧
  f ds fun d => ∀ v H' P', Evo T P P' H H' → Pots r P' H' → (∃ F, DV K P' H' d v F ∧ F.Nodup ∧ ∀ a ∈ F, H a = none ∧ Live H' a) → Q v H'
structure FnV (T : List (Addr × Str)) (P : Program) (w : World) (K : PySem.W.Frag) (mg : Str → Option Value) (base : Heap) (k : Nat) (fa : Addr) (fd : FuncData) (ps : List Str) (C : Nat) (f : Spec) : Prop where
  mono : MonoF f
  ok : FnG P w K mg base (L2.CX P w) k fa fd ps (spV T K C f)
/-- a weaker promise: fewer arguments, less wanted -/
theorem FnV.imp {T : List (Addr × Str)} {P : Program} {w : World} {K : PySem.W.Frag} {mg : Str → Option Value} {base : Heap} {k : Nat} {fa : Addr} {fd : FuncData} {ps : List Str} {C : Nat} {f g : Spec} (F : FnV T P w K mg base k fa fd ps C f) (hg : MonoF g) (h : ∀ ds Q, g ds Q → f ds Q) : FnV T P w K mg base k fa fd ps C g :=
  ⟨hg, F.ok.weak fun vs H Q E ⟨ds, P, r, F, dv, pots, tb, q⟩ => ⟨ds, P, r, F, dv, pots, tb, h _ _ q⟩⟩
theorem FnV.level {T : List (Addr × Str)} {P : Program} {w : World} {K : PySem.W.Frag} {mg : Str → Option Value} {base : Heap} {j k : Nat} {fa : Addr} {fd : FuncData} {ps : List Str} {C : Nat} {f : Spec} (F : FnV T P w K mg base j fa fd ps C f) (h : j ≤ k) : FnV T P w K mg base k fa fd ps C f := ⟨F.mono, F.ok.level h⟩
def startE (N : List Str) (ds : List D) : Env := ds.map (fun d => some (Fl.lck, d)) ++ List.replicate (N.length - ds.length) none
theorem start_get {N : List Str} {vs : List V} {i : Nat} {v : V} (h : vs[i]? = some v) : (L2.start N vs)[i]? = some (some v) := by
  obtain ⟨hi, e⟩ := List.getElem?_eq_some_iff.mp h
  unfold L2.start
  rw [List.getElem?_append_left (by simpa using hi), List.getElem?_map, h]
  rfl
theorem startE_get {N : List Str} {ds : List D} {i : Nat} {f : Fl} {d : D} (h : (startE N ds)[i]? = some (some (f, d))) : f = Fl.lck ∧ ds[i]? = some d := by
  unfold startE at h
  by_cases hi : i < ds.length
  · rw [List.getElem?_append_left (by simpa using hi), List.getElem?_map] at h
    cases e : ds[i]? with
    | none => rw [e] at h; cases h
    | some d' =>
      rw [e] at h
      injection h with h; injection h with h; injection h with h1 h2
      exact ⟨h1.symm, by rw [h2]⟩
  · rw [List.getElem?_append_right (by simpa using hi), List.getElem?_replicate] at h
    split at h <;> cases h
theorem rep_start {K : PySem.W.Frag} {T : List (Addr × Str)} {W : WX} {P : List Addr} {H : Hp} {N : List Str} {ds : List D} {vs : List V} {F : List Addr} (dv : DVs K P H ds vs F) (tb : LamX.Tabs T H) : ∃ fp, Rep K ⟨H, P, T, W⟩ (startE N ds) (L2.start N vs) H P fp [] := by
  have ch : ∀ i : Nat, ∃ G, ∀ d, ds[i]? = some d → ∃ v, vs[i]? = some v ∧ DV K P H d v G := fun i => by
    cases e : ds[i]? with
    | none => exact ⟨[], fun d h => by cases h⟩
    | some d =>
      obtain ⟨v, G, h1, h2, _⟩ := dv.getD e
      exact ⟨G, fun d' h => by cases h; exact ⟨v, h1, h2⟩⟩
  refine ⟨fun i => (ch i).choose, ⟨?_, Evo.refl, tb, fun i f d h => ?_, fun i d h => ?_, fun i j d e hij h _ => ?_, fun i d h => ?_, fun t ht => absurd ht (by simp), fun t ht => absurd ht (by simp), fun t ht => absurd ht (by simp), .nil⟩⟩
  · simp [startE, L2.start, dv.length]
  · obtain ⟨_, e⟩ := startE_get h
    obtain ⟨v, h1, h2⟩ := (ch i).choose_spec d e
    exact ⟨v, start_get h1, h2⟩
  · obtain ⟨e, _⟩ := startE_get h
    cases e
  · obtain ⟨e, _⟩ := startE_get h
    cases e
  · obtain ⟨_, e⟩ := startE_get h
    obtain ⟨v, h1, h2⟩ := (ch i).choose_spec d e
    exact fun a ha => (h2.live a ha).1
section
variable {T : List (Addr × Str)} {P : Program} {w : World} {K : PySem.W.Frag} {mg : Str → Option Value} {base : Heap}
/-- THE RULE for a def -/
theorem okV {x qual : Str} {st : Stmt} {f : Addr} {fd : FuncData} {N ps : List Str} {k C c : Nat} {sp : Spec} {t : VTS} (F : Fun K x qual st f fd) (S : FnScope N ps (defScope st)) (hm : MonoF sp)
    (hlen : ∀ ds Q, sp ds Q → ds.length = ps.length)
    (hpure : ∀ ds Q, sp ds Q → t { nx := fun _ => Q .non, rt := Q } (startE N ds))
    (hbody : ∀ (cdv : Value) (A : Around) (outer : List PySem.Env) (s : Shared) (H : Hp) (E : XK) (R : RC), CodeAt K f cdv → R.T = T → A.guards = some [] → Room k (A.deeper (envOfC qual (defScope st) s.heap.objs.size f cdv)) →
      VSs (cxOf (L2.CX P w) P w K mg base N qual (defScope st) f cdv A outer s H E).nox R c (defBody st) t) (hc : c ≤ C) : FnV T P w K mg base (k + 1) f fd ps C sp := by
  refine ⟨hm, FnG.make F S (fun vs H Q E ⟨ds, P, r, F, dv, pots, tb, q⟩ => (dv.length.symm.trans (hlen _ _ q)).symm) fun cdv A outer s H vs Q E hcd hg hr ⟨ds, P, r, F, dv, pots, tb, q⟩ => ?_⟩
  have hb := hbody cdv A outer s H E ⟨H, P, T, fun _ _ _ _ => False⟩ hcd rfl hg hr
  refine ⟨_, PSs.nox hb.run, ?_⟩
  obtain ⟨fp, rep⟩ := rep_start (N := N) (T := T) (W := fun _ _ _ _ => False) dv tb
  refine ⟨_, P, fp, [], r, _, rep, pots.le (by omega), hpure ds _ q, fun env' σ' H' P' fp' rep' pots' q' => ?_, fun _ _ _ _ _ _ _ z => z.elim, fun _ _ _ _ _ _ _ z => z.elim, fun d v H' P' ok pots' q' => ?_, fun _ _ _ _ _ _ _ _ _ _ _ _ _ _ z => z.elim⟩
  · exact q' .non H' P' rep'.base pots' ⟨[], .non, List.nodup_nil, fun _ h => by cases h⟩
  · exact q' v H' P' ok.1 pots' ok.2
end
/-! ### a call of a def -/
def vCall (f : Spec) (u : VA) : VT := fun env Q => u env fun xs => f (xs.map (·.1)) fun d => Q d .fresh
theorem FinA.dvs {K : PySem.W.Frag} {fp : Nat → List Addr} {env : Env} {Hs H : Hp} {P : List Addr} {xs : List DP} {vs : List V} (h : FinA K fp env Hs H P xs vs) : ∃ F, DVs K P H (xs.map (·.1)) vs F := let ⟨F, h, _⟩ := finA_all h; ⟨F, h⟩
section
variable {X : Cx} {R : RC} {pos p : Pos} {e : Expr} {es : List Expr} {u : VA} {c C k : Nat} {fa : Addr} {fd : FuncData} {ps : List Str} {f : Spec} {x : Str}
theorem call_imp (F : MonoF f) (h : VL X R c es u) (σ : L2.St) (H : Hp) (Q : L2.VK) (q : liftE X.K R (c + C) (vCall f u) σ H Q) : tCall (spV R.T X.K C f) [] E0 (liftA X.K R c u) σ H Q := by
  obtain ⟨env, P, fp, T, r, rep, pots, q⟩ := q
  refine ⟨env, P, fp, T, C + r, rep, by rw [← Nat.add_assoc]; exact pots, h.mono _ _ _ (fun xs q => ?_) q⟩
  intro vs H' P' e' pots' fa
  rw [List.append_nil]
  obtain ⟨F', dv⟩ := fa.dvs
  refine ⟨_, P', r, F', dv, pots', fun p hp => e'.tab p hp (rep.tab p hp), F _ _ _ (fun d q v H2 P2 e2 pots2 ⟨G, dv2, n2, l2⟩ => ?_) q⟩
  exact q v H2 P2 (e'.trans e2) pots2 ⟨G, dv2, n2, fun a ha => ⟨e'.fresh (l2 a ha).1, (l2 a ha).2⟩⟩
theorem mono_call (F : MonoF f) (h : MonoA u) : MonoE (vCall f u) := fun env Q Q' hq q => h _ _ _ (fun xs q => F _ _ _ (fun d q => hq _ _ q) q) q
theorem ve_call (F : FnV R.T X.prog X.w X.K X.mg X.base k fa fd ps C f) (hG : X.A.guards = some []) (hr : Room k X.A) (hm : X.mg x = some (.ref fa)) (hk : PySem.W.keepIn X.K (.ref fa) = true) (hb : Binds X.K fd ps []) (h : VL X R c (e :: es) u) (hg : Gl X x := by rfl)
    (hdb : (x == ("__debug__" : Str)) = false := by decide) (he : starEach (e :: es) X.env = (false, eval e X.env) :: starEach es X.env := by rfl) (hpl : (backTo pos (starEach es X.env)).any (·.1) = false := by rfl) :
    VE X R (c + C) (.Call (.Name x p) (e :: es) [] pos) (vCall f u) :=
  ⟨mono_call F.mono h.mono, PE.imp (pe_callG F.ok hG hr hm hk hb passL h.run hg hdb he hpl) (call_imp F.mono h)⟩
end
/-! ### calls of built-ins by values -/
abbrev OpA := List DP → (D → Prov → Prop) → Prop
structure LiftC (K : PySem.W.Frag) (r : List V → Hp → L2.VK → Prop) (o : OpA) : Prop where
  mono : ∀ xs (Q Q' : D → Prov → Prop), (∀ d p, Q d p → Q' d p) → o xs Q → o xs Q'
  run : ∀ (fp : Nat → List Addr) (env : Env) (Hs H : Hp) (P : List Addr) (xs : List DP) (vs : List V) (Q : L2.VK), (∀ a, H a = none → Hs a = none) → (∀ a ∈ P, H a ≠ none) → FinA K fp env Hs H P xs vs →
    o xs (fun d p => ∀ u H', Same H H' → Fin K fp env Hs d p u H' P → Q u H') → r vs H Q
def vB (o : OpA) (u : VA) : VT := fun env Q => u env fun xs => o xs Q
section
variable {X : Cx} {R : RC} {pos p : Pos} {e : Expr} {es : List Expr} {u : VA} {c : Nat} {x : Str} {r : List V → Hp → L2.VK → Prop} {o : OpA} {id T : String}
theorem b_imp (l : LiftC X.K r o) (h : VL X R c es u) (σ : L2.St) (H : Hp) (Q : L2.VK) (q : liftE X.K R c (vB o u) σ H Q) : tCB r (liftA X.K R c u) σ H Q := by
  obtain ⟨env, P, fp, T, k, rep, pots, q⟩ := q
  refine ⟨env, P, fp, T, k, rep, pots, h.mono _ _ _ (fun xs q => ?_) q⟩
  intro vs H' P' e' pots' fa
  exact l.run fp env H H' P' xs vs Q (fun a ha => e'.fresh ha) pots'.some fa (l.mono _ _ _ (fun d p q v H2 hs f => q v H2 P' (e'.trans (Evo.same hs)) (pots'.same hs) f) q)
theorem mono_b (l : LiftC X.K r o) (h : MonoA u) : MonoE (vB o u) := fun env Q Q' hq q => h _ _ _ (fun xs q => l.mono _ _ _ hq q) q
theorem ve_callB (hc : CallR X (.builtin id) r) (l : LiftC X.K r o) (hm : X.mg x = none) (hv : bootBuiltins x = some (.builtin id)) (h : VL X R c (e :: es) u) (hg : Gl X x := by rfl) (hn : x ≠ "__name__" := by decide) (hdb : (x == ("__debug__" : Str)) = false := by decide)
    (he : starEach (e :: es) X.env = (false, eval e X.env) :: starEach es X.env := by rfl) (hpl : (backTo pos (starEach es X.env)).any (·.1) = false := by rfl) : VE X R c (.Call (.Name x p) (e :: es) [] pos) (vB o u) :=
  ⟨mono_b l h.mono, PE.imp (pe_callB hc hg hm hv h.run hn hdb he hpl) (b_imp l h)⟩
theorem ve_callT (hc : CallR X (.type T) r) (l : LiftC X.K r o) (hm : X.mg x = none) (hv : bootBuiltins x = some (.type T)) (h : VL X R c (e :: es) u) (hg : Gl X x := by rfl) (hn : x ≠ "__name__" := by decide) (hdb : (x == ("__debug__" : Str)) = false := by decide)
    (he : starEach (e :: es) X.env = (false, eval e X.env) :: starEach es X.env := by rfl) (hpl : (backTo pos (starEach es X.env)).any (·.1) = false := by rfl) : VE X R c (.Call (.Name x p) (e :: es) [] pos) (vB o u) :=
  ⟨mono_b l h.mono, PE.imp (pe_callTy hc hg hm hv h.run hn hdb he hpl) (b_imp l h)⟩
end

/-! ### targets -/
abbrev VGt := DP → Env → (Env → Prop) → Prop
/-- slots changed only among these -/
def Out (is : List Nat) (σ σ' : L2.St) : Prop := σ'.length = σ.length ∧ ∀ j, j ∉ is → σ'[j]? = σ[j]?
def liftG (K : PySem.W.Frag) (R : RC) (is : List Nat) (g : VGt) : TG := fun v σ H Q => ∃ env P fp T x F, Rep K R env σ H P fp T ∧ DV K P H x.1 v F ∧ PIn R env H fp T F x.2 ∧
  g x env fun env' => ∀ σ' fp', Out is σ σ' → Rep K R env' σ' H P fp' T → Q σ' H
structure VG (X : Cx) (R : RC) (is : List Nat) (tg : Expr) (g : VGt) : Prop where
  mono : ∀ x env (Q Q' : Env → Prop), (∀ e, Q e → Q' e) → g x env Q → g x env Q'
  run : PG X tg (liftG X.K R is g)
theorem PG.imp {X : Cx} {tg : Expr} {t t' : TG} (h : PG X tg t) (hi : ∀ v σ H Q, t' v σ H Q → t v σ H Q) : PG X tg t' := ⟨fun pins s σ H v u Q I r q => h.run pins s σ H v u Q I r (hi v σ H Q q)⟩
abbrev VGs := List DP → Env → (Env → Prop) → Prop
/-- the items of an unpacked tuple: all immutable, or read only -/
def liftGs (K : PySem.W.Frag) (R : RC) (is : List Nat) (g : VGs) : TGs := fun vs σ H Q => ∃ env P fp T xs Fs, Rep K R env σ H P fp T ∧ vs.length = xs.length ∧ Fs.length = xs.length ∧
  (∀ x F v, (x, v, F) ∈ xs.zip (vs.zip Fs) → DV K P H x.1 v F ∧ PIn R env H fp T F x.2) ∧ (freshF xs Fs).Nodup ∧
  g xs env fun env' => ∀ σ' fp', Out is σ σ' → Rep K R env' σ' H P fp' T → Q σ' H
structure VGS (X : Cx) (R : RC) (is : List Nat) (ts : List Expr) (g : VGs) : Prop where
  mono : ∀ x env (Q Q' : Env → Prop), (∀ e, Q e → Q' e) → g x env Q → g x env Q'
  run : PGs X ts (liftGs X.K R is g)
theorem PGs.imp {X : Cx} {tg : List Expr} {t t' : TGs} (h : PGs X tg t) (hi : ∀ v σ H Q, t' v σ H Q → t v σ H Q) : PGs X tg t' := ⟨fun pins s σ H v u Q I r q => h.run pins s σ H v u Q I r (hi v σ H Q q)⟩
section
variable {X : Cx} {R : RC} {pos : Pos}
theorem Out.refl {is : List Nat} {σ : L2.St} : Out is σ σ := ⟨rfl, fun _ _ => rfl⟩
theorem Out.set {i : Nat} {σ : L2.St} {v : Option V} : Out [i] σ (σ.set i v) := ⟨by simp, fun j hj => by
  have : j ≠ i := by simpa using hj
  rw [List.getElem?_set_ne (Ne.symm this)]⟩
theorem Out.trans {is js : List Nat} {a b d : L2.St} (h : Out is a b) (g : Out js b d) : Out (is ++ js) a d := ⟨g.1.trans h.1, fun j hj => by
  rw [List.mem_append, not_or] at hj
  exact (g.2 j hj.2).trans (h.2 j hj.1)⟩
def gvName (i : Nat) : VGt := fun x env Q => i < env.length ∧ Q (stE env i x.1 x.2)
theorem vg_name {i : Nat} {x : Str} (hN : X.N.Nodup) (hi : X.N[i]? = some x := by rfl) (hx : Loc X.env.scope x := by first | exact Or.inl rfl | exact Or.inr rfl) (hf : X.fn x = true ∨ X.env.scope.names.lookup x = some .local := by first | exact .inl rfl | exact .inr rfl | assumption) : VG X R [i] (.Name x pos) (gvName i) where
  mono := fun x env Q Q' h q => ⟨q.1, h _ q.2⟩
  run := PG.imp (pg_name hN hi hx hf) fun v σ H Q ⟨env, P, fp, T, x, F, rep, dv, pin, hl, q⟩ => q _ _ Out.set (rep.store hl dv pin)
def gvNil : VGs := fun xs env Q => xs = [] ∧ Q env
def gvCons (i : Nat) (g : VGs) : VGs := fun xs env Q => ∃ x ys, xs = x :: ys ∧ i < env.length ∧ g ys (stE env i x.1 x.2) Q
theorem vgs_nil : VGS X R [] [] gvNil where
  mono := fun x env Q Q' h q => ⟨q.1, h _ q.2⟩
  run := PGs.imp pgs_nil fun v σ H Q ⟨env, P, fp, T, xs, Fs, rep, h1, h2, h3, h4, h5, q⟩ => by
    subst h5
    exact ⟨List.eq_nil_of_length_eq_zero h1, q _ _ Out.refl rep⟩
/-- after one has been stored, what is left of the items may still be stored -/
theorem pin_store {K : PySem.W.Frag} {env : Env} {H : Hp} {P : List Addr} {fp : Nat → List Addr} {T : Tmp} {x : DP} {xs : List DP} {v : V} {vs : List V} {F : List Addr} {Fs : List (List Addr)} {i : Nat} (hi : i < env.length) (dv : DV K P H x.1 v F) (hn : (freshF (x :: xs) (F :: Fs)).Nodup)
    (hall : ∀ y G w, (y, w, G) ∈ xs.zip (vs.zip Fs) → DV K P H y.1 w G ∧ PIn R env H fp T G y.2) : ∀ y G w, (y, w, G) ∈ xs.zip (vs.zip Fs) → DV K P H y.1 w G ∧ PIn R (stE env i x.1 x.2) H (fun j => if j = i then F else fp j) T G y.2 := by
  have hn' : (frOf x.2 F ++ freshF xs Fs).Nodup := hn
  rw [List.nodup_append] at hn'
  intro y G w hm
  obtain ⟨dv2, pin2⟩ := hall y G w hm
  refine ⟨dv2, ?_⟩
  obtain ⟨dy, py⟩ := y
  cases py with
  | all k => trivial
  | sub k => trivial
  | any => trivial
  | fresh =>
    have hG : ∀ a ∈ G, a ∈ freshF xs Fs := by
      have aux : ∀ (xs : List DP) (vs : List V) (Fs : List (List Addr)), ((dy, Prov.fresh), w, G) ∈ xs.zip (vs.zip Fs) → ∀ a ∈ G, a ∈ freshF xs Fs := by
        intro xs
        induction xs with
        | nil => intro vs Fs hm; simp at hm
        | cons z zs ih =>
          intro vs Fs hm a ha
          cases vs with
          | nil => simp at hm
          | cons u us =>
            cases Fs with
            | nil => simp at hm
            | cons B Bs =>
              simp only [List.zip_cons_cons, List.mem_cons] at hm
              rcases hm with e | hm
              · injection e with e1 e2
                injection e2 with e2 e3
                subst e1 e3
                exact List.mem_append_left _ ha
              · exact List.mem_append_right _ (ih us Bs hm a ha)
      exact aux xs vs Fs hm
    refine ⟨pin2.1, fun a ha => ?_⟩
    obtain ⟨q1, q2, q3, q4⟩ := pin2.2 a ha
    refine ⟨q1, q2, fun j e hj => ?_, q4⟩
    rw [getElem?_stE hi] at hj
    by_cases hji : j = i
    · subst hji
      rw [if_pos rfl] at hj
      injection hj with hj; injection hj with hj; injection hj with h1 h2
      simp only [if_pos]
      intro hm2
      obtain ⟨dx, px⟩ := x
      cases px with
      | fresh => exact hn'.2.2 a hm2 a (hG a ha) rfl
      | all k =>
        by_cases hd2 : dx.imm = true
        · rw [dv.imm_nil hd2] at hm2; cases hm2
        · simp [flg, hd2] at h1
      | sub k =>
        by_cases hd2 : dx.imm = true
        · rw [dv.imm_nil hd2] at hm2; cases hm2
        · simp [flg, hd2] at h1
      | any =>
        by_cases hd2 : dx.imm = true
        · rw [dv.imm_nil hd2] at hm2; cases hm2
        · simp [flg, hd2] at h1
    · rw [if_neg hji] at hj
      simp only [if_neg hji]
      exact q3 j e hj
theorem vgs_cons {i : Nat} {x : Str} {is : List Nat} {es : List Expr} {g : VGs} (hN : X.N.Nodup) (h2 : VGS X R is es g) (hi : X.N[i]? = some x := by rfl) (hx : Loc X.env.scope x := by first | exact Or.inl rfl | exact Or.inr rfl) (hf : X.fn x = true ∨ X.env.scope.names.lookup x = some .local := by first | exact .inl rfl | exact .inr rfl | assumption)
    (hs : (assignEach (.Name x pos :: es) X.env).map (·.2) = assign (.Name x pos) X.env :: (assignEach es X.env).map (·.2) := by rfl) : VGS X R (i :: is) (.Name x pos :: es) (gvCons i g) where
  mono := fun x env Q Q' h ⟨y, ys, e, hl, q⟩ => ⟨y, ys, e, hl, h2.mono _ _ _ _ h q⟩
  run := PGs.imp (pgs_cons (pg_name hN hi hx hf) h2.run hs) fun vs σ H Q ⟨env, P, fp, T, xs, Fs, rep, h1, h3, h4, h5, y, ys, e, hl, q⟩ => by
    subst e
    cases vs with
    | nil => simp at h1
    | cons v vs =>
      cases Fs with
      | nil => simp at h3
      | cons F Fs =>
        obtain ⟨dv, pin⟩ := h4 y F v (by simp)
        have h5' : (frOf y.2 F ++ freshF ys Fs).Nodup := h5
        refine ⟨v, vs, rfl, stE env i y.1 y.2, P, _, T, ys, Fs, rep.store hl dv pin, by simpa using h1, by simpa using h3, pin_store hl dv h5 (fun z G w hm => h4 z G w (by simp [hm])), (List.nodup_append.mp h5').2.1, h2.mono _ _ _ _ (fun env' q σ' fp' ho rep' => q σ' fp' (Out.trans (is := [i]) Out.set ho) rep') q⟩
/-- (a, b, ..) = a tuple -/
def itPr (xs : List D) (p : Prov) : Prov := match p with | .fresh => .fresh | _ => if immAll xs = true then .fresh else .any
def gvTup (g : VGs) : VGt := fun x env Q => ∃ xs, x.1 = .tup xs ∧ g (xs.map fun d => (d, itPr xs x.2)) env Q
theorem dvs_split {K : PySem.W.Frag} {P : List Addr} {H : Hp} : ∀ {ds : List D} {vs : List V} {F : List Addr}, DVs K P H ds vs F → ∃ Fs : List (List Addr), Fs.length = ds.length ∧ Fs.flatten = F ∧ ∀ d G v, (d, v, G) ∈ ds.zip (vs.zip Fs) → DV K P H d v G ∧ G.Sublist F
  | _, _, _, .nil => ⟨[], rfl, rfl, fun d G v h => by simp at h⟩
  | _, _, _, .cons (F := F1) h1 h2 => by
    obtain ⟨Fs, e, e2, h⟩ := dvs_split h2
    refine ⟨F1 :: Fs, by simp [e], by simp [e2], fun d G v hm => ?_⟩
    simp only [List.zip_cons_cons, List.mem_cons] at hm
    rcases hm with e | hm
    · injection e with e1 e2
      injection e2 with e2 e3
      subst e1 e2 e3
      exact ⟨h1, List.sublist_append_left _ _⟩
    · exact ⟨(h d G v hm).1, (h d G v hm).2.trans (List.sublist_append_right _ _)⟩
theorem freshF_all : ∀ {xs : List D} {Fs : List (List Addr)}, Fs.length = xs.length → freshF (xs.map fun d => (d, Prov.fresh)) Fs = Fs.flatten
  | [], [], _ => rfl
  | [], _ :: _, h => by simp at h
  | _ :: _, [], h => by simp at h
  | _ :: xs, F :: Fs, h => by
    have := freshF_all (xs := xs) (Fs := Fs) (by simpa using h)
    simp only [List.map_cons, freshF, frOf, List.flatten_cons, this]
theorem zip_pr {p : Prov} {y : DP} {w : V} {G : List Addr} : ∀ (xs : List D) (us : List (V × List Addr)), (y, w, G) ∈ (xs.map fun d => (d, p)).zip us → y.2 = p ∧ (y.1, w, G) ∈ xs.zip us
  | [], us, hm => by simp at hm
  | z :: zs, [], hm => by simp at hm
  | z :: zs, u :: us, hm => by
    simp only [List.map_cons, List.zip_cons_cons, List.mem_cons] at hm ⊢
    rcases hm with e | hm
    · injection e with e1 e2
      subst e1 e2
      exact ⟨rfl, .inl rfl⟩
    · obtain ⟨a, b⟩ := zip_pr zs us hm
      exact ⟨a, .inr b⟩
theorem freshF_any : ∀ {xs : List D} {Fs : List (List Addr)}, freshF (xs.map fun d => (d, Prov.any)) Fs = []
  | [], _ => rfl
  | _ :: _, [] => rfl
  | _ :: xs, _ :: Fs => by simpa [freshF, frOf] using freshF_any (xs := xs) (Fs := Fs)
theorem vg_tup {is : List Nat} {es : List Expr} {k n : Nat} {g : VGs} (hc : X.calm = true) (h : VGS X R is es g) (hlen : ∀ xs env Q, g xs env Q → xs.length = n) (hn : (assignEach es X.env).length = n := by rfl) (hst : (assignEach es X.env).findIdx? (·.1) = none := by rfl) : VG X R is (.Tuple es k pos) (gvTup g) where
  mono := fun x env Q Q' hq ⟨xs, e, q⟩ => ⟨xs, e, h.mono _ _ _ _ hq q⟩
  run := PG.imp (pg_tup hc h.run hn hst) fun v σ H Q ⟨env, P, fp, T, x, F, rep, dv, pin, xs, e, q⟩ => by
    obtain ⟨d, p⟩ := x
    dsimp only at e dv
    subst e
    obtain ⟨a, vs, rfl, ha, dvs⟩ := dv.tup_inv
    have hl := hlen _ _ _ q
    rw [List.length_map] at hl
    obtain ⟨Fs, e, e2, hz⟩ := dvs_split dvs
    refine ⟨a, vs, rfl, ha, by rw [← dvs.length]; exact hl, env, P, fp, T, _, Fs, rep, ?_, ?_, ?_, ?_, q⟩
    · rw [List.length_map, dvs.length]
    · rw [List.length_map]; exact e
    · intro y G w hm
      obtain ⟨k1, k2⟩ := zip_pr xs _ hm
      obtain ⟨k3, k4⟩ := hz _ _ _ k2
      refine ⟨k3, ?_⟩
      rw [k1]
      cases p with
      | fresh => exact PIn.part (p := .fresh) pin k4
      | all i =>
        by_cases hi : immAll xs = true
        · have z := dvs.imm_nil hi
          subst z
          rw [List.sublist_nil.mp k4]
          simp only [itPr, if_pos hi]
          exact Excl.nil
        · simp only [itPr, if_neg hi]; trivial
      | sub i =>
        by_cases hi : immAll xs = true
        · have z := dvs.imm_nil hi
          subst z
          rw [List.sublist_nil.mp k4]
          simp only [itPr, if_pos hi]
          exact Excl.nil
        · simp only [itPr, if_neg hi]; trivial
      | any =>
        by_cases hi : immAll xs = true
        · have z := dvs.imm_nil hi
          subst z
          rw [List.sublist_nil.mp k4]
          simp only [itPr, if_pos hi]
          exact Excl.nil
        · simp only [itPr, if_neg hi]; trivial
    · have key : itPr xs p = .any ∨ (itPr xs p = .fresh ∧ F.Nodup) := by
        cases p with
        | fresh => exact .inr ⟨rfl, pin.1⟩
        | all i =>
          by_cases hi : immAll xs = true
          · exact .inr ⟨by simp [itPr, hi], by rw [dvs.imm_nil hi]; exact List.nodup_nil⟩
          · exact .inl (by simp [itPr, hi])
        | sub i =>
          by_cases hi : immAll xs = true
          · exact .inr ⟨by simp [itPr, hi], by rw [dvs.imm_nil hi]; exact List.nodup_nil⟩
          · exact .inl (by simp [itPr, hi])
        | any =>
          by_cases hi : immAll xs = true
          · exact .inr ⟨by simp [itPr, hi], by rw [dvs.imm_nil hi]; exact List.nodup_nil⟩
          · exact .inl (by simp [itPr, hi])
      rcases key with z | ⟨z, n⟩
      · show (freshF (xs.map fun d => (d, itPr xs p)) Fs).Nodup
        rw [z, freshF_any]; exact List.nodup_nil
      · show (freshF (xs.map fun d => (d, itPr xs p)) Fs).Nodup
        rw [z, freshF_all e, e2]; exact n
theorem len_nil (xs : List DP) (env : Env) (Q : Env → Prop) (h : gvNil xs env Q) : xs.length = 0 := by rw [h.1]; rfl
theorem len_cons {i n : Nat} {g : VGs} (hg : ∀ xs env Q, g xs env Q → xs.length = n) (xs : List DP) (env : Env) (Q : Env → Prop) (h : gvCons i g xs env Q) : xs.length = n + 1 := by
  obtain ⟨x, ys, rfl, _, q⟩ := h
  rw [List.length_cons, hg _ _ _ q]
/-- a target = e -/
def vAsg (te : VT) (g : VGt) : VTS := fun k env => te env fun d p => g (d, p) env k.nx
theorem vs_asg {tg e : Expr} {te : VT} {g : VGt} {is : List Nat} {c : Nat} (he : VE X R c e te) (hg : VG X R is tg g) (hs : swapsWithSole [tg] e pos.line X.env = pure false := by rfl) (hw : swappedStores [tg] e X.env = pure none := by rfl)
    (h1 : (assignEach [tg] X.env).map (·.2) = [assign tg X.env] := by rfl) : VS X R c (.Assign [tg] e pos) (vAsg te g) where
  mono := fun k k' hk env q => he.mono _ _ _ (fun d p q => hg.mono _ _ _ _ hk.nx q) q
  run := PS.imp (ps_asg he.run hg.run hs hw h1) fun Dn σ H ⟨env, P, fp, T, r, k, rep, pots, q, g'⟩ => by
    refine ⟨env, P, fp, T, r, rep, pots, he.mono _ _ _ (fun d p q => ?_) q⟩
    intro v H' P' e' pots' ⟨F, dv, pk⟩
    refine ⟨env, P', fp, T, (d, p), F, rep.evo e', dv, PIn.of rep e' dv pk, hg.mono _ _ _ _ (fun env' q σ' fp' _ rep' => ?_) q⟩
    exact g'.nx _ _ _ _ _ rep' pots' q
end
end VS

/-! what loops walk: lists and tuples alike, enumerate and zip over either -/
namespace VS
open PySem PySem.Spec PyProof.Rows L2
inductive SK | l | t
def SqK (K : PySem.W.Frag) (k : SK) (H : Hp) (a : Addr) (xs : List V) : Prop := match k with | .l => SqL K H a xs | .t => SqT K H a xs
def IsK (k : SK) (h : Heap) (a : Addr) (items : Array Value) : Prop := match k with | .l => h.IsList a items | .t => h.IsTuple a items
def IterK (k : SK) (h : Heap) (it a : Addr) (i : Nat) : Prop := match k with | .l => h.IsListIter it a i | .t => h.IsTupleIter it a i
def itO (k : SK) (a : Addr) : Obj := match k with | .l => { cls := .type "list_iterator", data := .fields #[.ref a, .int 0 0] } | .t => { cls := .type "tuple_iterator", data := .fields #[.ref a, .int 0 0] }
theorem beginsK (k : SK) (a : Addr) (items : Array Value) : Begins (.ref a) (itO k a) fun h => IsK k h a items := by
  cases k with
  | l => exact begins_list a items
  | t => exact begins_tuple a items
theorem drawsK {prog : Program} {w : World} {A : Around} (hh : A.handled = none) (k : SK) (it a : Addr) (hne : a ≠ it) (items : Array Value) :
    Draws prog w A it [it, a] items.size (fun i v => items[i]? = some v) (fun i h => IterK k h it a i ∧ IsK k h a items) := by
  cases k with
  | l => exact Draws.list hh it a hne items
  | t => exact Draws.tuple hh it a hne items
theorem IterK.obj {k : SK} {h : Heap} {it a : Addr} {i : Nat} (x : IterK k h it a i) : ∃ o, h.get? it = some o ∧ ∀ v, o.data ≠ .cell v := by
  cases k with
  | l => obtain ⟨o, e, _, d⟩ := x; exact ⟨o, e, fun v z => by rw [d] at z; cases z⟩
  | t => obtain ⟨o, e, _, d⟩ := x; exact ⟨o, e, fun v z => by rw [d] at z; cases z⟩
theorem IterK.at {k : SK} {h h' : Heap} {it a : Addr} {i : Nat} (x : IterK k h it a i) (e : ∀ o, h.get? it = some o → h'.get? it = some o) : IterK k h' it a i := by
  cases k with
  | l => exact Heap.IsListIter.at (h := h) x e
  | t => exact Heap.IsTupleIter.at (h := h) x e
theorem iterK_new {k : SK} {h : Heap} {it a : Addr} (e : h.get? it = some (itO k a)) : IterK k h it a 0 := by
  cases k with
  | l => exact ⟨_, e, rfl, rfl⟩
  | t => exact ⟨_, e, rfl, rfl⟩
section
variable {X : Cx} {pins : List (Addr × Obj)} {σ : L2.St} {H : Hp} {s : Shared}
theorem inv_sqK {k : SK} {a : Addr} {xs : List V} (I : Inv X pins σ H s) (h : SqK X.K k H a xs) : ∃ its : List Value, Vals xs its ∧ IsK k s.heap a its.toArray ∧ xs.length ≤ sizeLine := by
  cases k with
  | l => obtain ⟨its, r, p, z⟩ := I.list h; exact ⟨its, r, p.isList, z⟩
  | t => obtain ⟨its, r, p, z⟩ := I.tuple h; exact ⟨its, r, p, z⟩
theorem inv_sqK_inj {k : SK} {a : Addr} {xs ys : List V} (I : Inv X pins σ H s) (h : SqK X.K k H a xs) (h' : SqK X.K k H a ys) : xs = ys := by
  cases k with
  | l => exact I.list_inj h h'
  | t => exact I.tuple_inj h h'
theorem IsK.lt {k : SK} {h : Heap} {a : Addr} {its : Array Value} (x : IsK k h a its) : a < h.objs.size := by
  cases k with
  | l => obtain ⟨o, e, _⟩ := x; exact Heap.lt_size e
  | t => obtain ⟨o, e, _⟩ := x; exact Heap.lt_size e
end

/-! ### enumerate -/
def IteK (K : PySem.W.Frag) (k : SK) (a : Addr) : It :=
  ⟨fun i H => ∃ (xs : List V) (x : V), SqK K k H a xs ∧ xs[i]? = some x, fun i H v H' => ∃ T x, v = .ref T ∧ H T = none ∧ H' = upd H T (.tup [.int (i : Nat), x]) ∧ ∀ xs, SqK K k H a xs → xs[i]? = some x, fun i H => ∃ xs : List V, SqK K k H a xs ∧ xs.length = i⟩
theorem turn_enumK {P : Program} {w : World} {K : PySem.W.Frag} {elts : List Expr} {kk : Nat} {tpos : Pos} {k : SK} (a e it : Addr) (hae : a ≠ e) (hai : a ≠ it) :
    Turn P w K (.Tuple elts kk tpos) (IteK K k a) [e, it] e (fun i h => (∃ old, IsEnum h e it ((i : Nat) : Int) old) ∧ IterK k h it a i ∧ e ≠ it) where
  mem := by simp
  obj := fun i h st b hb => by
    obtain ⟨⟨old, he⟩, hi, _⟩ := st
    have e' : b = e ∨ b = it := by simpa using hb
    rcases e' with z | z
    · rw [z]; exact ⟨_, he, fun v q => nomatch q⟩
    · rw [z]; exact hi.obj
  keep := fun i h h' st kp => let ⟨⟨old, he⟩, hi, hne⟩ := st; ⟨⟨old, kp e (by simp) _ he⟩, hi.at fun o q => kp it (by simp) o q, hne⟩
  item := by
    intro X hP hw hK hc i pins s σ H E I hf st hg
    subst hP hw hK
    obtain ⟨⟨old, he⟩, hit, hne⟩ := st
    obtain ⟨xs, x, hq, hx⟩ := hg
    obtain ⟨its, rv, p, hz⟩ := inv_sqK I hq
    have hi : i < its.length := by
      have := (List.getElem?_eq_some_iff.mp hx).1
      rw [← rv.length]; exact this
    have hel : e < s.heap.objs.size := Heap.lt_size he
    have hil : it < s.heap.objs.size := by obtain ⟨_, q, _⟩ := hit.obj; exact Heap.lt_size q
    have D := drawsK (prog := X.prog) (w := X.w) (A := X.A.in1) (I.ok.hd hc) k it a hai its.toArray
    refine wpAny_pyNext_enum_itemD D (i := i) he ⟨hit, p⟩ (by simpa using hi) hne (by simp [hne, Ne.symm hae]) fun u h' tk hu ho hst' hT hsz hk => ?_
    obtain ⟨hit', _⟩ := hst'
    refine ⟨_, rfl, wpAny_letOwnedTupleGo_enum (s := { s with heap := h', toks := tk + 1 }) ho fun h'' he' sb => ?_⟩
    have hu' : its[i]? = some u := by simpa using hu
    obtain ⟨u2, hu2, ru⟩ := rv.get hx
    rw [hu'] at hu2
    cases hu2
    have hT2 : h''.get? s.heap.objs.size = some { cls := .type "tuple", data := .seq #[.int i tk, u] } := (sb.2 _ (Nat.ne_of_gt hel)).trans hT
    have new : ObjOk X.prog X.w (upd H s.heap.objs.size (.tup [.int (i : Nat), x])) h'' s.heap.objs.size (.tup [.int (i : Nat), x]) :=
      ⟨by show 2 ≤ sizeLine; decide, [.int i tk, u], .cons ⟨_, rfl⟩ (.cons ru .nil), ⟨_, hT2, rfl, _, rfl⟩⟩
    have I1 : Inv X pins σ (upd H s.heap.objs.size (.tup [.int (i : Nat), x])) { s with heap := h'', toks := tk + 1 } :=
      I.turnedNew (ch := [e, it]) (fun b ob hb q => (sb.2 b (fun z => hb (by simp [z]))).trans (hk b ob (fun z => hb (by simp [z])) (fun z => hb (by simp [z])) q)) hf (Nat.le_refl _) new
    refine ⟨.ref s.heap.objs.size, _, I1, rfl, ⟨_, x, rfl, I.hok.fresh (Nat.le_refl _), rfl, fun ys hy => by rw [inv_sqK_inj I hy hq]; exact hx⟩, ⟨⟨u, ?_⟩, hit'.at fun o q => (sb.2 it (Ne.symm hne)).trans q, hne⟩, fun b hb => ?_⟩
    · have e1 : ((i + 1 : Nat) : Int) = (i : Int) + 1 := by omega
      rw [e1]; exact he'
    · have hb' : b < s.heap.objs.size := by
        have e' : b = e ∨ b = it := by simpa using hb
        rcases e' with z | z
        · rw [z]; exact hel
        · rw [z]; exact hil
      rw [upd_ne (Nat.ne_of_lt hb')]
      exact (hf b hb).1
  done := by
    intro X hP hw hK hc i pins s σ H E I hf st hg
    subst hP hw hK
    obtain ⟨⟨old, he⟩, hit, hne⟩ := st
    obtain ⟨xs, hq, hx⟩ := hg
    obtain ⟨its, rv, p, hz⟩ := inv_sqK I hq
    obtain ⟨f0, f1, f2, f3, f4, f5⟩ := hf it (by simp)
    have hl := rv.length
    have D := drawsK (prog := X.prog) (w := X.w) (A := X.A.in1) (I.ok.hd hc) k it a hai its.toArray
    have e1 : i = its.toArray.size := by simp; omega
    rw [e1] at hit
    exact wpAny_pyNext_enum_endD D he ⟨hit, p⟩ fun h' eb => ⟨rfl, I.turned (t' := s.toks) (fun b o hb q => eb b o hb q) f0 f1 f3 f4 f5⟩
  self := fun A i s Q E st h => let ⟨⟨_, he⟩, _⟩ := st; wpAny_pyIter_enum he h
set_option maxHeartbeats 1000000 in
theorem meets_enumerate_newK {v : Value} {o : Obj} {H : Heap → Prop} (B : Begins v o H) :
    Meets (Builtin.«enumerate.__new__» ⟨[.type "enumerate", v], []⟩) (fun _ R s => H s.heap ∧
      R (.ok (.ret (.ref (s.heap.push o).objs.size))) { s with heap := (s.heap.push o).push { cls := .type "enumerate", data := .fields #[.none, .bool false, .ref s.heap.objs.size, rawInt 0, .none, .none] } }) :=
  .of_wp fun prog w A R s h => by
    obtain ⟨hp, g, d, tk, os⟩ := s; obtain ⟨h1, h⟩ := h
    have hsub := sub_enumerate
    have q1 : ∀ {A' : Around} {E : Value → Shared → Prop} {Q : Value → Shared → Prop}, Q (.ref hp.objs.size) ⟨hp.push o, g, d, tk, os⟩ → wpAny (model prog w) A' (pyIter v) Q E ⟨hp, g, d, tk, os⟩ :=
      fun q => B.iter prog w _ _ ⟨hp, g, d, tk, os⟩ _ h1 q
    wp_walk using q1
    refine wpAny_stack_any fun st => wpAny_pure ?_
    split
    · rename_i c _ _ _ _ _
      cases (c == Value.type "enumerate")
      · wp_walk using q1
        exact ⟨_, rfl, h⟩
      · wp_walk using q1
        exact ⟨_, rfl, h⟩
    · wp_walk using q1
      exact ⟨_, rfl, h⟩
theorem call_enumerateK {prog : Program} {w : World} {A : Around} {E : Value → Shared → Prop} {s : Shared} {v : Value} {o : Obj} {H : Heap → Prop} {Q : Value → Shared → Prop} (B : Begins v o H) (h1 : H s.heap)
    (h : ∀ h', IsEnum h' (s.heap.objs.size + 1) s.heap.objs.size 0 .none → h'.get? s.heap.objs.size = some o → h'.objs.size = s.heap.objs.size + 2 →
      (∀ b o, s.heap.get? b = some o → h'.get? b = some o) → Q (.ref (s.heap.objs.size + 1)) { s with heap := h' }) :
    wpAny (model prog w) A (call (.type "enumerate") [v]) Q E s := by
  refine callType_new F.called_enumerate (by decide) (F.typeCall_enumerate_1 _) (F.newCall_enumerate_1 _) (fun obj => F.args_object_init_2 obj _) F.entry_enumerate_new
    (meets_enumerate_newK B) ⟨h1, ?_⟩
  have hz : (s.heap.push o).objs.size = s.heap.objs.size + 1 := Heap.size_push ..
  show _ ∧ _
  rw [hz]
  have he : IsEnum ((s.heap.push o).push { cls := .type "enumerate", data := .fields #[.none, .bool false, .ref s.heap.objs.size, rawInt 0, .none, .none] }) (s.heap.objs.size + 1) s.heap.objs.size 0 .none := by
    have := Heap.get?_push_size (s.heap.push o) (o := { cls := .type "enumerate", data := .fields #[.none, .bool false, .ref s.heap.objs.size, rawInt 0, .none, .none] }) rfl
    rw [hz] at this; exact this
  refine ⟨⟨_, he, rfl⟩, h _ he (Heap.get?_push_of_some _ (Heap.get?_push_size _ B.free)) (by rw [Heap.size_push, hz]) fun b o x => Heap.get?_push_of_some _ (Heap.get?_push_of_some _ x)⟩
def iEnumK (K : PySem.W.Frag) (ta : TA) : TI := fun σ H R => ta σ H fun vs H1 => ∃ k a xs, vs = [.ref a] ∧ SqK K k H1 a xs ∧ R (IteK K k a) H1
theorem pi_enumK {X : Cx} {e : Expr} {ta : TA} {p pos tpos : Pos} {elts : List Expr} {kk : Nat} (hg : Gl X "enumerate") (hm : X.mg "enumerate" = none) (ha : PA X [e] ta) (hs : starEach [e] X.env = [(false, eval e X.env)] := by rfl) :
    PI X (.Tuple elts kk tpos) (.Call (.Name "enumerate" p) [e] [] pos) (iEnumK X.K ta) := by
  refine ⟨fun pins s σ H R I h => ?_⟩
  refine Call_ (ld_blt I hg hm boot_enumerate (PyProof.Rows.callWith_type1 (thn (ha.run pos pins s σ H _ I h) fun us s1 ⟨vs, H1, I1, r1, q1⟩ => ?_) hs rfl))
  obtain ⟨k, a, xs, ex, hq, q⟩ := q1
  subst ex
  cases r1 with
  | cons r rr =>
    cases rr
    cases r
    obtain ⟨its, rv, p', hz⟩ := inv_sqK I1 hq
    refine call_enumerateK (beginsK k a its.toArray) p' fun h' he hit hsz hk => wpAny_pyIter_enum he ?_
    have I2 : Inv X pins σ H1 { s1 with heap := h' } := I1.kept (t' := s1.toks) hk
    have hal := p'.lt
    refine ⟨s1.heap.objs.size + 1, [s1.heap.objs.size + 1, s1.heap.objs.size], _, _, H1, rfl, I2, turn_enumK a (s1.heap.objs.size + 1) s1.heap.objs.size (Nat.ne_of_lt (Nat.lt_succ_of_lt hal)) (Nat.ne_of_lt hal), ⟨⟨.none, he⟩, iterK_new hit, Nat.succ_ne_self _⟩, fun b hb => ?_, q⟩
    have e' : b = s1.heap.objs.size + 1 ∨ b = s1.heap.objs.size := by simpa using hb
    have hle : s1.heap.objs.size ≤ b := by
      rcases e' with z | z
      · rw [z]; exact Nat.le_add_right _ _
      · rw [z]; exact Nat.le_refl _
    exact I1.fpOk hle (I1.hok.fresh hle)

/-! ### zip -/
def ItzK (K : PySem.W.Frag) (k1 k2 : SK) (a b : Addr) : It :=
  ⟨fun i H => ∃ (xs ys : List V) (x y : V), SqK K k1 H a xs ∧ SqK K k2 H b ys ∧ xs[i]? = some x ∧ ys[i]? = some y,
    fun i H v H' => ∃ T x y, v = .ref T ∧ H T = none ∧ H' = upd H T (.tup [x, y]) ∧ (∀ xs, SqK K k1 H a xs → xs[i]? = some x) ∧ ∀ ys, SqK K k2 H b ys → ys[i]? = some y,
    fun i H => ∃ xs ys : List V, SqK K k1 H a xs ∧ SqK K k2 H b ys ∧ i = min xs.length ys.length⟩
theorem turn_zipK {P : Program} {w : World} {K : PySem.W.Frag} {elts : List Expr} {kk : Nat} {tpos : Pos} {k1 k2 : SK} {a b z TI TO i1 i2 : Addr} (S : ZipSep2 z TI TO i1 i2 [i1, a] [i2, b]) (ha : a ≠ i1) (hb : b ≠ i2) :
    Turn P w K (.Tuple elts kk tpos) (ItzK K k1 k2 a b) [z, TI, TO, i1, i2] z (fun i h => IsZip h z TI TO .none ∧ IsTupOf2 h TI (.ref i1) (.ref i2) ∧ (∃ x y, IsTupOf2 h TO x y) ∧ IterK k1 h i1 a i ∧ IterK k2 h i2 b i) where
  mem := by simp
  obj := fun i h st c hc => by
    obtain ⟨hz, hTI, ⟨x, y, hTO⟩, h1, h2⟩ := st
    have e' : c = z ∨ c = TI ∨ c = TO ∨ c = i1 ∨ c = i2 := by simpa using hc
    rcases e' with q | q | q | q | q
    · rw [q]; exact ⟨_, hz, fun v q => nomatch q⟩
    · rw [q]; exact ⟨_, hTI, fun v q => nomatch q⟩
    · rw [q]; exact ⟨_, hTO, fun v q => nomatch q⟩
    · rw [q]; exact h1.obj
    · rw [q]; exact h2.obj
  keep := fun i h h' st k => by
    obtain ⟨hz, hTI, ⟨x, y, hTO⟩, h1, h2⟩ := st
    exact ⟨k z (by simp) _ hz, k TI (by simp) _ hTI, ⟨x, y, k TO (by simp) _ hTO⟩, h1.at fun o q => k i1 (by simp) o q, h2.at fun o q => k i2 (by simp) o q⟩
  item := by
    intro X hP hw hK hc i pins s σ H E I hf st hg
    subst hP hw hK
    obtain ⟨hz, hTI, ⟨x0, y0, hTO⟩, h1, h2⟩ := st
    obtain ⟨xs, ys, x, y, hqx, hqy, hx, hy⟩ := hg
    obtain ⟨its, rv, p, _⟩ := inv_sqK I hqx
    obtain ⟨its2, rv2, p2, _⟩ := inv_sqK I hqy
    obtain ⟨u, hu, ru⟩ := rv.get hx
    obtain ⟨u2, hu2, ru2⟩ := rv2.get hy
    have hzl : z < s.heap.objs.size := Heap.lt_size hz
    have D1 := drawsK (prog := X.prog) (w := X.w) (A := X.A.in1) (I.ok.hd hc) k1 i1 a ha its.toArray
    have D2 := drawsK (prog := X.prog) (w := X.w) (A := X.A.in1) (I.ok.hd hc) k2 i2 b hb its2.toArray
    have hi1 : i < its.toArray.size := by simpa using (List.getElem?_eq_some_iff.mp hu).1
    have hi2 : i < its2.toArray.size := by simpa using (List.getElem?_eq_some_iff.mp hu2).1
    refine wpAny_pyNext_zipD2_item S D1 D2 hz hTI hTO ⟨h1, p⟩ ⟨h2, p2⟩ hi1 hi2 fun v1 v2 h' tk q1 q2 z' TO' h1' h2' hT hsz hk => ?_
    have ev1 : v1 = u := by
      have : its[i]? = some v1 := by simpa using q1
      rw [hu] at this; exact (Option.some.inj this).symm
    have ev2 : v2 = u2 := by
      have : its2[i]? = some v2 := by simpa using q2
      rw [hu2] at this; exact (Option.some.inj this).symm
    subst ev1 ev2
    refine ⟨_, rfl, wpAny_letOwnedTupleGo_zip (s := { s with heap := h', toks := tk }) z' fun h'' z'' sb => ?_⟩
    have hT2 : h''.get? s.heap.objs.size = some { cls := .type "tuple", data := .seq #[v1, v2] } := (sb.2 _ (Nat.ne_of_gt hzl)).trans hT
    have new : ObjOk X.prog X.w (upd H s.heap.objs.size (.tup [x, y])) h'' s.heap.objs.size (.tup [x, y]) :=
      ⟨by show 2 ≤ sizeLine; decide, [v1, v2], .cons ru (.cons ru2 .nil), ⟨_, hT2, rfl, _, rfl⟩⟩
    have I1 : Inv X pins σ (upd H s.heap.objs.size (.tup [x, y])) { s with heap := h'', toks := tk } :=
      I.turnedNew (t' := tk) (ch := [z, TI, TO, i1, i2]) (fun c o hb q => (sb.2 c (fun q' => hb (by simp [q']))).trans (hk c o (fun q' => hb (by simp [q'])) (fun q' => hb (by simp [q'])) (fun q' => hb (by simp [q'])) (fun q' => hb (by simp [q'])) q)) hf (Nat.le_refl _) new
    refine ⟨.ref s.heap.objs.size, _, I1, rfl, ⟨_, x, y, rfl, I.hok.fresh (Nat.le_refl _), rfl, fun l hl => by rw [inv_sqK_inj I hl hqx]; exact hx, fun l hl => by rw [inv_sqK_inj I hl hqy]; exact hy⟩, ⟨z'', ?_, ⟨v1, v2, ?_⟩, ?_, ?_⟩, fun c hcm => ?_⟩
    · exact (sb.2 _ S.TIz).trans (hk _ _ S.TIz S.TITO S.TIi1 S.TIi2 hTI)
    · exact (sb.2 _ S.TOz).trans TO'
    · exact h1'.1.at fun o q => (sb.2 _ (Ne.symm S.zi1)).trans q
    · exact h2'.1.at fun o q => (sb.2 _ (Ne.symm S.zi2)).trans q
    · have hlt : c < s.heap.objs.size := by
        have e' : c = z ∨ c = TI ∨ c = TO ∨ c = i1 ∨ c = i2 := by simpa using hcm
        rcases e' with q | q | q | q | q
        · rw [q]; exact hzl
        · rw [q]; exact Heap.lt_size hTI
        · rw [q]; exact Heap.lt_size hTO
        · rw [q]; obtain ⟨_, e1, _⟩ := h1.obj; exact Heap.lt_size e1
        · rw [q]; obtain ⟨_, e2, _⟩ := h2.obj; exact Heap.lt_size e2
      rw [upd_ne (Nat.ne_of_lt hlt)]
      exact (hf c hcm).1
  done := by
    intro X hP hw hK hc i pins s σ H E I hf st hg
    subst hP hw hK
    obtain ⟨hz, hTI, ⟨x0, y0, hTO⟩, h1, h2⟩ := st
    obtain ⟨xs, ys, hqx, hqy, hend⟩ := hg
    obtain ⟨its, rv, p, _⟩ := inv_sqK I hqx
    obtain ⟨its2, rv2, p2, _⟩ := inv_sqK I hqy
    have l1 := rv.length
    have l2 := rv2.length
    have D1 := drawsK (prog := X.prog) (w := X.w) (A := X.A.in1) (I.ok.hd hc) k1 i1 a ha its.toArray
    have D2 := drawsK (prog := X.prog) (w := X.w) (A := X.A.in1) (I.ok.hd hc) k2 i2 b hb its2.toArray
    refine wpAny_pyNext_zipD2_end S D1 D2 hz hTI hTO ⟨h1, p⟩ ⟨h2, p2⟩ (by simp; omega) (by simp; omega) (by simp; omega) fun h' tk hk => ⟨rfl, I.turnedL (t' := tk) (ch := [z, TI, TO, i1, i2]) (fun c o hb q =>
      hk c o (fun q' => hb (by simp [q'])) (fun q' => hb (by simp [q'])) (fun q' => hb (by simp [q'])) (fun q' => hb (by simp [q'])) q) hf⟩
  self := fun A i s Q E st h => wpAny_pyIter_zip st.1 h
def iZipK (K : PySem.W.Frag) (ta : TA) : TI := fun σ H R => ta σ H fun vs H1 => ∃ k1 k2 a b xs ys, vs = [.ref a, .ref b] ∧ SqK K k1 H1 a xs ∧ SqK K k2 H1 b ys ∧ R (ItzK K k1 k2 a b) H1
theorem pi_zipK {X : Cx} {e e2 : Expr} {ta : TA} {p pos tpos : Pos} {elts : List Expr} {kk : Nat} (hg : Gl X "zip") (hm : X.mg "zip" = none) (ha : PA X [e, e2] ta)
    (hs : starEach [e, e2] X.env = (false, eval e X.env) :: starEach [e2] X.env := by rfl) (hpl : (backTo pos (starEach [e2] X.env)).any (·.1) = false := by rfl) :
    PI X (.Tuple elts kk tpos) (.Call (.Name "zip" p) [e, e2] [] pos) (iZipK X.K ta) := by
  refine ⟨fun pins s σ H R I h => ?_⟩
  refine Call_ (ld_blt I hg hm PyProof.Rows.boot_zip (PyProof.Rows.callWith_type1 (thn (ha.run pos pins s σ H _ I h) fun us s1 ⟨vs, H1, I1, r1, q1⟩ => ?_) hs hpl))
  obtain ⟨k1, k2, a, b, xs, ys, ex, hqx, hqy, q⟩ := q1
  subst ex
  cases r1 with
  | cons r rr =>
    cases rr with
    | cons r' rr =>
      cases rr
      cases r
      cases r'
      have fresh5 : ∀ c, c ∈ [s1.heap.objs.size + 4, s1.heap.objs.size + 2, s1.heap.objs.size + 3, s1.heap.objs.size, s1.heap.objs.size + 1] → FpOk X pins H1 c := fun c hcm => by
        have e' : c = s1.heap.objs.size + 4 ∨ c = s1.heap.objs.size + 2 ∨ c = s1.heap.objs.size + 3 ∨ c = s1.heap.objs.size ∨ c = s1.heap.objs.size + 1 := by simpa using hcm
        have hle : s1.heap.objs.size ≤ c := by omega
        exact I1.fpOk hle (I1.hok.fresh hle)
      obtain ⟨its, rv, p1, _⟩ := inv_sqK I1 hqx
      obtain ⟨its2, rv2, p2, _⟩ := inv_sqK I1 hqy
      have la := p1.lt
      have lb := p2.lt
      refine zip_begins2 (beginsK k1 a its.toArray) (beginsK k2 b its2.toArray) p1 p2 fun h' hz hTI hTO h1 h2 hsz hk => wpAny_pyIter_zip hz ?_
      have I2 : Inv X pins σ H1 { s1 with heap := h' } := I1.kept (t' := s1.toks) hk
      exact ⟨s1.heap.objs.size + 4, [s1.heap.objs.size + 4, s1.heap.objs.size + 2, s1.heap.objs.size + 3, s1.heap.objs.size, s1.heap.objs.size + 1], _, _, H1, rfl, I2,
        turn_zipK (zip_sep2 (fp1 := [a]) (fp2 := [b]) (by simpa using la) (by simpa using lb)) (Nat.ne_of_lt la) (Nat.ne_of_lt (Nat.lt_succ_of_lt lb)), ⟨hz, hTI, ⟨_, _, hTO⟩, iterK_new h1, iterK_new h2⟩, fresh5, q⟩
/-- a list or a tuple, item by item -/
def iSeq (K : PySem.W.Frag) (tl : TE) : TI := fun σ H R => tl σ H fun x H1 => ∃ a, x = .ref a ∧ ((∃ xs, SqL K H1 a xs ∧ R (Itl K a) H1) ∨ ∃ xs, SqT K H1 a xs ∧ R (Itt K a) H1)
theorem pi_seq {X : Cx} {tg l : Expr} {tl : TE} (hl : PE X l tl) : PI X tg l (iSeq X.K tl) := by
  refine ⟨fun pins s σ H R I h => ?_⟩
  refine thn (hl.run pins s σ H _ I h) fun v s1 ⟨x, H1, I1, r1, q1⟩ => ?_
  obtain ⟨a, e, q1⟩ := q1
  subst e
  cases r1
  rcases q1 with ⟨xs, hq, q⟩ | ⟨xs, hq, q⟩
  · obtain ⟨its, rv, p, hz⟩ := I1.list hq
    refine wpAny_pyIter_list p.isList ?_
    refine ⟨s1.heap.objs.size, [s1.heap.objs.size], _, _, H1, rfl, I1.kept (t' := s1.toks) fun b o e => Heap.get?_push_of_some _ e, turn_list a _, ⟨_, Heap.get?_push_size _ rfl, rfl, rfl⟩, fun b hb => ?_, q⟩
    have e : b = s1.heap.objs.size := by simpa using hb
    subst e
    exact I1.fpOk (Nat.le_refl _) (I1.hok.fresh (Nat.le_refl _))
  · obtain ⟨its, rv, p, hz⟩ := I1.tuple hq
    refine wpAny_pyIter_tuple (show s1.heap.IsTuple a its.toArray from p) ?_
    refine ⟨s1.heap.objs.size, [s1.heap.objs.size], _, _, H1, rfl, I1.kept (t' := s1.toks) fun b o e => Heap.get?_push_of_some _ e, turn_tuple a _, ⟨_, Heap.get?_push_size _ rfl, rfl, rfl⟩, fun b hb => ?_, q⟩
    have e : b = s1.heap.objs.size := by simpa using hb
    subst e
    exact I1.fpOk (Nat.le_refl _) (I1.hok.fresh (Nat.le_refl _))
end VS

/-! loops -/
namespace VS
open PySem PySem.Spec PyProof.Rows L2
variable {Θ : List (Addr × Str)}

/-! ### what is walked -/
def HoldT (K : PySem.W.Frag) (P : List Addr) (H : Hp) (ts : Tmp) : Prop := ∀ t ∈ ts, DV K P H t.d t.v t.F
theorem HoldT.evo {K : PySem.W.Frag} {P P' : List Addr} {H H' : Hp} {ts : Tmp} (e : Evo Θ P P' H H') (h : HoldT K P H ts) : HoldT K P' H' ts := fun t ht => (h t ht).evo e
def SrcOk (fp : Nat → List Addr) (env : Env) (Hs H : Hp) : List DP → Tmp → Prop
  | [], [] => True
  | x :: xs, t :: ts => t.d = x.1 ∧ POk fp env Hs H t.d t.F x.2 ∧ t.ex = false ∧ SrcOk fp env Hs H xs ts
  | _, _ => False
theorem src_of {K : PySem.W.Frag} {fp : Nat → List Addr} {env : Env} {Hs H : Hp} {P : List Addr} : ∀ {xs : List DP} {vs : List V} {Fs : List (List Addr)}, FinL K fp env Hs H P xs vs Fs → ∃ ts : Tmp, ts.map (·.v) = vs ∧ ts.map (·.F) = Fs ∧ HoldT K P H ts ∧ SrcOk fp env Hs H xs ts
  | [], [], [], _ => ⟨[], rfl, rfl, (fun t h => by cases h), trivial⟩
  | x :: xs, v :: vs, F :: Fs, h => by
    obtain ⟨ts, h1, h2, h3, h4⟩ := src_of h.2.2
    refine ⟨⟨x.1, v, F, false⟩ :: ts, by simp [h1], by simp [h2], fun t ht => ?_, rfl, h.2.1, rfl, h4⟩
    rcases List.mem_cons.mp ht with e | ht
    · subst e; exact h.1
    · exact h3 t ht
  | [], _ :: _, _, h => h.elim
  | [], [], _ :: _, h => h.elim
  | _ :: _, [], _, h => h.elim
  | _ :: _, _ :: _, [], h => h.elim
/-- the walk gives the items, while the sources are held -/
def WkD (K : PySem.W.Frag) (J : It) (items : List D) (ts : Tmp) : Prop :=
  Walk J items.length (fun H => ∃ P, HoldT K P H ts) (fun i H x H' => ∀ P, (∀ a ∈ P, H a ≠ none) → HoldT K P H ts → Same H H' ∧ ∃ d F, items[i]? = some d ∧ DV K P H' d x F)
def D.items : D → Option (List D)
  | .lst ds => some ds
  | .tup ds => some ds
  | .rol ds => some ds
  | _ => none
def D.sk : D → SK
  | .tup _ => .t
  | _ => .l
theorem DV.seq {K : PySem.W.Frag} {P : List Addr} {H : Hp} {d : D} {v : V} {F : List Addr} {ds : List D} (h : DV K P H d v F) (e : d.items = some ds) : ∃ a vs G, v = .ref a ∧ SqK K d.sk H a vs ∧ DVs K P H ds vs G := by
  cases d with
  | lst xs =>
    cases e
    obtain ⟨a, vs, G, rfl, h1, _, h2, _⟩ := h.lst_inv
    exact ⟨a, vs, G, rfl, .inl (.inl h1), h2⟩
  | tup xs =>
    cases e
    obtain ⟨a, vs, rfl, h1, h2⟩ := h.tup_inv
    exact ⟨a, vs, F, rfl, h1, h2⟩
  | rol xs =>
    cases e
    obtain ⟨a, vs, rfl, h1, h2⟩ := h.rol_inv
    exact ⟨a, vs, F, rfl, h1, h2⟩
  | _ => cases e
theorem DV.seqA {K : PySem.W.Frag} {P : List Addr} {H : Hp} {d : D} {a : Addr} {F : List Addr} {ds : List D} (h : DV K P H d (.ref a) F) (e : d.items = some ds) : ∃ vs G, SqK K d.sk H a vs ∧ DVs K P H ds vs G := by
  obtain ⟨b, vs, G, h1, h2, h3⟩ := h.seq e
  cases h1
  exact ⟨vs, G, h2, h3⟩
abbrev VIt := Env → (List D → List DP → Prop) → Prop
def liftI (K : PySem.W.Frag) (R : RC) (c : Nat) (t : VIt) : TI := fun σ H Q => ∃ env P fp T r, Rep K R env σ H P fp T ∧ Pots (c + r) P H ∧
  t env fun items srcs => ∀ J H' P' ts, Evo R.T P P' H H' → Pots r P' H' → HoldT K P' H' ts → SrcOk fp env H H' srcs ts → (freshF srcs (ts.map (·.F))).Nodup → WkD K J items ts → Q J H'
structure VI (X : Cx) (R : RC) (c : Nat) (tg iter : Expr) (t : VIt) : Prop where
  mono : ∀ env (Q Q' : List D → List DP → Prop), (∀ a b, Q a b → Q' a b) → t env Q → t env Q'
  run : PI X tg iter (liftI X.K R c t)
theorem PI.imp {X : Cx} {tg it : Expr} {t t' : TI} (h : PI X tg it t) (hi : ∀ σ H Q, t' σ H Q → t σ H Q) : PI X tg it t' := ⟨fun pins s σ H Q I q => h.run pins s σ H Q I (hi σ H Q q)⟩
section
variable {X : Cx} {R : RC} {pos p : Pos} {tg e : Expr} {es : List Expr} {te : VT} {u : VA} {c : Nat}
/-- a list or a tuple itself -/
def viSeq (te : VT) : VIt := fun env Q => te env fun d p => ∃ ds, d.items = some ds ∧ Q ds [(d, p)]
theorem walk_seq {K : PySem.W.Frag} {d : D} {ds : List D} {a : Addr} {F : List Addr} {ex : Bool} (e : d.items = some ds) (k : SK) (hk : d.sk = k) : WkD K (match k with | .l => Itl K a | .t => Itt K a) ds [⟨d, .ref a, F, ex⟩] := by
  have hh : ∀ {P H}, HoldT K P H [⟨d, .ref a, F, ex⟩] → ∃ vs G, SqK K k H a vs ∧ DVs K P H ds vs G := fun {P H} h => by
    rw [← hk]; exact DV.seqA (h ⟨d, .ref a, F, ex⟩ (by simp)) e
  cases k with
  | l =>
    refine ⟨fun i H hi ⟨P, h⟩ => ?_, fun H ⟨P, h⟩ => ?_, fun i H x H' hi _ y P hp h => ?_⟩
    · obtain ⟨vs, G, h1, h2⟩ := hh h
      have hl := h2.length
      exact ⟨vs, vs[i]'(by omega), h1, by simp [show i < vs.length by omega]⟩
    · obtain ⟨vs, G, h1, h2⟩ := hh h
      exact ⟨vs, h1, by rw [← h2.length]; exact Nat.le_refl _⟩
    · obtain ⟨vs, G, h1, h2⟩ := hh h
      obtain ⟨rfl, y⟩ := y
      obtain ⟨dd, G', q1, q2, _⟩ := h2.get (y vs h1)
      exact ⟨fun _ _ h => h, dd, G', q1, q2⟩
  | t =>
    refine ⟨fun i H hi ⟨P, h⟩ => ?_, fun H ⟨P, h⟩ => ?_, fun i H x H' hi _ y P hp h => ?_⟩
    · obtain ⟨vs, G, h1, h2⟩ := hh h
      have hl := h2.length
      exact ⟨vs, vs[i]'(by omega), h1, by simp [show i < vs.length by omega]⟩
    · obtain ⟨vs, G, h1, h2⟩ := hh h
      exact ⟨vs, h1, by rw [← h2.length]; exact Nat.le_refl _⟩
    · obtain ⟨vs, G, h1, h2⟩ := hh h
      obtain ⟨rfl, y⟩ := y
      obtain ⟨dd, G', q1, q2, _⟩ := h2.get (y vs h1)
      exact ⟨fun _ _ h => h, dd, G', q1, q2⟩
theorem vi_seq (h : VE X R c e te) : VI X R c tg e (viSeq te) where
  mono := fun env Q Q' hq q => h.mono _ _ _ (fun d p ⟨ds, e, q⟩ => ⟨ds, e, hq _ _ q⟩) q
  run := PI.imp (pi_seq h.run) fun σ H Q ⟨env, P, fp, T, r, rep, pots, q⟩ => by
    refine ⟨env, P, fp, T, r, rep, pots, h.mono _ _ _ (fun d p ⟨ds, e, q⟩ => ?_) q⟩
    intro v H' P' e' pots' ⟨F, dv, pk⟩
    obtain ⟨a, vs, G, rfl, h1, h2⟩ := dv.seq e
    refine ⟨a, rfl, ?_⟩
    have ht : HoldT X.K P' H' [⟨d, .ref a, F, false⟩] := fun t ht => by
      rw [List.mem_singleton] at ht
      subst ht; exact dv
    have hs : SrcOk fp env H H' [(d, p)] [⟨d, .ref a, F, false⟩] := ⟨rfl, pk, rfl, trivial⟩
    have hn : (freshF [(d, p)] [F]).Nodup := by
      cases p with
      | fresh => simpa [freshF, frOf] using pk.1
      | all i => simp [freshF, frOf]
      | sub i => simp [freshF, frOf]
      | any => simp [freshF, frOf]
    cases hk : d.sk with
    | l =>
      rw [hk] at h1
      exact .inl ⟨vs, h1, q (Itl X.K a) H' P' [⟨d, .ref a, F, false⟩] e' pots' ht hs hn (walk_seq e .l hk)⟩
    | t =>
      rw [hk] at h1
      exact .inr ⟨vs, h1, q (Itt X.K a) H' P' [⟨d, .ref a, F, false⟩] e' pots' ht hs hn (walk_seq e .t hk)⟩
/-- enumerate -/
def enumD : Nat → List D → List D
  | _, [] => []
  | n, d :: ds => .tup [.int (n : Nat), d] :: enumD (n + 1) ds
theorem enumD_length : ∀ (n : Nat) (ds : List D), (enumD n ds).length = ds.length
  | _, [] => rfl
  | n, _ :: ds => congrArg (· + 1) (enumD_length (n + 1) ds)
theorem enumD_get : ∀ (n i : Nat) (ds : List D), (enumD n ds)[i]? = (ds[i]?).map fun d => .tup [.int ((n + i : Nat) : Int), d]
  | n, i, [] => by simp [enumD]
  | n, 0, d :: ds => by simp [enumD]
  | n, i + 1, d :: ds => by
    have := enumD_get (n + 1) i ds
    simp only [enumD, List.getElem?_cons_succ, this]
    have e : n + 1 + i = n + (i + 1) := by omega
    rw [e]
def viEnum (u : VA) : VIt := fun env Q => u env fun xs => ∃ d p ds, xs = [(d, p)] ∧ d.items = some ds ∧ Q (enumD 0 ds) [(d, p)]
theorem fin_src {K : PySem.W.Frag} {fp : Nat → List Addr} {env : Env} {Hs H : Hp} {P : List Addr} {xs : List DP} {vs : List V} (f : FinA K fp env Hs H P xs vs) : ∃ ts : Tmp, ts.map (·.v) = vs ∧ HoldT K P H ts ∧ SrcOk fp env Hs H xs ts ∧ (freshF xs (ts.map (·.F))).Nodup := by
  obtain ⟨Fs, h1, h2⟩ := f
  obtain ⟨ts, q1, q2, q3, q4⟩ := src_of h1
  exact ⟨ts, q1, q3, q4, by rw [q2]; exact h2⟩
theorem walk_enumK {K : PySem.W.Frag} {k : SK} {d : D} {ds : List D} {a : Addr} {F : List Addr} {ex : Bool} (e : d.items = some ds) (hk : d.sk = k) : WkD K (IteK K k a) (enumD 0 ds) [⟨d, .ref a, F, ex⟩] := by
  have hh : ∀ {P H}, HoldT K P H [⟨d, .ref a, F, ex⟩] → ∃ vs G, SqK K k H a vs ∧ DVs K P H ds vs G := fun {P H} h => by
    rw [← hk]; exact DV.seqA (h ⟨d, .ref a, F, ex⟩ (by simp)) e
  refine ⟨fun i H hi ⟨P, h⟩ => ?_, fun H ⟨P, h⟩ => ?_, fun i H x H' hi _ y P hp h => ?_⟩
  · obtain ⟨vs, G, h1, h2⟩ := hh h
    have hl := h2.length
    rw [enumD_length] at hi
    exact ⟨vs, vs[i]'(by omega), h1, by simp [show i < vs.length by omega]⟩
  · obtain ⟨vs, G, h1, h2⟩ := hh h
    exact ⟨vs, h1, by rw [enumD_length, ← h2.length]⟩
  · obtain ⟨vs, G, h1, h2⟩ := hh h
    obtain ⟨A, x0, rfl, hn, rfl, y⟩ := y
    obtain ⟨dd, G', q1, q2, _⟩ := h2.get (y vs h1)
    have hm : (enumD 0 ds)[i]? = some (.tup [.int (i : Nat), dd]) := by rw [enumD_get, q1]; simp
    exact ⟨same_upd hn, _, _, hm, .tup ⟨upd_same, fun hP => hp A hP hn⟩ (.cons (.int _) (.cons (q2.evoU hn) .nil))⟩
theorem vi_enum {tpos : Pos} {elts : List Expr} {kk : Nat} (h : VL X R c [e] u) (hm : X.mg "enumerate" = none) (hg : Gl X "enumerate" := by rfl) (hs : starEach [e] X.env = [(false, eval e X.env)] := by rfl) :
    VI X R c (.Tuple elts kk tpos) (.Call (.Name "enumerate" p) [e] [] pos) (viEnum u) where
  mono := fun env Q Q' hq q => h.mono _ _ _ (fun xs ⟨d, p, ds, e1, e2, q⟩ => ⟨d, p, ds, e1, e2, hq _ _ q⟩) q
  run := PI.imp (pi_enumK hg hm h.run hs) fun σ H Q ⟨env, P, fp, T, r, rep, pots, q⟩ => by
    refine ⟨env, P, fp, T, r, rep, pots, h.mono _ _ _ (fun xs ⟨d, p, ds, e1, e2, q⟩ => ?_) q⟩
    intro vs H' P' e' pots' f
    subst e1
    obtain ⟨v, rfl, ⟨F, dv, pk⟩⟩ := f.one
    obtain ⟨a, ws, G, rfl, h1, h2⟩ := dv.seq e2
    obtain ⟨ts, t1, t2, t3, t4⟩ := fin_src f
    have e3 : ∃ F, ts = [⟨d, .ref a, F, false⟩] := by
      cases ts with
      | nil => simp at t1
      | cons t ts =>
        cases ts with
        | nil =>
          obtain ⟨d', v', F', ex⟩ := t
          obtain ⟨k1, _, k2, _⟩ := t3
          simp only [List.map_cons, List.map_nil, List.cons.injEq, and_true] at t1
          dsimp only at k1 k2
          exact ⟨F', by rw [k1, k2, t1]⟩
        | cons _ _ => simp at t1
    obtain ⟨F, rfl⟩ := e3
    exact ⟨d.sk, a, ws, rfl, h1, q _ H' P' _ e' pots' t2 t3 t4 (walk_enumK e2 rfl)⟩
/-- zip of two -/
def zipD : List D → List D → List D
  | a :: as, b :: bs => .tup [a, b] :: zipD as bs
  | _, _ => []
theorem zipD_length : ∀ (as bs : List D), (zipD as bs).length = min as.length bs.length
  | [], _ => by simp [zipD]
  | _ :: _, [] => by simp [zipD]
  | a :: as, b :: bs => by simp only [zipD, List.length_cons, zipD_length as bs]; omega
theorem zipD_get : ∀ (i : Nat) (as bs : List D) (a b : D), as[i]? = some a → bs[i]? = some b → (zipD as bs)[i]? = some (.tup [a, b])
  | _, [], _, _, _, h, _ => by simp at h
  | _, _ :: _, [], _, _, _, h => by simp at h
  | 0, a :: as, b :: bs, _, _, h, g => by
    simp at h g
    subst h g
    simp [zipD]
  | i + 1, a :: as, b :: bs, _, _, h, g => by
    simp only [List.getElem?_cons_succ] at h g
    simp only [zipD, List.getElem?_cons_succ]
    exact zipD_get i as bs _ _ h g
def viZip (u : VA) : VIt := fun env Q => u env fun xs => ∃ d p d2 p2 ds ds2, xs = [(d, p), (d2, p2)] ∧ d.items = some ds ∧ d2.items = some ds2 ∧ Q (zipD ds ds2) [(d, p), (d2, p2)]
theorem walk_zipK {K : PySem.W.Frag} {k k2 : SK} {d d2 : D} {ds ds2 : List D} {a b : Addr} {F F2 : List Addr} {ex ex2 : Bool} (e : d.items = some ds) (e2 : d2.items = some ds2) (hk : d.sk = k) (hk2 : d2.sk = k2) : WkD K (ItzK K k k2 a b) (zipD ds ds2) [⟨d, .ref a, F, ex⟩, ⟨d2, .ref b, F2, ex2⟩] := by
  have hh : ∀ {P H}, HoldT K P H [⟨d, .ref a, F, ex⟩, ⟨d2, .ref b, F2, ex2⟩] → (∃ vs G, SqK K k H a vs ∧ DVs K P H ds vs G) ∧ ∃ vs G, SqK K k2 H b vs ∧ DVs K P H ds2 vs G := fun {P H} h => by
    rw [← hk, ← hk2]; exact ⟨DV.seqA (h ⟨d, .ref a, F, ex⟩ (by simp)) e, DV.seqA (h ⟨d2, .ref b, F2, ex2⟩ (by simp)) e2⟩
  refine ⟨fun i H hi ⟨P, h⟩ => ?_, fun H ⟨P, h⟩ => ?_, fun i H x H' hi _ y P hp h => ?_⟩
  · obtain ⟨⟨vs, G, h1, h2⟩, ⟨ws, G2, g1, g2⟩⟩ := hh h
    have hl := h2.length
    have hl2 := g2.length
    rw [zipD_length] at hi
    exact ⟨vs, ws, vs[i]'(by omega), ws[i]'(by omega), h1, g1, by simp [show i < vs.length by omega], by simp [show i < ws.length by omega]⟩
  · obtain ⟨⟨vs, G, h1, h2⟩, ⟨ws, G2, g1, g2⟩⟩ := hh h
    exact ⟨vs, ws, h1, g1, by rw [zipD_length, ← h2.length, ← g2.length]⟩
  · obtain ⟨⟨vs, G, h1, h2⟩, ⟨ws, G2, g1, g2⟩⟩ := hh h
    obtain ⟨A, x0, y0, rfl, hn, rfl, y1, y2⟩ := y
    obtain ⟨dd, G', q1, q2, _⟩ := h2.get (y1 vs h1)
    obtain ⟨de, G3, r1, r2, _⟩ := g2.get (y2 ws g1)
    exact ⟨same_upd hn, _, _, zipD_get i ds ds2 _ _ q1 r1, .tup ⟨upd_same, fun hP => hp A hP hn⟩ (.cons (q2.evoU hn) (.cons (r2.evoU hn) .nil))⟩
theorem vi_zip {tpos : Pos} {elts : List Expr} {kk : Nat} {e2 : Expr} (h : VL X R c [e, e2] u) (hm : X.mg "zip" = none) (hg : Gl X "zip" := by rfl) (hs : starEach [e, e2] X.env = (false, eval e X.env) :: starEach [e2] X.env := by rfl) (hpl : (backTo pos (starEach [e2] X.env)).any (·.1) = false := by rfl) :
    VI X R c (.Tuple elts kk tpos) (.Call (.Name "zip" p) [e, e2] [] pos) (viZip u) where
  mono := fun env Q Q' hq q => h.mono _ _ _ (fun xs ⟨d, p, d2, p2, ds, ds2, e1, e2, e3, q⟩ => ⟨d, p, d2, p2, ds, ds2, e1, e2, e3, hq _ _ q⟩) q
  run := PI.imp (pi_zipK hg hm h.run hs hpl) fun σ H Q ⟨env, P, fp, T, r, rep, pots, q⟩ => by
    refine ⟨env, P, fp, T, r, rep, pots, h.mono _ _ _ (fun xs ⟨d, p, d2, p2, ds, ds2, e1, e2, e3, q⟩ => ?_) q⟩
    intro vs H' P' e' pots' f
    subst e1
    obtain ⟨v, w, rfl, ⟨F, dv, pk⟩, ⟨F2, dv2, pk2⟩⟩ := f.two
    obtain ⟨a, ws, G, rfl, h1, h2⟩ := dv.seq e2
    obtain ⟨b, ws2, G2, rfl, g1, g2⟩ := dv2.seq e3
    obtain ⟨ts, t1, t2, t3, t4⟩ := fin_src f
    have e3' : ∃ F F2, ts = [⟨d, .ref a, F, false⟩, ⟨d2, .ref b, F2, false⟩] := by
      cases ts with
      | nil => simp at t1
      | cons t ts =>
        cases ts with
        | nil => simp at t1
        | cons t' ts =>
          cases ts with
          | cons _ _ => simp at t1
          | nil =>
            obtain ⟨d', v', F', ex⟩ := t
            obtain ⟨d'', v'', F'', ex'⟩ := t'
            obtain ⟨k1, _, k2, k3, _, k4, _⟩ := t3
            simp only [List.map_cons, List.map_nil, List.cons.injEq, and_true] at t1
            dsimp only at k1 k2 k3 k4
            exact ⟨F', F'', by rw [k1, k2, k3, k4, t1.1, t1.2]⟩
    obtain ⟨F, F2, rfl⟩ := e3'
    exact ⟨d.sk, d2.sk, a, b, ws, ws2, rfl, h1, g1, q _ H' P' _ e' pots' t2 t3 t4 (walk_zipK e2 e3 rfl rfl)⟩
/-- range -/
def rngD (lo c : Int) : Nat → List D
  | 0 => []
  | n + 1 => .int lo :: rngD (lo + c) c n
theorem rngD_length : ∀ (lo c : Int) (n : Nat), (rngD lo c n).length = n
  | _, _, 0 => rfl
  | lo, c, n + 1 => congrArg (· + 1) (rngD_length (lo + c) c n)
theorem rngD_get : ∀ (lo c : Int) (n i : Nat), i < n → (rngD lo c n)[i]? = some (.int (lo + (i : Nat) * c))
  | _, _, 0, _, h => by omega
  | lo, c, n + 1, 0, _ => by simp [rngD]
  | lo, c, n + 1, i + 1, h => by
    simp only [rngD, List.getElem?_cons_succ]
    rw [rngD_get (lo + c) c n i (by omega)]
    congr 2
    rw [show ((i + 1 : Nat) : Int) = (i : Int) + 1 by omega, Int.add_mul, Int.one_mul]
    omega
def viRng1 (u : VA) : VIt := fun env Q => u env fun xs => ∃ j : Int, ∃ p, xs = [(.int j, p)] ∧ -(2 ^ 62) ≤ j ∧ j < 2 ^ 62 ∧ Q (rngD 0 1 j.toNat) []
def viRng2 (u : VA) : VIt := fun env Q => u env fun xs => ∃ i j : Int, ∃ p p2, xs = [(.int i, p), (.int j, p2)] ∧ (-(2 ^ 62) ≤ i ∧ i < 2 ^ 62 ∧ -(2 ^ 62) ≤ j ∧ j < 2 ^ 62) ∧ Q (rngD i 1 (j - i).toNat) []
/-- downwards -/
def viRngD (u : VA) : VIt := fun env Q => u env fun xs => ∃ i j : Int, ∃ p p2 p3, xs = [(.int i, p), (.int j, p2), (.int (-1), p3)] ∧ (-(2 ^ 62) ≤ i ∧ i < 2 ^ 62 ∧ -(2 ^ 62) ≤ j ∧ j < 2 ^ 62) ∧ Q (rngD i (-1) (i - j).toNat) []
/-- by a step -/
def viRng3 (u : VA) : VIt := fun env Q => u env fun xs => ∃ i j c : Int, ∃ n : Nat, ∃ p p2 p3, xs = [(.int i, p), (.int j, p2), (.int c, p3)] ∧ RgC i j c n ∧ Q (rngD i c n) []
theorem walk_rng1 {K : PySem.W.Frag} {lo : Int} {n : Nat} : WkD K (Itr lo n) (rngD lo 1 n) [] := by
  refine ⟨fun i H hi _ => by rw [rngD_length] at hi; exact hi, fun H _ => by rw [rngD_length]; exact Nat.le_refl _, fun i H x H' hi _ y P hp h => ?_⟩
  obtain ⟨rfl, rfl⟩ := y
  rw [rngD_length] at hi
  exact ⟨fun _ _ h => h, _, _, rngD_get lo 1 n i hi, by rw [Int.mul_one]; exact .int _⟩
theorem walk_rngC {K : PySem.W.Frag} {lo c : Int} {n : Nat} : WkD K (Itc lo c n) (rngD lo c n) [] := by
  refine ⟨fun i H hi _ => by rw [rngD_length] at hi; exact hi, fun H _ => by rw [rngD_length]; exact Nat.le_refl _, fun i H x H' hi _ y P hp h => ?_⟩
  obtain ⟨rfl, rfl⟩ := y
  rw [rngD_length] at hi
  exact ⟨fun _ _ h => h, _, _, rngD_get lo c n i hi, .int _⟩
theorem vi_rng1 (h : VL X R c [e] u) (hm : X.mg "range" = none) (hg : Gl X "range" := by rfl) (hs : starEach [e] X.env = [(false, eval e X.env)] := by rfl) : VI X R c tg (.Call (.Name "range" p) [e] [] pos) (viRng1 u) where
  mono := fun env Q Q' hq q => h.mono _ _ _ (fun xs ⟨j, p, e1, a, b, q⟩ => ⟨j, p, e1, a, b, hq _ _ q⟩) q
  run := PI.imp (pi_range1 hg hm h.run hs) fun σ H Q ⟨env, P, fp, T, r, rep, pots, q⟩ => by
    refine ⟨env, P, fp, T, r, rep, pots, h.mono _ _ _ (fun xs ⟨j, p, e1, a, b, q⟩ => ?_) q⟩
    intro vs H' P' e' pots' f
    subst e1
    obtain ⟨v, rfl, f1⟩ := f.one
    obtain rfl := f1.int_inv
    exact ⟨j, rfl, a, b, q _ H' P' [] e' pots' (fun t h => by cases h) trivial List.nodup_nil walk_rng1⟩
theorem vi_rng2 {e2 : Expr} (h : VL X R c [e, e2] u) (hm : X.mg "range" = none) (hg : Gl X "range" := by rfl) (hs : starEach [e, e2] X.env = [(false, eval e X.env), (false, eval e2 X.env)] := by rfl) (hs2 : starEach [e2] X.env = [(false, eval e2 X.env)] := by rfl) : VI X R c tg (.Call (.Name "range" p) [e, e2] [] pos) (viRng2 u) where
  mono := fun env Q Q' hq q => h.mono _ _ _ (fun xs ⟨i, j, p, p2, e1, a, q⟩ => ⟨i, j, p, p2, e1, a, hq _ _ q⟩) q
  run := PI.imp (pi_range2 hg hm h.run hs hs2) fun σ H Q ⟨env, P, fp, T, r, rep, pots, q⟩ => by
    refine ⟨env, P, fp, T, r, rep, pots, h.mono _ _ _ (fun xs ⟨i, j, p, p2, e1, a, q⟩ => ?_) q⟩
    intro vs H' P' e' pots' f
    subst e1
    obtain ⟨v, w, rfl, f1, f2⟩ := f.two
    obtain rfl := f1.int_inv
    obtain rfl := f2.int_inv
    exact ⟨i, j, rfl, a, q _ H' P' [] e' pots' (fun t h => by cases h) trivial List.nodup_nil walk_rng1⟩
theorem vi_rng3 {e2 e3 : Expr} (h : VL X R c [e, e2, e3] u) (hm : X.mg "range" = none) (hg : Gl X "range" := by rfl) (hs : starEach [e, e2, e3] X.env = (false, eval e X.env) :: starEach [e2, e3] X.env := by rfl) (hpl : (backTo pos (starEach [e2, e3] X.env)).any (·.1) = false := by rfl) : VI X R c tg (.Call (.Name "range" p) [e, e2, e3] [] pos) (viRng3 u) where
  mono := fun env Q Q' hq q => h.mono _ _ _ (fun xs ⟨i, j, c, n, p, p2, p3, e1, a, q⟩ => ⟨i, j, c, n, p, p2, p3, e1, a, hq _ _ q⟩) q
  run := PI.imp (pi_range3 hg hm h.run hs hpl) fun σ H Q ⟨env, P, fp, T, r, rep, pots, q⟩ => by
    refine ⟨env, P, fp, T, r, rep, pots, h.mono _ _ _ (fun xs ⟨i, j, c, n, p, p2, p3, e1, a, q⟩ => ?_) q⟩
    intro vs H' P' e' pots' f
    subst e1
    obtain ⟨v, ws, rfl, f1, f2⟩ := f.cons_inv
    obtain ⟨w, z, rfl, f3, f4⟩ := f2.two
    obtain rfl := f1.int_inv
    obtain rfl := f3.int_inv
    obtain rfl := f4.int_inv
    exact ⟨i, j, c, n, rfl, a, q _ H' P' [] e' pots' (fun t h => by cases h) trivial List.nodup_nil walk_rngC⟩
theorem vi_rngD {e2 e3 : Expr} (h : VL X R c [e, e2, e3] u) (hm : X.mg "range" = none) (hg : Gl X "range" := by rfl) (hs : starEach [e, e2, e3] X.env = (false, eval e X.env) :: starEach [e2, e3] X.env := by rfl) (hpl : (backTo pos (starEach [e2, e3] X.env)).any (·.1) = false := by rfl) : VI X R c tg (.Call (.Name "range" p) [e, e2, e3] [] pos) (viRngD u) where
  mono := fun env Q Q' hq q => h.mono _ _ _ (fun xs ⟨i, j, p, p2, p3, e1, a, q⟩ => ⟨i, j, p, p2, p3, e1, a, hq _ _ q⟩) q
  run := PI.imp (vi_rng3 (tg := tg) h hm hg hs hpl).run fun σ H Q ⟨env, P, fp, T, r, rep, pots, q⟩ => by
    refine ⟨env, P, fp, T, r, rep, pots, h.mono _ _ _ (fun xs ⟨i, j, p, p2, p3, e1, ⟨a1, a2, a3, a4⟩, q⟩ => ⟨i, j, -1, _, p, p2, p3, e1, RgC.neg a1 a2 a3 a4, q⟩) q⟩
end
end VS

namespace VS
open PySem PySem.Spec PyProof.Rows L2
variable {Θ : List (Addr × Str)}

/-! ### comprehensions -/
def wipeE (env : Env) : List Nat → Env
  | [] => env
  | v :: vs => (wipeE env vs).set v none
theorem wipeE_length (env : Env) : ∀ vs, (wipeE env vs).length = env.length
  | [] => rfl
  | v :: vs => by unfold wipeE; rw [List.length_set, wipeE_length env vs]
theorem wipeE_some {env : Env} {i : Nat} {x : Fl × D} : ∀ {vs : List Nat}, (wipeE env vs)[i]? = some (some x) → env[i]? = some (some x) ∧ i ∉ vs
  | [], h => ⟨h, by simp⟩
  | v :: vs, h => by
    unfold wipeE at h
    by_cases hi : v = i
    · subst hi
      by_cases hv : v < (wipeE env vs).length
      · rw [List.getElem?_set_self hv] at h; cases h
      · rw [List.getElem?_eq_none (by simpa using hv)] at h; cases h
    · rw [List.getElem?_set_ne hi] at h
      obtain ⟨h1, h2⟩ := wipeE_some h
      exact ⟨h1, by simp only [List.mem_cons, not_or]; exact ⟨fun e => hi e.symm, h2⟩⟩
theorem wipe_none {σ : L2.St} {i : Nat} : ∀ {vs : List Nat}, i ∈ vs → i < σ.length → (wipe σ vs)[i]? = some none
  | [], h, _ => by cases h
  | v :: vs, h, hl => by
    unfold wipe
    by_cases e : v = i
    · subst e
      rw [List.getElem?_set_self (by rw [wipe_length]; exact hl)]
    · rw [List.getElem?_set_ne e]
      rcases List.mem_cons.mp h with q | q
      · exact absurd q.symm e
      · exact wipe_none q hl
theorem wipe_again {σ σ2 : L2.St} {is vs : List Nat} (hs : ∀ i ∈ is, i ∈ vs) (o : Out is (wipe σ vs) σ2) : wipe σ2 vs = wipe σ vs := by
  have hl : σ2.length = σ.length := by rw [o.1, wipe_length]
  apply List.ext_getElem?
  intro i
  by_cases hi : i ∈ vs
  · by_cases hl2 : i < σ.length
    · rw [wipe_none hi hl2, wipe_none hi (by omega)]
    · rw [List.getElem?_eq_none (by rw [wipe_length]; omega), List.getElem?_eq_none (by rw [wipe_length]; omega)]
  · rw [wipe_out hi, wipe_out hi, o.2 i (fun h => hi (hs i h)), wipe_out hi]
theorem Rep.wipe {K : PySem.W.Frag} {R : RC} {env : Env} {σ : L2.St} {H : Hp} {P : List Addr} {fp : Nat → List Addr} {T : Tmp} (r : Rep K R env σ H P fp T) (vs : List Nat) : Rep K R (wipeE env vs) (wipe σ vs) H P fp T where
  len := by rw [wipeE_length, wipe_length]; exact r.len
  base := r.base
  tab := r.tab
  slot := fun i f d h => by
    obtain ⟨h1, h2⟩ := wipeE_some h
    obtain ⟨v, h3, h4⟩ := r.slot i f d h1
    exact ⟨v, by rw [wipe_out h2]; exact h3, h4⟩
  own := fun i d h => r.own i d (wipeE_some h).1
  dis := fun i j d e hij h1 h2 => r.dis i j d e hij (wipeE_some h1).1 (wipeE_some h2).1
  lck := fun i d h => r.lck i d (wipeE_some h).1
  tmp := r.tmp
  tds := fun t ht i d h => r.tds t ht i d (wipeE_some h).1
  tex := r.tex
  tdj := r.tdj
/-- the tests of a clause -/
structure VTs (X : Cx) (R : RC) (c : Nat) (ifs : List Expr) (t : VB) : Prop where
  mono : MonoB t
  run : PTs X ifs (liftB X.K R c t)
theorem PTs.imp {X : Cx} {e : List Expr} {t t' : TT} (h : PTs X e t) (hi : ∀ σ H Q, t' σ H Q → t σ H Q) : PTs X e t' := ⟨fun pins s σ H Q I q => h.run pins s σ H Q I (hi σ H Q q)⟩
def vYes : VB := fun _ Q => Q true
theorem vts_nil {X : Cx} {R : RC} : VTs X R 0 [] vYes := ⟨fun _ _ _ h q => h _ q, PTs.imp pts_nil fun σ H Q ⟨env, P, fp, T, r, rep, pots, q⟩ => q H P Evo.refl (pots.le (by omega))⟩
theorem vts_one {X : Cx} {R : RC} {c : Nat} {e : Expr} {t : VB} (h : VC X R c e t) : VTs X R c [e] t := ⟨h.mono, pts_one h.run⟩
/-- what may be put into a new list -/
def okIn (d : D) (p : Prov) : Bool := match p with | .fresh => true | _ => d.imm
/-- I: by the turn, what has been gathered -/
def vLc (u : VIt) (g : VGt) (tt : VB) (te : VT) (vs : List Nat) : VT := fun env Q => u env fun items srcs => items.length ≤ SZ ∧ ∃ I : Nat → List D → Prop, I 0 [] ∧
  (∀ i d acc, items[i]? = some d → I i acc → g (d, .any) (wipeE env vs) fun e2 => tt e2 fun b => if b = true then te e2 fun y p => okIn y p = true ∧ I (i + 1) (acc ++ [y]) else I (i + 1) acc) ∧
  ∀ acc, I items.length acc → acc.length ≤ items.length → Q (.lst acc) .fresh
theorem Evo.out {P P' : List Addr} {H H' : Hp} {a : Addr} {o : HO} (e : Evo Θ P P' H H') (h : H a = none) (hn : (∀ ps, H' a ≠ some (.tbl ps)) ∧ ∀ q, H' a ≠ some (LamX.CodeO a q)) : Evo Θ P P' H (L2.upd H' a o) where
  keep := fun b u q n nt => by rw [upd_ne (ne_of_none q h)]; exact e.keep b u q n nt
  tab := fun b q t => tabS_upd (e.tab b q t) hn.1 hn.2
  there := fun b q => by
    by_cases z : b = a
    · subst z; exact absurd h q
    · rw [upd_ne z]; exact e.there b q
  sub := e.sub
  new := e.new
theorem Live.upd {H : Hp} {a b : Addr} {o : HO} (n : b ≠ a) (h : Live H b) : Live (L2.upd H a o) b := let ⟨u, h1, h2⟩ := h; ⟨u, by rw [upd_ne n]; exact h1, h2⟩
theorem pots_at {K : PySem.W.Frag} {n : Nat} {P : List Addr} {H : Hp} (p : Pots n P H) {a : Addr} (h : H a = some (.lst [])) : a ∉ P := fun ha => by
  obtain ⟨x, y, c, h1, _⟩ := p.2 a ha
  rw [h] at h1; cases h1
theorem mul_le {n i c r : Nat} (h : i < n) : c + ((n - (i + 1)) * c + r) = (n - i) * c + r := by
  have e : n - i = (n - (i + 1)) + 1 := by omega
  rw [e, Nat.add_mul, Nat.one_mul]
  omega
section
variable {X : Cx} {R : RC} {pos p : Pos} {tg e iter elt : Expr} {ifs : List Expr} {te : VT} {u : VIt} {g : VGt} {tt : VB} {is : List Nat} {ci ct ce : Nat}
theorem mono_lc (hi : ∀ env (Q Q' : List D → List DP → Prop), (∀ a b, Q a b → Q' a b) → u env Q → u env Q') {vs : List Nat} : MonoE (vLc u g tt te vs) := fun env Q Q' hq q => hi _ _ _ (fun items srcs ⟨h1, I, h2, h3, h4⟩ => ⟨h1, I, h2, h3, fun acc a b => hq _ _ (h4 acc a b)⟩) q
theorem lc_imp {vs : List Nat} (hs : ∀ i ∈ is, i ∈ vs) (hi : ∀ env (Q Q' : List D → List DP → Prop), (∀ a b, Q a b → Q' a b) → u env Q → u env Q') (hg : ∀ x env (Q Q' : Env → Prop), (∀ e, Q e → Q' e) → g x env Q → g x env Q') (ht : MonoB tt) (he : MonoE te) (σ : L2.St) (H : Hp) (Q : L2.VK)
    (h : liftE X.K R (ci + SZ * (ct + ce)) (vLc u g tt te vs) σ H Q) : tLc (liftI X.K R ci u) (liftG X.K R is g) (liftB X.K R ct tt) (liftE X.K R ce te) vs σ H Q := by
  obtain ⟨env, P, fp, T, r, rep, pots, q⟩ := h
  refine ⟨env, P, fp, T, SZ * (ct + ce) + r, rep, by rw [← Nat.add_assoc]; exact pots, hi _ _ _ (fun items srcs ⟨hsz, I, hI0, hIs, hId⟩ => ?_) q⟩
  intro J H1 P1 ts e1 pots1 hts hsrc hnd wk D hD
  have hD0 : H D = none := e1.fresh hD
  have hpots1 : Pots ((items.length - 0) * (ct + ce) + r) P1 H1 := pots1.le (Nat.add_le_add_right (Nat.mul_le_mul_right _ (by omega)) _)
  refine lc_it wk (fun i Hc => i ≤ items.length ∧ ∃ acc vs F P', I i acc ∧ acc.length ≤ i ∧ Evo R.T P1 P' H1 Hc ∧ Hc D = some (.lst vs) ∧ D ∉ P' ∧ DVs X.K P' Hc acc vs F ∧ D ∉ F ∧ F.Nodup ∧ (∀ a ∈ F, H1 a = none ∧ Live Hc a) ∧ Pots ((items.length - i) * (ct + ce) + r) P' Hc) ?_ ?_ ?_ ?_
  · exact ⟨Nat.zero_le _, [], [], [], P1, hI0, Nat.le_refl _, Evo.upd hD, upd_same, fun hp => hpots1.some D hp hD, .nil, by simp, List.nodup_nil, (fun a ha => by cases ha), hpots1.updN hD⟩
  · rintro i Hc _ ⟨_, acc, vs', F, P', _, _, ev, _⟩
    exact ⟨P', hts.evo ev⟩
  · rintro i x Hc H' hlt ⟨_, acc, vs', F, P', hI, hlen, ev, hDc, hDP, dvs, hDF, hnF, hF, pc⟩ y
    obtain ⟨ey0, d, Fd, hd, dvx⟩ := y P' pc.some (hts.evo ev)
    have ey : Evo R.T P' P' Hc H' := Evo.same ey0
    have ev' : Evo R.T P1 P' H1 H' := ev.trans ey
    have rep1 : Rep X.K R (wipeE env vs) (wipe σ vs) H' P' fp T := (rep.evo (e1.trans ev')).wipe vs
    refine ⟨wipeE env vs, P', fp, T, (d, .any), Fd, rep1, dvx, trivial, hg _ _ _ _ (fun e2 q2 => ?_) (hIs i d acc hd hI)⟩
    intro σ2 fp2 ho rep2
    refine ⟨wipe_again hs ho, e2, P', fp2, T, ce + ((items.length - (i + 1)) * (ct + ce) + r), rep2, ?_, ht _ _ _ (fun b q3 => ?_) q2⟩
    · rw [← Nat.add_assoc, mul_le hlt]; exact pc.same ey0
    · intro H3 P3 e3 pots3
      have ec3 : Evo R.T P' P3 Hc H3 := ey.trans e3
      have hD3 : H3 D = some (.lst vs') := ec3.keep D _ hDc hDP nt_lst
      have hD3P : D ∉ P3 := ec3.notin (by rw [hDc]; simp) hDP
      have ev3 : Evo R.T P1 P3 H1 H3 := ev.trans ec3
      have hF3 : ∀ a ∈ F, H1 a = none ∧ Live H3 a := fun a ha => ⟨(hF a ha).1, (hF a ha).2.evo ec3 (dvs.live a ha).2⟩
      cases b with
      | false => exact ⟨hlt, acc, vs', F, P3, q3, by omega, ev3, hD3, hD3P, dvs.evo ec3, hDF, hnF, hF3, pots3.le (by omega)⟩
      | true =>
        rw [if_pos rfl]
        refine ⟨e2, P3, fp2, T, (items.length - (i + 1)) * (ct + ce) + r, rep2.evo e3, pots3, he _ _ _ (fun y p ⟨hok, hI'⟩ => ?_) q3⟩
        intro v H4 P4 e4 pots4 ⟨Fy, dvy, pky⟩
        have ec4 : Evo R.T P' P4 Hc H4 := ec3.trans e4
        have hD4 : H4 D = some (.lst vs') := ec4.keep D _ hDc hDP nt_lst
        have hD4P : D ∉ P4 := ec4.notin (by rw [hDc]; simp) hDP
        have hFy : Fy.Nodup ∧ ∀ a ∈ Fy, H3 a = none ∧ Live H4 a := by
          cases p with
          | fresh => exact pky
          | all k => rw [dvy.imm_nil hok]; exact ⟨List.nodup_nil, fun a ha => by cases ha⟩
          | sub k => rw [dvy.imm_nil hok]; exact ⟨List.nodup_nil, fun a ha => by cases ha⟩
          | any => rw [dvy.imm_nil hok]; exact ⟨List.nodup_nil, fun a ha => by cases ha⟩
        have hDy : D ∉ Fy := fun h => by
          have := (hFy.2 D h).1
          rw [hD3] at this; cases this
        have hF4 : ∀ a ∈ F, H1 a = none ∧ Live H4 a := fun a ha => ⟨(hF a ha).1, (hF a ha).2.evo ec4 (dvs.live a ha).2⟩
        have dvs4 := dvs.evo ec4
        have hl := dvs.length
        refine ⟨vs', hD4, sz_lt (by omega), hlt, acc ++ [y], vs' ++ [v], F ++ (Fy ++ []), P4, hI', by simp; omega, (ev.trans ec4).out hD (MutO.ntb hD4 trivial), upd_same, hD4P, ?_, ?_, ?_, ?_, pots4.upd hD4P⟩
        · exact (dvs4.mut hD4 trivial hDF).append (.cons (dvy.mut hD4 trivial hDy) .nil)
        · simp only [List.append_nil, List.mem_append, not_or]; exact ⟨hDF, hDy⟩
        · rw [List.append_nil]
          refine List.nodup_append.mpr ⟨hnF, hFy.1, fun a ha b hb z => ?_⟩
          subst z
          have := (hFy.2 a hb).1
          exact ((dvs.evo ec3).live a ha).1 this
        · intro a ha
          rw [List.append_nil] at ha
          rcases List.mem_append.mp ha with ha | ha
          · exact ⟨(hF4 a ha).1, (hF4 a ha).2.upd (fun z => hDF (by rw [← z]; exact ha))⟩
          · exact ⟨ev3.fresh (hFy.2 a ha).1, (hFy.2 a ha).2.upd (fun z => hDy (by rw [← z]; exact ha))⟩
  · rintro Hc ⟨_, acc, vs', F, P', hI, hlen, ev, hDc, hDP, dvs, hDF, hnF, hF, pc⟩
    refine hId acc hI hlen _ Hc P' (e1.trans ev) (pc.le (by omega)) ⟨D :: F, .lst hDc hDP dvs, List.nodup_cons.mpr ⟨hDF, hnF⟩, fun a ha => ?_⟩
    rcases List.mem_cons.mp ha with rfl | ha
    · exact ⟨hD0, _, hDc, trivial⟩
    · exact ⟨e1.fresh (hF a ha).1, (hF a ha).2⟩
/-- [elt for target in iter if ..] -/
theorem ve_lc {scope : Scope} {own : List (Str × Nat)} (hc : X.calm = true) (hN : X.N.Nodup) (hi : VI X R ci tg iter u) (ok : BlkOk X.N X.env.scope scope own)
    (hg : ∀ (s : Shared) (H : Hp) (C : Addr) (cl : List (Str × Addr)) (fp : List Addr), VG (X.blk s H scope (compEnvC scope cl C X.env) fp) R is tg g)
    (ht : ∀ (s : Shared) (H : Hp) (C : Addr) (cl : List (Str × Addr)) (fp : List Addr), VTs (X.blk s H scope (compEnvC scope cl C X.env) fp) R ct ifs tt)
    (he : ∀ (s : Shared) (H : Hp) (C : Addr) (cl : List (Str × Addr)) (fp : List Addr), VE (X.blk s H scope (compEnvC scope cl C X.env) fp) R ce elt te) (hs : ∀ i ∈ is, i ∈ own.map (·.2) := by decide) (hf : ∀ x, foldedSetIterable iter X.env x = pure x := by intro _; rfl) :
    VE X R (ci + SZ * (ct + ce)) (.ListComp elt [⟨tg, iter, ifs, 0⟩] scope pos) (vLc u g tt te (own.map (·.2))) where
  mono := mono_lc hi.mono
  run := by
    have h0 := hg X.s_0 X.H_0 0 [] []
    have h1 := ht X.s_0 X.H_0 0 [] []
    have h2 := he X.s_0 X.H_0 0 [] []
    exact PE.imp (pe_lc hc hN hi.run ok (fun s H C cl fp => (hg s H C cl fp).run) (fun s H C cl fp => (ht s H C cl fp).run) (fun s H C cl fp => (he s H C cl fp).run) hf) (lc_imp hs hi.mono h0.mono h1.mono h2.mono)
/-- name = [..] on one line -/
theorem vs_setLc {i : Nat} {y : Str} {py spos : Pos} {scope : Scope} {own : List (Str × Nat)} (hc : X.calm = true) (hN : X.N.Nodup) (hi : VI X R ci tg iter u) (ok : BlkOk X.N X.env.scope scope own)
    (hg : ∀ (s : Shared) (H : Hp) (C : Addr) (cl : List (Str × Addr)) (fp : List Addr), VG (X.blk s H scope (compEnvC scope cl C X.env) fp) R is tg g)
    (ht : ∀ (s : Shared) (H : Hp) (C : Addr) (cl : List (Str × Addr)) (fp : List Addr), VTs (X.blk s H scope (compEnvC scope cl C X.env) fp) R ct ifs tt)
    (he : ∀ (s : Shared) (H : Hp) (C : Addr) (cl : List (Str × Addr)) (fp : List Addr), VE (X.blk s H scope (compEnvC scope cl C X.env) fp) R ce elt te)
    (hy : X.N[i]? = some y := by rfl) (hyl : X.env.scope.names.lookup y = some .local := by rfl) (hsw : swapsWith (.ListComp elt [⟨tg, iter, ifs, 0⟩] scope pos) (some (.Name y py)) spos.line X.env = pure true := by rfl)
    (hs : ∀ i ∈ is, i ∈ own.map (·.2) := by decide) (hf : ∀ x, foldedSetIterable iter X.env x = pure x := by intro _; rfl) :
    VS X R (ci + SZ * (ct + ce)) (.Assign [.Name y py] (.ListComp elt [⟨tg, iter, ifs, 0⟩] scope pos) spos) (vSet i (vLc u g tt te (own.map (·.2)))) := by
  have h0 := hg X.s_0 X.H_0 0 [] []
  have h1 := ht X.s_0 X.H_0 0 [] []
  have h2 := he X.s_0 X.H_0 0 [] []
  exact ⟨mono_set (mono_lc hi.mono), PS.imp (ps_setLc hc hN hy hyl hsw hi.run ok (fun s H C cl fp => (hg s H C cl fp).run) (fun s H C cl fp => (ht s H C cl fp).run) (fun s H C cl fp => (he s H C cl fp).run) hf) (set_imp (mono_lc hi.mono) (lc_imp hs hi.mono h0.mono h1.mono h2.mono))⟩

/-! ### for -/
/-- a list that is not written, of things that cannot change -/
def D.roI : D → Bool
  | .rol ds => immAll ds
  | _ => false
@[simp] theorem roI_rol {ds : List D} : (D.rol ds).roI = immAll ds := rfl
theorem DV.roI_nil {K : PySem.W.Frag} {P : List Addr} {H : Hp} {d : D} {v : V} {F : List Addr} (h : DV K P H d v F) (q : d.roI = true) : F = [] := by
  cases h with
  | rol h hs => exact hs.imm_nil q
  | _ => cases q
def srcB (env : Env) : DP → Bool
  | (_, .fresh) => true
  | (d, .all i) => (d.imm || d.roI) || (match env[i]? with | some (some (.lck, _)) => true | _ => false)
  | (d, .sub i) => (d.imm || d.roI) || (match env[i]? with | some (some (.lck, _)) => true | _ => false)
  | (d, .any) => d.imm || d.roI
def vFor (u : VIt) (g : VGt) (t : VTS) : VTS := fun k env => u env fun items srcs => items.length ≤ SZ ∧ srcs.all (srcB env) = true ∧ ∃ I : Nat → Env → Prop, I 0 env ∧
  (∀ i d e1, items[i]? = some d → I i e1 → g (d, .any) e1 (t { nx := I (i + 1), ct := I (i + 1), bk := k.nx, rt := k.rt, ex := k.ex })) ∧ ∀ e1, I items.length e1 → k.nx e1
/-- sources held beside the slots -/
theorem Rep.hold {K : PySem.W.Frag} {env : Env} {σ : L2.St} {H H1 : Hp} {P P1 : List Addr} {fp : Nat → List Addr} {T : Tmp} (rep : Rep K R env σ H P fp T) (e : Evo R.T P P1 H H1) : ∀ {srcs : List DP} {ts : Tmp}, HoldT K P1 H1 ts → SrcOk fp env H H1 srcs ts → srcs.all (srcB env) = true → Rep K R env σ H1 P1 fp (ts ++ T)
  | [], [], _, _, _ => rep.evo e
  | [], _ :: _, _, h, _ => h.elim
  | _ :: _, [], _, h, _ => h.elim
  | x :: srcs, t :: ts, hh, hs, hb => by
    rw [List.all_cons, Bool.and_eq_true] at hb
    obtain ⟨s1, s2, s3, s4⟩ := hs
    have r := Rep.hold rep e (fun t ht => hh t (List.mem_cons_of_mem _ ht)) s4 hb.2
    have dv := hh t (by simp)
    obtain ⟨d, p⟩ := x
    -- its objects are no slot's own
    have key : ∀ a ∈ t.F, (H a = none) ∨ (R.H0 a ≠ none) := by
      have himm : (t.d.imm || t.d.roI) = true → ∀ a ∈ t.F, (H a = none) ∨ (R.H0 a ≠ none) := fun h a ha => by
        rcases Bool.or_eq_true_iff.mp h with h | h
        · rw [dv.imm_nil h] at ha; cases ha
        · rw [dv.roI_nil h] at ha; cases ha
      have hl : ∀ i, t.F.Sublist (fp i) → (match env[i]? with | some (some (Fl.lck, _)) => true | _ => false) = true → ∀ a ∈ t.F, (H a = none) ∨ (R.H0 a ≠ none) := fun i hsub hm a ha => by
        cases z : env[i]? with
        | none => rw [z] at hm; cases hm
        | some o =>
          cases o with
          | none => rw [z] at hm; cases hm
          | some fd =>
            obtain ⟨f, d'⟩ := fd
            rw [z] at hm
            cases f with
            | lck => exact .inr (rep.lck i d' z a (hsub.subset ha))
            | own => cases hm
            | bor => cases hm
      have s1' : d = t.d := s1.symm
      cases p with
      | fresh => exact fun a ha => .inl (s2.2 a ha).1
      | all i =>
        have hb1 : ((d.imm || d.roI) || _) = true := hb.1
        rcases Bool.or_eq_true_iff.mp hb1 with h | h
        · exact himm (by rw [← s1']; exact h)
        · exact hl i (by rw [s2.2]; exact List.Sublist.refl _) h
      | sub i =>
        have hb1 : ((d.imm || d.roI) || _) = true := hb.1
        rcases Bool.or_eq_true_iff.mp hb1 with h | h
        · exact himm (by rw [← s1']; exact h)
        · exact hl i s2.2 h
      | any => exact himm (by rw [← s1']; exact hb.1)
    refine ⟨r.len, r.base, r.tab, r.slot, r.own, r.dis, r.lck, fun u hu => ?_, fun u hu i d' hi a ha hm => ?_, fun u hu hx => ?_, ?_⟩
    · rcases List.mem_cons.mp hu with rfl | hu
      · exact dv
      · exact r.tmp u hu
    · rcases List.mem_cons.mp hu with rfl | hu
      · rcases key a hm with z | z
        · obtain ⟨v, _, dvi⟩ := rep.slot i _ d' hi
          exact (dvi.live a ha).1 z
        · exact z ((rep.own i d' hi).2 a ha).1
      · exact r.tds u hu i d' hi a ha hm
    · rcases List.mem_cons.mp hu with rfl | hu
      · rw [s3] at hx; cases hx
      · exact r.tex u hu hx
    · refine List.pairwise_cons.mpr ⟨fun u hu hx a ha hm => ?_, r.tdj⟩
      rcases List.mem_append.mp hu with hu' | hu'
      · have aux : ∀ (ss : List DP) (us : Tmp), SrcOk fp env H H1 ss us → ∀ w ∈ us, w.ex = false := by
          intro ss
          induction ss with
          | nil => intro us hus w hw; cases us with
            | nil => cases hw
            | cons _ _ => exact hus.elim
          | cons s ss ih => intro us hus w hw; cases us with
            | nil => cases hw
            | cons z zs =>
              rcases List.mem_cons.mp hw with rfl | hw
              · exact hus.2.2.1
              · exact ih zs hus.2.2.2 w hw
        rcases hx with hx | hx
        · rw [s3] at hx; cases hx
        · rw [aux _ _ s4 u hu'] at hx; cases hx
      · rcases hx with hx | hx
        · rw [s3] at hx; cases hx
        · obtain ⟨_, q⟩ := rep.tex u hu' hx
          rcases key a ha with z | z
          · exact ((rep.tmp u hu').live a hm).1 z
          · exact z (q a hm).1
theorem Rep.drop {K : PySem.W.Frag} {env : Env} {σ : L2.St} {H : Hp} {P : List Addr} {fp : Nat → List Addr} {T : Tmp} : ∀ {ts : Tmp}, Rep K R env σ H P fp (ts ++ T) → Rep K R env σ H P fp T
  | [], r => r
  | _ :: ts, r => Rep.drop (ts := ts) ⟨r.len, r.base, r.tab, r.slot, r.own, r.dis, r.lck, fun t ht => r.tmp t (List.mem_cons_of_mem _ ht), fun t ht => r.tds t (List.mem_cons_of_mem _ ht), fun t ht => r.tex t (List.mem_cons_of_mem _ ht), (List.pairwise_cons.mp r.tdj).2⟩
theorem vs_for {body : List Stmt} {t : VTS} {cb : Nat} (hp : PassesOwn (model X.prog X.w) X.A X.env X.xe) (hc : X.calm = true) (hi : VI X R ci tg iter u) (hg : VG X R is tg g) (hb : VSs X R cb body t) (hf : ∀ x, foldedSetIterable iter X.env x = pure x := by intro _; rfl) :
    VS X R (ci + SZ * cb) (.For tg iter body [] pos) (vFor u g t) where
  mono := fun k k' hk env q => hi.mono _ _ _ (fun items srcs ⟨h1, h2, I, h3, h4, h5⟩ => ⟨h1, h2, I, h3, fun i d e1 hd hI => hg.mono _ _ (t { nx := I (i + 1), ct := I (i + 1), bk := k.nx, rt := k.rt, ex := k.ex }) _ (fun e2 q => hb.mono { nx := I (i + 1), ct := I (i + 1), bk := k.nx, rt := k.rt, ex := k.ex } { nx := I (i + 1), ct := I (i + 1), bk := k'.nx, rt := k'.rt, ex := k'.ex } ⟨fun _ h => h, hk.rt, hk.nx, fun _ h => h, hk.ex⟩ _ q) (h4 i d e1 hd hI), fun e1 h => hk.nx _ (h5 e1 h)⟩) q
  run := PS.imp (ps_for hp hc hi.run hg.run hb.run hf) fun Dn σ H ⟨env, P, fp, T, r, k, rep, pots, q, gd⟩ => by
    refine ⟨env, P, fp, T, SZ * cb + r, rep, by rw [← Nat.add_assoc]; exact pots, hi.mono _ _ _ (fun items srcs ⟨hsz, hsb, I, hI0, hIs, hId⟩ => ?_) q⟩
    intro J H1 P1 ts e1 pots1 hts hsrc hnd wk
    refine for_it wk (fun i σ' H' => i ≤ items.length ∧ ∃ env' P' fp', Rep X.K R env' σ' H' P' fp' (ts ++ T) ∧ Pots ((items.length - i) * cb + r) P' H' ∧ I i env') ?_ ?_ ?_ ?_
    · exact ⟨Nat.zero_le _, env, P1, fp, rep.hold e1 hts hsrc hsb, pots1.le (Nat.add_le_add_right (Nat.mul_le_mul_right _ (by omega)) _), hI0⟩
    · rintro i σ' H' _ ⟨_, env', P', fp', rep', _, _⟩
      exact ⟨P', fun t ht => rep'.tmp t (List.mem_append_left _ ht)⟩
    · rintro i x σ' H' H2 hlt ⟨_, env', P', fp', rep', pots', hI⟩ y
      obtain ⟨ey0, d, Fd, hd, dvx⟩ := y P' pots'.some fun t ht => rep'.tmp t (List.mem_append_left _ ht)
      refine ⟨env', P', fp', ts ++ T, (d, .any), Fd, rep'.evo (Evo.same ey0), dvx, trivial, hg.mono _ _ _ _ (fun e2 q2 => ?_) (hIs i d env' hd hI)⟩
      intro σ2 fp2 _ rep2
      refine ⟨e2, P', fp2, ts ++ T, (items.length - (i + 1)) * cb + r, _, rep2, ?_, q2, fun e3 σ3 H3 P3 fp3 rep3 pots3 h3 => ⟨hlt, e3, P3, fp3, rep3, pots3, h3⟩, fun e3 σ3 H3 P3 fp3 rep3 pots3 h3 => ?_, fun e3 σ3 H3 P3 fp3 rep3 pots3 h3 => ⟨hlt, e3, P3, fp3, rep3, pots3, h3⟩, fun d v H3 P3 ok pots3 h3 => ?_, fun x d w dx σ3 H3 P3 h1 h2 h3 h4 h5 h6 p q => gd.ex x d w dx σ3 H3 P3 h1 h2 h3 h4 h5 h6 (p.le (by omega)) q⟩
      · rw [mul_le hlt]; exact pots'.same ey0
      · exact gd.nx _ _ _ _ _ rep3.drop (pots3.le (by omega)) h3
      · exact gd.rt d v H3 P3 ok (pots3.le (by omega)) h3
    · rintro σ' H' ⟨_, env', P', fp', rep', pots', hI⟩
      exact gd.nx _ _ _ _ _ rep'.drop (pots'.le (by omega)) (hId _ hI)

/-! ### while -/
def vWhile (tb : VB) (t : VTS) : VTS := fun k env => ∃ I : Nat → Env → Prop, (∃ m, m ≤ SZ ∧ I m env) ∧ ∀ m e1, I m e1 → tb e1 fun b => if b = true then t { nx := fun e => ∃ m', m' < m ∧ I m' e, ct := fun e => ∃ m', m' < m ∧ I m' e, bk := k.nx, rt := k.rt, ex := k.ex } e1 else k.nx e1
theorem vs_while {c cb : Nat} {tb : VB} {t : VTS} {body : List Stmt} (hp : PassesOwn (model X.prog X.w) X.A X.env X.xe) (hc : VC X R c e tb) (hb : VSs X R cb body t) : VS X R ((SZ + 1) * (c + cb)) (.While e body [] pos) (vWhile tb t) where
  mono := fun k k' hk env ⟨I, h0, hI⟩ => ⟨I, h0, fun m e1 h => hc.mono _ _ _ (fun b q => by
    cases b with
    | true => exact hb.mono { nx := fun e => ∃ m', m' < m ∧ I m' e, ct := fun e => ∃ m', m' < m ∧ I m' e, bk := k.nx, rt := k.rt, ex := k.ex } { nx := fun e => ∃ m', m' < m ∧ I m' e, ct := fun e => ∃ m', m' < m ∧ I m' e, bk := k'.nx, rt := k'.rt, ex := k'.ex } ⟨fun _ h => h, hk.rt, hk.nx, fun _ h => h, hk.ex⟩ _ q
    | false => exact hk.nx _ q) (hI m e1 h)⟩
  run := PS.imp (ps_while hp hc.run hb.run) fun Dn σ H ⟨env, P, fp, T, r, k, rep, pots, ⟨I, ⟨m0, hm0, hI0⟩, hI⟩, gd⟩ => by
    refine ⟨fun m σ' H' => ∃ env' P' fp', Rep X.K R env' σ' H' P' fp' T ∧ Pots ((m + 1) * (c + cb) + r) P' H' ∧ I m env', ⟨m0, env, P, fp, rep, pots.le (Nat.add_le_add_right (Nat.mul_le_mul_right _ (by omega)) _), hI0⟩, ?_⟩
    rintro m σ1 H1 ⟨env1, P1, fp1, rep1, pots1, hI1⟩
    refine ⟨env1, P1, fp1, T, cb + (m * (c + cb) + r), rep1, ?_, hc.mono _ _ _ (fun b q => ?_) (hI m env1 hI1)⟩
    · rw [← Nat.add_assoc, ← Nat.add_assoc, Nat.add_comm (c + cb), ← Nat.succ_mul]; exact pots1
    · intro H2 P2 e2 pots2
      cases b with
      | false => exact gd.nx _ _ _ _ _ (rep1.evo e2) (pots2.le (by omega)) q
      | true =>
        rw [if_pos rfl]
        refine ⟨fun σ' H' => ∃ m', m' < m ∧ ∃ env' P' fp', Rep X.K R env' σ' H' P' fp' T ∧ Pots ((m' + 1) * (c + cb) + r) P' H' ∧ I m' env', fun σ' H' h => h, ?_⟩
        have again : ∀ env' σ' H' P' fp', Rep X.K R env' σ' H' P' fp' T → Pots (m * (c + cb) + r) P' H' → (∃ m', m' < m ∧ I m' env') → ∃ m', m' < m ∧ ∃ env' P' fp', Rep X.K R env' σ' H' P' fp' T ∧ Pots ((m' + 1) * (c + cb) + r) P' H' ∧ I m' env' :=
          fun env' σ' H' P' fp' rep' pots' ⟨m', hm', hi'⟩ => ⟨m', hm', env', P', fp', rep', pots'.le (Nat.add_le_add_right (Nat.mul_le_mul_right _ hm') _), hi'⟩
        exact ⟨env1, P2, fp1, T, m * (c + cb) + r, _, rep1.evo e2, pots2, q, again, fun e3 σ3 H3 P3 fp3 rep3 pots3 h3 => gd.nx _ _ _ _ _ rep3 (pots3.le (by omega)) h3, again, fun d v H3 P3 ok pots3 h3 => gd.rt d v H3 P3 ok (pots3.le (by omega)) h3, fun x d w dx σ3 H3 P3 h1 h2 h3 h4 h5 h6 p q => gd.ex x d w dx σ3 H3 P3 h1 h2 h3 h4 h5 h6 (p.le (by omega)) q⟩
end
end VS

/-! built-ins -/
namespace VS
open PySem PySem.Spec PyProof.Rows L2
variable {Θ : List (Addr × Str)}
/-! ### lifts with one argument -/
def oArg1 (o : D → Prov → (D → Prov → Prop) → Prop) : OpA := fun xs Q => ∃ d p, xs = [(d, p)] ∧ o d p Q
theorem lift1 {K : PySem.W.Frag} {r : List V → Hp → L2.VK → Prop} {o : D → Prov → (D → Prov → Prop) → Prop} (hm : ∀ d p (Q Q' : D → Prov → Prop), (∀ d p, Q d p → Q' d p) → o d p Q → o d p Q')
    (h : ∀ (fp : Nat → List Addr) (env : Env) (Hs H : Hp) (P : List Addr) (d : D) (p : Prov) (v : V) (Q : L2.VK), (∀ a, H a = none → Hs a = none) → (∀ a ∈ P, H a ≠ none) → Fin K fp env Hs d p v H P →
      o d p (fun d p => ∀ u H', Same H H' → Fin K fp env Hs d p u H' P → Q u H') → r [v] H Q) : LiftC K r (oArg1 o) where
  mono := fun xs Q Q' hq ⟨d, p, e, q⟩ => ⟨d, p, e, hm _ _ _ _ hq q⟩
  run := fun fp env Hs H P xs vs Q h1 h2 f ⟨d, p, e, q⟩ => by
    subst e
    obtain ⟨v, rfl, g⟩ := f.one
    exact h fp env Hs H P d p v Q h1 h2 g q
def oArg2 (o : D → D → (D → Prov → Prop) → Prop) : OpA := fun xs Q => ∃ d p e p2, xs = [(d, p), (e, p2)] ∧ o d e Q
theorem lift2 {K : PySem.W.Frag} {r : List V → Hp → L2.VK → Prop} {o : D → D → (D → Prov → Prop) → Prop} (hm : ∀ d e (Q Q' : D → Prov → Prop), (∀ d p, Q d p → Q' d p) → o d e Q → o d e Q')
    (h : ∀ (fp : Nat → List Addr) (env : Env) (Hs H : Hp) (P : List Addr) (d e : D) (p p2 : Prov) (v w : V) (Q : L2.VK), Fin K fp env Hs d p v H P → Fin K fp env Hs e p2 w H P →
      o d e (fun d p => ∀ u H', Same H H' → Fin K fp env Hs d p u H' P → Q u H') → r [v, w] H Q) : LiftC K r (oArg2 o) where
  mono := fun xs Q Q' hq ⟨d, p, e, p2, z, q⟩ => ⟨d, p, e, p2, z, hm _ _ _ _ hq q⟩
  run := fun fp env Hs H P xs vs Q h1 h2 f ⟨d, p, e, p2, z, q⟩ => by
    subst z
    obtain ⟨v, w, rfl, g, g2⟩ := f.two
    exact h fp env Hs H P d e p p2 v w Q g g2 q
section
variable {K : PySem.W.Frag} {fp : Nat → List Addr} {env : Env} {Hs H : Hp} {P : List Addr} {d : D} {p : Prov} {v : V} {ds : List D}
theorem Fin.seq (f : Fin K fp env Hs d p v H P) (e : d.items = some ds) : ∃ a vs G, v = .ref a ∧ SqK K d.sk H a vs ∧ DVs K P H ds vs G := let ⟨_, dv, _⟩ := f; dv.seq e
theorem SqK.or {k : SK} {a : Addr} {vs : List V} (h : SqK K k H a vs) : SqL K H a vs ∨ SqT K H a vs := by
  cases k with
  | l => exact .inl h
  | t => exact .inr h
theorem dvs_ints {F : List Addr} : ∀ {ns : List Int} {vs : List V} {F : List Addr}, DVs K P H (ns.map D.int) vs F → vs = ns.map V.int
  | [], vs, _, h => by cases h; rfl
  | n :: ns, vs, _, h => by
    cases h with
    | cons h1 h2 =>
      cases h1
      rw [dvs_ints (F := []) h2]
      rfl
theorem dvs_bls {F : List Addr} : ∀ {ns : List Bool} {vs : List V} {F : List Addr}, DVs K P H (ns.map D.bl) vs F → vs = ns.map V.bl
  | [], vs, _, h => by cases h; rfl
  | n :: ns, vs, _, h => by
    cases h with
    | cons h1 h2 =>
      cases h1
      rw [dvs_bls (F := []) h2]
      rfl
end
/-- len -/
def oLen : OpA := oArg1 fun d _ Q => ∃ ds, d.items = some ds ∧ Q (.int ds.length) .fresh
theorem l_len {K : PySem.W.Frag} : LiftC K (fun xs H Q => ∃ p ys, xs = [.ref p] ∧ (SqL K H p ys ∨ SqT K H p ys) ∧ Q (.int ys.length) H) oLen :=
  lift1 (fun d p Q Q' hq ⟨ds, e, q⟩ => ⟨ds, e, hq _ _ q⟩) fun fp env Hs H P d p v Q h1 h2 f ⟨ds, e, q⟩ => by
    obtain ⟨a, vs, G, rfl, hs, dv⟩ := f.seq e
    exact ⟨a, vs, rfl, hs.or, by rw [← dv.length]; exact q _ H (Same.refl H) fin_int⟩
/-- int -/
def oInt : OpA := oArg1 fun d _ Q => match d with
  | .int i => Q (.int i) .fresh
  | .bl b => Q (.int (if b then 1 else 0)) .fresh
  | _ => False
theorem l_int1 {K : PySem.W.Frag} : LiftC K (fun xs H Q => (∃ i, xs = [.int i] ∧ Q (.int i) H) ∨ ∃ k, xs = [.bl k] ∧ Q (.int (if k then 1 else 0)) H) oInt :=
  lift1 (fun d p Q Q' hq q => by
    split at q
    · exact hq _ _ q
    · exact hq _ _ q
    · exact q) fun fp env Hs H P d p v Q h1 h2 f q => by
    split at q
    · obtain rfl := f.int_inv
      exact .inl ⟨_, rfl, q _ H (Same.refl H) fin_int⟩
    · obtain rfl := f.bl_inv
      exact .inr ⟨_, rfl, q _ H (Same.refl H) fin_int⟩
    · exact q.elim
/-- abs -/
def oAbs : OpA := oArg1 fun d _ Q => ∃ i : Int, d = .int i ∧ Q (.int (if i < 0 then -i else i)) .fresh
theorem l_abs {K : PySem.W.Frag} : LiftC K (fun xs H Q => ∃ i, xs = [.int i] ∧ Q (.int (if i < 0 then -i else i)) H) oAbs :=
  lift1 (fun d p Q Q' hq ⟨i, e, q⟩ => ⟨i, e, hq _ _ q⟩) fun fp env Hs H P d p v Q h1 h2 f ⟨i, e, q⟩ => by
    subst e
    obtain rfl := f.int_inv
    exact ⟨_, rfl, q _ H (Same.refl H) fin_int⟩
/-- min, max of two ints -/
def oMax2 : OpA := oArg2 fun d e Q => ∃ i j : Int, d = .int i ∧ e = .int j ∧ Q (.int (if j > i then j else i)) .fresh
def oMin2 : OpA := oArg2 fun d e Q => ∃ i j : Int, d = .int i ∧ e = .int j ∧ Q (.int (if j < i then j else i)) .fresh
theorem l_max2 {K : PySem.W.Frag} : LiftC K (fun xs H Q => ∃ i j, xs = [.int i, .int j] ∧ Q (.int (if j > i then j else i)) H) oMax2 :=
  lift2 (fun d e Q Q' hq ⟨i, j, e1, e2, q⟩ => ⟨i, j, e1, e2, hq _ _ q⟩) fun fp env Hs H P d e p p2 v w Q f g ⟨i, j, e1, e2, q⟩ => by
    subst e1 e2
    obtain rfl := f.int_inv
    obtain rfl := g.int_inv
    exact ⟨_, _, rfl, q _ H (Same.refl H) fin_int⟩
theorem l_min2 {K : PySem.W.Frag} : LiftC K (fun xs H Q => ∃ i j, xs = [.int i, .int j] ∧ Q (.int (if j < i then j else i)) H) oMin2 :=
  lift2 (fun d e Q Q' hq ⟨i, j, e1, e2, q⟩ => ⟨i, j, e1, e2, hq _ _ q⟩) fun fp env Hs H P d e p p2 v w Q f g ⟨i, j, e1, e2, q⟩ => by
    subst e1 e2
    obtain rfl := f.int_inv
    obtain rfl := g.int_inv
    exact ⟨_, _, rfl, q _ H (Same.refl H) fin_int⟩
/-- sum of ints -/
def rSumK (K : PySem.W.Frag) : List V → Hp → L2.VK → Prop := fun vs H Q => ∃ (k : SK) (a : Addr) (ns : List Int), vs = [V.ref a] ∧ SqK K k H a (ns.map V.int) ∧ Q (.int ns.sum) H
theorem cr_sumK {X : Cx} (hc : X.calm = true) : CallR X (.builtin "sum") (rSumK X.K) := by
  intro pins s σ H vs us Q I r h
  obtain ⟨k, a, ns, rfl, hs, q⟩ := h
  obtain ⟨its, rv, hl, _⟩ := inv_sqK I hs
  rw [Vals.ref1 r]
  cases k with
  | l => exact sum_raw (I.ok.hd hc) hl rv.ints fun h' tk t' hk => ⟨.int _, H, I.kept hk, ⟨_, rfl⟩, q⟩
  | t =>
    obtain ⟨xs, e⟩ := rv.ints.allInts.items
    have hn : numsOf its.toArray.toList = ns := rv.ints.numsOf
    rw [e] at hn hl
    rw [nums_intItems] at hn
    subst hn
    refine PySem.W.ktm_sumG (I.ok.hd hc) hl fun h' tk t' hk => ⟨.int _, H, I.kept hk, ⟨_, rfl⟩, ?_⟩
    rw [preSum_eq, List.take_of_length_le (by simp)]
    exact q
def oSum : OpA := oArg1 fun d _ Q => ∃ ns : List Int, d.items = some (ns.map D.int) ∧ Q (.int ns.sum) .fresh
theorem l_sum {K : PySem.W.Frag} : LiftC K (rSumK K) oSum :=
  lift1 (fun d p Q Q' hq ⟨ds, e, q⟩ => ⟨ds, e, hq _ _ q⟩) fun fp env Hs H P d p v Q h1 h2 f ⟨ns, e, q⟩ => by
    obtain ⟨a, vs, G, rfl, hs, dv⟩ := f.seq e
    rw [dvs_ints (F := []) dv] at hs
    exact ⟨_, a, ns, rfl, hs, q _ H (Same.refl H) fin_int⟩
/-- all, any of bools in a list -/
def oAll : OpA := oArg1 fun d _ Q => ∃ bs : List Bool, d = .lst (bs.map D.bl) ∧ Q (.bl (bs.all id)) .fresh
def oAny : OpA := oArg1 fun d _ Q => ∃ bs : List Bool, d = .lst (bs.map D.bl) ∧ Q (.bl (bs.any id)) .fresh
theorem l_all {K : PySem.W.Frag} : LiftC K (rAll K) oAll :=
  lift1 (fun d p Q Q' hq ⟨ds, e, q⟩ => ⟨ds, e, hq _ _ q⟩) fun fp env Hs H P d p v Q h1 h2 f ⟨bs, e, q⟩ => by
    obtain ⟨a, vs, G, rfl, hs, dv⟩ := f.seq (by rw [e]; rfl)
    rw [dvs_bls (F := []) dv] at hs
    subst e
    exact ⟨a, bs, rfl, hs, q _ H (Same.refl H) fin_bl⟩
theorem l_any {K : PySem.W.Frag} : LiftC K (rAny K) oAny :=
  lift1 (fun d p Q Q' hq ⟨ds, e, q⟩ => ⟨ds, e, hq _ _ q⟩) fun fp env Hs H P d p v Q h1 h2 f ⟨bs, e, q⟩ => by
    obtain ⟨a, vs, G, rfl, hs, dv⟩ := f.seq (by rw [e]; rfl)
    rw [dvs_bls (F := []) dv] at hs
    subst e
    exact ⟨a, bs, rfl, hs, q _ H (Same.refl H) fin_bl⟩
/-- tuple of immutable items -/
def oTuple : OpA := oArg1 fun d _ Q => ∃ ds, d.items = some ds ∧ immAll ds = true ∧ Q (.tup ds) .fresh
theorem l_tuple {K : PySem.W.Frag} : LiftC K (fun xs H Q => ∃ p ys, xs = [.ref p] ∧ ((SqL K H p ys ∧ ∀ l, H l = none → Q (.ref l) (upd H l (.tup ys))) ∨ (SqT K H p ys ∧ Q (.ref p) H))) oTuple :=
  lift1 (fun d p Q Q' hq ⟨ds, e, i, q⟩ => ⟨ds, e, i, hq _ _ q⟩) fun fp env Hs H P d p v Q h1 h2 f ⟨ds, e, hi, q⟩ => by
    obtain ⟨a, vs, G, rfl, hs, dv⟩ := f.seq e
    refine ⟨a, vs, rfl, ?_⟩
    cases k : d.sk with
    | l =>
      rw [k] at hs
      exact .inl ⟨hs, fun l hl => q _ _ (same_upd hl) (fin_tup hl h2 dv hi)⟩
    | t =>
      rw [k] at hs
      refine .inr ⟨hs, q _ H (Same.refl H) ?_⟩
      obtain ⟨F, dv0, pk⟩ := f
      cases d with
      | tup xs =>
        cases e
        exact Fin.imm dv0 (by simpa [D.imm] using hi)
      | lst _ => cases k
      | rol _ => cases k
      | _ => cases e
/-- list of immutable items -/
def oList : OpA := oArg1 fun d _ Q => ∃ ds, d.items = some ds ∧ immAll ds = true ∧ Q (.lst ds) .fresh
theorem l_list {K : PySem.W.Frag} : LiftC K (fun xs H Q => ∃ p ys, xs = [.ref p] ∧ (SqL K H p ys ∨ SqT K H p ys) ∧ ∀ l, H l = none → Q (.ref l) (upd H l (.lst ys))) oList :=
  lift1 (fun d p Q Q' hq ⟨ds, e, i, q⟩ => ⟨ds, e, i, hq _ _ q⟩) fun fp env Hs H P d p v Q h1 h2 f ⟨ds, e, hi, q⟩ => by
    obtain ⟨a, vs, G, rfl, hs, dv⟩ := f.seq e
    exact ⟨a, vs, rfl, hs.or, fun l hl => q _ _ (same_upd hl) (fin_lst h1 hl h2 dv hi)⟩
/-- list of a range -/
def rngL (a b : Int) : List D := rngD a 1 (b - a).toNat
theorem dvs_rg {K : PySem.W.Frag} {P : List Addr} {H : Hp} : ∀ (n : Nat) (a : Int), DVs K P H (rngD a 1 n) ((List.range n).map fun i => V.int (a + (i : Nat))) []
  | 0, _ => .nil
  | n + 1, a => by
    rw [List.range_succ_eq_map, List.map_cons, List.map_map]
    have := dvs_rg (K := K) (P := P) (H := H) n (a + 1)
    have e : ((fun i : Nat => V.int (a + (i : Nat))) ∘ Nat.succ) = fun i : Nat => V.int (a + 1 + (i : Nat)) := by
      funext i
      simp only [Function.comp, Nat.succ_eq_add_one]
      congr 1; omega
    rw [e]
    have z := DVs.cons (d := .int a) (.int (K := K) (P := P) (H := H) a) this
    rw [List.nil_append] at z
    have e2 : a + ((0 : Nat) : Int) = a := by omega
    rw [e2]
    exact z
theorem imm_rng : ∀ (n : Nat) (a c : Int), immAll (rngD a c n) = true
  | 0, _, _ => rfl
  | n + 1, a, c => by simp [rngD, immAll, D.imm, imm_rng n (a + c) c]
/-- the bounds of a range, as expressions -/
def vR1 (ta : VT) : Env → (Int → Int → Prop) → Prop := fun env Q => ta env fun d _ => ∃ n, d = .int n ∧ Q 0 n
def vR2 (ta tb : VT) : Env → (Int → Int → Prop) → Prop := fun env Q => ta env fun d _ => tb env fun e _ => ∃ i j, d = .int i ∧ e = .int j ∧ Q i j
def liftR (K : PySem.W.Frag) (R : RC) (c : Nat) (t : Env → (Int → Int → Prop) → Prop) : L2.St → Hp → (Int → Int → Hp → Prop) → Prop := fun σ H Q => ∃ env P fp T r, Rep K R env σ H P fp T ∧ Pots (c + r) P H ∧
  t env fun a b => ∀ H' P', Evo R.T P P' H H' → Pots r P' H' → Q a b H'
structure VR (X : Cx) (R : RC) (c : Nat) (e : Expr) (t : Env → (Int → Int → Prop) → Prop) : Prop where
  mono : ∀ env (Q Q' : Int → Int → Prop), (∀ a b, Q a b → Q' a b) → t env Q → t env Q'
  run : PRg X e (liftR X.K R c t)
theorem PRg.imp {X : Cx} {e : Expr} {t t' : L2.St → Hp → (Int → Int → Hp → Prop) → Prop} (h : PRg X e t) (hi : ∀ σ H Q, t' σ H Q → t σ H Q) : PRg X e t' := fun pins s σ H Q I q => h pins s σ H Q I (hi σ H Q q)
section
variable {X : Cx} {R : RC} {a b e : Expr} {ta tb : VT} {c c₁ c₂ : Nat} {p pos : Pos} {t : Env → (Int → Int → Prop) → Prop}
theorem vr_1 (ha : VE X R c a ta) (hm : X.mg "range" = none) (hg : Gl X "range" := by rfl) (na : starEach [a] X.env = (false, eval a X.env) :: starEach [] X.env := by rfl) : VR X R c (.Call (.Name "range" p) [a] [] pos) (vR1 ta) where
  mono := fun env Q Q' hq q => ha.mono _ _ _ (fun d p ⟨n, e, q⟩ => ⟨n, e, hq _ _ q⟩) q
  run := PRg.imp (prg_1 hg hm ha.run na) fun σ H Q ⟨env, P, fp, T, r, rep, pots, q⟩ => ⟨env, P, fp, T, r, rep, pots, ha.mono _ _ _ (fun d p ⟨n, e, q⟩ v H' P' e' pots' f => by
    subst e
    obtain rfl := f.int_inv
    exact ⟨n, rfl, q H' P' e' pots'⟩) q⟩
theorem vr_2 (ha : VE X R c₁ a ta) (hb : VE X R c₂ b tb) (hm : X.mg "range" = none) (hg : Gl X "range" := by rfl) (na : starEach [a, b] X.env = (false, eval a X.env) :: starEach [b] X.env := by rfl)
    (nb : starEach [b] X.env = (false, eval b X.env) :: starEach [] X.env := by rfl) (hp : (backTo pos (starEach [b] X.env)).any (·.1) = false := by rfl) : VR X R (c₁ + c₂) (.Call (.Name "range" p) [a, b] [] pos) (vR2 ta tb) where
  mono := fun env Q Q' hq q => ha.mono _ _ _ (fun d p q => hb.mono _ _ _ (fun d2 p2 ⟨i, j, e, e2, q⟩ => ⟨i, j, e, e2, hq _ _ q⟩) q) q
  run := PRg.imp (prg_2 hg hm ha.run hb.run na nb hp) fun σ H Q ⟨env, P, fp, T, r, rep, pots, q⟩ => ⟨env, P, fp, T, c₂ + r, rep, by rw [← Nat.add_assoc]; exact pots, ha.mono _ _ _ (fun d p q v H' P' e' pots' f =>
    ⟨env, P', fp, T, r, rep.evo e', pots', hb.mono _ _ _ (fun d2 p2 ⟨i, j, z1, z2, q3⟩ v2 H2 P2 e2 pots2 f2 => by
      subst z1 z2
      obtain rfl := f.int_inv
      obtain rfl := f2.int_inv
      exact ⟨i, j, rfl, rfl, q3 H2 P2 (e'.trans e2) pots2⟩) q⟩) q⟩
def vLRng (t : Env → (Int → Int → Prop) → Prop) : VT := fun env Q => t env fun a b => RgOk a b ∧ Q (.lst (rngL a b)) .fresh
theorem ve_listRng (h : VR X R c e t) (hc : X.calm = true) (hm : X.mg "list" = none) (hg : Gl X "list" := by rfl) (na : starEach [e] X.env = (false, eval e X.env) :: starEach [] X.env := by rfl) : VE X R c (.Call (.Name "list" p) [e] [] pos) (vLRng t) where
  mono := fun env Q Q' hq q => h.mono _ _ _ (fun a b ⟨ok, q⟩ => ⟨ok, hq _ _ q⟩) q
  run := PE.imp (pe_listRg hc hg hm h.run na) fun σ H Q ⟨env, P, fp, T, r, rep, pots, q⟩ => ⟨env, P, fp, T, r, rep, pots, h.mono _ _ _ (fun a b ⟨ok, q⟩ H' P' e' pots' =>
    ⟨ok, fun l hl => q _ _ P' (e'.trans (Evo.upd hl)) (pots'.updN hl) (fin_lst (fun x hx => e'.fresh hx) hl pots'.some (dvs_rg _ _) (imm_rng _ _ _))⟩) q⟩
def vTRng (t : Env → (Int → Int → Prop) → Prop) : VT := fun env Q => t env fun a b => RgOk a b ∧ Q (.tup (rngL a b)) .fresh
theorem ve_tupRng (h : VR X R c e t) (hc : X.calm = true) (hm : X.mg "tuple" = none) (hg : Gl X "tuple" := by rfl) (na : starEach [e] X.env = (false, eval e X.env) :: starEach [] X.env := by rfl) : VE X R c (.Call (.Name "tuple" p) [e] [] pos) (vTRng t) where
  mono := fun env Q Q' hq q => h.mono _ _ _ (fun a b ⟨ok, q⟩ => ⟨ok, hq _ _ q⟩) q
  run := PE.imp (pe_tupRg hc hg hm h.run na) fun σ H Q ⟨env, P, fp, T, r, rep, pots, q⟩ => ⟨env, P, fp, T, r, rep, pots, h.mono _ _ _ (fun a b ⟨ok, q⟩ H' P' e' pots' =>
    ⟨ok, fun l hl => q _ _ P' (e'.trans (Evo.upd hl)) (pots'.updN hl) (fin_tup hl pots'.some (dvs_rg _ _) (imm_rng _ _ _))⟩) q⟩
end
/-! ### isinstance -/
def isaD (T : String) : D → Option Bool
  | .non => some false
  | .bl _ => some (T == "int" || T == "bool")
  | .int _ => some (T == "int")
  | .str _ => some (T == "str")
  | .tup _ => some (T == "tuple")
  | .lst _ => some (T == "list")
  | .rol _ => some (T == "list")
  | _ => none
def tyName : D → String
  | .non => "NoneType"
  | .bl _ => "bool"
  | .int _ => "int"
  | .str _ => "str"
  | .tup _ => "tuple"
  | .lst _ => "list"
  | .rol _ => "list"
  | .dic _ => "dict"
  | _ => ""
theorem DV.tyX {K : PySem.W.Frag} {P : List Addr} {H : Hp} {d : D} {v : V} {F : List Addr} (h : DV K P H d v F) (hn : tyName d ≠ "") : TyX K H v (.type (tyName d)) := by
  cases h with
  | non => exact .base .non
  | bl b => exact .base (.bl b)
  | int i => exact .base (.int i)
  | str x => exact .base (.str x)
  | tup h _ =>
    exact .base (.tup h.1)
  | lst h _ _ => exact .base (.lst h)
  | rol h _ =>
    rcases h with ⟨⟨o, h⟩, _⟩ | ⟨o, its, n, h, c, _⟩
    · exact .base (.frz h)
    · exact .kList h c
  | dic h _ _ _ =>
    rcases h with h | ⟨o, h⟩
    · exact .base (.dK h)
    · exact .fDict h
  | dit _ _ _ _ => exact (hn rfl).elim
  | rdi _ _ _ _ => exact (hn rfl).elim
  | ins _ _ _ _ _ _ => exact (hn rfl).elim
  | exc _ _ _ _ _ _ => exact (hn rfl).elim
  | pot _ => exact (hn rfl).elim

theorem kit_D {K : PySem.W.Frag} {d : D} {T : String} {b : Bool} (hT : T = "int" ∨ T = "bool" ∨ T = "tuple" ∨ T = "list" ∨ T = "str") (h : isaD T d = some b) : PySem.W.kitOne K (.type (tyName d)) (.type T) = some b := by
  have key : ∀ (x : String) (c : Bool), (x = "NoneType" ∨ x = "bool" ∨ x = "int" ∨ x = "str" ∨ x = "tuple" ∨ x = "list") → c = (x == T || (x == "bool" && T == "int")) → PySem.W.kitOne K (.type x) (.type T) = some c := by
    intro x c hx hc
    subst hc
    rcases hT with rfl | rfl | rfl | rfl | rfl <;> rcases hx with rfl | rfl | rfl | rfl | rfl | rfl <;> first | rfl | kernel_rfl
  cases d <;> simp only [isaD, Option.some.injEq, reduceCtorEq] at h <;> (refine key _ _ (by simp [tyName]) ?_; subst h; rcases hT with rfl | rfl | rfl | rfl | rfl <;> rfl)
theorem isa_name {d : D} {T : String} {b : Bool} (h : isaD T d = some b) : tyName d ≠ "" := by
  cases d <;> simp [isaD, tyName] at h ⊢
def vIsa (T : String) (t : VT) : VT := fun env Q => t env fun d _ => ∃ b, isaD T d = some b ∧ Q (.bl b) .fresh
theorem ve_isa {X : Cx} {R : RC} {e : Expr} {t : VT} {c : Nat} {p p2 pos : Pos} {x : Str} {T : String} (hT : T = "int" ∨ T = "bool" ∨ T = "tuple" ∨ T = "list" ∨ T = "str") (h : VE X R c e t) (hm : X.mg "isinstance" = none) (hm2 : X.mg x = none) (hv2 : bootBuiltins x = some (.type T)) (hg : Gl X "isinstance" := by rfl) (hg2 : Gl X x := by rfl) (hn2 : x ≠ "__name__" := by decide) (hd2 : (x == ("__debug__" : Str)) = false := by decide)
    (he : starEach [e, .Name x p2] X.env = (false, eval e X.env) :: starEach [.Name x p2] X.env := by rfl) (hs2 : starEach [.Name x p2] X.env = (false, eval (.Name x p2) X.env) :: starEach [] X.env := by rfl) (hpl : (backTo pos (starEach [.Name x p2] X.env)).any (·.1) = false := by rfl) :
    VE X R c (.Call (.Name "isinstance" p) [e, .Name x p2] [] pos) (vIsa T t) where
  mono := fun env Q Q' hq q => h.mono _ _ _ (fun d p ⟨b, e, q⟩ => ⟨b, e, hq _ _ q⟩) q
  run := PE.imp (pe_callB (id := "isinstance") call_isi hg hm PyProof.Rows.boot_isinstance (pa_cons h.run (pa_cons (pe_bltn (v := .ty T) hg2 hm2 hv2 rfl hn2 hd2) pa_nil hs2) he) (by decide) (by decide) he hpl) fun σ H Q ⟨env, P, fp, T', r, rep, pots, q⟩ => by
    refine ⟨env, P, fp, T', r, rep, pots, h.mono _ _ _ (fun d p ⟨b, e, q⟩ v H' P' e' pots' f => ?_) q⟩
    obtain ⟨F, dv, _⟩ := f
    exact ⟨v, .ty T, _, _, b, rfl, .ty T, dv.tyX (isa_name e), kit_D hT e, q _ H' P' e' pots' fin_bl⟩

/-! ### repr -/
mutual
/-- how long its repr may get -/
def D.rsz : D → Nat
  | .int i => if i.natAbs < 10 ^ 18 then 19 else 1921
  | .bl _ => 5
  | .non => 4
  | .tup xs => rszs xs + 3
  | .lst xs => rszs xs + 3
  | .rol xs => rszs xs + 3
  | _ => 0
def rszs : List D → Nat
  | [] => 0
  | d :: ds => d.rsz + 2 + rszs ds
end
mutual
/-- its repr is told -/
def D.shows : D → Bool
  | .int i => decide (i.natAbs.log2 < 1920)
  | .bl _ => true
  | .non => true
  | .tup xs => showsAll xs
  | .lst xs => showsAll xs
  | .rol xs => showsAll xs
  | _ => false
def showsAll : List D → Bool
  | [] => true
  | d :: ds => d.shows && showsAll ds
end
theorem int_len {i : Int} (h : i.natAbs.log2 < 1920) : (Str.ofString (toString i)).length ≤ if i.natAbs < 10 ^ 18 then 19 else 1921 := by
  rw [PySem.ofString_length]
  split
  · exact int_text_length_le10 (k := 18) (by decide) (by assumption)
  · exact int_text_length_le (k := 1920) (by decide) h
mutual
theorem shown_len : ∀ (d : D), d.shows = true → d.toPy.shown.length ≤ d.rsz
  | .int i, h => by
    have h' : i.natAbs.log2 < 1920 := by simpa [D.shows] using h
    exact int_len h'
  | .bl b, _ => by cases b <;> decide
  | .non, _ => by decide
  | .tup xs, h => by
    have := shown_lens xs (by simpa [D.shows] using h)
    have z := tupleText_len_le (PyData.shownAll (toPys xs))
    simp only [D.toPy, PyData.shown, D.rsz]
    omega
  | .lst xs, h => by
    have := shown_lens xs (by simpa [D.shows] using h)
    have z := listText_len_le (PyData.shownAll (toPys xs))
    simp only [D.toPy, PyData.shown, D.rsz]
    omega
  | .rol xs, h => by
    have := shown_lens xs (by simpa [D.shows] using h)
    have z := listText_len_le (PyData.shownAll (toPys xs))
    simp only [D.toPy, PyData.shown, D.rsz]
    omega
  | .str _, h => by simp [D.shows] at h
  | .dic _, h => by simp [D.shows] at h
  | .dit _, h => by simp [D.shows] at h
  | .ins _ _, h => by simp [D.shows] at h
  | .pot, h => by simp [D.shows] at h
  | .rdi _ _ _, h => by simp [D.shows] at h
  | .exc _ _, h => by simp [D.shows] at h
theorem shown_lens : ∀ (ds : List D), showsAll ds = true → ((PyData.shownAll (toPys ds)).map (·.length)).sum + 2 * (PyData.shownAll (toPys ds)).length ≤ rszs ds
  | [], _ => by simp [toPys, PyData.shownAll]
  | d :: ds, h => by
    simp only [showsAll, Bool.and_eq_true] at h
    have h1 := shown_len d h.1
    have h2 := shown_lens ds h.2
    simp only [toPys, PyData.shownAll, List.map_cons, List.sum_cons, List.length_cons, rszs]
    omega
end
mutual
theorem shows_py : ∀ (d : D), d.shows = true → d.toPy.showable = true ∧ d.toPy.hasDict = false ∧ d.toPy.canLay0 = true
  | .int i, h => by simpa [D.shows, D.toPy, PyData.showable, PyData.hasDict, PyData.canLay0] using h
  | .bl b, _ => by simp [D.toPy, PyData.showable, PyData.hasDict, PyData.canLay0]
  | .non, _ => by simp [D.toPy, PyData.showable, PyData.hasDict, PyData.canLay0]
  | .tup xs, h => by simpa [D.toPy, PyData.showable, PyData.hasDict, PyData.canLay0] using shows_pys xs (by simpa [D.shows] using h)
  | .lst xs, h => by simpa [D.toPy, PyData.showable, PyData.hasDict, PyData.canLay0] using shows_pys xs (by simpa [D.shows] using h)
  | .rol xs, h => by simpa [D.toPy, PyData.showable, PyData.hasDict, PyData.canLay0] using shows_pys xs (by simpa [D.shows] using h)
  | .str _, h => by simp [D.shows] at h
  | .dic _, h => by simp [D.shows] at h
  | .dit _, h => by simp [D.shows] at h
  | .ins _ _, h => by simp [D.shows] at h
  | .pot, h => by simp [D.shows] at h
  | .rdi _ _ _, h => by simp [D.shows] at h
  | .exc _ _, h => by simp [D.shows] at h
theorem shows_pys : ∀ (ds : List D), showsAll ds = true → PyData.showableAll (toPys ds) = true ∧ PyData.hasDictAll (toPys ds) = false ∧ PyData.canLayAll0 (toPys ds) = true
  | [], _ => by simp [toPys, PyData.showableAll, PyData.hasDictAll, PyData.canLayAll0]
  | d :: ds, h => by
    simp only [showsAll, Bool.and_eq_true] at h
    have h1 := shows_py d h.1
    have h2 := shows_pys ds h.2
    simp [toPys, PyData.showableAll, PyData.hasDictAll, PyData.canLayAll0, h1, h2]
end
def rRepr (K : PySem.W.Frag) : List V → Hp → L2.VK → Prop := fun xs H Q => ∃ x d, xs = [x] ∧ Dp K H x d ∧ d.showable = true ∧ d.hasDict = false ∧ d.shown.length ≤ sizeLine ∧ d.depth ≤ 60 ∧ Q (.str d.shown) H
theorem cr_repr {X : Cx} (hG : X.A.guards = some []) (hu : X.A.units + 64 < cLine) : CallR X (.builtin "repr") (rRepr X.K) := by
  intro pins s σ H xs us Q I r h
  obtain ⟨x, d, rfl, dp, hs, hnd, hz, hd, q⟩ := h
  obtain ⟨u, rfl, rx⟩ := vals1 r
  obtain ⟨as, rd⟩ := Dp.reads I d x u dp rx
  have noD : d.hasDict = true → sysModules ∉ as := PyData.noDict_hsm hnd
  have viaRef : ∀ a, u = .ref a → wpAny (model X.prog X.w) X.A (call (.builtin "repr") [u]) (EP X pins σ Q) X.xe s := fun a e => by
    subst e
    refine repr_of_reads' rd hs noD hG (by omega) (fun _ _ z => z) (fun h' t tk hk => ?_) hz
    exact ⟨.str _, H, I.kept (t' := tk) hk, ⟨_, rfl⟩, q⟩
  cases rd with
  | none => exact P.repr_of_none ⟨.str _, H, I.tok _, ⟨_, rfl⟩, q⟩
  | bool b => exact P.repr_of_bool ⟨.str _, H, I.tok _, ⟨_, rfl⟩, q⟩
  | int i t => exact P.repr_of_int (by simpa [PyData.showable] using hs) ⟨.str _, H, I.tok _, ⟨_, rfl⟩, q⟩
  | str x t => exact P.repr_of_str (h := ⟨.str _, H, I.tok _, ⟨_, rfl⟩, q⟩) (hsz := hz)
  | list _ _ _ _ => exact viaRef _ rfl
  | tuple _ _ _ _ => exact viaRef _ rfl
  | dict _ _ _ _ _ => exact viaRef _ rfl
def oRepr : OpA := oArg1 fun d _ Q => d.shows = true ∧ d.rsz ≤ SZ ∧ d.toPy.depth ≤ 60 ∧ Q (.str d.toPy.shown) .fresh
theorem l_repr {K : PySem.W.Frag} : LiftC K (rRepr K) oRepr :=
  lift1 (fun d p Q Q' hq ⟨a, b, c, q⟩ => ⟨a, b, c, hq _ _ q⟩) fun fp env Hs H P d p v Q h1 h2 f ⟨hs, hz, hd, q⟩ => by
    obtain ⟨F, dv, _⟩ := f
    obtain ⟨s1, s2, s3⟩ := shows_py d hs
    exact ⟨v, _, rfl, dv.dp s3, s1, s2, sz_of (Nat.le_trans (shown_len d hs) hz), hd, q _ H (Same.refl H) fin_str⟩
end VS

/-! sorted, max, min of data in lists and tuples -/
namespace VS
open PySem PySem.Spec PyProof.Rows L2
/-- data that can be sorted together -/
def Sorts (ds : List PyData) : Prop := PySem.W.AllAlike ds ∧ (PySem.W.Sortable ds ∨ (ds.length < 2 ∧ ∀ d ∈ ds, d ≠ .none)) ∧ ∀ d ∈ ds, d.depth ≤ 60
section
variable {prog : Program} {w : World} {A : Around} {E : Value → Shared → Prop} {s : Shared}
theorem sorts_at {vs : List Value} {ds : List PyData} (e : PySem.W.EachIs (fun v d => ∃ as, Reads s.heap v d as) vs ds) (h : Sorts ds) (hu : A.units + 60 < cLine) : PySem.W.SortsAt prog w A s (PySem.W.dataKind s.heap ds) vs := by
  obtain ⟨hal, hk, hd⟩ := h
  rcases hk with hk | ⟨hl, hn⟩
  · exact PySem.W.SortsAt.data e hal hk fun d hm => by have := hd d hm; omega
  · refine ⟨fun v hv => ?_, general', fun E x y a b Q ha hb hq => ?_, fun h2 => absurd h2 (by have := e.length; omega)⟩
    · obtain ⟨d, hm, as, r⟩ := e.left v hv
      exact ⟨_, PySem.W.dataKind_some hal hm r⟩
    · obtain ⟨d, as, m1, ra, rfl⟩ := PySem.W.dataKind_inv ha
      obtain ⟨d', as', m2, rb, rfl⟩ := PySem.W.dataKind_inv hb
      exact PySem.W.oneLt_alike (f := false) (fun z => nomatch z) ra rb (hal d m1 d' m2) (hn d m1) (by have := hd d m1; have := Nat.min_le_left d.depth d'.depth; omega) hq
theorem iadd_tup {t S : Addr} {o : Obj} {items : Array Value} {n c0 : Nat} {R : Result → Shared → Prop} (hS : s.heap.get? S = some { cls := .type "list", data := .seq #[] c0 }) (ho : s.heap.get? t = some o) (hc : o.cls = .type "tuple") (hd : o.data = .seq items n) (few : items.size ≤ sizeLine)
    (h : R (.ok (.ret (.ref S))) { s with heap := s.heap.update S (Obj.mapSeq (· ++ items)) }) : codeAny (model prog w) A (.builtin "list.__iadd__" ⟨[.ref S, .ref t], []⟩) R s :=
  codeAny_builtin entry_list_iadd' (wpAny_extend_seq S t (.ref S) c0 (.inr rfl) hS ho hc hd h few)
/-- all of a tuple's items into a new list -/
theorem collect_tup {t : Addr} {vs : List Value} {Q : List Value → Shared → Prop} (ht : s.heap.IsTuple t vs.toArray) (few : vs.length ≤ sizeLine)
    (h : Q vs { s with heap := (s.heap.push (seqObj "list" #[] 0)).update s.heap.objs.size (Obj.mapSeq (· ++ vs.toArray)) }) : wpAny (model prog w) A (collect (.ref t)) Q E s := by
  obtain ⟨o, ho, hc, n, hd⟩ := id ht
  have hS : (s.heap.push (seqObj "list" #[] 0)).get? s.heap.objs.size = some (seqObj "list" #[] 0) := Heap.get?_push_size _ rfl
  unfold collect
  refine wpAny_bind (wpAny_runValue (codeAny_builtin entry_proto_collect' ?_))
  show wpAny _ _ (newList [] >>= fun l => again (.builtin "list.__iadd__" ⟨[l, .ref t], []⟩)) _ _ s
  refine wpAny_bind (wpAny_newList (wpAny_pure ⟨Code.quiet_builtin _ (by decide +kernel), iadd_tup (s := { s with heap := s.heap.push (seqObj "list" #[] 0) }) hS (Heap.get?_push_of_some _ ho) hc hd (by simpa using few) ?_⟩))
  show wpAny (model prog w) A (load s.heap.objs.size >>= fun o => match o.data with
      | .seq xs _ => pure xs.toList
      | _ => unsupported "internal:collect") Q E { s with heap := (s.heap.push (seqObj "list" #[] 0)).update s.heap.objs.size (Obj.mapSeq (· ++ vs.toArray)) }
  refine wpAny_bind (wpAny_load (get?_update_seq hS _) ?_)
  show wpAny _ _ (pure ((#[] : Array Value) ++ vs.toArray).toList) Q E _
  rw [show ((#[] : Array Value) ++ vs.toArray).toList = vs by simp]
  exact wpAny_pure h
theorem sorted_tup_vals {κ : KeyKind} {l : Addr} {vs : List Value} {Q : Value → Shared → Prop} (hl : s.heap.IsTuple l vs.toArray) (S : PySem.W.SortsAt prog w A.in1.in1 { s with heap := PySem.W.sortingHeap (PySem.W.copyHeap s.heap vs) (s.heap.objs.size + 1) vs } κ vs) (hL : vs.length ≤ sizeLine)
    (h : Q (.ref (s.heap.objs.size + 1)) { s with heap := sortedAll s.heap vs (PySem.W.sortVals κ false vs vs).toArray }) : wpAny (model prog w) A (call (.builtin "sorted") [.ref l]) Q E s := by
  refine call_function_entry_kw kind_sorted plain_sorted entry_sorted (args_sorted1 _) ?_
  unfold Builtin.«sorted»
  refine wpAny_bind (m := checkCount "sorted" 1 1 _) (wpAny_pure ?_)
  refine wpAny_bind (collect_tup hl hL ?_)
  refine wpAny_bind (wpAny_newList ?_ hL)
  have sz : ((s.heap.push (seqObj "list" #[] 0)).update s.heap.objs.size (Obj.mapSeq (· ++ vs.toArray))).objs.size = s.heap.objs.size + 1 := by
    rw [Heap.size_update, size_push']
  show wpAny _ _ _ _ _ { s with heap := PySem.W.copyHeap s.heap vs }
  rw [sz]
  refine wpAny_bind (wpAny_holding (wpAny_call_entry_kw slot_list_sort ⟨_, PySem.W.copyHeap_at s.heap vs, rfl⟩ entry_list_sort ?_ (args_list_sort _)))
  refine wpAny_mono (PySem.W.list_sort_vals (s := { s with heap := PySem.W.copyHeap s.heap vs }) (P := fun f s' => f = .done (.ret .none) ∧ Q (.ref (s.heap.objs.size + 1)) s') (PySem.W.copyHeap_at s.heap vs) S hL ⟨rfl, h⟩) (fun f s' hf => ?_) fun _ _ e => e
  obtain ⟨rfl, q⟩ := hf
  exact ⟨_, rfl, wpAny_pure ⟨_, rfl, q⟩⟩

end
def rSortK (K : PySem.W.Frag) : List V → Hp → L2.VK → Prop := fun vs H Q => ∃ (k : SK) (a : Addr) (ps : List (V × PyData)), vs = [.ref a] ∧ SqK K k H a (ps.map (·.1)) ∧ (∀ p ∈ ps, Dp K H p.1 p.2) ∧ Sorts (ps.map (·.2)) ∧
  ∀ l, H l = none → Q (.ref l) (upd H l (.lst ((ps.mergeSort (PySem.W.dataLe false (·.2))).map (·.1))))
section
variable {X : Cx} {pins : List (Addr × Obj)} {σ : L2.St} {H : Hp} {s : Shared}
theorem each_of (I : Inv X pins σ H s) : ∀ {ps : List (V × PyData)} {its : List Value}, Vals (ps.map (·.1)) its → (∀ p ∈ ps, Dp X.K H p.1 p.2) → PySem.W.EachIs (fun u p => RelV p.1 u) its ps ∧ PySem.W.EachIs (fun u p => ∃ as, Reads s.heap u p.2 as) its ps
  | [], _, r, _ => by cases r; exact ⟨.nil, .nil⟩
  | p :: ps, _, r, h => by
    cases r with
    | cons r1 r2 =>
      obtain ⟨h1, h2⟩ := each_of I r2 fun q hq => h q (List.mem_cons_of_mem _ hq)
      exact ⟨.cons r1 h1, .cons (Dp.reads I _ _ _ (h p (by simp)) r1) h2⟩
theorem vals_of_each : ∀ {ps : List (V × PyData)} {its : List Value}, PySem.W.EachIs (fun u p => RelV p.1 u) its ps → Vals (ps.map (·.1)) its
  | [], _, .nil => .nil
  | _ :: _, _, .cons h t => .cons h (vals_of_each t)
end
theorem cr_sortK {X : Cx} (hu : X.A.units + 64 < cLine) : CallR X (.builtin "sorted") (rSortK X.K) := by
  intro pins s σ H vs us Q I r h
  obtain ⟨k, a, ps, rfl, hs, dp, so, q⟩ := h
  obtain ⟨its, rv, hl, hz⟩ := inv_sqK I hs
  rw [Vals.ref1 r]
  obtain ⟨e, er⟩ := each_of I rv dp
  have hL : its.length ≤ sizeLine := by rw [← rv.length]; exact hz
  have er' : PySem.W.EachIs (fun v d => ∃ as, Reads (PySem.W.sortingHeap (PySem.W.copyHeap s.heap its) (s.heap.objs.size + 1) its) v d as) its (ps.map (·.2)) :=
    PySem.W.each_map (R := fun v d => ∃ as, Reads (PySem.W.sortingHeap (PySem.W.copyHeap s.heap its) (s.heap.objs.size + 1) its) v d as) (·.2) (er.mono fun _ _ ⟨as, z⟩ => ⟨as, PyProof.Rows.Reads.keeps (fun _ _ => PySem.W.sorting_copy_old) z⟩)
  have S := sorts_at (prog := X.prog) (w := X.w) (A := X.A.in1.in1) (s := { s with heap := PySem.W.sortingHeap (PySem.W.copyHeap s.heap its) (s.heap.objs.size + 1) its }) er' so (by show X.A.units + 1 + 1 + 60 < cLine; omega)
  have out := PySem.W.sortVals_data (h' := PySem.W.sortingHeap (PySem.W.copyHeap s.heap its) (s.heap.objs.size + 1) its) (R := fun u (p : V × PyData) => RelV p.1 u) (enc := fun p => p.2) false e (er.mono fun _ _ ⟨as, z⟩ => ⟨as, PyProof.Rows.Reads.keeps (fun _ _ => PySem.W.sorting_copy_old) z⟩) so.1
  have fin : EP X pins σ Q (.ref (s.heap.objs.size + 1)) { s with heap := sortedAll s.heap its (PySem.W.sortVals (PySem.W.dataKind (PySem.W.sortingHeap (PySem.W.copyHeap s.heap its) (s.heap.objs.size + 1) its) (ps.map (·.2))) false its its).toArray } := by
    obtain ⟨ep, he⟩ := PyProof.Rows.sortedAll_at s.heap its (PySem.W.sortVals (PySem.W.dataKind (PySem.W.sortingHeap (PySem.W.copyHeap s.heap its) (s.heap.objs.size + 1) its) (ps.map (·.2))) false its its).toArray
    refine ⟨.ref _, upd H (s.heap.objs.size + 1) (.lst ((ps.mergeSort (PySem.W.dataLe false (·.2))).map (·.1))), I.laid (t' := s.toks) (fun _ _ => PyProof.Rows.sortedAll_old) (Nat.le_succ _) ⟨?_, _, ep, vals_of_each out, he⟩, rfl, q _ (I.hok.fresh (Nat.le_succ _))⟩
    rw [List.length_map, List.length_mergeSort, ← List.length_map (f := (·.1)) (as := ps)]
    exact hz
  cases k with
  | l => exact PySem.W.sorted_vals hl S hL fin
  | t => exact sorted_tup_vals hl S hL fin
/-- data in order -/
def sortD (ds : List D) : List D := ds.mergeSort (PySem.W.dataLe false D.toPy)
def oSorted : OpA := oArg1 fun d _ Q => ∃ ds, d.items = some ds ∧ immAll ds = true ∧ PyData.canLayAll0 (toPys ds) = true ∧ Sorts (toPys ds) ∧ Q (.lst (sortD ds)) .fresh
theorem dvs_perm {K : PySem.W.Frag} {P : List Addr} {H : Hp} : ∀ {qs : List (V × D)}, (∀ q ∈ qs, DV K P H q.2 q.1 []) → DVs K P H (qs.map (·.2)) (qs.map (·.1)) []
  | [], _ => .nil
  | q :: qs, h => DVs.cons (F := []) (G := []) (h q (by simp)) (dvs_perm fun z hz => h z (List.mem_cons_of_mem _ hz))
theorem dvs_zip {K : PySem.W.Frag} {P : List Addr} {H : Hp} : ∀ {ds : List D} {vs : List V}, DVs K P H ds vs [] → immAll ds = true → ∃ qs : List (V × D), qs.map (·.1) = vs ∧ qs.map (·.2) = ds ∧ ∀ q ∈ qs, DV K P H q.2 q.1 []
  | [], vs, h, _ => by cases h; exact ⟨[], rfl, rfl, fun _ z => by cases z⟩
  | d :: ds, _, h, hi => by
    simp only [immAll, Bool.and_eq_true] at hi
    generalize hF : ([] : List Addr) = F0 at h
    cases h with
    | @cons _ _ v _ _ _ h1 h2 =>
      have f1 := h1.imm_nil hi.1
      have f2 := h2.imm_nil hi.2
      subst f1 f2
      obtain ⟨qs, e1, e2, hq⟩ := dvs_zip h2 hi.2
      refine ⟨(v, d) :: qs, by simp [e1], by simp [e2], fun q hm => ?_⟩
      rcases List.mem_cons.mp hm with rfl | hm
      · exact h1
      · exact hq q hm
theorem sort_map {α β γ : Type} (f : α → β) (le : β → β → Bool) (l : List α) : (l.mergeSort fun a b => le (f a) (f b)).map f = (l.map f).mergeSort le :=
  List.map_mergeSort fun _ _ _ _ => rfl
theorem canLay_mem : ∀ {ds : List D}, PyData.canLayAll0 (toPys ds) = true → ∀ d ∈ ds, d.toPy.canLay0 = true
  | _ :: ds, h, d, hd => by
    simp only [toPys, PyData.canLayAll0, Bool.and_eq_true] at h
    rcases List.mem_cons.mp hd with rfl | hd
    · exact h.1
    · exact canLay_mem h.2 d hd
theorem l_sorted {K : PySem.W.Frag} : LiftC K (rSortK K) oSorted :=
  lift1 (fun d p Q Q' hq ⟨ds, e, a, b, c, q⟩ => ⟨ds, e, a, b, c, hq _ _ q⟩) fun fp env Hs H P d p v Q h1 h2 f ⟨ds, e, hi, hc, so, q⟩ => by
    obtain ⟨a, vs, G, rfl, hs, dv⟩ := f.seq e
    obtain ⟨qs, e1, e2, hq⟩ := dvs_zip (dv.imm_any hi) hi
    subst e1 e2
    have ez : qs.map (fun z => z.2.toPy) = toPys (qs.map (·.2)) := by rw [toPys_map, List.map_map]; rfl
    refine ⟨_, a, qs.map fun z => (z.1, z.2.toPy), rfl, by rw [List.map_map]; exact hs, fun z hz => ?_, by rw [List.map_map]; show Sorts (qs.map (fun z => z.2.toPy)); rw [ez]; exact so, fun l hl => ?_⟩
    · obtain ⟨w, hw, rfl⟩ := List.mem_map.mp hz
      exact (hq w hw).dp (canLay_mem hc _ (List.mem_map.mpr ⟨w, hw, rfl⟩))
    · have s1 : ((qs.map fun z => (z.1, z.2.toPy)).mergeSort (PySem.W.dataLe false (·.2))).map (·.1) = (qs.mergeSort fun x y => PySem.W.dataLe false D.toPy x.2 y.2).map (·.1) := by
        rw [← List.map_mergeSort (r := fun x y => PySem.W.dataLe false D.toPy x.2 y.2) (f := fun z : V × D => (z.1, z.2.toPy)) (fun _ _ _ _ => rfl), List.map_map]
        rfl
      have s2 : (qs.mergeSort fun x y => PySem.W.dataLe false D.toPy x.2 y.2).map (·.2) = sortD (qs.map (·.2)) := sort_map (γ := Unit) (·.2) (PySem.W.dataLe false D.toPy) qs
      rw [s1]
      have dv2 : DVs K P H ((qs.mergeSort fun x y => PySem.W.dataLe false D.toPy x.2 y.2).map (·.2)) ((qs.mergeSort fun x y => PySem.W.dataLe false D.toPy x.2 y.2).map (·.1)) [] := dvs_perm fun z hz => hq z (List.mem_mergeSort.mp hz)
      rw [s2] at dv2
      refine q _ _ (same_upd hl) (fin_lst h1 hl h2 dv2 ?_)
      rw [immAll_iff] at hi ⊢
      exact fun d hd => hi d (List.mem_mergeSort.mp hd)
end VS

/-! own lists change -/
namespace VS
open PySem PySem.Spec PyProof.Rows L2
variable {Θ : List (Addr × Str)}
/-- a part within lists -/
def Dat : D → List Nat → Option D
  | d, [] => some d
  | .lst ds, n :: p => (ds[n]?).bind fun e => Dat e p
  | _, _ :: _ => none
def Dput : D → List Nat → D → D
  | _, [], e => e
  | .lst ds, n :: p, e => .lst (ds.set n (Dput (ds.getD n .non) p e))
  | d, _ :: _, _ => d
def Sub (H : Hp) (v : V) : List Nat → V → Prop
  | [], u => v = u
  | n :: p, u => ∃ a vs w, v = .ref a ∧ H a = some (.lst vs) ∧ vs[n]? = some w ∧ Sub H w p u
theorem Sub.snoc {H : Hp} {n : Nat} {a : Addr} {vs : List V} {w : V} : ∀ {p : List Nat} {v : V}, Sub H v p (.ref a) → H a = some (.lst vs) → vs[n]? = some w → Sub H v (p ++ [n]) w
  | [], v, h, h1, h2 => ⟨a, vs, w, h, h1, h2, rfl⟩
  | m :: p, v, ⟨b, us, x, e, e1, e2, h⟩, h1, h2 => ⟨b, us, x, e, e1, e2, Sub.snoc h h1 h2⟩
theorem Dat_snoc {n : Nat} : ∀ {p : List Nat} {d : D}, Dat d (p ++ [n]) = (Dat d p).bind fun e => Dat e [n]
  | [], d => by simp [Dat]
  | m :: p, d => by
    cases d with
    | lst ds =>
      simp only [List.cons_append, Dat]
      cases ds[m]? with
      | none => rfl
      | some e => exact Dat_snoc (p := p)
    | _ => rfl
section
variable {K : PySem.W.Frag} {P P' : List Addr} {H H' : Hp}
theorem DVs.split : ∀ {ds : List D} {vs : List V} {F : List Addr} {n : Nat} {d : D}, DVs K P H ds vs F → ds[n]? = some d → ∃ w L G R, vs[n]? = some w ∧ DV K P H d w G ∧ F = L ++ (G ++ R) ∧ DVs K P H (ds.take n) (vs.take n) L ∧ DVs K P H (ds.drop (n + 1)) (vs.drop (n + 1)) R
  | _, _, _, _, _, .nil, e => by simp at e
  | d :: ds, v :: vs, _, 0, _, .cons (F := F) (G := G) h hs, e => by
    simp at e
    subst e
    exact ⟨v, [], F, G, rfl, h, rfl, .nil, by simpa using hs⟩
  | d :: ds, v :: vs, _, n + 1, d', .cons (F := F) (G := G) h hs, e => by
    obtain ⟨w, L, G', R, h1, h2, h3, h4, h5⟩ := DVs.split (n := n) (d := d') hs (by simpa using e)
    exact ⟨w, F ++ L, G', R, by simpa using h1, h2, by rw [h3, List.append_assoc], by simpa using DVs.cons h h4, by simpa using h5⟩
/-- the value at a part; it stays -/
theorem DV.sub : ∀ {p : List Nat} {d e : D} {v : V} {F : List Addr}, DV K P H d v F → Dat d p = some e → ∃ u G, Sub H v p u ∧ DV K P H e u G ∧ G.Sublist F
  | [], d, e, v, F, h, z => by
    simp [Dat] at z
    subst z
    exact ⟨v, F, rfl, h, List.Sublist.refl _⟩
  | n :: p, d, e, v, F, h, z => by
    cases d with
    | lst ds =>
      obtain ⟨a, vs, G0, rfl, ha, hn, dvs, rfl⟩ := h.lst_inv
      simp only [Dat] at z
      cases q : ds[n]? with
      | none => rw [q] at z; cases z
      | some d1 =>
        rw [q] at z
        obtain ⟨w, G1, k1, k2, k3⟩ := dvs.getD q
        obtain ⟨u, G, s1, s2, s3⟩ := DV.sub k2 z
        exact ⟨u, G, ⟨a, vs, w, rfl, ha, k1, s1⟩, s2, (s3.trans k3).trans (List.sublist_cons_self _ _)⟩
    | _ => simp [Dat] at z
theorem Sub.evo (e : Evo Θ P P' H H') : ∀ {p : List Nat} {d c : D} {v u : V} {F : List Addr}, DV K P H d v F → Dat d p = some c → Sub H v p u → Sub H' v p u
  | [], _, _, _, _, _, _, _, h => h
  | n :: p, d, c, v, u, F, h, z, hs => by
    cases d with
    | lst ds =>
      obtain ⟨a, vs, G0, rfl, ha, hn, dvs, rfl⟩ := h.lst_inv
      obtain ⟨b, us, w, e1, e2, e3, e4⟩ := hs
      cases e1
      rw [ha] at e2
      cases e2
      simp only [Dat] at z
      cases q : ds[n]? with
      | none => rw [q] at z; cases z
      | some d1 =>
        rw [q] at z
        obtain ⟨w', G1, k1, k2, k3⟩ := dvs.getD q
        rw [e3] at k1
        cases k1
        exact ⟨a, vs, w, rfl, e.keep _ _ ha hn nt_lst, e3, Sub.evo e k2 z e4⟩
    | _ => simp [Dat] at z
theorem Sub.uniq {u w : V} : ∀ {p : List Nat} {v : V}, Sub H v p u → Sub H v p w → u = w
  | [], _, h, g => h.symm.trans g
  | n :: p, _, ⟨a, vs, x, e1, e2, e3, h⟩, ⟨b, us, y, f1, f2, f3, g⟩ => by
    rw [e1] at f1
    cases f1
    rw [e2] at f2
    cases f2
    rw [e3] at f3
    cases f3
    exact Sub.uniq h g
theorem DV.mutAt {a : Addr} {es : List D} : ∀ {p : List Nat} {d : D} {v : V} {F : List Addr}, DV K P H d v F → F.Nodup → Dat d p = some (.lst es) → Sub H v p (.ref a) →
    ∃ us G, H a = some (.lst us) ∧ a ∉ P ∧ DVs K P H es us G ∧ (a :: G).Sublist F ∧
      ∀ es' us' G', DVs K P H es' us' G' → a ∉ G' → G'.Nodup → (∀ b ∈ G', b ∈ G ∨ b ∉ F) → ∃ F', DV K P (L2.upd H a (.lst us')) (Dput d p (.lst es')) v F' ∧ F'.Nodup ∧ ∀ b ∈ F', b ∈ F ∨ b ∈ G'
  | [], d, v, F, h, nd, z, hs => by
    simp [Dat] at z
    subst z
    obtain ⟨b, vs, G, rfl, hb, hn, dvs, rfl⟩ := h.lst_inv
    cases hs
    refine ⟨vs, G, hb, hn, dvs, List.Sublist.refl _, fun es' us' G' h1 h2 h3 h4 => ⟨a :: G', .lst upd_same hn (h1.mut hb trivial h2), List.nodup_cons.mpr ⟨h2, h3⟩, fun c hc => ?_⟩⟩
    rcases List.mem_cons.mp hc with rfl | hc
    · exact .inl (by simp)
    · exact .inr hc
  | n :: p, d, v, F, h, nd, z, hs => by
    cases d with
    | lst ds =>
      obtain ⟨b, vs, G0, rfl, hb, hn, dvs, rfl⟩ := h.lst_inv
      obtain ⟨b', vs', w, e1, e2, e3, e4⟩ := hs
      cases e1
      rw [hb] at e2
      cases e2
      simp only [Dat] at z
      cases q : ds[n]? with
      | none => rw [q] at z; cases z
      | some d1 =>
        rw [q] at z
        obtain ⟨w', L, G1, R, k1, k2, k3, k4, k5⟩ := dvs.split q
        rw [e3] at k1
        cases k1
        subst k3
        obtain ⟨nb, nd0⟩ := List.nodup_cons.mp nd
        obtain ⟨n1, n2, n3⟩ := List.nodup_append.mp nd0
        obtain ⟨n4, n5, n6⟩ := List.nodup_append.mp n2
        obtain ⟨us, G, m1, m2, m3, m4, m5⟩ := DV.mutAt k2 n4 z e4
        have ha : a ∈ G1 := m4.subset (by simp)
        have nab : a ≠ b := fun e => nb (by rw [← e]; simp [ha])
        have sub : G1.Sublist (b :: (L ++ (G1 ++ R))) := ((List.sublist_append_left G1 R).trans (List.sublist_append_right L _)).trans (List.sublist_cons_self _ _)
        refine ⟨us, G, m1, m2, m3, m4.trans sub, fun es' us' G' h1 h2 h3 h4 => ?_⟩
        obtain ⟨F', q1, q2, q3⟩ := m5 es' us' G' h1 h2 h3 (fun c hc => (h4 c hc).imp id fun z z' => z (sub.subset z'))
        have aL : a ∉ L := fun z => n3 a z a (by simp [ha]) rfl
        have aR : a ∉ R := fun z => n6 a ha a z rfl
        have hbu : L2.upd H a (.lst us') b = some (.lst vs) := by rw [upd_ne (Ne.symm nab)]; exact hb
        have hn' : n < ds.length := (List.getElem?_eq_some_iff.mp q).1
        have hnv : n < vs.length := (List.getElem?_eq_some_iff.mp e3).1
        have dd : ds.getD n .non = d1 := by rw [List.getD_eq_getElem?_getD, q]; rfl
        have ev : vs = vs.take n ++ w :: vs.drop (n + 1) := by
          have := (List.getElem?_eq_some_iff.mp e3).2
          rw [← this, List.getElem_cons_drop hnv, List.take_append_drop]
        have ed : ds.set n (Dput d1 p (.lst es')) = ds.take n ++ Dput d1 p (.lst es') :: ds.drop (n + 1) := by
          rw [List.set_eq_take_append_cons_drop, if_pos hn']
        refine ⟨b :: (L ++ (F' ++ R)), ?_, ?_, ?_⟩
        · have : Dput (.lst ds) (n :: p) (.lst es') = .lst (ds.set n (Dput d1 p (.lst es'))) := by rw [Dput, dd]
          rw [this, ed]
          refine .lst hbu hn ?_
          have hsum := (k4.mut m1 trivial aL (o := .lst us')).append (.cons q1 (k5.mut m1 trivial aR (o := .lst us')))
          rw [← ev] at hsum
          exact hsum
        · have out : ∀ c ∈ F', c ∉ L ∧ c ∉ R ∧ c ≠ b := fun c hc => by
            rcases q3 c hc with z | z
            · exact ⟨fun z' => n3 c z' c (by simp [z]) rfl, fun z' => n6 c z c z' rfl, fun e => nb (by rw [← e]; simp [z])⟩
            · rcases h4 c z with z' | z'
              · have z2 : c ∈ G1 := m4.subset (List.mem_cons_of_mem _ z')
                exact ⟨fun z' => n3 c z' c (by simp [z2]) rfl, fun z' => n6 c z2 c z' rfl, fun e => nb (by rw [← e]; simp [z2])⟩
              · simp only [List.mem_cons, List.mem_append, not_or] at z'
                exact ⟨z'.2.1, z'.2.2.2, z'.1⟩
          refine List.nodup_cons.mpr ⟨?_, List.nodup_append.mpr ⟨n1, List.nodup_append.mpr ⟨q2, n5, fun c hc c' hc' e => (out c hc).2.1 (by rw [e]; exact hc')⟩, fun c hc c' hc' e => ?_⟩⟩
          · simp only [List.mem_append, not_or] at nb ⊢
            exact ⟨nb.1, fun z => (out b z).2.2 rfl, nb.2.2⟩
          · rcases List.mem_append.mp hc' with z | z
            · exact (out c' z).1 (by rw [← e]; exact hc)
            · exact n3 c hc c' (by simp [z]) e
        · intro c hc
          simp only [List.mem_cons, List.mem_append] at hc ⊢
          rcases hc with z | z | z | z
          · exact .inl (.inl z)
          · exact .inl (.inr (.inl z))
          · rcases q3 c z with z | z
            · exact .inl (.inr (.inr (.inl z)))
            · exact .inr z
          · exact .inl (.inr (.inr (.inr z)))
    | _ => simp [Dat] at z
end
/-- behind a change of an own slot: what was borrowed is not known any more -/
def killE (env : Env) : Env := env.map fun o => match o with
  | some (.bor, _) => none
  | o => o
def putE (env : Env) (i : Nat) (d : D) : Env := (killE env).set i (some (.own, d))
theorem kill_get {env : Env} {i : Nat} {f : Fl} {d : D} (h : (killE env)[i]? = some (some (f, d))) : env[i]? = some (some (f, d)) ∧ f ≠ .bor := by
  unfold killE at h
  rw [List.getElem?_map] at h
  cases q : env[i]? with
  | none => rw [q] at h; cases h
  | some o =>
    rw [q] at h
    cases o with
    | none => cases h
    | some fd =>
      obtain ⟨f', d'⟩ := fd
      cases f' with
      | own => cases h; exact ⟨rfl, by simp⟩
      | lck => cases h; exact ⟨rfl, by simp⟩
      | bor => cases h
theorem put_get {env : Env} {i j : Nat} {d e : D} {f : Fl} (h : (putE env i d)[j]? = some (some (f, e))) : (j = i ∧ f = .own ∧ e = d) ∨ (j ≠ i ∧ env[j]? = some (some (f, e)) ∧ f ≠ .bor) := by
  unfold putE at h
  by_cases hj : j = i
  · subst hj
    left
    by_cases hl : j < (killE env).length
    · rw [List.getElem?_set_self hl] at h
      cases h
      exact ⟨rfl, rfl, rfl⟩
    · rw [List.getElem?_eq_none (by rw [List.length_set]; omega)] at h; cases h
  · rw [List.getElem?_set_ne (Ne.symm hj)] at h
    exact .inr ⟨hj, kill_get h⟩
section
variable {K : PySem.W.Frag} {R : RC} {env : Env} {σ : L2.St} {H H' : Hp} {P P' : List Addr} {fp : Nat → List Addr} {T : Tmp}
theorem set_none_get {i j : Nat} {x : Fl × D} (h : (env.set j none)[i]? = some (some x)) : env[i]? = some (some x) ∧ i ≠ j := by
  by_cases e : j = i
  · subst e
    by_cases hl : j < env.length
    · rw [List.getElem?_set_self hl] at h; cases h
    · rw [List.getElem?_eq_none (by rw [List.length_set]; omega)] at h; cases h
  · rw [List.getElem?_set_ne e] at h
    exact ⟨h, Ne.symm e⟩
theorem Rep.lose (r : Rep K R env σ H P fp T) (j : Nat) : Rep K R (env.set j none) σ H P fp T where
  len := by rw [List.length_set]; exact r.len
  base := r.base
  tab := r.tab
  slot := fun i f d h => r.slot i f d (set_none_get h).1
  own := fun i d h => r.own i d (set_none_get h).1
  dis := fun i k d e hik h1 h2 => r.dis i k d e hik (set_none_get h1).1 (set_none_get h2).1
  lck := fun i d h => r.lck i d (set_none_get h).1
  tmp := r.tmp
  tds := fun t ht i d h => r.tds t ht i d (set_none_get h).1
  tex := r.tex
  tdj := r.tdj
/-- the own slot i, changed at a part -/
theorem Rep.mutate {i : Nat} {D0 : D} {p : List Nat} {es es' : List D} {a : Addr} {v0 : V} {us' : List V} (r : Rep K R env σ H P fp T) (hi : env[i]? = some (some (Fl.own, D0))) (hv : σ[i]? = some (some v0)) (hat : Dat D0 p = some (.lst es)) (hs : Sub H v0 p (.ref a))
    (ok : ∀ us G, H a = some (.lst us) → DVs K P H es us G → (a :: G).Nodup → (a :: G).Sublist (fp i) → ∃ G', DVs K P H es' us' G' ∧ a ∉ G' ∧ G'.Nodup ∧ ∀ b ∈ G', b ∈ G ∨ (R.H0 b = none ∧ Live H b ∧ (∀ j e, env[j]? = some (some (Fl.own, e)) → b ∉ fp j) ∧ ∀ t ∈ T, b ∉ t.F)) :
    ∃ fp', Rep K R (putE env i (Dput D0 p (.lst es'))) σ (L2.upd H a (.lst us')) P fp' T := by
  obtain ⟨v, hv', dv⟩ := r.slot i _ _ hi
  rw [hv] at hv'
  cases hv'
  obtain ⟨nd, own⟩ := r.own i _ hi
  obtain ⟨us, G, m1, m2, m3, m4, m5⟩ := dv.mutAt nd hat hs
  have haF : a ∈ fp i := m4.subset (by simp)
  obtain ⟨G', dvs', ok1, ok2, ok3⟩ := ok us G m1 m3 (nd.sublist m4) m4
  obtain ⟨F', q1, q2, q3⟩ := m5 es' us' G' dvs' ok1 ok2 fun b hb => (ok3 b hb).imp id fun z => z.2.2.1 i _ hi
  have live : ∀ b, Live H b → Live (L2.upd H a (.lst us')) b := fun b h => by
    by_cases e : b = a
    · subst e; exact ⟨_, upd_same, trivial⟩
    · exact h.upd e
  have q4 : ∀ b ∈ F', b ∈ fp i ∨ (R.H0 b = none ∧ Live H b ∧ (∀ j e, env[j]? = some (some (Fl.own, e)) → b ∉ fp j) ∧ ∀ t ∈ T, b ∉ t.F) := fun b hb => by
    rcases q3 b hb with z | z
    · exact .inl z
    · rcases ok3 b z with z | z
      · exact .inl (m4.subset (List.mem_cons_of_mem _ z))
      · exact .inr z
  have a0 : R.H0 a = none := (own a haF).1
  have NTB := MutO.ntb m1 trivial
  refine ⟨fun j => if j = i then F' else fp j, ?_, ?_, fun p hp => tabS_upd (r.tab p hp) NTB.1 NTB.2, fun j f d h => ?_, fun j d h => ?_, fun j k d e hjk h1 h2 => ?_, fun j d h => ?_, fun t ht => ?_, fun t ht j d h => ?_, fun t ht hx => ?_, r.tdj⟩
  · simp [putE, killE, r.len]
  · exact r.base.out a0 NTB
  · rcases put_get h with ⟨rfl, rfl, rfl⟩ | ⟨hj, h, hf⟩
    · exact ⟨v0, hv, by simp only [if_pos]; exact q1⟩
    · obtain ⟨v, h1, h2⟩ := r.slot j f d h
      refine ⟨v, h1, ?_⟩
      simp only [if_neg hj]
      refine h2.mut m1 trivial fun z => ?_
      cases f with
      | own => exact r.dis i j _ _ (Ne.symm hj) hi h a haF z
      | lck => exact r.lck j d h a z a0
      | bor => exact hf rfl
  · rcases put_get h with ⟨rfl, _, rfl⟩ | ⟨hj, h, hf⟩
    · simp only [if_pos]
      refine ⟨q2, fun b hb => ?_⟩
      rcases q4 b hb with z | z
      · exact ⟨(own b z).1, live b (own b z).2⟩
      · exact ⟨z.1, live b z.2.1⟩
    · simp only [if_neg hj]
      exact ⟨(r.own j d h).1, fun b hb => ⟨((r.own j d h).2 b hb).1, live b ((r.own j d h).2 b hb).2⟩⟩
  · have key : ∀ j e, j ≠ i → env[j]? = some (some (Fl.own, e)) → Disj F' (fp j) := fun j e hj h b hb hm => by
      rcases q4 b hb with z | z
      · exact r.dis i j _ _ (Ne.symm hj) hi h b z hm
      · exact z.2.2.1 j e h hm
    rcases put_get h1 with ⟨e1, _, _⟩ | ⟨hj, g1, _⟩
    · rcases put_get h2 with ⟨e2, _, _⟩ | ⟨hk, g2, _⟩
      · exact absurd (e1.trans e2.symm) hjk
      · simp only [if_pos e1, if_neg hk]
        exact key k e hk g2
    · rcases put_get h2 with ⟨e2, _, _⟩ | ⟨hk, g2, _⟩
      · simp only [if_pos e2, if_neg hj]
        exact fun b hb hm => key j d hj g1 b hm hb
      · simp only [if_neg hj, if_neg hk]
        exact r.dis j k d e hjk g1 g2
  · rcases put_get h with ⟨_, z, _⟩ | ⟨hj, h, _⟩
    · cases z
    · simp only [if_neg hj]
      exact r.lck j d h
  · exact (r.tmp t ht).mut m1 trivial fun z => r.tds t ht i _ hi a haF z
  · rcases put_get h with ⟨rfl, _, _⟩ | ⟨hj, h, _⟩
    · simp only [if_pos]
      intro b hb hm
      rcases q4 b hb with z | z
      · exact r.tds t ht j _ hi b z hm
      · exact z.2.2.2 t ht hm
    · simp only [if_neg hj]
      exact r.tds t ht j d h
  · exact ⟨(r.tex t ht hx).1, fun b hb => ⟨((r.tex t ht hx).2 b hb).1, live b ((r.tex t ht hx).2 b hb).2⟩⟩
end
end VS

namespace VS
open PySem PySem.Spec PyProof.Rows L2
variable {Θ : List (Addr × Str)}
/-! ### what is put into an own slot i -/
def absorb (env : Env) (i : Nat) (d : D) (p : Prov) : Option Env := match p with
  | .fresh => some env
  | .all j => if d.imm = true then some env else if j = i then none else (match env[j]? with
    | some (some (.own, _)) => some (env.set j none)
    | _ => none)
  | .sub _ => if d.imm = true then some env else none
  | .any => if d.imm = true then some env else none
section
variable {K : PySem.W.Frag} {R : RC} {env env1 : Env} {σ : L2.St} {H Hs H' : Hp} {P P' : List Addr} {fp : Nat → List Addr} {T : Tmp} {d : D} {p : Prov} {v : V} {F : List Addr} {i : Nat}
/-- its objects are free to be put in -/
def Free (R : RC) (env : Env) (H : Hp) (fp : Nat → List Addr) (T : Tmp) (G : List Addr) : Prop :=
  G.Nodup ∧ ∀ b ∈ G, R.H0 b = none ∧ Live H b ∧ (∀ j e, env[j]? = some (some (Fl.own, e)) → b ∉ fp j) ∧ ∀ t ∈ T, b ∉ t.F
theorem absorb_ok (rep : Rep K R env σ H P fp T) (dv : DV K P H d v F) (h : PIn R env H fp T F p) (hk : POk fp env Hs H d F p) (ha : absorb env i d p = some env1) (hi : ∃ D0, env[i]? = some (some (Fl.own, D0))) :
    Rep K R env1 σ H P fp T ∧ Free R env1 H fp T F ∧ ∀ D0, env[i]? = some (some (Fl.own, D0)) → env1[i]? = some (some (Fl.own, D0)) := by
  have imm : d.imm = true → env1 = env → Rep K R env1 σ H P fp T ∧ Free R env1 H fp T F ∧ ∀ D0, env[i]? = some (some (Fl.own, D0)) → env1[i]? = some (some (Fl.own, D0)) := fun q e => by
    subst e
    rw [dv.imm_nil q]
    exact ⟨rep, ⟨List.nodup_nil, fun _ z => by cases z⟩, fun _ z => z⟩
  cases p with
  | fresh =>
    cases ha
    exact ⟨rep, h, fun _ z => z⟩
  | sub j =>
    simp only [absorb] at ha
    split at ha
    · cases ha; exact imm (by assumption) rfl
    · cases ha
  | any =>
    simp only [absorb] at ha
    split at ha
    · cases ha; exact imm (by assumption) rfl
    · cases ha
  | all j =>
    simp only [absorb] at ha
    split at ha
    · cases ha; exact imm (by assumption) rfl
    · split at ha
      · cases ha
      · rename_i hji
        split at ha
        · rename_i d' hj
          cases ha
          have e : F = fp j := hk.2
          refine ⟨rep.lose j, ?_, fun D0 z => by rw [List.getElem?_set_ne hji]; exact z⟩
          rw [e]
          obtain ⟨n, l⟩ := rep.own j _ hj
          refine ⟨n, fun b hb => ⟨(l b hb).1, (l b hb).2, fun k e hk => ?_, fun t ht => rep.tds t ht j _ hj b hb⟩⟩
          obtain ⟨hk1, hk2⟩ := set_none_get hk
          exact rep.dis j k _ _ (Ne.symm hk2) hj hk1 b hb
        · cases ha
end
/-! ### places: an own list, a list in it -/
abbrev VPl := Env → (Nat → List Nat → Prop) → Prop
def liftPl (K : PySem.W.Frag) (R : RC) (c : Nat) (t : VPl) : TE := fun σ H Q => ∃ env P fp T r, Rep K R env σ H P fp T ∧ Pots (c + r) P H ∧
  t env fun i p => ∀ v0 v H' P', Evo R.T P P' H H' → Pots r P' H' → σ[i]? = some (some v0) → Sub H' v0 p v → Q v H'
structure VPc (X : Cx) (R : RC) (c : Nat) (e : Expr) (t : VPl) : Prop where
  mono : ∀ env (Q Q' : Nat → List Nat → Prop), (∀ i p, Q i p → Q' i p) → t env Q → t env Q'
  run : PE X e (liftPl X.K R c t)
def pVar (i : Nat) : VPl := fun env Q => (∃ D0, env[i]? = some (some (Fl.own, D0))) ∧ Q i []
def pIx (t : VPl) (u : VT) : VPl := fun env Q => t env fun i p => u env fun d _ => ∃ k : Int, ∃ n D0 ds, d = .int k ∧ env[i]? = some (some (Fl.own, D0)) ∧ Dat D0 p = some (.lst ds) ∧ ixN ds.length k = some n ∧ Q i (p ++ [n])
section
variable {X : Cx} {R : RC} {pos : Pos} {a b e : Expr} {t : VPl} {u te : VT} {c c₁ c₂ : Nat}
theorem vp_var (i : Nat) {x : Str} (hN : X.N[i]? = some x := by rfl) (hv : Vis X.env.scope x := by first | exact Or.inl rfl | exact Or.inr (Or.inl rfl) | exact Or.inr (Or.inr rfl)) (hd : (x == ("__debug__" : Str)) = false := by decide)
    (hcd : (x == ("__classdict__" : Str)) = false := by decide) : VPc X R 0 (.Name x pos) (pVar i) where
  mono := fun env Q Q' h q => ⟨q.1, h _ _ q.2⟩
  run := PE.imp (pe_var hN hv hd hcd) fun σ H Q ⟨env, P, fp, T, r, rep, pots, ⟨D0, e⟩, q⟩ => by
    obtain ⟨v, h1, h2⟩ := rep.slot i _ _ e
    exact ⟨v, h1, q v v H P Evo.refl (pots.le (by omega)) h1 rfl⟩
theorem vp_ix (h : VPc X R c₁ a t) (g : VE X R c₂ b u) (hs : PlainIx b := by intro _ _; rfl) : VPc X R (c₁ + c₂) (.Subscript a b pos) (pIx t u) where
  mono := fun env Q Q' hq q => h.mono _ _ _ (fun i p q => g.mono _ _ _ (fun d _ ⟨k, n, D0, ds, e1, e2, e3, e4, q⟩ => ⟨k, n, D0, ds, e1, e2, e3, e4, hq _ _ q⟩) q) q
  run := PE.imp (pe_ix ix_list h.run g.run hs) fun σ H Q ⟨env, P, fp, T, r, rep, pots, q⟩ => by
    refine ⟨env, P, fp, T, c₂ + r, rep, by rw [← Nat.add_assoc]; exact pots, h.mono _ _ _ (fun i p q => ?_) q⟩
    intro v0 v H1 P1 e1 pots1 hv hsub
    refine ⟨env, P1, fp, T, r, rep.evo e1, pots1, g.mono _ _ _ (fun d _ ⟨k, n, D0, ds, z1, z2, z3, z4, q⟩ => ?_) q⟩
    intro w H2 P2 e2 pots2 f2
    subst z1
    obtain rfl := f2.int_inv
    obtain ⟨v', hv', dv⟩ := rep.slot i _ _ z2
    rw [hv] at hv'
    cases hv'
    have dv1 := dv.evo e1
    have sub2 := Sub.evo e2 dv1 z3 hsub
    obtain ⟨u', G, s1, s2, s3⟩ := (dv1.evo e2).sub z3
    obtain rfl := Sub.uniq sub2 s1
    obtain ⟨l, vs, G0, rfl, hl, hln, dvs, _⟩ := s2.lst_inv
    obtain ⟨_, hn, _, _⟩ := ixN_seq z4
    have hn2 : n < vs.length := by rw [← dvs.length]; exact hn
    refine ⟨l, vs, k, vs[n]'hn2, rfl, rfl, .inl (.inl hl), ?_, q v0 _ H2 P2 (e1.trans e2) pots2 hv (sub2.snoc hl (List.getElem?_eq_getElem hn2))⟩
    unfold atI
    rw [← dvs.length, z4]
    exact List.getElem?_eq_getElem hn2
/-- the list at a place -/
theorem place_at {K : PySem.W.Frag} {env : Env} {σ : L2.St} {H H' : Hp} {P P' : List Addr} {fp : Nat → List Addr} {T : Tmp} {i : Nat} {p : List Nat} {D0 : D} {es : List D} {v0 v : V} (rep : Rep K R env σ H P fp T) (e : Evo R.T P P' H H') (hi : env[i]? = some (some (Fl.own, D0))) (hat : Dat D0 p = some (.lst es)) (hv : σ[i]? = some (some v0)) (hs : Sub H v0 p v) :
    ∃ a vs, v = .ref a ∧ H a = some (.lst vs) ∧ H' a = some (.lst vs) ∧ vs.length = es.length ∧ Sub H' v0 p (.ref a) := by
  obtain ⟨v', hv', dv⟩ := rep.slot i _ _ hi
  rw [hv] at hv'
  cases hv'
  obtain ⟨u', G, s1, s2, s3⟩ := dv.sub hat
  obtain rfl := Sub.uniq hs s1
  obtain ⟨l, vs, G0, rfl, hl, hln, dvs, _⟩ := s2.lst_inv
  exact ⟨l, vs, rfl, hl, e.keep _ _ hl hln nt_lst, dvs.length.symm, Sub.evo e dv hat hs⟩
/-- behind a change at a place: ds' made of the items there and of what was put in -/
theorem changed {K : PySem.W.Frag} {env : Env} {σ : L2.St} {H : Hp} {P : List Addr} {fp : Nat → List Addr} {T : Tmp} {i : Nat} {p : List Nat} {D0 : D} {es : List D} {v0 : V} {a : Addr} {Fx : List Addr} {xs : List D} {ws : List V} (rep : Rep K R env σ H P fp T) (hi : env[i]? = some (some (Fl.own, D0))) (hat : Dat D0 p = some (.lst es)) (hv : σ[i]? = some (some v0)) (hs : Sub H v0 p (.ref a)) (dx : DVs K P H xs ws Fx) (fx : Free R env H fp T Fx)
    (es' : List D) (us' : List V) (mk : ∀ us G, H a = some (.lst us) → DVs K P H es us G → ∃ G', DVs K P H es' us' G' ∧ (G'.Sublist (G ++ Fx) ∨ ∃ G1 G2, G = G1 ++ G2 ∧ G'.Sublist (G1 ++ (Fx ++ G2)))) :
    ∃ fp', Rep K R (putE env i (Dput D0 p (.lst es'))) σ (L2.upd H a (.lst us')) P fp' T := by
  obtain ⟨v', hv', dv⟩ := rep.slot i _ _ hi
  rw [hv] at hv'
  cases hv'
  refine rep.mutate hi hv hat hs fun us G m1 m3 haG m4 => ?_
  obtain ⟨G', g1, g2⟩ := mk us G m1 m3
  obtain ⟨hna, hnG⟩ := List.nodup_cons.mp haG
  have haF : a ∈ fp i := m4.subset (by simp)
  have nFx : ∀ b ∈ Fx, b ∉ fp i := fun b hb => (fx.2 b hb).2.2.1 i _ hi
  have dj : ∀ b ∈ G, ∀ c ∈ Fx, b ≠ c := fun b hb c hc e => nFx c hc (by rw [← e]; exact m4.subset (List.mem_cons_of_mem _ hb))
  have memG : ∀ b ∈ G', b ∈ G ∨ b ∈ Fx := fun b hb => by
    rcases g2 with g2 | ⟨G1, G3, rfl, g2⟩
    · exact List.mem_append.mp (g2.subset hb)
    · have := g2.subset hb
      simp only [List.mem_append] at this ⊢
      rcases this with z | z | z
      · exact .inl (.inl z)
      · exact .inr z
      · exact .inl (.inr z)
  have ndG : G'.Nodup := by
    rcases g2 with g2 | ⟨G1, G3, rfl, g2⟩
    · exact (List.nodup_append.mpr ⟨hnG, fx.1, dj⟩).sublist g2
    · obtain ⟨n1, n2, n3⟩ := List.nodup_append.mp hnG
      refine List.Nodup.sublist g2 (List.nodup_append.mpr ⟨n1, List.nodup_append.mpr ⟨fx.1, n2, fun b hb c hc e => dj c (by simp [hc]) b hb e.symm⟩, fun b hb c hc e => ?_⟩)
      rcases List.mem_append.mp hc with z | z
      · exact dj b (by simp [hb]) c z e
      · exact n3 b hb c z e
  refine ⟨G', g1, fun hm => ?_, ndG, fun b hb => ?_⟩
  · rcases memG a hm with z | z
    · exact hna z
    · exact nFx a z haF
  · rcases memG b hb with z | z
    · exact .inl z
    · exact .inr (fx.2 b z)

theorem Free.out {K : PySem.W.Frag} {env : Env} {σ : L2.St} {H H' : Hp} {P : List Addr} {fp : Nat → List Addr} {T : Tmp} {F : List Addr} (rep : Rep K R env σ H P fp T) (h : F.Nodup ∧ ∀ b ∈ F, H b = none ∧ Live H' b) : Free R env H' fp T F :=
  ⟨h.1, fun b hb => ⟨rep.base.fresh (h.2 b hb).1, (h.2 b hb).2, fun j e hj hm => by
    obtain ⟨v, _, dv⟩ := rep.slot j _ e hj
    exact (dv.live b hm).1 (h.2 b hb).1, fun t ht hm => ((rep.tmp t ht).live b hm).1 (h.2 b hb).1⟩⟩
/-! ### append, extend, insert, item -/
def vMeth (t : VPl) (u : VA) (f : List D → List DP → (D → Prov → List D → Prop) → Prop) : VTS := fun k env => t env fun i p => ∃ D0 es, env[i]? = some (some (Fl.own, D0)) ∧ Dat D0 p = some (.lst es) ∧ u env fun xs => f es xs fun d pr es' => ∃ env1, absorb env i d pr = some env1 ∧ k.nx (putE env1 i (Dput D0 p (.lst es')))
theorem DVs.halves {K : PySem.W.Frag} {P : List Addr} {H : Hp} : ∀ {ds : List D} {vs : List V} {F : List Addr} (n : Nat), DVs K P H ds vs F → ∃ G1 G2, DVs K P H (ds.take n) (vs.take n) G1 ∧ DVs K P H (ds.drop n) (vs.drop n) G2 ∧ F = G1 ++ G2
  | _, _, F, 0, h => ⟨[], F, by simpa using DVs.nil, by simpa using h, rfl⟩
  | _, _, _, _ + 1, .nil => ⟨[], [], by simpa using DVs.nil, by simpa using DVs.nil, rfl⟩
  | _, _, _, n + 1, .cons (F := F) h hs => by
    obtain ⟨G1, G2, k1, k2, k3⟩ := DVs.halves n hs
    exact ⟨F ++ G1, G2, .cons h k1, by simpa using k2, by rw [k3, List.append_assoc]⟩
def fApp : List D → List DP → (D → Prov → List D → Prop) → Prop := fun es xs Q => ∃ d pr, xs = [(d, pr)] ∧ es.length < SZ ∧ Q d pr (es ++ [d])
def fExt : List D → List DP → (D → Prov → List D → Prop) → Prop := fun es xs Q => ∃ ds pr, xs = [(.lst ds, pr)] ∧ (pr = .fresh ∨ immAll ds = true) ∧ es.length + ds.length ≤ SZ ∧ Q (.tup ds) .fresh (es ++ ds)
def fIns : List D → List DP → (D → Prov → List D → Prop) → Prop := fun es xs Q => ∃ (n : Int) (d : D) (p0 pr : Prov), xs = [(.int n, p0), (d, pr)] ∧ es.length < SZ ∧ 0 ≤ n ∧ n < 2 ^ 62 ∧ Q d pr (es.take n.toNat ++ [d] ++ es.drop n.toNat)
theorem mono_meth {f : List D → List DP → (D → Prov → List D → Prop) → Prop} {ua : VA} (hf : ∀ es xs (Q Q' : D → Prov → List D → Prop), (∀ a b c, Q a b c → Q' a b c) → f es xs Q → f es xs Q') (h : VPc X R c₁ a t) (g : MonoA ua) : MonoS (vMeth t ua f) :=
  fun k k' hk env q => h.mono _ _ _ (fun i p ⟨D0, es, z1, z2, q⟩ => ⟨D0, es, z1, z2, g _ _ _ (fun xs q => hf _ _ _ _ (fun d pr es' ⟨env1, z, q⟩ => ⟨env1, z, hk.nx _ q⟩) q) q⟩) q
/-- a method of a list at a place -/
theorem meth_imp {f : List D → List DP → (D → Prov → List D → Prop) → Prop} {ua : VA} {e' : List Expr} {r : V → List V → Hp → L2.VK → Prop} (hf : ∀ es xs (Q Q' : D → Prov → List D → Prop), (∀ a b c, Q a b c → Q' a b c) → f es xs Q → f es xs Q') (h : VPc X R c₁ a t) (g : VL X R c₂ e' ua)
    (hr : ∀ (fp : Nat → List Addr) (env : Env) (Hs H : Hp) (P : List Addr) (es : List D) (xs : List DP) (vs : List V) (l : Addr) (ls : List V) (Q : L2.VK) (W : D → Prov → List D → Prop), FinA X.K fp env Hs H P xs vs → H l = some (.lst ls) → ls.length = es.length → f es xs W → (∀ x, H x = none → Hs x = none) →
      (∀ d pr es' us' ws Fx, W d pr es' → (∃ v, DV X.K P H d v Fx ∧ POk fp env Hs H d Fx pr ∧ ws = [v] ∨ (∃ ds, d = .tup ds ∧ pr = .fresh ∧ DVs X.K P H ds ws Fx ∧ Fx.Nodup ∧ ∀ b ∈ Fx, Hs b = none ∧ Live H b)) →
        (∀ us G, H l = some (.lst us) → DVs X.K P H es us G → ∃ G', DVs X.K P H es' us' G' ∧ (G'.Sublist (G ++ Fx) ∨ ∃ G1 G2, G = G1 ++ G2 ∧ G'.Sublist (G1 ++ (Fx ++ G2)))) → Q .non (upd H l (.lst us'))) → r (.ref l) vs H Q)
    (Dn : Ends) (σ : L2.St) (H : Hp) (q : liftS X.K R (c₁ + c₂) (vMeth t ua f) Dn σ H) : (tBM X.K "list" r (liftPl X.K R c₁ t) (liftA X.K R c₂ ua)) σ H fun _ H' => Dn.nx σ H' := by
  obtain ⟨env, P, fp, T, r', k, rep, pots, q, gd⟩ := q
  refine ⟨env, P, fp, T, c₂ + r', rep, by rw [← Nat.add_assoc]; exact pots, h.mono _ _ _ (fun i p ⟨D0, es, hi, hat, q⟩ => ?_) q⟩
  intro v0 v H1 P1 e1 pots1 hv hsub
  have rep1 := rep.evo e1
  obtain ⟨l, ls, rfl, hl, _, _, _⟩ := place_at rep1 Evo.refl hi hat hv hsub
  refine ⟨.inl ⟨rfl, ls, .inl (.inl hl)⟩, env, P1, fp, T, r', rep1, pots1, g.mono _ _ _ (fun xs q => ?_) q⟩
  intro vs H2 P2 e2 pots2 fa
  have rep2 := rep1.evo e2
  obtain ⟨l', ls', e', hl1, hl2, hlen, hs2⟩ := place_at rep1 e2 hi hat hv hsub
  cases e'
  refine hr fp env H1 H2 P2 es xs vs l ls' _ _ fa hl2 hlen q (fun x hx => e2.fresh hx) fun d pr es' us' ws Fx ⟨env1, hab, hnx⟩ hx mk => ?_
  rcases hx with ⟨v, hx⟩
  rcases hx with ⟨dv, pk, rfl⟩ | ⟨ds, rfl, rfl, dvs, fr⟩
  · obtain ⟨rep3, free, hi3⟩ := absorb_ok rep2 dv (PIn.of rep1 e2 dv pk) pk hab ⟨D0, hi⟩
    obtain ⟨fp', rep4⟩ := changed rep3 (hi3 D0 hi) hat hv hs2 (.cons dv .nil) (Fx := Fx ++ []) (by rw [List.append_nil]; exact free) es' us' fun us G k1 k2 => by rw [List.append_nil]; exact mk us G k1 k2
    refine gd.nx _ _ _ _ _ rep4 (pots2.upd fun hp => ?_) hnx
    obtain ⟨v', hv', dv0⟩ := rep2.slot i _ _ hi
    rw [hv] at hv'
    cases hv'
    obtain ⟨_, _, _, m2, _⟩ := dv0.mutAt (rep2.own i _ hi).1 hat hs2
    exact m2 hp
  · cases hab
    obtain ⟨fp', rep4⟩ := changed rep2 hi hat hv hs2 dvs (Free.out rep1 fr) es' us' mk
    refine gd.nx _ _ _ _ _ rep4 (pots2.upd fun hp => ?_) hnx
    obtain ⟨v', hv', dv0⟩ := rep2.slot i _ _ hi
    rw [hv] at hv'
    cases hv'
    obtain ⟨_, _, _, m2, _⟩ := dv0.mutAt (rep2.own i _ hi).1 hat hs2
    exact m2 hp
theorem vs_append {ua : VA} {apos cpos spos : Pos} (h : VPc X R c₁ a t) (g : VL X R c₂ [e] ua) (hs : swapsWith (.Call (.Attribute a "append" apos) [e] [] cpos) none spos.line X.env = pure false := by rfl)
    (hbase : attributeBase a "append" X.env (eval a X.env) = eval a X.env := by rfl)
    (hfew : ((backTo cpos (starEach (e :: []) X.env)).all (fun x => !x.1) && (backToKw cpos (keywordEach [] X.env)).all (fun x => x.1.isSome) && decide ((e :: []).length + ([] : List Keyword).length + (if ([] : List Keyword).isEmpty then 0 else 1) < 30)) = true := by rfl)
    (hline : (apos.endLine == cpos.line) = true := by rfl) (hst : starEach (e :: []) X.env = (false, eval e X.env) :: starEach [] X.env := by rfl) (hpl : (backTo cpos (starEach [] X.env)).any (·.1) = false := by rfl) :
    VS X R (c₁ + c₂) (.Expr (.Call (.Attribute a "append" apos) [e] [] cpos) spos) (vMeth t ua fApp) where
  mono := mono_meth (fun es xs Q Q' hq ⟨d, pr, e, z, q⟩ => ⟨d, pr, e, z, hq _ _ _ q⟩) h g.mono
  run := PS.imp (ps_expr (pe_bm PySem.F.plainAttrs_list PySem.F.slot_list_append PySem.F.type_list_append (fun pins s σ H x xs v us Q I rx rs q => mt_append pins s σ H x xs v us Q I rx rs q) h.run g.run hbase hfew hline hst hpl) hs)
    (meth_imp (fun es xs Q Q' hq ⟨d, pr, e, z, q⟩ => ⟨d, pr, e, z, hq _ _ _ q⟩) h g fun fp env Hs H P es xs vs l ls Q W fa hl hlen ⟨d, pr, e, z, w⟩ hfr k => by
      subst e
      obtain ⟨v, rfl, F, dv, pk⟩ := fa.one
      exact ⟨l, ls, v, rfl, rfl, hl, sz_lt (by omega), k d pr _ (ls ++ [v]) [v] F w ⟨v, .inl ⟨dv, pk, rfl⟩⟩ fun us G h1 h2 => by
        rw [hl] at h1
        cases h1
        exact ⟨G ++ (F ++ []), h2.append (.cons dv .nil), .inl (by rw [List.append_nil]; exact List.Sublist.refl _)⟩⟩)
theorem vs_extend {ua : VA} {apos cpos spos : Pos} (h : VPc X R c₁ a t) (g : VL X R c₂ [e] ua) (hs : swapsWith (.Call (.Attribute a "extend" apos) [e] [] cpos) none spos.line X.env = pure false := by rfl)
    (hbase : attributeBase a "extend" X.env (eval a X.env) = eval a X.env := by rfl)
    (hfew : ((backTo cpos (starEach (e :: []) X.env)).all (fun x => !x.1) && (backToKw cpos (keywordEach [] X.env)).all (fun x => x.1.isSome) && decide ((e :: []).length + ([] : List Keyword).length + (if ([] : List Keyword).isEmpty then 0 else 1) < 30)) = true := by rfl)
    (hline : (apos.endLine == cpos.line) = true := by rfl) (hst : starEach (e :: []) X.env = (false, eval e X.env) :: starEach [] X.env := by rfl) (hpl : (backTo cpos (starEach [] X.env)).any (·.1) = false := by rfl) :
    VS X R (c₁ + c₂) (.Expr (.Call (.Attribute a "extend" apos) [e] [] cpos) spos) (vMeth t ua fExt) where
  mono := mono_meth (fun es xs Q Q' hq ⟨d, pr, e, y, z, q⟩ => ⟨d, pr, e, y, z, hq _ _ _ q⟩) h g.mono
  run := PS.imp (ps_expr (pe_bm PySem.F.plainAttrs_list PySem.F.slot_list_extend PySem.F.type_list_extend (fun pins s σ H x xs v us Q I rx rs q => mt_extend pins s σ H x xs v us Q I rx rs q) h.run g.run hbase hfew hline hst hpl) hs)
    (meth_imp (fun es xs Q Q' hq ⟨d, pr, e, y, z, q⟩ => ⟨d, pr, e, y, z, hq _ _ _ q⟩) h g fun fp env Hs H P es xs vs l ls Q W fa hl hlen ⟨ds, pr, e, y, z, w⟩ hfr k => by
      subst e
      obtain ⟨v, rfl, F, dv, pk⟩ := fa.one
      obtain ⟨b, zs, F0, rfl, hb, hbn, dvs, rfl⟩ := dv.lst_inv
      have fr : F0.Nodup ∧ ∀ b ∈ F0, Hs b = none ∧ Live H b := by
        rcases y with rfl | y
        · exact ⟨(List.nodup_cons.mp pk.1).2, fun c hc => pk.2 c (List.mem_cons_of_mem _ hc)⟩
        · rw [dvs.imm_nil y]
          exact ⟨List.nodup_nil, fun c hc => by cases hc⟩
      exact ⟨l, b, ls, zs, rfl, rfl, hl, hb, sz_of (by rw [← dvs.length]; omega), k (.tup ds) .fresh _ (ls ++ zs) zs F0 w ⟨.non, .inr ⟨ds, rfl, rfl, dvs, fr⟩⟩ fun us G h1 h2 => by
        rw [hl] at h1
        cases h1
        exact ⟨G ++ F0, h2.append dvs, .inl (List.Sublist.refl _)⟩⟩)

theorem vs_insert {ua : VA} {e2 : Expr} {apos cpos spos : Pos} (h : VPc X R c₁ a t) (g : VL X R c₂ [e, e2] ua) (hs : swapsWith (.Call (.Attribute a "insert" apos) [e, e2] [] cpos) none spos.line X.env = pure false := by rfl)
    (hbase : attributeBase a "insert" X.env (eval a X.env) = eval a X.env := by rfl)
    (hfew : ((backTo cpos (starEach (e :: [e2]) X.env)).all (fun x => !x.1) && (backToKw cpos (keywordEach [] X.env)).all (fun x => x.1.isSome) && decide ((e :: [e2]).length + ([] : List Keyword).length + (if ([] : List Keyword).isEmpty then 0 else 1) < 30)) = true := by rfl)
    (hline : (apos.endLine == cpos.line) = true := by rfl) (hst : starEach (e :: [e2]) X.env = (false, eval e X.env) :: starEach [e2] X.env := by rfl) (hpl : (backTo cpos (starEach [e2] X.env)).any (·.1) = false := by rfl) :
    VS X R (c₁ + c₂) (.Expr (.Call (.Attribute a "insert" apos) [e, e2] [] cpos) spos) (vMeth t ua fIns) where
  mono := mono_meth (fun es xs Q Q' hq ⟨n, d, p0, pr, e, y, z, w, q⟩ => ⟨n, d, p0, pr, e, y, z, w, hq _ _ _ q⟩) h g.mono
  run := PS.imp (ps_expr (pe_bm PySem.F.plainAttrs_list PySem.F.slot_list_insert PySem.F.type_list_insert mt_insert h.run g.run hbase hfew hline hst hpl) hs)
    (meth_imp (fun es xs Q Q' hq ⟨n, d, p0, pr, e, y, z, w, q⟩ => ⟨n, d, p0, pr, e, y, z, w, hq _ _ _ q⟩) h g fun fp env Hs H P es xs vs l ls Q W fa hl hlen ⟨n, d, p0, pr, e, y, z, z2, w⟩ hfr k => by
      subst e
      obtain ⟨v0, v, rfl, f0, ⟨F, dv, pk⟩⟩ := fa.two
      obtain rfl := f0.int_inv
      refine ⟨l, ls, n, v, rfl, rfl, hl, sz_lt (by omega), z, by omega, k d pr _ (ls.take n.toNat ++ [v] ++ ls.drop n.toNat) [v] F w ⟨v, .inl ⟨dv, pk, rfl⟩⟩ fun us G h1 h2 => ?_⟩
      rw [hl] at h1
      cases h1
      obtain ⟨G1, G2, k1, k2, k3⟩ := h2.halves n.toNat
      refine ⟨G1 ++ (F ++ []) ++ G2, (k1.append (.cons dv .nil)).append k2, .inr ⟨G1, G2, k3, ?_⟩⟩
      simp)
/-! ### place[k] = e -/
def vSetIx (te : VT) (t : VPl) (u : VT) : VTS := fun k env => te env fun d pr => t env fun i p => ∃ D0 es, env[i]? = some (some (Fl.own, D0)) ∧ Dat D0 p = some (.lst es) ∧ u env fun kd _ => ∃ (kk : Int) (n : Nat) (env1 : Env), kd = .int kk ∧ ixN es.length kk = some n ∧ absorb env i d pr = some env1 ∧ k.nx (putE env1 i (Dput D0 p (.lst (es.set n d))))
theorem vs_setIx {o ix : Expr} {c₃ : Nat} {tpos : Pos} (he : VE X R c₁ e te) (ho : VPc X R c₂ o t) (hi : VE X R c₃ ix u) (hs : swapsWithSole [.Subscript o ix tpos] e pos.line X.env = pure false := by rfl) (hw : swappedStores [.Subscript o ix tpos] e X.env = pure none := by rfl)
    (h1 : (assignEach [.Subscript o ix tpos] X.env).map (·.2) = [assign (.Subscript o ix tpos) X.env] := by rfl)
    (ha : ∀ v, assign (.Subscript o ix tpos) X.env v = (do
      let ov ← holding [v] (eval o X.env)
      let iv ← holding [v, ov] (eval ix X.env)
      standAt tpos
      holding [v, ov, iv] (setItem ov iv v)
      release [v, ov, iv] []) := by intro _; rfl) : VS X R (c₁ + (c₂ + c₃)) (.Assign [.Subscript o ix tpos] e pos) (vSetIx te t u) where
  mono := fun k k' hk env q => he.mono _ _ _ (fun d pr q => ho.mono _ _ _ (fun i p ⟨D0, es, z1, z2, q⟩ => ⟨D0, es, z1, z2, hi.mono _ _ _ (fun kd _ ⟨kk, n, env1, y1, y2, y3, q⟩ => ⟨kk, n, env1, y1, y2, y3, hk.nx _ q⟩) q⟩) q) q
  run := PS.imp (ps_asg he.run (pg_sub ho.run hi.run set_list ha) hs hw h1) fun Dn σ H ⟨env, P, fp, T, r, k, rep, pots, q, gd⟩ => by
    refine ⟨env, P, fp, T, (c₂ + c₃) + r, rep, by rw [← Nat.add_assoc]; exact pots, he.mono _ _ _ (fun d pr q => ?_) q⟩
    intro v H1 P1 e1 pots1 ⟨F, dv, pk⟩
    refine ⟨env, P1, fp, T, c₃ + r, rep.evo e1, by rw [← Nat.add_assoc]; exact pots1, ho.mono _ _ _ (fun i p ⟨D0, es, hi0, hat, q⟩ => ?_) q⟩
    intro v0 o1 H2 P2 e2 pots2 hv hsub
    have rep2 := (rep.evo e1).evo e2
    refine ⟨env, P2, fp, T, r, rep2, pots2, hi.mono _ _ _ (fun kd _ ⟨kk, n, env1, y1, y2, y3, hnx⟩ => ?_) q⟩
    intro w H3 P3 e3 pots3 f3
    subst y1
    obtain rfl := f3.int_inv
    have rep3 := rep2.evo e3
    obtain ⟨l, ls, rfl, hl2, hl3, hlen, hs3⟩ := place_at rep2 e3 hi0 hat hv hsub
    have e13 := e2.trans e3
    have dv3 := dv.evo e13
    have pk3 : POk fp env H H3 d F pr := pk.evo e13 fun x hx => (dv.live x hx).2
    obtain ⟨rep4, free, hi4⟩ := absorb_ok rep3 dv3 (PIn.of rep (e1.trans e13) dv3 pk3) pk3 y3 ⟨D0, hi0⟩
    obtain ⟨fp', rep5⟩ := changed rep4 (hi4 D0 hi0) hat hv hs3 (.cons dv3 .nil) (Fx := F ++ []) (by rw [List.append_nil]; exact free) (es.set n d) (ls.set n v) fun us G k1 k2 => by
      rw [hl3] at k1
      cases k1
      obtain ⟨_, hn, _, _⟩ := ixN_seq y2
      obtain ⟨x, L, G0, R', q1, q2, q3, q4, q5⟩ := k2.split (List.getElem?_eq_getElem hn)
      have hn2 : n < ls.length := by rw [hlen]; exact hn
      refine ⟨L ++ (F ++ R'), ?_, .inr ⟨L, G0 ++ R', q3, ?_⟩⟩
      · rw [List.set_eq_take_append_cons_drop, if_pos hn, List.set_eq_take_append_cons_drop, if_pos hn2]
        exact q4.append (.cons dv3 q5)
      · simp only [List.append_nil]
        exact List.Sublist.append_left (List.Sublist.append_left (List.sublist_append_right _ _) _) _
    refine ⟨l, ls, kk, n, rfl, rfl, hl3, by rw [hlen]; exact y2, gd.nx _ _ _ _ _ rep5 (pots3.upd fun hp => ?_) hnx⟩
    obtain ⟨v', hv', dv0⟩ := rep3.slot i _ _ hi0
    rw [hv] at hv'
    cases hv'
    obtain ⟨_, _, _, m2, _⟩ := dv0.mutAt (rep3.own i _ hi0).1 hat hs3
    exact m2 hp
end
end VS

/-! max and min of one list or tuple of ints; tuple * k for k below 2 -/
namespace VS
open PySem PySem.Spec PyProof.Rows L2
def rMaxK (K : PySem.W.Frag) : List V → Hp → L2.VK → Prop := fun vs H Q => ∃ (k : SK) (a : Addr) (n : Int) (ns : List Int), vs = [V.ref a] ∧ SqK K k H a ((n :: ns).map V.int) ∧ Q (.int (ns.foldl max n)) H
def rMinK (K : PySem.W.Frag) : List V → Hp → L2.VK → Prop := fun vs H Q => ∃ (k : SK) (a : Addr) (n : Int) (ns : List Int), vs = [V.ref a] ∧ SqK K k H a ((n :: ns).map V.int) ∧ Q (.int (ns.foldl min n)) H
theorem alike_ints (n : Int) (ns : List Int) : PySem.W.AlikeAll ((n :: ns).map PyData.int) := by
  refine ⟨fun d hd e he => ?_, fun d hd => ?_⟩
  · obtain ⟨x, _, rfl⟩ := List.mem_map.mp hd
    obtain ⟨y, _, rfl⟩ := List.mem_map.mp he
    simp [PySem.W.alike]
  · obtain ⟨x, _, rfl⟩ := List.mem_map.mp hd
    intro z; cases z
theorem reads_ints {h : Heap} : ∀ {its : List Value} {ns : List Int}, IntsAre its ns → ∃ as, ReadsAll h its (ns.map PyData.int) as
  | _, _, .nil => ⟨_, .nil⟩
  | _, _, .cons i t r => by
    obtain ⟨as, z⟩ := reads_ints r
    exact ⟨_, .cons (.int i t) z⟩
theorem cr_maxK {X : Cx} (hc : X.calm = true) (hu : X.A.units + 64 < cLine) : CallR X (.builtin "max") (rMaxK X.K) := by
  intro pins s σ H vs us Q I r h
  obtain ⟨k, a, n, ns, rfl, hs, q⟩ := h
  obtain ⟨its, rv, hl, _⟩ := inv_sqK I hs
  rw [Vals.ref1 r]
  obtain ⟨as, ra⟩ := reads_ints (h := s.heap) rv.ints
  have hd : X.A.units + 1 + PyData.depthAll ((n :: ns).map PyData.int) < cLine := by rw [PySem.W.depth_ints]; omega
  have fin : ∀ (i : Nat) v h' tk bs, its.toArray[i]? = some v → Reads h' v (PySem.W.maxD (.int n) (ns.map PyData.int)) bs → (∀ b o, s.heap.get? b = some o → h'.get? b = some o) → EP X pins σ Q v { s with heap := h', toks := tk } := fun i v h' tk bs _ rd hk => by
    rw [PySem.W.maxD_ints] at rd
    cases rd
    exact ⟨.int _, H, I.kept hk, ⟨_, rfl⟩, q⟩
  cases k with
  | l => exact PySem.W.max_list_data (I.ok.hd hc) hl ra (alike_ints n ns) hd fin
  | t => exact PySem.W.max_tuple_data (I.ok.hd hc) hl ra (alike_ints n ns) hd fin
theorem cr_minK {X : Cx} (hc : X.calm = true) (hu : X.A.units + 64 < cLine) : CallR X (.builtin "min") (rMinK X.K) := by
  intro pins s σ H vs us Q I r h
  obtain ⟨k, a, n, ns, rfl, hs, q⟩ := h
  obtain ⟨its, rv, hl, _⟩ := inv_sqK I hs
  rw [Vals.ref1 r]
  obtain ⟨as, ra⟩ := reads_ints (h := s.heap) rv.ints
  have hd : X.A.units + 1 + PyData.depthAll ((n :: ns).map PyData.int) < cLine := by rw [PySem.W.depth_ints]; omega
  have fin : ∀ (i : Nat) v h' tk bs, its.toArray[i]? = some v → Reads h' v (PySem.W.minD (.int n) (ns.map PyData.int)) bs → (∀ b o, s.heap.get? b = some o → h'.get? b = some o) → EP X pins σ Q v { s with heap := h', toks := tk } := fun i v h' tk bs _ rd hk => by
    rw [PySem.W.minD_ints] at rd
    cases rd
    exact ⟨.int _, H, I.kept hk, ⟨_, rfl⟩, q⟩
  cases k with
  | l => exact PySem.W.min_list_data (I.ok.hd hc) hl ra (alike_ints n ns) hd fin
  | t => exact PySem.W.min_tuple_data (I.ok.hd hc) hl ra (alike_ints n ns) hd fin
def oMax1 : OpA := oArg1 fun d _ Q => ∃ (n : Int) (ns : List Int), d.items = some ((n :: ns).map D.int) ∧ Q (.int (ns.foldl max n)) .fresh
def oMin1 : OpA := oArg1 fun d _ Q => ∃ (n : Int) (ns : List Int), d.items = some ((n :: ns).map D.int) ∧ Q (.int (ns.foldl min n)) .fresh
theorem l_max1 {K : PySem.W.Frag} : LiftC K (rMaxK K) oMax1 :=
  lift1 (fun d p Q Q' hq ⟨n, ns, e, q⟩ => ⟨n, ns, e, hq _ _ q⟩) fun fp env Hs H P d p v Q h1 h2 f ⟨n, ns, e, q⟩ => by
    obtain ⟨a, vs, G, rfl, hs, dv⟩ := f.seq e
    rw [dvs_ints (F := []) dv] at hs
    exact ⟨_, a, n, ns, rfl, hs, q _ H (Same.refl H) fin_int⟩
theorem l_min1 {K : PySem.W.Frag} : LiftC K (rMinK K) oMin1 :=
  lift1 (fun d p Q Q' hq ⟨n, ns, e, q⟩ => ⟨n, ns, e, hq _ _ q⟩) fun fp env Hs H P d p v Q h1 h2 f ⟨n, ns, e, q⟩ => by
    obtain ⟨a, vs, G, rfl, hs, dv⟩ := f.seq e
    rw [dvs_ints (F := []) dv] at hs
    exact ⟨_, a, n, ns, rfl, hs, q _ H (Same.refl H) fin_int⟩
/-! ### tuple * k, k below 2 -/
theorem tup_mul0 (l : Addr) (items : Array Value) (n : Nat) (dd : Option Addr) (sl : Array (Option Value)) (x : Int) (u : Tok) (hx : x ≤ 0) (h63 : -(2 ^ 63) ≤ x) (he : (items.isEmpty || x == 1) = false) :
    Meets (Builtin.«tuple.__mul__» ⟨[.ref l, .int x u], []⟩) (fun _ R s => s.heap.get? l = some { cls := .type "tuple", dict := dd, data := .seq items n, slots := sl } ∧
      R (.ok (.ret (Value.ref s.heap.objs.size))) { s with heap := s.heap.push { cls := Value.type "tuple", data := Data.seq #[] }, toks := s.toks }) :=
  .of_wp fun prog w A R s h => by
    obtain ⟨hp, g, d, tk, os⟩ := s
    obtain ⟨hl, h⟩ := h
    have f1 := AutoSeq1.idx_int
    have c0 : (decide (x < -(2 ^ 63)) || decide (x ≥ 2 ^ 63)) = false := by rw [decide_eq_false (by omega), decide_eq_false (by omega)]; rfl
    have c2 : (decide (x ≤ 0) || items.isEmpty) = true := by rw [decide_eq_true hx]; rfl
    wp_walk using wpAny_loadPart' hl
    repeat (first
      | (refine wpAny_ite_false (decide_eq_false (by rw [c0]; exact Bool.false_ne_true)) ?_; wp_walk using wpAny_loadPart' hl)
      | (refine wpAny_ite_false (decide_eq_false (by rw [he]; exact Bool.false_ne_true)) ?_; wp_walk using wpAny_loadPart' hl)
      | (refine wpAny_ite_true (decide_eq_true c2) ?_; wp_walk using wpAny_loadPart' hl))
    exact ⟨_, rfl, h⟩

theorem tup_mul1 (l : Addr) (items : Array Value) (n : Nat) (dd : Option Addr) (sl : Array (Option Value)) (x : Int) (u : Tok) (h63 : -(2 ^ 63) ≤ x) (h64 : x < 2 ^ 63) (he : (items.isEmpty || x == 1) = true) :
    Meets (Builtin.«tuple.__mul__» ⟨[.ref l, .int x u], []⟩) (fun _ R s => s.heap.get? l = some { cls := .type "tuple", dict := dd, data := .seq items n, slots := sl } ∧ R (.ok (.ret (Value.ref l))) s) :=
  .of_wp fun prog w A R s h => by
    obtain ⟨hp, g, d, tk, os⟩ := s
    obtain ⟨hl, h⟩ := h
    have f1 := AutoSeq1.idx_int
    have c0 : (decide (x < -(2 ^ 63)) || decide (x ≥ 2 ^ 63)) = false := by rw [decide_eq_false (by omega), decide_eq_false (by omega)]; rfl
    wp_walk using wpAny_loadPart' hl
    repeat (first
      | (refine wpAny_ite_false (decide_eq_false (by rw [c0]; exact Bool.false_ne_true)) ?_; wp_walk using wpAny_loadPart' hl)
      | (refine wpAny_ite_true (decide_eq_true he) ?_; wp_walk using wpAny_loadPart' hl))
    exact ⟨_, rfl, h⟩

/-- tuple * k, k below 2 -/
def rRepS (K : PySem.W.Frag) : R2 := fun x y H Q => ∃ l k xs, x = .ref l ∧ y = .int k ∧ SqT K H l xs ∧ (k ≤ 1 ∨ xs = []) ∧ (-(2 ^ 63) ≤ k ∧ k < 2 ^ 63) ∧ (xs = [] ∨ k = 1 → Q (.ref l) H) ∧ (xs ≠ [] → k ≤ 0 → ∀ p, H p = none → Q (.ref p) (upd H p (.tup [])))
theorem op_repS {X : Cx} : OpR X (binaryOp .Mult) (rRepS X.K) := by
  intro pins s σ H x y v u Q I rx ry h
  obtain ⟨l, k, xs, rfl, rfl, hT, h1, ⟨h2, h22⟩, q1, q2⟩ := h
  cases rx
  obtain ⟨t, rfl⟩ := ry
  obtain ⟨its, r, ⟨⟨cls, dd, data, sl⟩, ho, hc, n, hd⟩, hs⟩ := I.tuple hT
  simp only at hc hd
  subst hc hd
  have base := fun {Q' : Value → Shared → Prop} (m : wpAny (model X.prog X.w) X.A (call (.builtin "tuple.__mul__") [.ref l, .int k t]) Q' X.xe s) => m
  by_cases he : (its.toArray.isEmpty || k == 1) = true
  · have hq : EP X pins σ Q (.ref l) s := ⟨.ref l, H, I, rfl, q1 (by
      rw [Bool.or_eq_true] at he
      rcases he with z | z
      · left
        have : its = [] := by simpa using z
        subst this
        exact List.eq_nil_of_length_eq_zero (by rw [r.length]; rfl)
      · right; exact beq_iff_eq.mp z)⟩
    exact wpAny_binaryOp_repeat_ref (T := "tuple") (U := "int") (by decide) ⟨_, ho, rfl⟩ (fun s' => typeIs_int s' k t) noFill_tuple_mul F.fills_int_mul F.slot_int_rmul repeat_tuple F.slot_int_index.lookup
      (call_meets F.slot_int_rmul (typeIs_int s k t) F.entry_int_rmul (F.args_int_rmul_2 _ _) (int_rmul_tuple k t l its.toArray n dd sl)
        ⟨ho, rfl, ⟨_, ho, rfl⟩, call_meets F.slot_tuple_mul ⟨_, ho, rfl⟩ F.entry_tuple_mul (F.args_tuple_mul_2 _ _) (tup_mul1 l its.toArray n dd sl k t h2 h22 he) ⟨ho, hq⟩⟩)
  · have he' : (its.toArray.isEmpty || k == 1) = false := Bool.not_eq_true _ ▸ he
    rw [Bool.or_eq_false_iff] at he'
    have hne : xs ≠ [] := fun z => by
      subst z
      cases r
      simp at he'
    have hk : k ≤ 0 := by
      have := beq_eq_false_iff_ne.mp he'.2
      rcases h1 with h1 | h1
      · omega
      · exact absurd h1 hne
    refine wpAny_binaryOp_repeat_ref (T := "tuple") (U := "int") (by decide) ⟨_, ho, rfl⟩ (fun s' => typeIs_int s' k t) noFill_tuple_mul F.fills_int_mul F.slot_int_rmul repeat_tuple F.slot_int_index.lookup
      (call_meets F.slot_int_rmul (typeIs_int s k t) F.entry_int_rmul (F.args_int_rmul_2 _ _) (int_rmul_tuple k t l its.toArray n dd sl)
        ⟨ho, rfl, ⟨_, ho, rfl⟩, call_meets F.slot_tuple_mul ⟨_, ho, rfl⟩ F.entry_tuple_mul (F.args_tuple_mul_2 _ _) (tup_mul0 l its.toArray n dd sl k t hk h2 (by rw [Bool.or_eq_false_iff]; exact he')) ⟨ho, ?_⟩⟩)
    refine ⟨.ref s.heap.objs.size, _, I.laid (t' := s.toks) (o := .tup []) (fun b ob q => Heap.get?_push_of_some _ q) (Nat.le_refl _) ?_, rfl, q2 hne hk _ (I.hok.fresh (Nat.le_refl _))⟩
    exact ⟨Nat.zero_le _, [], .nil, IsTup.new _ _⟩
/-- every product that the layer knows -/
def rMulB (K : PySem.W.Frag) : R2 := fun x y H Q => rMulA K x y H Q ∨ rRepS K x y H Q
theorem op_mulB {X : Cx} : OpR X (binaryOp .Mult) (rMulB X.K) := op_mulAll.or op_repS
def oMulB : Op2 := fun x y Q => match x.1, y.1 with
  | .tup xs, .int k => immAll xs = true ∧ -1000 ≤ k ∧ k ≤ 1000 ∧ xs.length ≤ 1000 ∧ Q (.tup (List.replicate k.toNat xs).flatten) .fresh
  | _, _ => oMul x y Q
theorem l_mulB {K : PySem.W.Frag} : Lift2 K (rMulB K) oMulB where
  mono := fun x y Q Q' h q => by
    unfold oMulB at *
    split at q
    · obtain ⟨q1, q2, q3, q4, q5⟩ := q
      exact ⟨q1, q2, q3, q4, h _ _ q5⟩
    · exact (l_mul (K := K)).mono _ _ _ _ h q
  run := fun fp env Hs H P x y v w Q hs hP f g h => by
    obtain ⟨d, p⟩ := x
    obtain ⟨e, p'⟩ := y
    unfold oMulB at h
    dsimp only at h f g
    split at h
    · rename_i xs k
      obtain ⟨hi, h1, h2, h3, h⟩ := h
      by_cases h0 : xs = []
      · subst h0
        obtain ⟨a, vs, F, rfl, ha, dv⟩ := f.tup_inv
        obtain rfl := g.int_inv
        cases dv
        have e0 : (List.replicate k.toNat ([] : List D)).flatten = [] := by simp
        rw [e0] at h
        have fin : Q (.ref a) H := h _ H (Same.refl H) (let ⟨F, q1, q2⟩ := f; Fin.imm q1 rfl)
        exact .inr ⟨a, k, [], rfl, rfl, ha, .inr rfl, by omega, fun _ => fin, fun z => absurd rfl z⟩
      · by_cases hk : k ≤ 1
        · obtain ⟨a, vs, F, rfl, ha, dv⟩ := f.tup_inv
          obtain rfl := g.int_inv
          have hv : vs ≠ [] := fun z => h0 (by
            have := dv.length
            rw [z] at this
            exact List.eq_nil_of_length_eq_zero this)
          refine .inr ⟨a, k, vs, rfl, rfl, ha, .inl hk, by omega, fun z => ?_, fun _ hk0 p0 hp => ?_⟩
          · rcases z with z | z
            · exact absurd z hv
            · subst z
              have e1 : (List.replicate (1 : Int).toNat xs).flatten = xs := by simp
              rw [e1] at h
              exact h _ H (Same.refl H) (let ⟨F, q1, q2⟩ := f; Fin.imm q1 (by simpa [D.imm] using hi))
          · have e1 : k.toNat = 0 := by omega
            rw [e1] at h
            exact h _ _ (same_upd hp) (fin_tup hp hP (F := []) .nil rfl)
        · exact .inl ((l_mul (K := K)).run fp env Hs H P (.tup xs, p) (.int k, p') v w Q hs hP f g ⟨h0, by omega, by omega, h3, hi, h⟩)
    · exact .inl ((l_mul (K := K)).run fp env Hs H P (d, p) (e, p') v w Q hs hP f g h)

theorem ve_mulB {X : Cx} {R : RC} {pos : Pos} {a b : Expr} {ta tb : VT} {c₁ c₂ : Nat} (ha : VE X R c₁ a ta) (hb : VE X R c₂ b tb) : VE X R (c₁ + c₂) (.BinOp a .Mult b pos) (vOp oMulB ta tb) := ve_op op_mulB l_mulB ha hb

/-! ### == and != with texts -/
def rEqA (K : PySem.W.Frag) : R2 := fun x y H Q => rEqD K x y H Q ∨ rEq x y H Q
def rNeA (K : PySem.W.Frag) : R2 := fun x y H Q => rNeD K x y H Q ∨ rNe x y H Q
theorem op_eqA {X : Cx} (hu : X.A.units + 64 < cLine) : OpR X (compareOp .Eq) (rEqA X.K) := (op_eqD hu).or op_eq
theorem op_neA {X : Cx} (hu : X.A.units + 64 < cLine) : OpR X (compareOp .NotEq) (rNeA X.K) := (op_neD hu).or op_ne
def oEqA : Op2 := fun x y Q => match x.1, y.1 with
  | .str a, .str b => Q (.bl (decide (a = b))) .fresh
  | _, _ => oEq x y Q
def oNeA : Op2 := fun x y Q => match x.1, y.1 with
  | .str a, .str b => Q (.bl (!decide (a = b))) .fresh
  | _, _ => oNe x y Q
theorem dec_str {a b : Str} : decide (V.str a = V.str b) = decide (a = b) := by
  by_cases h : a = b
  · subst h; simp
  · have : V.str a ≠ V.str b := fun z => h (by injection z)
    simp [h, this]
theorem l_eqA {K : PySem.W.Frag} : Lift2 K (rEqA K) oEqA where
  mono := fun x y Q Q' h q => by
    unfold oEqA at *
    split at q
    · exact h _ _ q
    · exact (l_eq (K := K)).mono _ _ _ _ h q
  run := fun fp env Hs H P x y v w Q hs hP f g h => by
    obtain ⟨d, p⟩ := x
    obtain ⟨e, p'⟩ := y
    unfold oEqA at h
    dsimp only at h f g
    split at h
    · obtain rfl := f.str_inv
      obtain rfl := g.str_inv
      exact .inr ⟨rfl, by rw [dec_str]; exact h _ H (Same.refl H) fin_bl⟩
    · exact .inl ((l_eq (K := K)).run fp env Hs H P (d, p) (e, p') v w Q hs hP f g h)
theorem l_neA {K : PySem.W.Frag} : Lift2 K (rNeA K) oNeA where
  mono := fun x y Q Q' h q => by
    unfold oNeA at *
    split at q
    · exact h _ _ q
    · exact (l_ne (K := K)).mono _ _ _ _ h q
  run := fun fp env Hs H P x y v w Q hs hP f g h => by
    obtain ⟨d, p⟩ := x
    obtain ⟨e, p'⟩ := y
    unfold oNeA at h
    dsimp only at h f g
    split at h
    · obtain rfl := f.str_inv
      obtain rfl := g.str_inv
      exact .inr ⟨rfl, by rw [dec_str]; exact h _ H (Same.refl H) fin_bl⟩
    · exact .inl ((l_ne (K := K)).run fp env Hs H P (d, p) (e, p') v w Q hs hP f g h)
section
variable {X : Cx} {R : RC} {pos : Pos} {a b : Expr} {ta tb : VT} {c₁ c₂ : Nat}
theorem ve_eqA (hu : X.A.units + 64 < cLine) (ha : VE X R c₁ a ta) (hb : VE X R c₂ b tb) : VE X R (c₁ + c₂) (.Compare a [.Eq] [b] pos) (vOp oEqA ta tb) := ve_cmp (op_eqA hu) l_eqA ha hb (nomark b)
theorem ve_neA (hu : X.A.units + 64 < cLine) (ha : VE X R c₁ a ta) (hb : VE X R c₂ b tb) : VE X R (c₁ + c₂) (.Compare a [.NotEq] [b] pos) (vOp oNeA ta tb) := ve_cmp (op_neA hu) l_neA ha hb (nomark b)
theorem vc_eqA (hu : X.A.units + 64 < cLine) (ha : VE X R c₁ a ta) (hb : VE X R c₂ b tb) : VC X R (c₁ + c₂) (.Compare a [.Eq] [b] pos) (vTest (vOp oEqA ta tb)) := vc_cmp (op_eqA hu) l_eqA ha hb (nomark b)
theorem vc_neA (hu : X.A.units + 64 < cLine) (ha : VE X R c₁ a ta) (hb : VE X R c₂ b tb) : VC X R (c₁ + c₂) (.Compare a [.NotEq] [b] pos) (vTest (vOp oNeA ta tb)) := vc_cmp (op_neA hu) l_neA ha hb (nomark b)
end
end VS

/-! pots -/
namespace VS
open PySem PySem.Spec PyProof.Rows L2
variable {Θ : List (Addr × Str)}
/-- a pot's cells: own digits, a seed, a count -/
def potB (n : Int) (x : Int) : Prop := (n = 0 ∧ 0 ≤ x ∧ x < 2 ^ 1000) ∨ (n = 1 ∧ 0 ≤ x ∧ x < 2 ^ 62) ∨ (n = 2 ∧ 0 ≤ x ∧ x ≤ (CAP : Nat))
/-- pot[n], read -/
def vPotIx (i : Nat) (n : Int) : VT := fun env Q => (∃ f, env[i]? = some (some (f, .pot))) ∧ (n = 0 ∨ n = 1 ∨ n = 2) ∧ ∀ x : Int, potB n x → Q (.int x) .fresh
section
variable {X : Cx} {R : RC} {pos p p2 p3 p4 p5 tpos : Pos} {c : Nat} {x u : Str} {i j : Nat} {n : Int}
theorem DV.pot_inv {K : PySem.W.Frag} {P : List Addr} {H : Hp} {v : V} {F : List Addr} (h : DV K P H .pot v F) : ∃ a, v = .ref a ∧ a ∈ P := by
  cases h with
  | pot h => exact ⟨_, rfl, h⟩
theorem DV.int_eq {K : PySem.W.Frag} {P : List Addr} {H : Hp} {v : V} {F : List Addr} {n : Int} (h : DV K P H (.int n) v F) : v = .int n := by cases h; rfl
theorem slot_pot {K : PySem.W.Frag} {env : Env} {σ : L2.St} {H : Hp} {P : List Addr} {fp : Nat → List Addr} {T : Tmp} {m : Nat} (rep : Rep K R env σ H P fp T) (pots : Pots m P H) {f : Fl} (h : env[i]? = some (some (f, .pot))) :
    ∃ a, σ[i]? = some (some (.ref a)) ∧ a ∈ P ∧ PotAt m H a := by
  obtain ⟨v, h1, dv⟩ := rep.slot i _ _ h
  obtain ⟨a, rfl, ha⟩ := dv.pot_inv
  exact ⟨a, h1, ha, pots.2 a ha⟩
theorem pot_cell {m : Nat} {H : Hp} {a : Addr} {x y c : Int} (hx : 0 ≤ x ∧ x < 2 ^ 1000) (hy : 0 ≤ y ∧ y < 2 ^ 62) (hc0 : 0 ≤ c) (hc : c + m ≤ CAP) (hn : n = 0 ∨ n = 1 ∨ n = 2) : ∃ z, atI [V.int x, V.int y, V.int c] n = some (.int z) ∧ potB n z := by
  rcases hn with rfl | rfl | rfl
  · exact ⟨x, rfl, .inl ⟨rfl, hx⟩⟩
  · exact ⟨y, rfl, .inr (.inl ⟨rfl, hy⟩)⟩
  · exact ⟨c, rfl, .inr (.inr ⟨rfl, hc0, by omega⟩)⟩
theorem ve_potIx (i : Nat) {k} (hN : X.N[i]? = some x := by rfl) (hv : Vis X.env.scope x := by first | exact Or.inl rfl | exact Or.inr (Or.inl rfl) | exact Or.inr (Or.inr rfl)) (hd : (x == ("__debug__" : Str)) = false := by decide)
    (hcd : (x == ("__classdict__" : Str)) = false := by decide) (hs : PlainIx (.Constant (.int n) k p2) := by intro _ _; rfl) : VE X R 0 (.Subscript (.Name x p) (.Constant (.int n) k p2) pos) (vPotIx i n) where
  mono := fun env Q Q' hq q => ⟨q.1, q.2.1, fun z hz => hq _ _ (q.2.2 z hz)⟩
  run := PE.imp (pe_ix ix_list (pe_var hN hv hd hcd) pe_int hs) fun σ H Q ⟨env, P, fp, T, r, rep, pots, ⟨f, hf⟩, hn, q⟩ => by
    obtain ⟨a, h1, ha, x, y, c, h2, hx, hy, hc0, hc⟩ := slot_pot rep pots hf
    obtain ⟨z, k1, k2⟩ := pot_cell (a := a) (H := H) hx hy hc0 hc hn
    exact ⟨.ref a, h1, a, _, n, .int z, rfl, rfl, .inl (.inl h2), k1, q z k2 _ H P Evo.refl (pots.le (by omega)) fin_int⟩
theorem Evo.pot {P : List Addr} {H : Hp} {a : Addr} {o u : HO} (ha : a ∈ P) (hu : H a = some u) (m : MutO u) : Evo Θ P P H (L2.upd H a o) where
  tab := fun b q t => tabS_upd t (MutO.ntb hu m).1 (MutO.ntb hu m).2
  keep := fun b w q n _ => by rw [upd_ne (fun e => n (by rw [e]; exact ha))]; exact q
  there := fun b q => by
    by_cases e : b = a
    · subst e; rw [upd_same]; simp
    · rw [upd_ne e]; exact q
  sub := fun _ h => h
  new := fun _ h n => absurd h n
/-- pot[2] = pot[2] + 1 -/
def vInc (i : Nat) : VTS := fun k env => (∃ f, env[i]? = some (some (f, .pot))) ∧ k.nx env
theorem vs_potInc (i : Nat) {k k2 k3} (hN : X.N[i]? = some x := by rfl) (hv : Vis X.env.scope x := by first | exact Or.inl rfl | exact Or.inr (Or.inl rfl) | exact Or.inr (Or.inr rfl)) (hd : (x == ("__debug__" : Str)) = false := by decide)
    (hcd : (x == ("__classdict__" : Str)) = false := by decide) (hs : PlainIx (.Constant (.int 2) k2 p4) := by intro _ _; rfl)
    {spos bpos cp : Pos}
    (hs2 : swapsWithSole [.Subscript (.Name x p) (.Constant (.int 2) k p2) tpos] (.BinOp (.Subscript (.Name x p3) (.Constant (.int 2) k2 p4) p5) .Add (.Constant (.int 1) k3 cp) bpos) spos.line X.env = pure false := by rfl)
    (hw : swappedStores [.Subscript (.Name x p) (.Constant (.int 2) k p2) tpos] (.BinOp (.Subscript (.Name x p3) (.Constant (.int 2) k2 p4) p5) .Add (.Constant (.int 1) k3 cp) bpos) X.env = pure none := by rfl)
    (h1 : (assignEach [.Subscript (.Name x p) (.Constant (.int 2) k p2) tpos] X.env).map (·.2) = [assign (.Subscript (.Name x p) (.Constant (.int 2) k p2) tpos) X.env] := by rfl)
    (ha : ∀ v, assign (.Subscript (.Name x p) (.Constant (.int 2) k p2) tpos) X.env v = (do
      let ov ← holding [v] (eval (.Name x p) X.env)
      let iv ← holding [v, ov] (eval (.Constant (.int 2) k p2) X.env)
      standAt tpos
      holding [v, ov, iv] (setItem ov iv v)
      release [v, ov, iv] []) := by intro _; rfl) :
    VS X R 1 (.Assign [.Subscript (.Name x p) (.Constant (.int 2) k p2) tpos] (.BinOp (.Subscript (.Name x p3) (.Constant (.int 2) k2 p4) p5) .Add (.Constant (.int 1) k3 cp) bpos) spos) (vInc i) where
  mono := fun k k' hk env q => ⟨q.1, hk.nx _ q.2⟩
  run := PS.imp (ps_asg (pe_add (pe_ix ix_list (pe_var hN hv hd hcd) pe_int hs) pe_int) (pg_sub (pe_var hN hv hd hcd) pe_int set_list ha) hs2 hw h1) fun Dn σ H ⟨env, P, fp, T, r, kk, rep, pots, ⟨⟨f, hf⟩, q⟩, gd⟩ => by
    obtain ⟨a, h1, ha, x, y, c, h2, hx, hy, hc0, hc⟩ := slot_pot rep pots hf
    refine ⟨.ref a, h1, a, _, 2, .int c, rfl, rfl, .inl (.inl h2), rfl, c, 1, rfl, rfl, .ref a, h1, a, _, 2, 2, rfl, rfl, h2, rfl, ?_⟩
    have e : ([V.int x, V.int y, V.int c] : List V).set 2 (.int (c + 1)) = [V.int x, V.int y, V.int (c + 1)] := rfl
    rw [e]
    refine gd.nx _ _ _ _ _ (rep.evo (Evo.pot ha h2 trivial)) ⟨Nat.le_trans (by omega) pots.1, fun b hb => ?_⟩ q
    by_cases eb : b = a
    · subst eb
      exact ⟨x, y, c + 1, upd_same, hx, hy, by omega, by omega⟩
    · obtain ⟨x', y', c', g1, g2, g3, g4, g5⟩ := pots.2 b hb
      exact ⟨x', y', c', by rw [upd_ne eb]; exact g1, g2, g3, g4, by omega⟩
/-- pot[0] = pot[0] // n -/
def vDiv (i j : Nat) : VTS := fun k env => (∃ f, env[i]? = some (some (f, .pot))) ∧ (∃ f n, env[j]? = some (some (f, .int n)) ∧ 0 < n ∧ n.natAbs.log2 < 9000) ∧ k.nx env
theorem vs_potDiv (i j : Nat) {k k2} (hN : X.N[i]? = some x := by rfl) (hv : Vis X.env.scope x := by first | exact Or.inl rfl | exact Or.inr (Or.inl rfl) | exact Or.inr (Or.inr rfl)) (hNu : X.N[j]? = some u := by rfl) (hvu : Vis X.env.scope u := by first | exact Or.inl rfl | exact Or.inr (Or.inl rfl) | exact Or.inr (Or.inr rfl)) (hd : (x == ("__debug__" : Str)) = false := by decide)
    (hcd : (x == ("__classdict__" : Str)) = false := by decide) (hdu : (u == ("__debug__" : Str)) = false := by decide) (hcdu : (u == ("__classdict__" : Str)) = false := by decide) (hs : PlainIx (.Constant (.int 0) k2 p4) := by intro _ _; rfl) {spos bpos cp : Pos}
    (hs2 : swapsWithSole [.Subscript (.Name x p) (.Constant (.int 0) k p2) tpos] (.BinOp (.Subscript (.Name x p3) (.Constant (.int 0) k2 p4) p5) .FloorDiv (.Name u cp) bpos) spos.line X.env = pure false := by rfl)
    (hw : swappedStores [.Subscript (.Name x p) (.Constant (.int 0) k p2) tpos] (.BinOp (.Subscript (.Name x p3) (.Constant (.int 0) k2 p4) p5) .FloorDiv (.Name u cp) bpos) X.env = pure none := by rfl)
    (h1 : (assignEach [.Subscript (.Name x p) (.Constant (.int 0) k p2) tpos] X.env).map (·.2) = [assign (.Subscript (.Name x p) (.Constant (.int 0) k p2) tpos) X.env] := by rfl)
    (ha : ∀ v, assign (.Subscript (.Name x p) (.Constant (.int 0) k p2) tpos) X.env v = (do
      let ov ← holding [v] (eval (.Name x p) X.env)
      let iv ← holding [v, ov] (eval (.Constant (.int 0) k p2) X.env)
      standAt tpos
      holding [v, ov, iv] (setItem ov iv v)
      release [v, ov, iv] []) := by intro _; rfl) :
    VS X R 0 (.Assign [.Subscript (.Name x p) (.Constant (.int 0) k p2) tpos] (.BinOp (.Subscript (.Name x p3) (.Constant (.int 0) k2 p4) p5) .FloorDiv (.Name u cp) bpos) spos) (vDiv i j) where
  mono := fun k k' hk env q => ⟨q.1, q.2.1, hk.nx _ q.2.2⟩
  run := PS.imp (ps_asg (pe_op op_fdivW (pe_ix ix_list (pe_var hN hv hd hcd) pe_int hs) (pe_var hNu hvu hdu hcdu)) (pg_sub (pe_var hN hv hd hcd) pe_int set_list ha) hs2 hw h1) fun Dn σ H ⟨env, P, fp, T, r, kk, rep, pots, ⟨⟨f, hf⟩, ⟨f2, n, hf2, hn, hn2⟩, q⟩, gd⟩ => by
    obtain ⟨a, h1, ha, x, y, c, h2, hx, hy, hc0, hc⟩ := slot_pot rep pots hf
    obtain ⟨w, k1, dv⟩ := rep.slot j _ _ hf2
    obtain rfl := dv.int_eq
    refine ⟨.ref a, h1, a, _, 0, .int x, rfl, rfl, .inl (.inl h2), rfl, .int n, k1, x, n, rfl, rfl, ⟨hn, hn2⟩, .ref a, h1, a, _, 0, 0, rfl, rfl, h2, rfl, ?_⟩
    have e : ([V.int x, V.int y, V.int c] : List V).set 0 (.int (x / n)) = [V.int (x / n), V.int y, V.int c] := rfl
    rw [e]
    have hq : 0 ≤ x / n ∧ x / n < 2 ^ 1000 := ⟨Int.ediv_nonneg hx.1 (by omega), Int.lt_of_le_of_lt (Int.ediv_le_self _ hx.1) hx.2⟩
    refine gd.nx _ _ _ _ _ (rep.evo (Evo.pot ha h2 trivial)) ⟨Nat.le_trans (by omega) pots.1, fun b hb => ?_⟩ q
    by_cases eb : b = a
    · subst eb
      exact ⟨x / n, y, c, upd_same, hq, hy, hc0, by omega⟩
    · obtain ⟨x', y', c', g1, g2, g3, g4, g5⟩ := pots.2 b hb
      exact ⟨x', y', c', by rw [upd_ne eb]; exact g1, g2, g3, g4, by omega⟩
end
/-- a def that gives a new list of three such numbers gives a new pot -/
theorem FnV.pot {T : List (Addr × Str)} {P : Program} {w : World} {K : PySem.W.Frag} {mg : Str → Option Value} {base : Heap} {k : Nat} {fa : Addr} {fd : FuncData} {ps : List Str} {C : Nat} {f g : Spec} (F : FnV T P w K mg base k fa fd ps C f) (hg : MonoF g)
    (h : ∀ ds Q, g ds Q → f ds fun d => ∃ x y, d = .lst [.int x, .int y, .int 0] ∧ potB 0 x ∧ potB 1 y ∧ Q .pot) : FnV T P w K mg base k fa fd ps C g :=
  ⟨hg, F.ok.weak fun vs H Q E ⟨ds, P, r, F', dv, pots, tb, q⟩ => ⟨ds, P, r, F', dv, pots, tb, F.mono _ _ _ (fun d ⟨x, y, e, hx, hy, q⟩ => by
    intro v H' P' ev pots' ⟨F2, dv2, nd, fr⟩
    subst e
    obtain ⟨a, vs2, G, rfl, ha, hn, dvs, rfl⟩ := dv2.lst_inv
    have ev2 : vs2 = [V.int x, V.int y, V.int 0] := dvs_ints (ns := [x, y, 0]) (F := []) dvs
    subst ev2
    have hx' : 0 ≤ x ∧ x < 2 ^ 1000 := by
      rcases hx with z | z | z
      · exact z.2
      · exact absurd z.1 (by decide)
      · exact absurd z.1 (by decide)
    have hy' : 0 ≤ y ∧ y < 2 ^ 62 := by
      rcases hy with z | z | z
      · exact absurd z.1 (by decide)
      · exact z.2
      · exact absurd z.1 (by decide)
    have h0 := (fr a (by simp)).1
    refine q (.ref a) H' (a :: P') ⟨ev.keep, ev.tab, ev.there, fun b hb => List.mem_cons_of_mem _ (ev.sub b hb), fun b hb n => ?_⟩ ⟨pots'.1, fun b hb => ?_⟩ ⟨[], .pot (by simp), List.nodup_nil, fun _ z => by cases z⟩
    · rcases List.mem_cons.mp hb with rfl | hb
      · exact h0
      · exact ev.new b hb n
    · rcases List.mem_cons.mp hb with rfl | hb
      · exact ⟨x, y, 0, ha, hx', hy', by omega, by have := pots'.1; omega⟩
      · exact pots'.2 b hb) (h _ _ q)⟩⟩
end VS

/-! defs by name -/
namespace VS
open PySem PySem.Spec PyProof.Rows L2
/-- the def stands under its name -/
def Def (K : PySem.W.Frag) (mg : Str → Option Value) (x : Str) (st : Stmt) : Prop := ∃ f fd, FunD K x x (defArgs st) (defBody st) (defScope st) [] [] f fd ∧ mg x = some (.ref f)
/-- a def that can be called by its name -/
def Cal (T : List (Addr × Str)) (P : Program) (w : World) (K : PySem.W.Frag) (mg : Str → Option Value) (base : Heap) (k : Nat) (x : Str) (ps : List Str) (C : Nat) (sp : Spec) : Prop :=
  ∃ f fd, FnV T P w K mg base k f fd ps C sp ∧ mg x = some (.ref f) ∧ PySem.W.keepIn K (.ref f) = true ∧ Binds K fd ps []
section
variable {T : List (Addr × Str)} {P : Program} {w : World} {K : PySem.W.Frag} {mg : Str → Option Value} {base : Heap} {k : Nat} {x : Str} {ps : List Str} {C : Nat} {sp : Spec}
theorem Cal.level {j : Nat} (c : Cal T P w K mg base j x ps C sp) (h : j ≤ k) : Cal T P w K mg base k x ps C sp := let ⟨f, fd, F, r⟩ := c; ⟨f, fd, F.level h, r⟩
theorem Cal.imp {g : Spec} (c : Cal T P w K mg base k x ps C sp) (hg : MonoF g) (h : ∀ ds Q, g ds Q → sp ds Q) : Cal T P w K mg base k x ps C g := let ⟨f, fd, F, r⟩ := c; ⟨f, fd, F.imp hg h, r⟩
theorem Cal.pot {g : Spec} (c : Cal T P w K mg base k x ps C sp) (hg : MonoF g) (h : ∀ ds Q, g ds Q → sp ds fun d => ∃ x y, d = .lst [.int x, .int y, .int 0] ∧ potB 0 x ∧ potB 1 y ∧ Q .pot) : Cal T P w K mg base k x ps C g := let ⟨f, fd, F, r⟩ := c; ⟨f, fd, F.pot hg h, r⟩
theorem Cal.make {st : Stmt} {N : List Str} {c : Nat} {t : VTS} (D : Def K mg x st) (S : FnScope N ps (defScope st)) (hb : ∀ (oc : Value) (kV doc pm : Value) (an : Option Addr) (cdv ct : Value) (fd : FuncData), fd = PySem.W.fnOf x x (defArgs st) (defBody st) (defScope st) .none kV doc pm an cdv ct → ∀ us : List Value, us.length = ps.length → bindArgs fd ⟨us, []⟩ = pure (ps.zip us)) (hm : MonoF sp) (hlen : ∀ ds Q, sp ds Q → ds.length = ps.length)
    (hpure : ∀ ds Q, sp ds Q → t { nx := fun _ => Q .non, rt := Q } (startE N ds))
    (hbody : ∀ (f : Addr) (cdv : Value) (A : Around) (outer : List PySem.Env) (s : Shared) (H : Hp) (E : XK) (R : RC), mg x = some (.ref f) → CodeAt K f cdv → R.T = T → A.guards = some [] → Room k (A.deeper (envOfC x (defScope st) s.heap.objs.size f cdv)) →
      VSs (cxOf (L2.CX P w) P w K mg base N x (defScope st) f cdv A outer s H E).nox R c (defBody st) t) (hc : c ≤ C) : Cal T P w K mg base (k + 1) x ps C sp := by
  obtain ⟨f, fd, F, hmg⟩ := D
  have F' : Fun K x x st f fd := by
    obtain ⟨oc, od, dV, kV, doc, pm, an, cdv, ct, osl, e, lk, hcd, hd, hk⟩ := F.ex
    have e1 : dV = .none := by
      rcases hd with ⟨_, z⟩ | ⟨z, _⟩
      · exact z
      · exact absurd rfl z
    subst e1
    exact ⟨⟨oc, od, kV, doc, pm, an, cdv, ct, osl, e, lk, hcd⟩, F.kp⟩
  refine ⟨f, fd, okV F' S hm hlen hpure (fun cdv A outer s H E R => hbody f cdv A outer s H E R hmg) hc, hmg, F.kp, ?_⟩
  obtain ⟨oc, od, kV, doc, pm, an, cdv, ct, osl, e, lk, hcd⟩ := F'.ex
  exact Binds.all (hb oc kV doc pm an cdv ct fd e)
end
section
variable {X : Cx} {R : RC} {pos p : Pos} {e : Expr} {es : List Expr} {u : VA} {c C k : Nat} {ps : List Str} {f : Spec} {x : Str}
theorem ve_fn (F : Cal R.T X.prog X.w X.K X.mg X.base k x ps C f) (hG : X.A.guards = some []) (hr : Room k X.A) (h : VL X R c (e :: es) u) (hg : Gl X x := by rfl)
    (hdb : (x == ("__debug__" : Str)) = false := by decide) (he : starEach (e :: es) X.env = (false, eval e X.env) :: starEach es X.env := by rfl) (hpl : (backTo pos (starEach es X.env)).any (·.1) = false := by rfl) :
    VE X R (c + C) (.Call (.Name x p) (e :: es) [] pos) (vCall f u) := by
  obtain ⟨fa, fd, F, hm, hk, hb⟩ := F
  exact ve_call F hG hr hm hk hb h hg hdb he hpl
end
end VS
namespace VS
open PySem PySem.Spec PyProof.Rows L2
theorem bt_len : bootBuiltins "len" = some (.builtin "len") := by decide +kernel
theorem bt_int : bootBuiltins "int" = some (.type "int") := by decide +kernel
theorem bt_abs : bootBuiltins "abs" = some (.builtin "abs") := by decide +kernel
theorem bt_sum : bootBuiltins "sum" = some (.builtin "sum") := by decide +kernel
theorem bt_all : bootBuiltins "all" = some (.builtin "all") := by decide +kernel
theorem bt_any : bootBuiltins "any" = some (.builtin "any") := by decide +kernel
theorem bt_tuple : bootBuiltins "tuple" = some (.type "tuple") := by decide +kernel
theorem bt_list : bootBuiltins "list" = some (.type "list") := by decide +kernel
theorem bt_sorted : bootBuiltins "sorted" = some (.builtin "sorted") := by decide +kernel
theorem bt_repr : bootBuiltins "repr" = some (.builtin "repr") := by decide +kernel
theorem bt_min : bootBuiltins "min" = some (.builtin "min") := by decide +kernel
theorem bt_max : bootBuiltins "max" = some (.builtin "max") := by decide +kernel
theorem bt_bool : bootBuiltins "bool" = some (.type "bool") := by decide +kernel
theorem bt_str : bootBuiltins "str" = some (.type "str") := by decide +kernel
theorem bt_set : bootBuiltins "set" = some (.type "set") := by decide +kernel
theorem bt_dict : bootBuiltins "dict" = some (.type "dict") := by decide +kernel
/-- the built-ins are not hidden by the module's own names -/
structure Blt (mg : Str → Option Value) : Prop where
  range : mg "range" = none
  len : mg "len" = none
  int : mg "int" = none
  tuple : mg "tuple" = none
  list : mg "list" = none
  sorted : mg "sorted" = none
  sum : mg "sum" = none
  repr : mg "repr" = none
  abs : mg "abs" = none
  min : mg "min" = none
  max : mg "max" = none
  all : mg "all" = none
  any : mg "any" = none
  isinstance : mg "isinstance" = none
  zip : mg "zip" = none
  enumerate : mg "enumerate" = none
  bool : mg "bool" = none
  set : mg "set" = none
  str : mg "str" = none
  dict : mg "dict" = none
end VS

/-! readings in a form that simp runs -/
namespace VS
open PySem PySem.Spec PyProof.Rows L2
@[simp] theorem vVar_eq (i : Nat) (env : Env) (Q : D → Prov → Prop) : vVar i env Q = (match env[i]? with | some (some (f, d)) => Q d (pvOf f i) | _ => False) := by
  apply propext
  unfold vVar
  constructor
  · rintro ⟨f, d, e, q⟩
    rw [e]; exact q
  · intro h
    split at h
    · rename_i f d e
      exact ⟨f, d, e, h⟩
    · exact h.elim
@[simp] theorem pVar_eq (i : Nat) (env : Env) (Q : Nat → List Nat → Prop) : pVar i env Q = (match env[i]? with | some (some (.own, _)) => Q i [] | _ => False) := by
  apply propext
  unfold pVar
  constructor
  · rintro ⟨⟨D0, e⟩, q⟩
    rw [e]; exact q
  · intro h
    split at h
    · rename_i D0 e
      exact ⟨⟨D0, e⟩, h⟩
    · exact h.elim
@[simp] theorem vTest_eq (t : VT) (env : Env) (Q : Bool → Prop) : vTest t env Q = t env fun d _ => match d with | .bl b => Q b | _ => False := by
  unfold vTest
  congr 1
  funext d p
  apply propext
  constructor
  · rintro ⟨b, rfl, q⟩; exact q
  · intro h
    split at h
    · exact ⟨_, rfl, h⟩
    · exact h.elim
@[simp] theorem vAndV_eq (t u : VT) (env : Env) (Q : D → Prov → Prop) : vAndV t u env Q = t env fun d _ => match d with | .bl b => (if b = true then u env Q else Q (.bl false) .fresh) | _ => False := by
  unfold vAndV
  congr 1
  funext d p
  apply propext
  constructor
  · rintro ⟨b, rfl, q⟩
    exact q
  · intro h
    split at h
    · exact ⟨_, rfl, h⟩
    · exact h.elim
@[simp] theorem vOrV_eq (t u : VT) (env : Env) (Q : D → Prov → Prop) : vOrV t u env Q = t env fun d _ => match d with | .bl b => (if b = true then Q (.bl true) .fresh else u env Q) | _ => False := by
  unfold vOrV
  congr 1
  funext d p
  apply propext
  constructor
  · rintro ⟨b, rfl, q⟩
    exact q
  · intro h
    split at h
    · exact ⟨_, rfl, h⟩
    · exact h.elim
@[simp] theorem vNotV_eq (t : VT) (env : Env) (Q : D → Prov → Prop) : vNotV t env Q = t env fun d _ => match d with | .bl b => Q (.bl !b) .fresh | _ => False := by
  unfold vNotV
  congr 1
  funext d p
  apply propext
  constructor
  · rintro ⟨b, rfl, q⟩; exact q
  · intro h
    split at h
    · exact ⟨_, rfl, h⟩
    · exact h.elim
@[simp] theorem vIsa_eq (T : String) (t : VT) (env : Env) (Q : D → Prov → Prop) : vIsa T t env Q = t env fun d _ => match isaD T d with | some b => Q (.bl b) .fresh | none => False := by
  unfold vIsa
  congr 1
  funext d p
  apply propext
  constructor
  · rintro ⟨b, e, q⟩
    rw [e]; exact q
  · intro h
    split at h
    · exact ⟨_, by assumption, h⟩
    · exact h.elim
@[simp] theorem vChain_eq (o o' : Op2) (ta tb tc : VT) (env : Env) (Q : D → Prov → Prop) : vChain o o' ta tb tc env Q = ta env fun d p => tb env fun d' p' => o (d, p) (d', p') fun z _ => match z with | .bl b => (if b = true then tc env fun d2 p2 => o' (d', p') (d2, p2) Q else Q (.bl false) .fresh) | _ => False := by
  unfold vChain
  congr 1
  funext d p
  congr 1
  funext d' p'
  congr 1
  funext z pz
  apply propext
  constructor
  · rintro ⟨b, rfl, q⟩
    exact q
  · intro h
    split at h
    · exact ⟨_, rfl, h⟩
    · exact h.elim
@[simp] theorem oArg1_eq (o : D → Prov → (D → Prov → Prop) → Prop) (d : D) (p : Prov) (Q : D → Prov → Prop) : oArg1 o [(d, p)] Q = o d p Q := by
  apply propext
  unfold oArg1
  constructor
  · rintro ⟨d', p', e, q⟩
    cases e; exact q
  · intro h; exact ⟨d, p, rfl, h⟩
@[simp] theorem oArg2_eq (o : D → D → (D → Prov → Prop) → Prop) (d e : D) (p p2 : Prov) (Q : D → Prov → Prop) : oArg2 o [(d, p), (e, p2)] Q = o d e Q := by
  apply propext
  unfold oArg2
  constructor
  · rintro ⟨d', p', e', p2', z, q⟩
    cases z; exact q
  · intro h; exact ⟨d, p, e, p2, rfl, h⟩
@[simp] theorem oLen_eq (d : D) (p : Prov) (Q : D → Prov → Prop) : oLen [(d, p)] Q = match d.items with | some ds => Q (.int ds.length) .fresh | none => False := by
  unfold oLen
  rw [oArg1_eq]
  apply propext
  constructor
  · rintro ⟨ds, e, q⟩; rw [e]; exact q
  · intro h
    split at h
    · exact ⟨_, by assumption, h⟩
    · exact h.elim
@[simp] theorem oTuple_eq (d : D) (p : Prov) (Q : D → Prov → Prop) : oTuple [(d, p)] Q = match d.items with | some ds => immAll ds = true ∧ Q (.tup ds) .fresh | none => False := by
  unfold oTuple
  rw [oArg1_eq]
  apply propext
  constructor
  · rintro ⟨ds, e, q⟩; rw [e]; exact q
  · intro h
    split at h
    · exact ⟨_, by assumption, h⟩
    · exact h.elim
@[simp] theorem oList_eq (d : D) (p : Prov) (Q : D → Prov → Prop) : oList [(d, p)] Q = match d.items with | some ds => immAll ds = true ∧ Q (.lst ds) .fresh | none => False := by
  unfold oList
  rw [oArg1_eq]
  apply propext
  constructor
  · rintro ⟨ds, e, q⟩; rw [e]; exact q
  · intro h
    split at h
    · exact ⟨_, by assumption, h⟩
    · exact h.elim
@[simp] theorem oInt_int (i : Int) (p : Prov) (Q : D → Prov → Prop) : oInt [(.int i, p)] Q = Q (.int i) .fresh := by unfold oInt; rw [oArg1_eq]
@[simp] theorem oInt_bl (b : Bool) (p : Prov) (Q : D → Prov → Prop) : oInt [(.bl b, p)] Q = Q (.int (if b then 1 else 0)) .fresh := by unfold oInt; rw [oArg1_eq]
@[simp] theorem oAbs_eq (i : Int) (p : Prov) (Q : D → Prov → Prop) : oAbs [(.int i, p)] Q = Q (.int (if i < 0 then -i else i)) .fresh := by
  unfold oAbs; rw [oArg1_eq]
  apply propext
  constructor
  · rintro ⟨j, e, q⟩; cases e; exact q
  · intro h; exact ⟨i, rfl, h⟩
@[simp] theorem oMax2_eq (i j : Int) (p p2 : Prov) (Q : D → Prov → Prop) : oMax2 [(.int i, p), (.int j, p2)] Q = Q (.int (if j > i then j else i)) .fresh := by
  unfold oMax2; rw [oArg2_eq]
  apply propext
  constructor
  · rintro ⟨a, b, e, e2, q⟩; cases e; cases e2; exact q
  · intro h; exact ⟨i, j, rfl, rfl, h⟩
@[simp] theorem oMin2_eq (i j : Int) (p p2 : Prov) (Q : D → Prov → Prop) : oMin2 [(.int i, p), (.int j, p2)] Q = Q (.int (if j < i then j else i)) .fresh := by
  unfold oMin2; rw [oArg2_eq]
  apply propext
  constructor
  · rintro ⟨a, b, e, e2, q⟩; cases e; cases e2; exact q
  · intro h; exact ⟨i, j, rfl, rfl, h⟩
@[simp] theorem viSeq_eq (t : VT) (env : Env) (Q : List D → List DP → Prop) : viSeq t env Q = t env fun d p => match d.items with | some ds => Q ds [(d, p)] | none => False := by
  unfold viSeq
  congr 1
  funext d p
  apply propext
  constructor
  · rintro ⟨ds, e, q⟩; rw [e]; exact q
  · intro h
    split at h
    · exact ⟨_, by assumption, h⟩
    · exact h.elim

section
variable {k : VK} {env : Env} {te tb : VT} {t u : VTS} {c c2 : VB} {a b : VA} {Q : D → Prov → Prop} {QB : Bool → Prop} {QA : List DP → Prop} {i j : Int} {p q : Prov}
@[simp] theorem vRet_eq : vRet te k env = te env fun d p => retB env d p = true ∧ k.rt d := rfl
@[simp] theorem vRetN_eq : vRetN k env = k.rt .non := rfl
@[simp] theorem vSeq_eq : vSeq t u k env = t { k with nx := u k } env := rfl
@[simp] theorem vNext_eq : vNext k env = k.nx env := rfl
@[simp] theorem vNever_eq : vNever k env = False := rfl
@[simp] theorem vBrk_eq : vBrk k env = k.bk env := rfl
@[simp] theorem vCnt_eq : vCnt k env = k.ct env := rfl
@[simp] theorem vIfS_eq : vIfS c t u k env = c env fun b => if b = true then t k env else u k env := rfl
@[simp] theorem vDrop_eq : vDrop te k env = te env fun _ _ => k.nx env := rfl
@[simp] theorem vSet_eq {n : Nat} : vSet n te k env = (n < env.length ∧ te env fun d p => k.nx (stE env n d p)) := rfl
@[simp] theorem vPar_eq {is : List Nat} : vPar is a k env = a env fun xs => ∃ env', stAll env is xs = some env' ∧ k.nx env' := rfl
@[simp] theorem vC_eq {d : D} : vC d env Q = Q d .fresh := rfl
@[simp] theorem vOp_eq {o : Op2} : vOp o te tb env Q = te env fun d p => tb env fun d' p' => o (d, p) (d', p') Q := rfl
@[simp] theorem vAnd_eq : vAnd c c2 env QB = c env fun b => if b = true then c2 env QB else QB false := rfl
@[simp] theorem vOr_eq : vOr c c2 env QB = c env fun b => if b = true then QB true else c2 env QB := rfl
@[simp] theorem vNot_eq : vNot c env QB = c env fun b => QB (!b) := rfl
@[simp] theorem vYes_eq : vYes env QB = QB true := rfl
@[simp] theorem vIf_eq : vIf c te tb env Q = c env fun b => if b = true then te env Q else tb env Q := rfl
@[simp] theorem vB_eq {o : OpA} : vB o a env Q = a env fun xs => o xs Q := rfl
@[simp] theorem vCall_eq {f : VS.Spec} : vCall f a env Q = a env fun xs => f (xs.map (·.1)) fun d => Q d .fresh := rfl
@[simp] theorem vNil_eq : vNil env QA = QA [] := rfl
@[simp] theorem vCons_eq : vCons te a env QA = te env fun d p => a env fun xs => QA ((d, p) :: xs) := rfl
@[simp] theorem vTup_eq : vTup a env Q = a env fun xs => xs.length ≤ SZ ∧ Q (.tup (xs.map (·.1))) (prOf xs) := rfl
@[simp] theorem vLst_eq : vLst a env Q = a env fun xs => xs.length ≤ SZ ∧ Q (.lst (xs.map (·.1))) (prLst xs) := rfl
@[simp] theorem vSl_eq {lo hi : VO} : vSl te lo hi env Q = te env fun d p => lo env fun l => hi env fun u => slD d p l u Q := rfl
@[simp] theorem vNo_eq {QO : Option Int → Prop} : vNo env QO = QO none := rfl
@[simp] theorem vPart_eq {QO : Option Int → Prop} : vPart te env QO = te env fun d _ => match d with | .int i => QO (some i) | _ => False := by
  unfold vPart
  congr 1
  funext d p
  apply propext
  constructor
  · rintro ⟨b, rfl, q⟩; exact q
  · intro h
    split at h
    · exact ⟨_, rfl, h⟩
    · exact h.elim
@[simp] theorem vStar_eq : vStar te a env QA = te env fun d _ => match itemsD d with | some xs => immAll xs = true ∧ a env fun ys => QA (xs.map (fun x => (x, .fresh)) ++ ys) | none => False := by
  unfold vStar
  congr 1
  funext d p
  apply propext
  constructor
  · rintro ⟨b, e, q⟩; rw [e]; exact q
  · intro h
    split at h
    · exact ⟨_, by assumption, h⟩
    · exact h.elim
@[simp] theorem oAdd_int : oAdd (.int i, p) (.int j, q) Q = Q (.int (i + j)) .fresh := rfl
@[simp] theorem oAdd_tup {xs ys : List D} : oAdd (.tup xs, p) (.tup ys, q) Q = (xs.length + ys.length ≤ SZ ∧ immAll xs = true ∧ immAll ys = true ∧ Q (.tup (xs ++ ys)) .fresh) := rfl
@[simp] theorem oAdd_lst {xs ys : List D} : oAdd (.lst xs, p) (.lst ys, q) Q = (xs.length + ys.length ≤ SZ ∧ immAll xs = true ∧ immAll ys = true ∧ Q (.lst (xs ++ ys)) .fresh) := rfl
@[simp] theorem oSub_int : oSub (.int i, p) (.int j, q) Q = Q (.int (i - j)) .fresh := rfl
@[simp] theorem oMulB_int : oMulB (.int i, p) (.int j, q) Q = (MulOk i j ∧ Q (.int (i * j)) .fresh) := rfl
@[simp] theorem oMulB_lst {xs : List D} : oMulB (.lst xs, p) (.int j, q) Q = (j ≤ 1000000 ∧ -1000000 ≤ j ∧ xs.length * j.toNat ≤ SZ ∧ immAll xs = true ∧ Q (.lst (List.replicate j.toNat xs).flatten) .fresh) := rfl
@[simp] theorem oMulB_tup {xs : List D} : oMulB (.tup xs, p) (.int j, q) Q = (immAll xs = true ∧ -1000 ≤ j ∧ j ≤ 1000 ∧ xs.length ≤ 1000 ∧ Q (.tup (List.replicate j.toNat xs).flatten) .fresh) := rfl
@[simp] theorem oDiv_int : oDiv (.int i, p) (.int j, q) Q = ((0 < j ∧ j.natAbs.log2 < 9000) ∧ Q (.int (i / j)) .fresh) := rfl
@[simp] theorem oMod_int : oMod (.int i, p) (.int j, q) Q = (0 < j ∧ Q (.int (i % j)) .fresh) := rfl
@[simp] theorem oPow_int : oPow (.int i, p) (.int j, q) Q = (PowOk i j ∧ Q (.int (i ^ j.toNat)) .fresh) := rfl
@[simp] theorem oLt_int : oLt (.int i, p) (.int j, q) Q = Q (.bl (decide (i < j))) .fresh := rfl
@[simp] theorem oLe_int : oLe (.int i, p) (.int j, q) Q = Q (.bl (decide (i ≤ j))) .fresh := rfl
@[simp] theorem oGt_int : oGt (.int i, p) (.int j, q) Q = Q (.bl (decide (j < i))) .fresh := rfl
@[simp] theorem oGe_int : oGe (.int i, p) (.int j, q) Q = Q (.bl (decide (j ≤ i))) .fresh := rfl
@[simp] theorem oEq_int : oEq (.int i, p) (.int j, q) Q = Q (.bl (decide (i = j))) .fresh := by
  unfold oEq
  have h1 : (D.int i).plain = true := rfl
  have h2 : (D.int j).plain = true := rfl
  have h3 : (D.int i).eqd (.int j) = decide (i = j) := by
    unfold D.eqd D.toPy
    by_cases h : i = j
    · subst h; simp [PyData.eqv]
    · simp [PyData.eqv, h]
  simp only [h1, h2, h3, true_and]
@[simp] theorem oNe_int : oNe (.int i, p) (.int j, q) Q = Q (.bl (decide (i ≠ j))) .fresh := by
  unfold oNe
  have h1 : (D.int i).plain = true := rfl
  have h2 : (D.int j).plain = true := rfl
  have h3 : (D.int i).eqd (.int j) = decide (i = j) := by
    unfold D.eqd D.toPy
    by_cases h : i = j
    · subst h; simp [PyData.eqv]
    · simp [PyData.eqv, h]
  simp only [h1, h2, h3, true_and]
  congr 2
  by_cases h : i = j <;> simp [h]
@[simp] theorem oEqA_int : oEqA (.int i, p) (.int j, q) Q = Q (.bl (decide (i = j))) .fresh := oEq_int
@[simp] theorem oNeA_int : oNeA (.int i, p) (.int j, q) Q = Q (.bl (decide (i ≠ j))) .fresh := oNe_int
@[simp] theorem oEqA_str {x y : Str} : oEqA (.str x, p) (.str y, q) Q = Q (.bl (decide (x = y))) .fresh := rfl
@[simp] theorem oNeA_str {x y : Str} : oNeA (.str x, p) (.str y, q) Q = Q (.bl (!decide (x = y))) .fresh := rfl
@[simp] theorem oIx_tup {xs : List D} : oIx (.tup xs, p) (.int j, q) Q = match atI xs j with | some d => Q d p.part | none => False := by
  apply propext
  unfold oIx
  constructor
  · rintro ⟨d, e, h⟩; rw [e]; exact h
  · intro h
    split at h
    · exact ⟨_, by assumption, h⟩
    · exact h.elim
@[simp] theorem oIx_lst {xs : List D} : oIx (.lst xs, p) (.int j, q) Q = match atI xs j with | some d => Q d p.part | none => False := by
  apply propext
  unfold oIx
  constructor
  · rintro ⟨d, e, h⟩; rw [e]; exact h
  · intro h
    split at h
    · exact ⟨_, by assumption, h⟩
    · exact h.elim
@[simp] theorem oIx_rol {xs : List D} : oIx (.rol xs, p) (.int j, q) Q = match atI xs j with | some d => Q d p.part | none => False := by
  apply propext
  unfold oIx
  constructor
  · rintro ⟨d, e, h⟩; rw [e]; exact h
  · intro h
    split at h
    · exact ⟨_, by assumption, h⟩
    · exact h.elim
@[simp] theorem slD_tup {xs : List D} {lo hi : Option Int} : slD (.tup xs) p lo hi Q = Q (.tup (cutL xs lo hi)) p.part := rfl
@[simp] theorem slD_lst {xs : List D} {lo hi : Option Int} : slD (.lst xs) p lo hi Q = (immAll xs = true ∧ Q (.lst (cutL xs lo hi)) .fresh) := rfl
@[simp] theorem slD_rol {xs : List D} {lo hi : Option Int} : slD (.rol xs) p lo hi Q = (immAll xs = true ∧ Q (.lst (cutL xs lo hi)) .fresh) := rfl
@[simp] theorem items_lst {xs : List D} : D.items (.lst xs) = some xs := rfl
@[simp] theorem items_tup {xs : List D} : D.items (.tup xs) = some xs := rfl
@[simp] theorem items_rol {xs : List D} : D.items (.rol xs) = some xs := rfl
@[simp] theorem gvName_eq {n : Nat} {x : DP} {QE : Env → Prop} : gvName n x env QE = (n < env.length ∧ QE (stE env n x.1 x.2)) := rfl
@[simp] theorem gvNil_nil {QE : Env → Prop} : gvNil [] env QE = QE env := by unfold gvNil; simp
@[simp] theorem gvCons_cons {n : Nat} {g : VGs} {x : DP} {xs : List DP} {QE : Env → Prop} : gvCons n g (x :: xs) env QE = (n < env.length ∧ g xs (stE env n x.1 x.2) QE) := by
  apply propext
  unfold gvCons
  constructor
  · rintro ⟨y, ys, e, h⟩; cases e; exact h
  · intro h; exact ⟨x, xs, rfl, h⟩
@[simp] theorem gvTup_tup {g : VGs} {xs : List D} {QE : Env → Prop} : gvTup g (.tup xs, p) env QE = g (xs.map fun d => (d, itPr xs p)) env QE := by
  apply propext
  unfold gvTup
  constructor
  · rintro ⟨y, e, h⟩; cases e; exact h
  · intro h; exact ⟨xs, rfl, h⟩
@[simp] theorem imm_int : (D.int i).imm = true := rfl
@[simp] theorem imm_bl {b : Bool} : (D.bl b).imm = true := rfl
@[simp] theorem imm_non : D.non.imm = true := rfl
@[simp] theorem imm_str {x : Str} : (D.str x).imm = true := rfl
@[simp] theorem imm_tup {xs : List D} : (D.tup xs).imm = immAll xs := by simp [D.imm]
@[simp] theorem imm_lst {xs : List D} : (D.lst xs).imm = false := by simp [D.imm]
@[simp] theorem imm_rol {xs : List D} : (D.rol xs).imm = false := by simp [D.imm]
@[simp] theorem imm_pot : D.pot.imm = true := rfl
@[simp] theorem immAll_nil : immAll [] = true := rfl
@[simp] theorem immAll_cons {d : D} {ds : List D} : immAll (d :: ds) = (d.imm && immAll ds) := rfl
@[simp] theorem immAll_app_eq {xs ys : List D} : immAll (xs ++ ys) = (immAll xs && immAll ys) := by
  induction xs with
  | nil => simp
  | cons d ds ih => simp [ih, Bool.and_assoc]
@[simp] theorem immAll_ints {xs : List Int} : immAll (xs.map D.int) = true := by
  induction xs with
  | nil => rfl
  | cons x xs ih => simp [ih]
@[simp] theorem immAll_nats {xs : List Nat} : immAll (xs.map fun n => D.int (n : Nat)) = true := by
  induction xs with
  | nil => rfl
  | cons x xs ih => simp [ih]
@[simp] theorem immAll_bls {xs : List Bool} : immAll (xs.map D.bl) = true := by
  induction xs with
  | nil => rfl
  | cons x xs ih => simp [ih]
end
/-- a for, told by what stands behind i turns -/
theorem vFor_of {u : VIt} {g : VGt} {t : VTS} {k : VK} {env : Env} {items : List D} {srcs : List DP} (I : Nat → Env → Prop) (hu : ∀ Q : List D → List DP → Prop, Q items srcs → u env Q) (h1 : items.length ≤ 16777216) (h2 : srcs.all (srcB env) = true) (h0 : I 0 env)
    (hs : ∀ i d e1, items[i]? = some d → I i e1 → g (d, .any) e1 (t { nx := I (i + 1), ct := I (i + 1), bk := k.nx, rt := k.rt, ex := k.ex })) (hd : ∀ e1, I items.length e1 → k.nx e1) : vFor u g t k env :=
  hu _ ⟨h1, h2, I, h0, hs, hd⟩
/-- .. over the images of xs -/
theorem vFor_img {α : Type} {u : VIt} {g : VGt} {t : VTS} {k : VK} {env : Env} (xs : List α) (c : α → D) {srcs : List DP} (I : Nat → Env → Prop) (hu : ∀ Q : List D → List DP → Prop, Q (xs.map c) srcs → u env Q) (h1 : xs.length ≤ 16777216) (h2 : srcs.all (srcB env) = true) (h0 : I 0 env)
    (hs : ∀ i x e1, xs[i]? = some x → I i e1 → g (c x, .any) e1 (t { nx := I (i + 1), ct := I (i + 1), bk := k.nx, rt := k.rt, ex := k.ex })) (hd : ∀ e1, I xs.length e1 → k.nx e1) : vFor u g t k env :=
  vFor_of I hu (by rw [List.length_map]; exact h1) h2 h0 (fun i d e1 hd hI => by
    rw [List.getElem?_map] at hd
    cases q : xs[i]? with
    | none => rw [q] at hd; cases hd
    | some x => rw [q] at hd; cases hd; exact hs i x e1 q hI) (by rw [List.length_map]; exact hd)
/-- a comprehension over the images of xs that gives f of each -/
theorem vLc_img {α : Type} {u : VIt} {g : VGt} {tt : VB} {te : VT} {vs : List Nat} {env : Env} {Q : D → Prov → Prop} (xs : List α) (c : α → D) {srcs : List DP} (f : α → Option D) (hu : ∀ Q : List D → List DP → Prop, Q (xs.map c) srcs → u env Q) (h1 : xs.length ≤ 16777216)
    (hs : ∀ x ∈ xs, ∀ (A : D → Prop) (B : Prop), (∀ y, f x = some y → A y) → (f x = none → B) → g (c x, .any) (wipeE env vs) fun e2 => tt e2 fun b => if b = true then te e2 fun y p => okIn y p = true ∧ A y else B) (hq : Q (.lst (xs.filterMap f)) .fresh) : vLc u g tt te vs env Q := by
  refine hu _ ⟨by rw [List.length_map]; exact h1, fun i acc => acc = (xs.take i).filterMap f, by simp, fun i d acc hd hI => ?_, fun acc hI _ => ?_⟩
  · rw [List.getElem?_map] at hd
    cases q : xs[i]? with
    | none => rw [q] at hd; cases hd
    | some x =>
      rw [q] at hd
      cases hd
      obtain ⟨hlt, e⟩ := List.getElem?_eq_some_iff.mp q
      have hmem : x ∈ xs := by rw [← e]; exact List.getElem_mem hlt
      have et : xs.take (i + 1) = xs.take i ++ [x] := by rw [List.take_add_one, q]; rfl
      refine hs x hmem (fun y => acc ++ [y] = (xs.take (i + 1)).filterMap f) (acc = (xs.take (i + 1)).filterMap f) (fun y hy => ?_) fun hy => ?_
      · rw [hI, et, List.filterMap_append]
        simp [hy]
      · rw [hI, et, List.filterMap_append]
        simp [hy]
  · rw [List.length_map, List.take_length] at hI
    rw [hI]
    exact hq
/-- .. without a test -/
theorem vLc_map {α : Type} {u : VIt} {g : VGt} {tt : VB} {te : VT} {vs : List Nat} {env : Env} {Q : D → Prov → Prop} (xs : List α) (c : α → D) {srcs : List DP} (f : α → D) (hu : ∀ Q : List D → List DP → Prop, Q (xs.map c) srcs → u env Q) (h1 : xs.length ≤ 16777216)
    (hs : ∀ x ∈ xs, ∀ (A : D → Prop) (B : Prop), A (f x) → g (c x, .any) (wipeE env vs) fun e2 => tt e2 fun b => if b = true then te e2 fun y p => okIn y p = true ∧ A y else B) (hq : Q (.lst (xs.map f)) .fresh) : vLc u g tt te vs env Q :=
  vLc_img xs c (fun x => some (f x)) hu h1 (fun x hx A B h _ => hs x hx A B (h _ rfl)) (by
    have : xs.filterMap (fun x => some (f x)) = xs.map f := by
      have h2 := List.filterMap_eq_map (f := f)
      exact congrFun h2 xs
    rw [this]; exact hq)

@[simp] theorem retB_fresh {env : Env} {d : D} : retB env d .fresh = true := rfl
theorem oAll_of {α : Type} {xs : List α} {f : α → Bool} {p : Prov} {Q : D → Prov → Prop} (h : Q (.bl (xs.all f)) .fresh) : oAll [(.lst (xs.map fun x => D.bl (f x)), p)] Q := by
  refine ⟨_, _, rfl, xs.map f, by rw [List.map_map]; rfl, ?_⟩
  rw [List.all_map]
  exact h
theorem oAny_of {α : Type} {xs : List α} {f : α → Bool} {p : Prov} {Q : D → Prov → Prop} (h : Q (.bl (xs.any f)) .fresh) : oAny [(.lst (xs.map fun x => D.bl (f x)), p)] Q := by
  refine ⟨_, _, rfl, xs.map f, by rw [List.map_map]; rfl, ?_⟩
  rw [List.any_map]
  exact h
theorem sum_ints (xs : List Nat) : (xs.map fun n : Nat => (n : Int)).sum = ((xs.sum : Nat) : Int) := by
  induction xs with
  | nil => rfl
  | cons x xs ih => simp [ih]
theorem oSum_ints {d : D} {xs : List Int} {p : Prov} {Q : D → Prov → Prop} (hd : d.items = some (xs.map D.int)) (h : Q (.int xs.sum) .fresh) : oSum [(d, p)] Q := ⟨d, p, rfl, xs, hd, h⟩
theorem oSum_nats {d : D} {xs : List Nat} {p : Prov} {Q : D → Prov → Prop} (hd : d.items = some (xs.map fun n : Nat => D.int n)) (h : Q (.int (xs.sum : Nat)) .fresh) : oSum [(d, p)] Q :=
  ⟨d, p, rfl, xs.map fun n : Nat => (n : Int), by rw [hd, List.map_map]; rfl, by rw [sum_ints]; exact h⟩
theorem oMax1_of {d : D} {n : Int} {ns : List Int} {p : Prov} {Q : D → Prov → Prop} (hd : d.items = some ((n :: ns).map D.int)) (h : Q (.int (ns.foldl max n)) .fresh) : oMax1 [(d, p)] Q := ⟨d, p, rfl, n, ns, hd, h⟩
theorem oMin1_of {d : D} {n : Int} {ns : List Int} {p : Prov} {Q : D → Prov → Prop} (hd : d.items = some ((n :: ns).map D.int)) (h : Q (.int (ns.foldl min n)) .fresh) : oMin1 [(d, p)] Q := ⟨d, p, rfl, n, ns, hd, h⟩
theorem oSorted_of {d : D} {ds : List D} {p : Prov} {Q : D → Prov → Prop} (hd : d.items = some ds) (h1 : immAll ds = true) (h2 : PyData.canLayAll0 (toPys ds) = true) (h3 : Sorts (toPys ds)) (h : Q (.lst (sortD ds)) .fresh) : oSorted [(d, p)] Q := ⟨d, p, rfl, ds, hd, h1, h2, h3, h⟩
theorem oRepr_of {d : D} {p : Prov} {Q : D → Prov → Prop} (h1 : d.shows = true) (h2 : d.rsz ≤ 16777216) (h3 : d.toPy.depth ≤ 60) (h : Q (.str d.toPy.shown) .fresh) : oRepr [(d, p)] Q := ⟨d, p, rfl, h1, h2, h3, h⟩
theorem zipD_map {α β : Type} (f : α → D) (g : β → D) : ∀ (as : List α) (bs : List β), zipD (as.map f) (bs.map g) = (as.zip bs).map fun p => .tup [f p.1, g p.2]
  | [], _ => by simp [zipD]
  | _ :: _, [] => by simp [zipD]
  | a :: as, b :: bs => by simp [zipD, zipD_map f g as bs]
theorem enumD_map {α : Type} (f : α → D) : ∀ (n : Nat) (as : List α), enumD n (as.map f) = (as.zipIdx n).map fun p => .tup [.int (p.2 : Nat), f p.1]
  | _, [] => by simp [enumD]
  | n, a :: as => by simp [enumD, enumD_map f (n + 1) as]
theorem rngD_map (a : Int) : ∀ n : Nat, rngD a 1 n = (List.range n).map fun i => D.int (a + (i : Nat))
  | 0 => rfl
  | n + 1 => by
    rw [List.range_succ_eq_map, List.map_cons, List.map_map]
    simp only [rngD]
    rw [rngD_map (a + 1) n]
    congr 1
    · congr 1; omega
    · apply List.map_congr_left
      intro i _
      simp only [Function.comp, Nat.succ_eq_add_one]
      congr 1; omega
theorem cutL_map {α β : Type} (f : α → β) (xs : List α) (lo hi : Option Int) : cutL (xs.map f) lo hi = (cutL xs lo hi).map f := by
  unfold cutL
  rw [List.length_map, List.map_take, List.map_drop]
theorem cutL_from {α : Type} (xs : List α) (n : Nat) : cutL xs (some (n : Int)) none = xs.drop n := by
  unfold cutL
  rw [HT.sIx_nat, HT.sIx_none]
  rcases Nat.le_total n xs.length with h | h
  · rw [Nat.min_eq_left h]
    exact List.take_of_length_le (by simp)
  · rw [Nat.min_eq_right h]
    simp [List.drop_eq_nil_of_le h]
theorem cutL_to {α : Type} (xs : List α) (n : Nat) : cutL xs none (some (n : Int)) = xs.take n := by
  unfold cutL
  rw [HT.sIx_nat, HT.sIx_none]
  simp only [Nat.sub_zero, List.drop_zero]
  rcases Nat.le_total n xs.length with h | h
  · rw [Nat.min_eq_left h]
  · rw [Nat.min_eq_right h, List.take_of_length_le h, List.take_of_length_le (Nat.le_refl _)]
theorem atI_ofNat {α : Type} (xs : List α) (n : Nat) : atI xs (n : Int) = xs[n]? := by
  unfold atI ixN
  rw [if_pos (by omega)]
  by_cases h : n < xs.length
  · rw [if_pos (by omega)]; simp
  · rw [if_neg (by omega)]
    simp only [Option.bind_none]
    rw [List.getElem?_eq_none (by omega)]
theorem atI_map {α β : Type} (f : α → β) (xs : List α) (i : Int) : atI (xs.map f) i = (atI xs i).map f := by
  unfold atI
  rw [List.length_map]
  cases ixN xs.length i with
  | none => rfl
  | some j => simp

def kEnum (xs : List DP) (Q : List D → List DP → Prop) : Prop := ∃ d p ds, xs = [(d, p)] ∧ d.items = some ds ∧ Q (enumD 0 ds) [(d, p)]
@[simp] theorem viEnum_eq {u : VA} {env : Env} {Q : List D → List DP → Prop} : viEnum u env Q = u env fun xs => kEnum xs Q := rfl
@[simp] theorem kEnum_one {d : D} {p : Prov} {Q : List D → List DP → Prop} : kEnum [(d, p)] Q = match d.items with | some ds => Q (enumD 0 ds) [(d, p)] | none => False := by
  apply propext
  constructor
  · rintro ⟨d', p', ds, e, e2, q⟩
    cases e
    rw [e2]; exact q
  · intro h
    split at h
    · exact ⟨d, p, _, rfl, by assumption, h⟩
    · exact h.elim
def kZip (xs : List DP) (Q : List D → List DP → Prop) : Prop := ∃ d p d2 p2 ds ds2, xs = [(d, p), (d2, p2)] ∧ d.items = some ds ∧ d2.items = some ds2 ∧ Q (zipD ds ds2) [(d, p), (d2, p2)]
@[simp] theorem viZip_eq {u : VA} {env : Env} {Q : List D → List DP → Prop} : viZip u env Q = u env fun xs => kZip xs Q := rfl
@[simp] theorem kZip_two {d d2 : D} {p p2 : Prov} {Q : List D → List DP → Prop} : kZip [(d, p), (d2, p2)] Q = match d.items with | some ds => (match d2.items with | some ds2 => Q (zipD ds ds2) [(d, p), (d2, p2)] | none => False) | none => False := by
  apply propext
  constructor
  · rintro ⟨d', p', d2', p2', ds, ds2, e, e2, e3, q⟩
    cases e
    rw [e2]
    simp only
    rw [e3]; exact q
  · intro h
    split at h
    · split at h
      · exact ⟨d, p, d2, p2, _, _, rfl, by assumption, by assumption, h⟩
      · exact h.elim
    · exact h.elim
def kRng1 (xs : List DP) (Q : List D → List DP → Prop) : Prop := ∃ j : Int, ∃ p, xs = [(.int j, p)] ∧ -(2 ^ 62) ≤ j ∧ j < 2 ^ 62 ∧ Q (rngD 0 1 j.toNat) []
@[simp] theorem viRng1_eq {u : VA} {env : Env} {Q : List D → List DP → Prop} : viRng1 u env Q = u env fun xs => kRng1 xs Q := rfl
@[simp] theorem kRng1_one {j : Int} {p : Prov} {Q : List D → List DP → Prop} : kRng1 [(.int j, p)] Q = (-4611686018427387904 ≤ j ∧ j < 4611686018427387904 ∧ Q (rngD 0 1 j.toNat) []) := by
  apply propext
  constructor
  · rintro ⟨j', p', e, q⟩
    cases e
    exact q
  · intro h
    exact ⟨j, p, rfl, h⟩
def kRng2 (xs : List DP) (Q : List D → List DP → Prop) : Prop := ∃ i j : Int, ∃ p p2, xs = [(.int i, p), (.int j, p2)] ∧ (-(2 ^ 62) ≤ i ∧ i < 2 ^ 62 ∧ -(2 ^ 62) ≤ j ∧ j < 2 ^ 62) ∧ Q (rngD i 1 (j - i).toNat) []
@[simp] theorem viRng2_eq {u : VA} {env : Env} {Q : List D → List DP → Prop} : viRng2 u env Q = u env fun xs => kRng2 xs Q := rfl
@[simp] theorem kRng2_two {i j : Int} {p p2 : Prov} {Q : List D → List DP → Prop} : kRng2 [(.int i, p), (.int j, p2)] Q = ((-4611686018427387904 ≤ i ∧ i < 4611686018427387904 ∧ -4611686018427387904 ≤ j ∧ j < 4611686018427387904) ∧ Q (rngD i 1 (j - i).toNat) []) := by
  apply propext
  constructor
  · rintro ⟨i', j', p', p2', e, q⟩
    cases e
    exact q
  · intro h
    exact ⟨i, j, p, p2, rfl, h⟩
@[simp] theorem vR1_eq {t : VT} {env : Env} {Q : Int → Int → Prop} : vR1 t env Q = t env fun d _ => match d with | .int n => Q 0 n | _ => False := by
  unfold vR1
  congr 1
  funext d p
  apply propext
  constructor
  · rintro ⟨b, rfl, q⟩; exact q
  · intro h
    split at h
    · exact ⟨_, rfl, h⟩
    · exact h.elim
@[simp] theorem vR2_eq {t u : VT} {env : Env} {Q : Int → Int → Prop} : vR2 t u env Q = t env fun d _ => u env fun e _ => match d with | .int i => (match e with | .int j => Q i j | _ => False) | _ => False := by
  unfold vR2
  congr 1
  funext d p
  congr 1
  funext e p2
  apply propext
  constructor
  · rintro ⟨a, b, rfl, rfl, q⟩; exact q
  · intro h
    split at h
    · split at h
      · exact ⟨_, _, rfl, rfl, h⟩
      · exact h.elim
    · exact h.elim
@[simp] theorem vLRng_eq {t : Env → (Int → Int → Prop) → Prop} {env : Env} {Q : D → Prov → Prop} : vLRng t env Q = t env fun a b => RgOk a b ∧ Q (.lst (rngL a b)) .fresh := rfl
@[simp] theorem vTRng_eq {t : Env → (Int → Int → Prop) → Prop} {env : Env} {Q : D → Prov → Prop} : vTRng t env Q = t env fun a b => RgOk a b ∧ Q (.tup (rngL a b)) .fresh := rfl
@[simp] theorem vMeth_eq {t : VPl} {a : VA} {f : List D → List DP → (D → Prov → List D → Prop) → Prop} {k : VK} {env : Env} : vMeth t a f k env = t env fun i p => match env[i]? with
    | some (some (.own, D0)) => (match Dat D0 p with
      | some (.lst es) => a env fun xs => f es xs fun d pr es' => match absorb env i d pr with
        | some env1 => k.nx (putE env1 i (Dput D0 p (.lst es')))
        | none => False
      | _ => False)
    | _ => False := by
  unfold vMeth
  congr 1
  funext i p
  apply propext
  constructor
  · rintro ⟨D0, es, e1, e2, q⟩
    rw [e1]
    simp only
    rw [e2]
    simp only
    have : (fun xs => f es xs fun d pr es' => ∃ env1, absorb env i d pr = some env1 ∧ k.nx (putE env1 i (Dput D0 p (.lst es')))) = (fun xs => f es xs fun d pr es' => match absorb env i d pr with
        | some env1 => k.nx (putE env1 i (Dput D0 p (.lst es')))
        | none => False) := by
      funext xs
      congr 1
      funext d pr es'
      apply propext
      constructor
      · rintro ⟨e, h, q⟩; rw [h]; exact q
      · intro h
        split at h
        · exact ⟨_, by assumption, h⟩
        · exact h.elim
    rw [← this]; exact q
  · intro h
    split at h
    · rename_i D0 e1
      split at h
      · rename_i es e2
        refine ⟨D0, es, e1, e2, ?_⟩
        have : (fun xs => f es xs fun d pr es' => ∃ env1, absorb env i d pr = some env1 ∧ k.nx (putE env1 i (Dput D0 p (.lst es')))) = (fun xs => f es xs fun d pr es' => match absorb env i d pr with
            | some env1 => k.nx (putE env1 i (Dput D0 p (.lst es')))
            | none => False) := by
          funext xs
          congr 1
          funext d pr es'
          apply propext
          constructor
          · rintro ⟨e, h, q⟩; rw [h]; exact q
          · intro h
            split at h
            · exact ⟨_, by assumption, h⟩
            · exact h.elim
        rw [this]; exact h
      · exact h.elim
    · exact h.elim
@[simp] theorem fApp_one {es : List D} {d : D} {p : Prov} {Q : D → Prov → List D → Prop} : fApp es [(d, p)] Q = (es.length < 16777216 ∧ Q d p (es ++ [d])) := by
  apply propext
  constructor
  · rintro ⟨d', p', e, q⟩; cases e; exact q
  · intro h; exact ⟨d, p, rfl, h⟩
@[simp] theorem fExt_one {es ds : List D} {p : Prov} {Q : D → Prov → List D → Prop} : fExt es [(.lst ds, p)] Q = ((p = .fresh ∨ immAll ds = true) ∧ es.length + ds.length ≤ 16777216 ∧ Q (.tup ds) .fresh (es ++ ds)) := by
  apply propext
  constructor
  · rintro ⟨d', p', e, q⟩; cases e; exact q
  · intro h; exact ⟨ds, p, rfl, h⟩

@[simp] theorem absorb_fresh {env : Env} {i : Nat} {d : D} : absorb env i d .fresh = some env := rfl
theorem absorb_imm {env : Env} {i : Nat} {d : D} {p : Prov} (h : d.imm = true) : absorb env i d p = some env := by
  cases p <;> simp [absorb, h]
@[simp] theorem okIn_fresh {d : D} : okIn d .fresh = true := rfl
theorem okIn_imm {d : D} {p : Prov} (h : d.imm = true) : okIn d p = true := by
  cases p <;> simp [okIn, h]
theorem retB_imm {env : Env} {d : D} {p : Prov} (h : d.imm = true) : retB env d p = true := by
  cases p <;> simp [retB, h]
theorem flg_imm {d : D} {p : Prov} (h : d.imm = true) : flg d p = .own := by
  cases p <;> simp [flg, h]
@[simp] theorem flg_fresh {d : D} : flg d .fresh = .own := rfl

@[simp] theorem fst_pair {p : Prov} : ((fun x : DP => x.1) ∘ fun x : D => (x, p)) = id := rfl
@[simp] theorem fst_pair' {p : Prov} {xs : List D} : (xs.map fun x => ((x, p) : DP)).map (fun x => x.1) = xs := by
  rw [List.map_map, fst_pair, List.map_id]
@[simp] theorem fst_pair2 {α : Type} {p : Prov} {f : α → D} : ((fun x : DP => x.1) ∘ ((fun x : D => (x, p)) ∘ f)) = f := rfl

@[simp] theorem Dat_nil {d : D} : Dat d [] = some d := by simp [Dat]
@[simp] theorem Dput_nil {d e : D} : Dput d [] e = e := by simp [Dput]
@[simp] theorem flg_int {i : Int} {p : Prov} : flg (.int i) p = .own := by cases p <;> rfl
@[simp] theorem flg_bl {i : Bool} {p : Prov} : flg (.bl i) p = .own := by cases p <;> rfl
@[simp] theorem flg_str {i : Str} {p : Prov} : flg (.str i) p = .own := by cases p <;> rfl
@[simp] theorem flg_non {p : Prov} : flg .non p = .own := by cases p <;> rfl
@[simp] theorem flg_pot {p : Prov} : flg .pot p = .own := by cases p <;> rfl
@[simp] theorem okIn_int {i : Int} {p : Prov} : okIn (.int i) p = true := okIn_imm rfl
@[simp] theorem okIn_bl {i : Bool} {p : Prov} : okIn (.bl i) p = true := okIn_imm rfl
@[simp] theorem okIn_str {i : Str} {p : Prov} : okIn (.str i) p = true := okIn_imm rfl
@[simp] theorem okIn_non {p : Prov} : okIn .non p = true := okIn_imm rfl
@[simp] theorem okIn_pot {p : Prov} : okIn .pot p = true := okIn_imm rfl
@[simp] theorem retB_int {env : Env} {i : Int} {p : Prov} : retB env (.int i) p = true := retB_imm rfl
@[simp] theorem retB_bl {env : Env} {i : Bool} {p : Prov} : retB env (.bl i) p = true := retB_imm rfl
@[simp] theorem retB_str {env : Env} {i : Str} {p : Prov} : retB env (.str i) p = true := retB_imm rfl
@[simp] theorem retB_non {env : Env} {p : Prov} : retB env .non p = true := retB_imm rfl
@[simp] theorem retB_pot {env : Env} {p : Prov} : retB env .pot p = true := retB_imm rfl
@[simp] theorem part_fresh : Prov.part .fresh = .fresh := rfl
@[simp] theorem part_any : Prov.part .any = .any := rfl
@[simp] theorem part_all {i : Nat} : Prov.part (.all i) = .sub i := rfl
@[simp] theorem part_sub {i : Nat} : Prov.part (.sub i) = .sub i := rfl
@[simp] theorem immAll_mapI {α : Type} {xs : List α} {f : α → Int} : immAll (xs.map fun x => D.int (f x)) = true := by
  induction xs with
  | nil => rfl
  | cons x xs ih => simp [ih]
@[simp] theorem immAll_mapB {α : Type} {xs : List α} {f : α → Bool} : immAll (xs.map fun x => D.bl (f x)) = true := by
  induction xs with
  | nil => rfl
  | cons x xs ih => simp [ih]
theorem immAll_map {α : Type} {xs : List α} {f : α → D} (h : ∀ x ∈ xs, (f x).imm = true) : immAll (xs.map f) = true := by
  rw [immAll_iff]
  intro d hd
  obtain ⟨x, hx, rfl⟩ := List.mem_map.mp hd
  exact h x hx
theorem immAll_take {xs : List D} {n : Nat} (h : immAll xs = true) : immAll (xs.take n) = true := by
  rw [immAll_iff] at *
  exact fun d hd => h d (List.mem_of_mem_take hd)

@[simp] theorem itemsD_lst {xs : List D} : itemsD (.lst xs) = some xs := rfl
@[simp] theorem itemsD_tup {xs : List D} : itemsD (.tup xs) = some xs := rfl
theorem prOf_imm : ∀ {xs : List DP}, immAll (xs.map (·.1)) = true → prOf xs = .fresh
  | [], _ => rfl
  | x :: xs, h => by
    simp only [List.map_cons, immAll_cons, Bool.and_eq_true] at h
    unfold prOf
    rw [if_pos h.1]
    exact prOf_imm h.2
theorem prLst_imm {xs : List DP} (h : immAll (xs.map (·.1)) = true) : prLst xs = .fresh := by
  unfold prLst
  rw [prOf_imm h]
end VS

set_option maxHeartbeats 400000
/-! a lambda handed to a def that calls it in a try -/
namespace VS
open PySem PySem.Spec PyProof.Rows L2 LamX
/-- what the making of a lambda does to the abstract heap -/
structure Lamd (T : List (Addr × Str)) (H H1 : Hp) : Prop where
  keep : ∀ b o, H b = some o → NT o → H1 b = some o
  there : ∀ b, H b ≠ none → H1 b ≠ none
  tabs : Tabs T H1
theorem Lamd.evo {T : List (Addr × Str)} {H H1 : Hp} {P : List Addr} (l : Lamd T H H1) : Evo T P P H H1 :=
  ⟨fun a o h _ nt => l.keep a o h nt, fun p hp _ => l.tabs p hp, l.there, fun _ h => h, fun _ h n => absurd h n⟩
theorem Lamd.pots {T : List (Addr × Str)} {H H1 : Hp} {P : List Addr} {n : Nat} (l : Lamd T H H1) (p : Pots n P H) : Pots n P H1 :=
  ⟨p.1, fun a ha => let ⟨x, y, c, e, r⟩ := p.2 a ha; ⟨x, y, c, l.keep a _ e nt_lst, r⟩⟩
section
variable {X : Cx} {pins : List (Addr × Obj)} {σ : L2.St} {H : Hp} {s : Shared}
/-- the lambda is made; nothing is lost -/
theorem lam_make3 {T : List (Addr × Str)} {c P : Addr} {params : Arguments} {body : Expr} {scope : Scope} {pos : Pos} {E : Value → Shared → Prop} {Q : Value → Shared → Prop} (I : Inv X pins σ H s) (TB : TabB X.base X.mg c P) (hcode : X.env.code = .ref c)
    (hm : (P, X.env.qual ++ "<lambda>") ∈ T) (hu : ∀ p ∈ T, p.1 = P → p.2 = X.env.qual ++ "<lambda>") (hT : Tabs T H) (hdef : defaultsOf params X.env = ([], [])) (hfree : ∀ y ∈ scope.names, y.2 = .free → ∃ c, X.env.cells.lookup y.1 = some c)
    (h : ∀ (f c' : Addr) (pm ctv : Value) (H1 : Hp) (s' : Shared), Inv X pins σ H1 s' → Lamd T H H1 →
      s'.heap.get? f = some (PySem.W.kla_obj "<lambda>" (X.env.qual ++ "<lambda>") params body scope (cloFrom X.env.cells scope.names []) pm c' ctv) → H1 f = none → f ∉ frs X.stack → H1 c' = some (CodeO c' (X.env.qual ++ "<lambda>")) → Q (.ref f) s') :
    wpAny (model X.prog X.w) X.A (eval (.Lambda params body scope pos) X.env) Q E s := by
  obtain ⟨ps, hP, trip, among⟩ := hT _ hm
  refine PySem.W.kla_eval hdef ?_
  have builtAt : s.heap.BuiltinsAt X.mg P := TB.bm.keeps I.bk
  have tabObj : s.heap.get? P = some { cls := .none, data := .fields ps } := I.hok P _ hP
  have noFrame : ∀ f, s.heap.objs.size ≤ f → f ∉ frs X.stack := fun f hf z => by
    rcases List.mem_cons.mp (I.stkSub _ z) with e | e
    · have h1 := I.lt
      rw [← e] at h1
      exact absurd (Nat.lt_of_lt_of_le h1 hf) (Nat.lt_irrefl _)
    · exact I.nofs hf e
  cases hc : codeAmong pos ps.toList with
  | some cv =>
    obtain ⟨c', rfl, known⟩ := among pos cv hc
    refine PySem.W.kla_makeFunctionHit (mg := X.mg) (c := c) (P := P) (ps := ps) (closure_ok hfree) I.ok.glob (I.mod.glob.keeps I.bk) hcode (TB.code.keeps I.bk) tabObj trip hc builtAt fun ctv h' tk kept bigger => ?_
    exact h h'.objs.size c' _ ctv H _ (I.kept (t' := tk) (h' := h'.push (PySem.W.kla_obj "<lambda>" (X.env.qual ++ "<lambda>") params body scope (cloFrom X.env.cells scope.names []) ((X.mg "__name__").getD .none) c' ctv)) fun b o e => Heap.get?_push_of_some _ (kept b o e)) ⟨fun _ _ e _ => e, fun _ e => e, hT⟩ (Heap.get?_push_size _ rfl) (I.hok.fresh bigger) (noFrame _ bigger) known
  | none =>
    refine PySem.W.kla_makeFunction (mg := X.mg) (c := c) (P := P) (ps := ps) (closure_ok hfree) I.ok.glob (I.mod.glob.keeps I.bk) hcode (TB.code.keeps I.bk) tabObj trip hc TB.gP builtAt fun c' ctv h' tk kept newc less rec grown => ?_
    obtain ⟨c2, oc, vs, t, e2, codeObj, hd, hv⟩ := rec
    cases e2
    have bigger : s.heap.objs.size ≤ h'.objs.size := Nat.le_trans newc (Nat.le_of_lt less)
    have freeC : H c' = none := I.hok.fresh newc
    have apart : ∀ b o, H b = some o → NT o → b ≠ P := fun b o e nt z => by
      rw [z, hP] at e; cases e
      exact nt ps rfl
    have I1 := inv_table (t' := tk) (more := #[rawInt pos.line, rawInt pos.col, .ref c']) (h' := h'.push (PySem.W.kla_obj "<lambda>" (X.env.qual ++ "<lambda>") params body scope (cloFrom X.env.cells scope.names []) ((X.mg "__name__").getD .none) c' ctv)) I hP
      (fun b o hb e => Heap.get?_push_of_some _ (kept b o hb e)) (Heap.get?_push_of_some _ grown) newc ⟨oc, vs, t, Heap.get?_push_of_some _ codeObj, hd, hv⟩
    have eL : (ps ++ #[rawInt pos.line, rawInt pos.col, .ref c']).toList = ps.toList ++ [rawInt pos.line, rawInt pos.col, .ref c'] := by simp
    have still : ∀ b o, H b = some o → NT o → upd (upd H P (.tbl (ps ++ #[rawInt pos.line, rawInt pos.col, .ref c']))) c' (CodeO c' (X.env.qual ++ "<lambda>")) b = some o := fun b o e nt => by
      rw [upd_ne (ne_of_none e freeC), upd_ne (apart b o e nt)]; exact e
    refine h h'.objs.size c' _ ctv _ _ I1 ⟨still, fun b e => ?_, fun p hp => ?_⟩ (Heap.get?_push_size _ rfl) ?_ (noFrame _ bigger) upd_same
    · by_cases h1 : b = c'
      · rw [h1, upd_same]; simp
      · rw [upd_ne h1]
        by_cases h2 : b = P
        · rw [h2, upd_same]; simp
        · rw [upd_ne h2]; exact e
    · by_cases hb : p.1 = P
      · rw [hu p hp hb, hb]
        refine ⟨_, by rw [upd_ne (ne_of_none hP freeC), upd_same], by rw [eL]; exact PySem.TriplesOk_snoc _ _ _ _ trip, fun p' cv hcv => ?_⟩
        rw [eL] at hcv
        rcases among_app _ trip hcv with z | z
        · obtain ⟨c0, e1, e2⟩ := among p' cv z
          exact ⟨c0, e1, still _ _ e2 nt_ext⟩
        · exact ⟨c', z, upd_same⟩
      · obtain ⟨ps', a1, a2, a3⟩ := hT p hp
        refine ⟨ps', by rw [upd_ne (ne_of_none a1 freeC), upd_ne hb]; exact a1, a2, fun p' cv hcv => ?_⟩
        obtain ⟨c0, e1, e2⟩ := a3 p' cv hcv
        exact ⟨c0, e1, still _ _ e2 nt_ext⟩
    · have n1 : h'.objs.size ≠ c' := Nat.ne_of_gt less
      have n2 : h'.objs.size ≠ P := Nat.ne_of_gt (Nat.lt_of_lt_of_le (Heap.lt_size tabObj) bigger)
      rw [upd_ne n1, upd_ne n2]
      exact I.hok.fresh bigger
/-- a(), in the def that got the lambda -/
theorem pe_actG {CXg : CXT} {Eg : XK} {Ng : List Str} {qg : Str} {sg : Scope} {g f c' : Addr} {cdg pm ctv : Value} {params : Arguments} {body : Expr} {scope : Scope} {k i : Nat} {a : Str} {pn : List (Addr × Obj)} {xe : Value → Shared → Prop} {W : WX} {E : XK} {tb : TE} {p1 p2 : Pos}
    (I : Inv X pins σ H s) (L : LamS X.env.scope scope) (hf : s.heap.get? f = some (PySem.W.kla_obj "<lambda>" (X.env.qual ++ "<lambda>") params body scope (cloFrom X.env.cells scope.names []) pm c' ctv)) (hfn : H f = none) (hfr : f ∉ frs X.stack)
    (hbind : bindArgs (PySem.W.kla_fn "<lambda>" (X.env.qual ++ "<lambda>") params body scope (cloFrom X.env.cells scope.names []) pm (.ref c') ctv) ⟨[], []⟩ = pure [])
    (tk : Takes ((cxOf CXg X.prog X.w X.K X.mg X.base Ng qg sg g cdg X.A X.stack s H Eg).tr pn xe) W) (hW : ∀ cls d σ' H', E cls d H' → W cls d σ' H') (hr : Room (k + 1) (X.A.deeper (envOfC qg sg s.heap.objs.size g cdg))) (hG : X.A.guards = some [])
    (hbody : ∀ (A : Around) (outer : List PySem.Env) (s : Shared) (H : Hp), A.guards = some [] → Room k (A.deeper (lamEnv X scope s.heap.objs.size f c')) → PE (lamCx X A outer s H E scope f c') body tb)
    (hN : Ng[i]? = some a) (hv : Vis sg a) (hd : (a == ("__debug__" : Str)) = false := by decide) (hcd : (a == ("__classdict__" : Str)) = false := by decide) :
    PE ((cxOf CXg X.prog X.w X.K X.mg X.base Ng qg sg g cdg X.A X.stack s H Eg).tr pn xe) (.Call (.Name a p1) [] [] p2)
      (fun σZ HZ Q => σZ[i]? = some (some (.ref f)) ∧ HZ c' = some (CodeO c' (X.env.qual ++ "<lambda>")) ∧ tb σ HZ Q) := by
  refine ⟨fun pinsZ sZ σZ HZ Q IZ h => ?_⟩
  obtain ⟨hs, hc, ht⟩ := h
  refine wpAny_Call_Name_kw (thn ((pe_var (pos := p1) (i := i) hN hv hd hcd).run pinsZ sZ σZ HZ (fun v H1 => v = .ref f ∧ H1 = HZ) IZ ⟨.ref f, hs, rfl, rfl⟩) fun u s1 ⟨v, H1, I1, r1, q1⟩ => ?_)
  obtain ⟨ev, eH⟩ := q1
  subst ev
  rw [eH] at I1
  obtain rfl : u = Value.ref f := r1
  have fObj : s1.heap.get? f = some (PySem.W.kla_obj "<lambda>" (X.env.qual ++ "<lambda>") params body scope (cloFrom X.env.cells scope.names []) pm c' ctv) := I1.base.keep f _ hf hfn hfr (fun z => nomatch (show f ∈ ([] : List Addr) from z))
  refine PySem.W.callWith_F0 ⟨_, _, _, _, fObj⟩ ?_
  have un : Un (frs X.stack) [] H HZ s.heap s1.heap := I1.base
  obtain ⟨⟨oc, vs, t, hoc, hdc, hvc⟩, _, _⟩ := I1.hok c' _ hc
  have rc : codeAny (model X.prog X.w) (X.A.deeper (envOfC qg sg s.heap.objs.size g cdg)) (.call (.ref f) ⟨[], []⟩) (CR (L2.CX X.prog X.w) (envOfC qg sg s.heap.objs.size g cdg :: X.stack) X.prog X.w HZ s1 Q E) s1 := by
    refine PySem.W.kla_callFunE hr.depth fObj rfl L.co L.gen rfl ⟨c', oc, vs, t, rfl, hoc, hdc, hvc⟩ ?_
    rw [hbind]
    refine wpAny_pure (wpAny_newFunctionEnv (fun y hy => (L.own y hy).2) (fun y hy => absurd hy (by simp)) (fun h₁ hns hsb => ⟨I1.nolimit.fresh _ hsb, ?_⟩) L.kind)
    show codeAny _ _ (.expr body (lamEnv X scope s1.heap.objs.size f c')) _ _
    have kp : ∀ b o, s1.heap.get? b = some o → h₁.get? b = some o := fun b o e => hsb.extBut b o (Nat.ne_of_lt (Heap.lt_size e)) (Heap.get?_push_of_some _ e)
    have J : Inv (lamCx X (X.A.deeper (envOfC qg sg s.heap.objs.size g cdg)) (envOfC qg sg s.heap.objs.size g cdg :: X.stack) s1 HZ E scope f c') [] σ HZ { s1 with heap := h₁, toks := s1.toks + ([] : List (Str × Value)).length } :=
      lam_start2 I L I1.env0 hr.hd un hns kp
    refine PySem.W.kla_codeExpr (wpAny_mono ((hbody (X.A.deeper (envOfC qg sg s.heap.objs.size g cdg)) _ s1 HZ hG (hr.deeper _)).run [] _ _ HZ Q J ht) (fun v s' hq => ?_) fun e s' hq => hq)
    obtain ⟨w', H', J', rv, q⟩ := hq
    exact ⟨w', H', J'.os, J'.bare, J'.base, J'.hok, rv, q⟩
  have hx : Passes (L2.CX X.prog X.w) ((cxOf CXg X.prog X.w X.K X.mg X.base Ng qg sg g cdg X.A X.stack s H Eg).tr pn xe) E := passes_call tk hW
  refine wpAny_call (codeAny_mono rc fun r s' hq => ?_)
  match r, hq with
  | .error e, hq => exact hx pinsZ σZ HZ s1 e s' I1 hq
  | .ok (.ret u), hq => exact I1.after hq
  | .ok .next, hq => exact hq.elim
  | .ok .brk, hq => exact hq.elim
  | .ok .cont, hq => exact hq.elim
/-- the exceptions that are caught, as the lambda's body wishes them -/
def wCaught (K : PySem.W.Frag) (CT : Addr) (Q : L2.VK) : XK := fun cls d H' => PySem.W.exmOne K cls (.ref CT) = some true ∧ ∃ dx, d = some dx ∧ ∀ a, H' a = none → Q (.ref a) (upd H' a (ExV cls dx a))
/-- x(lambda: body), x's def: try: a() / except X as n: return n / return None -/
theorem pe_caught {T : List (Addr × Str)} {x a n e : Str} {g c P CT : Addr} {k : Nat} {pg : Arguments} {sg : Scope} {dV kV doc pm cdv ct oc : Value} {an od : Option Addr} {osl : Array (Option Value)} {j9 : Nat} {q1 q2 q3 q4 q5 q6 q7 q8 q9 q10 : Pos}
    {params : Arguments} {body : Expr} {scope : Scope} {t : XK → TE} {p lpos pos : Pos} (hg : Gl X x) (hm : X.mg x = some (.ref g)) (hk : PySem.W.keepIn X.K (.ref g) = true)
    (lk : X.K.lookup g = some ⟨oc, od, .func (PySem.W.fnOf x x pg [.Try [.Expr (.Call (.Name a q1) [] [] q2) q3] [.ExceptHandler (some (.Name e q4)) (some n) [.Return (some (.Name n q5)) q6] q7] [] [] q8, .Return (some (.Constant .none j9 q9)) q10] sg dV kV doc pm an cdv ct), osl⟩)
    (hcg : PySem.W.codeIn X.K cdv x = true) (hb : L2.Binds X.K (PySem.W.fnOf x x pg [.Try [.Expr (.Call (.Name a q1) [] [] q2) q3] [.ExceptHandler (some (.Name e q4)) (some n) [.Return (some (.Name n q5)) q6] q7] [] [] q8, .Return (some (.Constant .none j9 q9)) q10] sg dV kV doc pm an cdv ct) [a] [])
    (Sg : FnScope [a, n] [a] sg) (hva : Vis sg a) (hvn : sg.names.lookup n = some .local) (hge : sg.names.lookup e = some .globalImplicit) (hme : X.mg e = some (.ref CT)) (hde : (e == ("__debug__" : Str)) = false)
    (TB : TabB X.base X.mg c P) (hcode : X.env.code = .ref c) (hmT : (P, X.env.qual ++ "<lambda>") ∈ T) (hu : ∀ p ∈ T, p.1 = P → p.2 = X.env.qual ++ "<lambda>") (hr : Room (k + 2) X.A) (hG : X.A.guards = some []) (L : LamS X.env.scope scope) (hdef : defaultsOf params X.env = ([], []))
    (hbind : ∀ (q : Str) (cl : List (Str × Addr)) (pm cv ctv : Value), bindArgs (PySem.W.kla_fn "<lambda>" q params body scope cl pm cv ctv) ⟨[], []⟩ = pure [])
    (hbody : ∀ (A : Around) (outer : List PySem.Env) (s : Shared) (H : Hp) (E : XK) (f c' : Addr), A.guards = some [] → Room k (A.deeper (lamEnv X scope s.heap.objs.size f c')) → PE (lamCx X A outer s H E scope f c') body (t E))
    (hdb : (x == ("__debug__" : Str)) = false := by decide) (hd : (a == ("__debug__" : Str)) = false := by decide) (hcd : (a == ("__classdict__" : Str)) = false := by decide) (hdn : (n == ("__debug__" : Str)) = false := by decide) (hcn : (n == ("__classdict__" : Str)) = false := by decide) :
    PE X (.Call (.Name x p) [.Lambda params body scope lpos] [] pos) (fun σ H Q => Tabs T H ∧ ∀ H1, Lamd T H H1 → t (wCaught X.K CT Q) σ H1 fun _ H' => Q .non H') := by
  refine ⟨fun pins s σ H Q I h => ?_⟩
  obtain ⟨hT, h⟩ := h
  refine wpAny_Call_Name_kw (ld_glob I hg hm ?_ hdb)
  refine PySem.W.callWith_K (h₀ := X.base) I.ok.mod.kin hk ?_ (by rfl) (by rfl)
  show wpAny _ _ (spliced ((false, eval (.Lambda params body scope lpos) X.env) :: backTo pos (starEach [] X.env))) _ _ s
  refine Calls.spliced_cons (lam_make3 I TB hcode hmT hu hT hdef (L.has I.ok) fun f c' pm' ctv H1 s' I1 lamd hf hfn hfr hco => ?_)
  refine Calls.spliced_nil ⟨I1.kIn, ?_⟩
  have rc : codeAny (model X.prog X.w) X.A (.call (.ref g) ⟨[.ref f], []⟩) (CR C8.CX0 X.stack X.prog X.w H1 s' Q C8.E0) s' := by
    refine run_ofS (N := [a, n]) (ps := [a]) (us := [.ref f]) (vs := [.ref f]) lk hcg Sg hr I1.env0 (hb s' [.ref f] I1.kIn rfl) (.cons rfl .nil) rfl fun hr' => ?_
    have hgl : Gl (cxOf C8.CX0 X.prog X.w X.K X.mg X.base [a, n] x sg g cdv X.A X.stack s' H1 C8.E0).nox e := hge
    refine ⟨_, PSs.nox (pss_cons (ps_try_val (X := (cxOf C8.CX0 X.prog X.w X.K X.mg X.base [a, n] x sg g cdv X.A X.stack s' H1 C8.E0).nox) (c := .ref CT) (i := 1) (n := n) (x := e)
        (tb := fun W D τ HZ => ∃ Ech : XK, (∀ cls d σ' H', Ech cls d H' → W cls d σ' H') ∧ τ[0]? = some (some (.ref f)) ∧ HZ c' = some (CodeO c' (X.env.qual ++ "<lambda>")) ∧ t Ech σ HZ fun _ H' => D.nx τ H')
        rfl rfl Sg.nd rfl hvn ⟨hgl, hde, .inl hme⟩ rfl hdn hcn (fun W pn xe tk _ => ?_)) (pss_one (ps_ret pe_non))), ?_⟩
    · refine ⟨fun pinsZ sZ τ HZ D IZ hz => ?_⟩
      obtain ⟨Ech, hW, z1, z2, z3⟩ := hz
      have act := pe_actG (CXg := C8.CX0) (Eg := C8.E0) (Ng := [a, n]) (p1 := q1) (p2 := q2) (k := k) (i := 0) (a := a) (E := Ech) (W := W) (pn := pn) (xe := xe) I1 L hf hfn hfr (hbind _ _ _ _ _) tk hW hr' hG (fun A outer s H hgd hr2 => hbody A outer s H Ech f c' hgd hr2) rfl hva hd hcd
      exact (pss_one (ps_expr (pos := q3) act)).run pinsZ sZ τ HZ D IZ ⟨z1, z2, z3⟩
    · exact ⟨wCaught X.K CT Q, fun cls d σ' H' q => q, rfl, hco, h H1 lamd⟩
  refine wpAny_call (codeAny_mono rc fun r s2 hq => ?_)
  match r, hq with
  | .error e, hq => exact (show False from hq).elim
  | .ok (.ret u), hq => exact I1.after hq
  | .ok .next, hq => exact hq.elim
  | .ok .brk, hq => exact hq.elim
  | .ok .cont, hq => exact hq.elim
end
end VS

/-! defs that may raise -/
namespace VS
open PySem PySem.Spec PyProof.Rows L2 LamX
abbrev SpecX := List D → (D → Prop) → (Str → D → Prop) → Prop
def MonoX (f : SpecX) : Prop := ∀ ds (Q Q' : D → Prop) (E E' : Str → D → Prop), (∀ d, Q d → Q' d) → (∀ x d, E x d → E' x d) → f ds Q E → f ds Q' E'
def spVX (T : List (Addr × Str)) (K : PySem.W.Frag) (C : Nat) (f : SpecX) : Sp := fun vs H Q E => ∃ ds P r F, DVs K P H ds vs F ∧ Pots (C + r) P H ∧ Tabs T H ∧
  f ds (fun d => ∀ v H' P', Evo T P P' H H' → Pots r P' H' → (∃ F, DV K P' H' d v F ∧ F.Nodup ∧ ∀ a ∈ F, H a = none ∧ Live H' a) → Q v H')
    fun x d => ∀ w dx H' P', Evo T P P' H H' → H' dx = some (.xd [("value", w)]) → H dx = none → dx ∉ P' → (∃ F, DV K P' H' d w F) → d.imm = true → Pots r P' H' → E (.ref (He.ga K x)) (some dx) H'
structure FnVX (T : List (Addr × Str)) (P : Program) (w : World) (K : PySem.W.Frag) (mg : Str → Option Value) (base : Heap) (k : Nat) (fa : Addr) (fd : FuncData) (ps : List Str) (C : Nat) (f : SpecX) : Prop where
  mono : MonoX f
  ok : FnG P w K mg base (L2.CX P w) k fa fd ps (spVX T K C f)
/-- a def that may raise, called by its name -/
def CalX (T : List (Addr × Str)) (P : Program) (w : World) (K : PySem.W.Frag) (mg : Str → Option Value) (base : Heap) (k : Nat) (x : Str) (ps : List Str) (C : Nat) (sp : SpecX) : Prop :=
  ∃ f fd, FnVX T P w K mg base k f fd ps C sp ∧ mg x = some (.ref f) ∧ PySem.W.keepIn K (.ref f) = true ∧ Binds K fd ps []
section
variable {T : List (Addr × Str)} {P : Program} {w : World} {K : PySem.W.Frag} {mg : Str → Option Value} {base : Heap} {k : Nat} {x : Str} {ps : List Str} {C : Nat} {sp : SpecX}
theorem CalX.level {j : Nat} (c : CalX T P w K mg base j x ps C sp) (h : j ≤ k) : CalX T P w K mg base k x ps C sp := let ⟨f, fd, F, r⟩ := c; ⟨f, fd, ⟨F.mono, F.ok.level h⟩, r⟩
/-- where it raises nothing -/
theorem CalX.cal (c : CalX T P w K mg base k x ps C sp) {g : Spec} (hg : MonoF g) (h : ∀ ds Q, g ds Q → sp ds Q fun _ _ => False) : Cal T P w K mg base k x ps C g := by
  obtain ⟨f, fd, F, r⟩ := c
  refine ⟨f, fd, ⟨hg, F.ok.weak fun vs H Q E ⟨ds, P, r, F', dv, pots, tb, q⟩ => ⟨ds, P, r, F', dv, pots, tb, ?_⟩⟩, r⟩
  exact F.mono _ _ _ _ _ (fun d h => h) (fun _ _ z => z.elim) (h _ _ q)
theorem takes_cx {N : List Str} {qual : Str} {scope : Scope} {f : Addr} {cd : Value} {A : Around} {outer : List PySem.Env} {s : Shared} {H : Hp} {E : XK} : Takes (cxOf (L2.CX P w) P w K mg base N qual scope f cd A outer s H E) fun cls d _ H' => E cls d H' :=
  takes_of rfl rfl rfl rfl
theorem CalX.make {st : Stmt} {N : List Str} {c : Nat} {t : VTS} (D : Def K mg x st) (S : FnScope N ps (defScope st)) (hb : ∀ (oc : Value) (kV doc pm : Value) (an : Option Addr) (cdv ct : Value) (fd : FuncData), fd = PySem.W.fnOf x x (defArgs st) (defBody st) (defScope st) .none kV doc pm an cdv ct → ∀ us : List Value, us.length = ps.length → bindArgs fd ⟨us, []⟩ = pure (ps.zip us)) (hm : MonoX sp) (hlen : ∀ ds Q E, sp ds Q E → ds.length = ps.length)
    (hpure : ∀ ds Q E, sp ds Q E → t { nx := fun _ => Q .non, rt := Q, ex := E } (startE N ds))
    (hbody : ∀ (f : Addr) (cdv : Value) (A : Around) (outer : List PySem.Env) (s : Shared) (H : Hp) (E : XK) (R : RC), mg x = some (.ref f) → CodeAt K f cdv → R.T = T → Takes (cxOf (L2.CX P w) P w K mg base N x (defScope st) f cdv A outer s H E) R.W → A.guards = some [] → Room k (A.deeper (envOfC x (defScope st) s.heap.objs.size f cdv)) →
      VSs (cxOf (L2.CX P w) P w K mg base N x (defScope st) f cdv A outer s H E) R c (defBody st) t) (hc : c ≤ C) : CalX T P w K mg base (k + 1) x ps C sp := by
  obtain ⟨f, fd, F, hmg⟩ := D
  have F' : Fun K x x st f fd := by
    obtain ⟨oc, od, dV, kV, doc, pm, an, cdv, ct, osl, e, lk, hcd, hd, hk⟩ := F.ex
    have e1 : dV = .none := by
      rcases hd with ⟨_, z⟩ | ⟨z, _⟩
      · exact z
      · exact absurd rfl z
    subst e1
    exact ⟨⟨oc, od, kV, doc, pm, an, cdv, ct, osl, e, lk, hcd⟩, F.kp⟩
  refine ⟨f, fd, ⟨hm, FnG.make F' S (fun vs H Q E ⟨ds, P, r, F, dv, pots, tb, q⟩ => (dv.length.symm.trans (hlen _ _ _ q)).symm) fun cdv A outer s H vs Q E hcd hg hr ⟨ds, P, r, F, dv, pots, tb, q⟩ => ?_⟩, hmg, F.kp, ?_⟩
  · have hb := hbody f cdv A outer s H E ⟨H, P, T, fun cls d _ H' => E cls d H'⟩ hmg hcd rfl takes_cx hg hr
    refine ⟨_, hb.run, ?_⟩
    obtain ⟨fp, rep⟩ := rep_start (N := N) (T := T) (W := fun cls d _ H' => E cls d H') dv tb
    refine ⟨_, P, fp, [], r, _, rep, pots.le (by omega), hpure ds _ _ q, fun env' σ' H' P' fp' rep' pots' q' => ?_, fun _ _ _ _ _ _ _ z => z.elim, fun _ _ _ _ _ _ _ z => z.elim, fun d v H' P' ok pots' q' => ?_, fun x d w dx σ' H' P' h1 h2 h3 h4 h5 h6 p q' => q' w dx H' P' h1 h2 h3 h4 h5 h6 p⟩
    · exact q' .non H' P' rep'.base pots' ⟨[], .non, List.nodup_nil, fun _ h => by cases h⟩
    · exact q' v H' P' ok.1 pots' ok.2
  · obtain ⟨oc, od, kV, doc, pm, an, cdv, ct, osl, e, lk, hcd⟩ := F'.ex
    exact Binds.all (hb oc kV doc pm an cdv ct fd e)
end
/-! ### statements -/
/-- what is known of a class of errors -/
def ErrF (P : Program) (w : World) (K : PySem.W.Frag) (mg : Str → Option Value) (base : Heap) (x : Str) : Prop :=
  ∃ D fI fd, ExcF K (He.ga K x) D ∧ PySem.W.findIn K (.ref (He.ga K x)) "__init__" = some (some (.ref fI)) ∧ PySem.W.typeIn K (.ref fI) = some (.type "function") ∧ PySem.W.findIn K (.ref (He.ga K x)) "value" = some none ∧
    FnOk P w K mg base C8.CX0 1 fI fd ["self", "value"] (spInit K D) ∧ Binds K fd ["self", "value"] [] ∧ mg x = some (.ref (He.ga K x))
section
variable {X : Cx} {R : RC} {pos p rpos : Pos} {e : Expr} {es : List Expr} {te : VT} {u : VA} {c C k : Nat} {ps : List Str} {f : SpecX} {x : Str}
/-- raise x(e) -/
def vRaise (x : Str) (te : VT) : VTS := fun k env => te env fun d _ => d.imm = true ∧ k.ex x d
theorem liftE_mono {K : PySem.W.Frag} {R : RC} {c : Nat} {t : VT} (hm : MonoE t) (σ : L2.St) (H : Hp) (Q Q' : L2.VK) (h : ∀ v H', Q v H' → Q' v H') (q : liftE K R c t σ H Q) : liftE K R c t σ H Q' := by
  obtain ⟨env, P, fp, T, r, rep, pots, q⟩ := q
  exact ⟨env, P, fp, T, r, rep, pots, hm _ _ _ (fun d p q v H' P' e' pots' f => h _ _ (q v H' P' e' pots' f)) q⟩
theorem vs_raise (G : ErrF X.prog X.w X.K X.mg X.base x) (hc : X.calm = true) (tk : Takes X R.W) (hr : Room 2 X.A) (h : VE X R c e te) (hg : Gl X x := by rfl) (hdb : (x == ("__debug__" : Str)) = false := by decide) (hs : starEach [e] X.env = (false, eval e X.env) :: starEach [] X.env := by rfl) :
    VS X R c (.Raise (some (.Call (.Name x p) [e] [] pos)) none rpos) (vRaise x te) where
  mono := fun k k' hk env q => h.mono _ _ _ (fun d p q => ⟨q.1, hk.ex _ _ q.2⟩) q
  run := by
    obtain ⟨D, fI, fd, G1, iC, tI, hno, F1, hb, hm⟩ := G
    refine PS.imp (ps_raise hc tk (pmk_val (pos := pos) (p := p) (fun σ H Q Q' => liftE_mono h.mono σ H Q Q') G1 iC tI hno F1 hr hb (fun _ _ _ _ _ _ _ z => z.elim) hg hm h.run hdb hs)) fun Dn σ H ⟨env, P, fp, T, r, kk, rep, pots, q, gd⟩ => ?_
    refine ⟨env, P, fp, T, r, rep, pots, h.mono _ _ _ (fun d p q v H1 P1 e1 pots1 f => ?_) q⟩
    intro dx hdx
    obtain ⟨F, dv, pk⟩ := f
    exact gd.ex x d v dx σ _ P1 ((rep.base.trans e1).trans (Evo.upd hdx)) upd_same ((rep.base.trans e1).fresh hdx) (fun z => pots1.some dx z hdx) ⟨F, dv.evo (Evo.upd (Θ := []) hdx)⟩ q.1 (pots1.updN hdx) q.2
/-- a call that may raise, its value dropped -/
def vDropX (f : SpecX) (u : VA) : VTS := fun k env => u env fun xs => f (xs.map (·.1)) (fun _ => k.nx env) k.ex
/-- .. kept in the slot i -/
def vSetX (i : Nat) (f : SpecX) (u : VA) : VTS := fun k env => i < env.length ∧ u env fun xs => f (xs.map (·.1)) (fun d => k.nx (stE env i d .fresh)) k.ex
theorem callX_run (F : CalX R.T X.prog X.w X.K X.mg X.base k x ps C f) (hG : X.A.guards = some []) (hr : Room k X.A) (tk : Takes X R.W) (h : VL X R c (e :: es) u) (hg : Gl X x := by rfl)
    (hdb : (x == ("__debug__" : Str)) = false := by decide) (he : starEach (e :: es) X.env = (false, eval e X.env) :: starEach es X.env := by rfl) (hpl : (backTo pos (starEach es X.env)).any (·.1) = false := by rfl) :
    PE X (.Call (.Name x p) (e :: es) [] pos) (tCall (spVX R.T X.K C f) [] (fun cls d H' => ∀ σ', R.W cls d σ' H') (liftA X.K R c u)) := by
  obtain ⟨fa, fd, F, hm, hk, hb⟩ := F
  exact pe_callG F.ok hG hr hm hk hb (passes_call tk fun cls d σ' H' h => h σ') h.run hg hdb he hpl
theorem callX_imp (F : MonoX f) (h : MonoA u) {σ : L2.St} {H : Hp} {env : Env} {P : List Addr} {fp : Nat → List Addr} {Tm : Tmp} {r : Nat} {kk : VK} {Dn : Ends} {Q : L2.VK} {qd : D → Prop} (rep : Rep X.K R env σ H P fp Tm) (pots : Pots (c + (C + r)) P H) (gd : Good X.K R Tm r kk Dn)
    (q : u env fun xs => f (xs.map (·.1)) qd kk.ex) (hq : ∀ d v H' P', Evo R.T P P' H H' → Pots r P' H' → (∃ F, DV X.K P' H' d v F ∧ F.Nodup ∧ ∀ a ∈ F, H a = none ∧ Live H' a) → qd d → Q v H') :
    tCall (spVX R.T X.K C f) [] (fun cls d H' => ∀ σ', R.W cls d σ' H') (liftA X.K R c u) σ H Q := by
  refine ⟨env, P, fp, Tm, C + r, rep, pots, h _ _ _ (fun xs q => ?_) q⟩
  intro vs H' P' e' pots' fa
  rw [List.append_nil]
  obtain ⟨F', dv⟩ := fa.dvs
  refine ⟨_, P', r, F', dv, pots', fun p hp => e'.tab p hp (rep.tab p hp), F _ _ _ _ _ (fun d q v H2 P2 e2 pots2 ⟨G, dv2, n2, l2⟩ => ?_) (fun x d q w dx H2 P2 e2 h2 h3 h4 h5 h6 p2 σ' => ?_) q⟩
  · exact hq d v H2 P2 (e'.trans e2) pots2 ⟨G, dv2, n2, fun a ha => ⟨e'.fresh (l2 a ha).1, (l2 a ha).2⟩⟩ q
  · exact gd.ex x d w dx σ' H2 P2 ((rep.base.trans e').trans e2) h2 ((rep.base.trans e').fresh h3) h4 h5 h6 p2 q
theorem vs_exprX (F : CalX R.T X.prog X.w X.K X.mg X.base k x ps C f) (hG : X.A.guards = some []) (hr : Room k X.A) (tk : Takes X R.W) (h : VL X R c (e :: es) u) (hg : Gl X x := by rfl)
    (hdb : (x == ("__debug__" : Str)) = false := by decide) (he : starEach (e :: es) X.env = (false, eval e X.env) :: starEach es X.env := by rfl) (hpl : (backTo pos (starEach es X.env)).any (·.1) = false := by rfl) (hs : swapsWith (.Call (.Name x p) (e :: es) [] pos) none rpos.line X.env = pure false := by rfl) :
    VS X R (c + C) (.Expr (.Call (.Name x p) (e :: es) [] pos) rpos) (vDropX f u) where
  mono := fun k k' hk env q => h.mono _ _ _ (fun xs q => F.choose_spec.choose_spec.1.mono _ _ _ _ _ (fun d q => hk.nx _ q) hk.ex q) q
  run := PS.imp (ps_expr (callX_run F hG hr tk h hg hdb he hpl) hs) fun Dn σ H ⟨env, P, fp, T, r, kk, rep, pots, q, gd⟩ =>
    callX_imp F.choose_spec.choose_spec.1.mono h.mono (qd := fun _ => kk.nx env) rep (by rw [← Nat.add_assoc]; exact pots) gd q fun d v H' P' e' pots' _ q => gd.nx _ _ _ _ _ (rep.evo e') pots' q
theorem vs_setX {i : Nat} {y : Str} {py : Pos} (hN : X.N.Nodup) (F : CalX R.T X.prog X.w X.K X.mg X.base k x ps C f) (hG : X.A.guards = some []) (hr : Room k X.A) (tk : Takes X R.W) (h : VL X R c (e :: es) u) (hi : X.N[i]? = some y := by rfl) (hx : Loc X.env.scope y := by first | exact Or.inl rfl | exact Or.inr rfl) (hg : Gl X x := by rfl)
    (hdb : (x == ("__debug__" : Str)) = false := by decide) (he : starEach (e :: es) X.env = (false, eval e X.env) :: starEach es X.env := by rfl) (hpl : (backTo pos (starEach es X.env)).any (·.1) = false := by rfl)
    (hs : swapsWith (.Call (.Name x p) (e :: es) [] pos) (some (.Name y py)) rpos.line X.env = pure false := by rfl) (hf : X.fn y = true ∨ X.env.scope.names.lookup y = some .local := by first | exact .inl rfl | exact .inr rfl | assumption) :
    VS X R (c + C) (.Assign [.Name y py] (.Call (.Name x p) (e :: es) [] pos) rpos) (vSetX i f u) where
  mono := fun k k' hk env q => ⟨q.1, h.mono _ _ _ (fun xs q => F.choose_spec.choose_spec.1.mono _ _ _ _ _ (fun d q => hk.nx _ q) hk.ex q) q.2⟩
  run := PS.imp (ps_set hN hi hx (callX_run F hG hr tk h hg hdb he hpl) hs hf) fun Dn σ H ⟨env, P, fp, T, r, kk, rep, pots, ⟨hl, q⟩, gd⟩ =>
    callX_imp F.choose_spec.choose_spec.1.mono h.mono (qd := fun d => kk.nx (stE env i d .fresh)) rep (by rw [← Nat.add_assoc]; exact pots) gd q fun d v H' P' e' pots' ⟨G, dv, n, l⟩ q =>
      gd.nx _ _ _ _ _ ((rep.evo e').store hl dv (PIn.of rep e' dv (p := .fresh) ⟨n, l⟩)) pots' q
end
end VS

/-! a caught exception as a datum -/
namespace VS
open PySem PySem.Spec PyProof.Rows L2 LamX
/-- the def that catches: try: a() / except e as n: return n / return None -/
def CatchD (K : PySem.W.Frag) (mg : Str → Option Value) (x e : Str) (st : Stmt) (a n : Str) : Prop :=
  Def K mg x st ∧ (∃ q1 q2 q3 q4 q5 q6 q7 q8 j q9 q10, defBody st = [.Try [.Expr (.Call (.Name a q1) [] [] q2) q3] [.ExceptHandler (some (.Name e q4)) (some n) [.Return (some (.Name n q5)) q6] q7] [] [] q8, .Return (some (.Constant .none j q9)) q10]) ∧
    FnScope [a, n] [a] (defScope st) ∧ Vis (defScope st) a ∧ (defScope st).names.lookup n = some .local ∧ (defScope st).names.lookup e = some .globalImplicit ∧ mg e = some (.ref (He.ga K e)) ∧
    (∀ (oc : Value) (kV doc pm : Value) (an : Option Addr) (cdv ct : Value) (fd : FuncData), fd = PySem.W.fnOf x x (defArgs st) (defBody st) (defScope st) .none kV doc pm an cdv ct → ∀ us : List Value, us.length = 1 → bindArgs fd ⟨us, []⟩ = pure (([a] : List Str).zip us))
/-- the def x has the table of code objects at P -/
def TabF (T : List (Addr × Str)) (K : PySem.W.Frag) (mg : Str → Option Value) (base : Heap) (x : Str) : Prop :=
  ∃ c P, (∀ f cdv, mg x = some (.ref f) → CodeAt K f cdv → cdv = .ref c) ∧ TabB base mg c P ∧ (P, x ++ ".<locals>." ++ "<lambda>") ∈ T ∧ ∀ p ∈ T, p.1 = P → p.2 = x ++ ".<locals>." ++ "<lambda>"
section
variable {X : Cx} {R : RC} {pos p lpos cpos : Pos} {e : Expr} {es : List Expr} {u : VA} {c C k : Nat} {ps : List Str} {f : SpecX} {x y er a n z : Str}
/-- x(lambda: y(..)) -/
def vCaught (names : List Str) (f : SpecX) (u : VA) : VT := fun env Q => u env fun xs => f (xs.map (·.1)) (fun _ => Q .non .fresh) fun x d => x ∈ names ∧ Q (.exc x d) .fresh
theorem ve_caught {st : Stmt} {names : List Str} {params : Arguments} {scope : Scope} {cdv : Value} {fa : Addr} {yp : Pos} (Ct : CatchD X.K X.mg x er st a n) (Tf : TabF R.T X.K X.mg X.base z) (hz : X.mg z = some (.ref fa)) (hcd : CodeAt X.K fa cdv) (hcode : X.env.code = cdv) (hq : X.env.qual = z ++ ".<locals>.")
    (hnm : ∀ y ∈ names, PySem.W.exmOne X.K (.ref (He.ga X.K y)) (.ref (He.ga X.K er)) = some true) (hG : X.A.guards = some []) (hr : Room (k + 2) X.A)
    (F : CalX R.T X.prog X.w X.K X.mg X.base k y ps C f)
    (h : ∀ (A : Around) (outer : List PySem.Env) (s : Shared) (H : Hp) (E : XK) (f c' : Addr), A.guards = some [] → Room k (A.deeper (lamEnv X scope s.heap.objs.size f c')) → VL (lamCx X A outer s H E scope f c') R c (e :: es) u)
    (L : LamS X.env.scope scope) (hgl : scope.names.lookup y = some .globalImplicit) (hgx : Gl X x := by rfl) (hdef : defaultsOf params X.env = ([], []) := by rfl)
    (hbind : ∀ (q : Str) (cl : List (Str × Addr)) (pm cv ctv : Value), bindArgs (PySem.W.kla_fn "<lambda>" q params (.Call (.Name y yp) (e :: es) [] cpos) scope cl pm cv ctv) ⟨[], []⟩ = pure [] := by intros; rfl)
    (hdx : (x == ("__debug__" : Str)) = false := by decide) (hdy : (y == ("__debug__" : Str)) = false := by decide) (hde : (er == ("__debug__" : Str)) = false := by decide) (hda : (a == ("__debug__" : Str)) = false := by decide) (hca : (a == ("__classdict__" : Str)) = false := by decide) (hdn : (n == ("__debug__" : Str)) = false := by decide) (hcn : (n == ("__classdict__" : Str)) = false := by decide)
    (he : ∀ env : PySem.Env, starEach (e :: es) env = (false, eval e env) :: starEach es env := by intro _; rfl) (hpl : ∀ env : PySem.Env, (backTo cpos (starEach es env)).any (·.1) = false := by intro _; rfl) :
    VE X R (c + C) (.Call (.Name x p) [.Lambda params (.Call (.Name y yp) (e :: es) [] cpos) scope lpos] [] pos) (vCaught names f u) := by
  obtain ⟨fa2, fd2, F, hm2, hk2, hb2⟩ := F
  obtain ⟨⟨g, fdg, Dg, hmg⟩, ⟨q1, q2, q3, q4, q5, q6, q7, q8, j, q9, q10, hbod⟩, Sg, hva, hvn, hge, hme, hbn⟩ := Ct
  obtain ⟨cA, cP, hcv, TB, hmT, hu⟩ := Tf
  obtain rfl := hcv fa cdv hz hcd
  obtain ⟨oc, od, dV, kV, doc, pm, an, cv, ct, osl, rfl, lk, hcg, hd, hk⟩ := Dg.ex
  have e1 : dV = .none := by
    rcases hd with ⟨_, z⟩ | ⟨z, _⟩
    · exact z
    · exact absurd rfl z
  subst e1
  rw [hbod] at lk
  have hmono : MonoA u := (h X.A X.outer X.s_0 X.H_0 (fun _ _ _ => True) 0 0 hG ((hr.deeper _).mono (Nat.le_succ k))).mono
  refine ⟨fun env Q Q' hQ q => hmono _ _ _ (fun xs q => F.mono _ _ _ _ _ (fun _ q => hQ _ _ q) (fun x d q => ⟨q.1, hQ _ _ q.2⟩) q) q, ?_⟩
  refine PE.imp (pe_caught (T := R.T) (k := k) (x := x) (a := a) (n := n) (e := er) (p := p) (lpos := lpos) (pos := pos) (t := fun E => tCall (spVX R.T X.K C f) [] E (liftA X.K R c u)) hgx hmg Dg.kp lk hcg (Binds.all fun us hl => by have := hbn oc kV doc pm an cv ct _ rfl us hl; rw [hbod] at this; exact this) Sg hva hvn hge hme hde TB hcode (by rw [hq]; exact hmT) (by rw [hq]; exact hu) hr hG L hdef hbind
    (fun A outer s H E f c' hgd hr2 => ?_) hdx hda hca hdn hcn) fun σ H Q ⟨env, P, fp, Tm, r, rep, pots, q⟩ => ?_
  · exact pe_callG F.ok hgd (hr2.mono (Nat.le_refl _)) hm2 hk2 hb2 (passes_call (takes_of rfl rfl rfl rfl) fun _ _ _ _ h => h) (h A outer s H E f c' hgd hr2).run hgl hdy (he _) (hpl _)
  · refine ⟨rep.tab, fun H1 lamd => ?_⟩
    refine ⟨env, P, fp, Tm, C + r, rep.evo lamd.evo, lamd.pots (by rw [← Nat.add_assoc]; exact pots), hmono _ _ _ (fun xs q => ?_) q⟩
    intro vs H' P' e' pots' fA
    rw [List.append_nil]
    obtain ⟨F', dv⟩ := fA.dvs
    have eH : Evo R.T P P' H H' := lamd.evo.trans e'
    refine ⟨_, P', r, F', dv, pots', fun p hp => eH.tab p hp (rep.tab p hp), F.mono _ _ _ _ _ (fun d q v H2 P2 e2 pots2 _ => ?_) (fun x d q w dx H2 P2 e2 h2 h3 h4 h5 h6 p2 => ?_) q⟩
    · exact q .non H2 P2 (eH.trans e2) pots2 fin_non
    · refine ⟨hnm x q.1, dx, rfl, fun b hb => ?_⟩
      obtain ⟨Fw, dvw⟩ := h5
      have ne : dx ≠ b := ne_of_none h2 hb
      have one : DVs X.K P2 (upd H2 b (ExV (.ref (He.ga X.K x)) dx b)) [d] [w] [] := DVs.imm_any (.cons (dvw.evo (Evo.upd (Θ := []) hb)) .nil) (by simp [immAll, h6])
      exact q.2 (.ref b) _ P2 ((eH.trans e2).trans (Evo.upd hb)) (p2.updN hb) ⟨[], .exc upd_same (by rw [upd_ne ne]; exact h2) (fun z => p2.some b z hb) h4 h6 one, POk.nil⟩
end
end VS
namespace VS
open PySem PySem.Spec PyProof.Rows L2 LamX
/-- what the class x must say for its instances to be asked and read -/
structure ExcUse (K : PySem.W.Frag) (x : Str) : Prop where
  xf : XfC K (He.ga K x)
  no : PySem.W.findIn K (.ref (He.ga K x)) "value" = some none
  cl : (PySem.W.clsIn K (He.ga K x)).isSome = true
  ha : PySem.W.findIn K (.ref (He.ga K x)) "__class__" = some (some (.builtin "object.__class__"))
  hn : PySem.W.specialIn K (.builtin "object.__class__") "__get__" = some (some (.builtin "getset_descriptor.__get__"))
  ht : PySem.W.takesIn K (.builtin "object.__class__") = some true
  hm : PySem.W.mroIn K (He.ga K x) (.type "object") = some true
section
variable {X : Cx} {R : RC} {pos p p2 apos : Pos} {e : Expr} {te : VT} {c : Nat} {x : Str}
def rIsV (K : PySem.W.Frag) (x : Str) : List V → Hp → L2.VK → Prop := fun vs H Q => ∃ a dx, vs = [.ref a, .ref (He.ga K x)] ∧ H a = some (ExV (.ref (He.ga K x)) dx a) ∧ (∃ fs, H dx = some (.xd fs)) ∧ Q (.bl true) H
theorem exV_inst {P : Program} {w : World} {K : PySem.W.Frag} {H : Hp} {h : Heap} {a dx C : Addr} {fs : List (Str × V)} (ok : HOk P w H h) (e : H a = some (ExV (.ref C) dx a)) (ed : H dx = some (.xd fs)) :
    ∃ oe od mA, PySem.W.InstAt h a oe C (some od) ∧ h.get? dx = some od ∧ h.Ns1 dx mA ∧ ∀ f, RelO (fs.lookup f) (mA f) := by
  obtain ⟨oe, vs, g1, z, d⟩ := exV_at ok e
  obtain ⟨mA, hns, hr⟩ := (ok dx _ ed : ∃ mA, h.Ns1 dx mA ∧ ∀ f, RelO (fs.lookup f) (mA f))
  obtain ⟨od, ho, _⟩ := lookIn_ns hns
  exact ⟨oe, od, mA, ⟨g1, z.1, by unfold PySem.W.notCls; rw [d] <;> rfl, by rw [z.2]; exact ho⟩, ho, hns, hr⟩
theorem call_isV (U : ExcUse X.K x) : CallR X (.builtin "isinstance") (rIsV X.K x) := by
  intro pins s σ H xs us Q I r h
  obtain ⟨a, dx, rfl, ea, ⟨fs, ed⟩, q⟩ := h
  cases r with
  | cons rx rr =>
    cases rr with
    | cons rt rr =>
      cases rr
      cases rx
      cases rt
      obtain ⟨oe, od, mA, J, _⟩ := exV_inst (K := X.K) I.hok ea ed
      exact PySem.W.kia_one (b := true) (PySem.W.kitx_exc U.cl U.xf.ga U.xf.gg U.xf.exC U.ha U.hn U.ht U.hm) I.kIn J (by unfold PySem.W.kitOne; rw [if_pos (by simp)]) (fun z => nomatch z) fun tk => ⟨.bl true, H, I.kept (t' := tk) fun _ _ z => z, rfl, q⟩
/-- isinstance(e, x), e an exception of just this class -/
def vIsaE (x : Str) (t : VT) : VT := fun env Q => t env fun d _ => ∃ v, d = .exc x v ∧ Q (.bl true) .fresh
theorem exc_inv {K : PySem.W.Frag} {P : List Addr} {H : Hp} {d : D} {v : V} {F : List Addr} (h : DV K P H (.exc x d) v F) : ∃ a dx w, v = .ref a ∧ H a = some (ExV (.ref (He.ga K x)) dx a) ∧ H dx = some (.xd [("value", w)]) ∧ d.imm = true ∧ ∃ G, DV K P H d w G := by
  cases h with
  | exc h1 h2 n1 n2 im hs =>
    cases hs with
    | cons hd ht => exact ⟨_, _, _, rfl, h1, h2, im, _, hd⟩
theorem ve_isaE (U : ExcUse X.K x) (hm : X.mg x = some (.ref (He.ga X.K x))) (h : VE X R c e te) (hmi : X.mg "isinstance" = none) (hgi : Gl X "isinstance" := by rfl) (hgx : Gl X x := by rfl) (hdx : (x == ("__debug__" : Str)) = false := by decide)
    (he : starEach [e, .Name x p2] X.env = (false, eval e X.env) :: starEach [.Name x p2] X.env := by rfl) (he2 : starEach [.Name x p2] X.env = (false, eval (.Name x p2) X.env) :: starEach [] X.env := by rfl) (hpl : (backTo pos (starEach [.Name x p2] X.env)).any (·.1) = false := by rfl) :
    VE X R c (.Call (.Name "isinstance" p) [e, .Name x p2] [] pos) (vIsaE x te) where
  mono := fun env Q Q' hq q => h.mono _ _ _ (fun d p ⟨v, e, q⟩ => ⟨v, e, hq _ _ q⟩) q
  run := PE.imp (pe_callB (id := "isinstance") (call_isV U) hgi hmi (by decide +kernel) (pa_cons h.run (pa_cons (pe_glob (v := .ref (He.ga X.K x)) hgx hm rfl hdx) pa_nil he2) he) (he := he) (hpl := hpl)) fun σ H Q ⟨env, P, fp, T, r, rep, pots, q⟩ => by
    refine ⟨env, P, fp, T, r, rep, pots, h.mono _ _ _ (fun d p ⟨v, ed, q⟩ => ?_) q⟩
    intro w H1 P1 e1 pots1 ⟨F, dv, _⟩
    subst ed
    obtain ⟨a, dx, w', rfl, h1, h2, _⟩ := exc_inv dv
    exact ⟨a, dx, rfl, h1, ⟨_, h2⟩, q _ H1 P1 e1 pots1 fin_bl⟩
/-- e.value -/
def vValue (names : List Str) (t : VT) : VT := fun env Q => t env fun d _ => ∃ x v, d = .exc x v ∧ x ∈ names ∧ Q v .fresh
theorem ve_value {names : List Str} (U : ∀ x ∈ names, ExcUse X.K x) (h : VE X R c e te) (hb : attributeBase e "value" X.env (eval e X.env) = eval e X.env := by rfl) : VE X R c (.Attribute e "value" apos) (vValue names te) where
  mono := fun env Q Q' hq q => h.mono _ _ _ (fun d p ⟨x, v, e, m, q⟩ => ⟨x, v, e, m, hq _ _ q⟩) q
  run := by
    refine ⟨fun pins s σ H Q I q => ?_⟩
    obtain ⟨env, P, fp, T, r, rep, pots, q⟩ := q
    refine attr_of hb (thn (h.run.run pins s σ H (fun v H1 => ∃ x d P1, x ∈ names ∧ Evo R.T P P1 H H1 ∧ Pots r P1 H1 ∧ (∃ F, DV X.K P1 H1 (.exc x d) v F) ∧ (∀ v H' P', Evo R.T P P' H H' → Pots r P' H' → Fin X.K fp env H d .fresh v H' P' → Q v H')) I ⟨env, P, fp, T, r, rep, pots, h.mono _ _ _ (fun d p ⟨x, v, ed, m, q⟩ w H1 P1 e1 pots1 ⟨F, dv, _⟩ => by
      subst ed
      exact ⟨x, v, P1, m, e1, pots1, ⟨F, dv⟩, q⟩) q⟩) fun u s1 hh => ?_)
    · obtain ⟨v, H1, I1, rv, x, d, P1, m, e1, pots1, ⟨F, dv⟩, q⟩ := hh
      obtain ⟨a, dx, w, rfl, h1, h2, im, G, dvw⟩ := exc_inv dv
      obtain rfl : u = Value.ref a := rv
      obtain ⟨oe, od, mA, J, ho, hns, hr⟩ := exV_inst (K := X.K) I1.hok h1 h2
      obtain ⟨od', ho', hl⟩ := lookIn_ns hns
      rw [ho] at ho'
      cases ho'
      have Ux := U x m
      obtain ⟨u, hu, ru⟩ := RelO.some_of (v := w) (o := mA "value") (by have := hr "value"; simpa using this)
      exact HandSPX.exc_get I1.kIn J Ux.xf.ga Ux.xf.gg Ux.xf.exC (PySem.W.findObj_own Ux.xf.hdC Ux.no rfl (by rw [hl, hu])) (handed_of ru) ⟨w, H1, I1.tok _, ru, q w H1 P1 e1 pots1 (Fin.imm dvw im)⟩
end
end VS

set_option maxHeartbeats 4000000
/-! dicts with tuple keys: what HandS has not -/
namespace VS
open PySem PySem.Spec PyProof.Rows L2

section
variable {X : Cx} {pins : List (Addr × Obj)} {σ : L2.St} {H : Hp} {s : Shared} {d : Addr} {o : Obj}
/-- the entries of a locked dict, keys and values -/
theorem frzT2 {kvs : List (List Key × V)} (I : Inv X pins σ H s) (h : H d = some (.frz o (.dT kvs))) :
    (d == sysModules) = false ∧ ∃ (es : Array DictEntry) (ep : Nat), o.data = .dict es ep ∧ DT.Raw s.heap d es ep ∧ es.size = kvs.length ∧
      ∀ (i : Nat) (k : List Key) (v : V), kvs[i]? = some (k, v) → ∃ (en : DictEntry) (q : Addr), es[i]? = some en ∧ en.key = .ref q ∧ H q = some (.tup (k.map kV)) ∧ RelV v en.val := by
  obtain ⟨hd, z, hs, xs, pr, o', es, ep, ho, hx, hdt, he, _⟩ := I.hok d _ h
  rw [hd] at ho
  cases ho
  refine ⟨hs, es, ep, hdt, ⟨o, hd, hx, hdt⟩, ?_, fun i k v e => ?_⟩
  · have l1 : es.size = xs.length := size_of_entries he
    have l2 : kvs.length = xs.length := Paired.length pr
    omega
  · obtain ⟨b, hb, e1, e2, e3⟩ := L2.paired_get pr e
    have q := entry_at he i
    rw [hb] at q
    exact ⟨_, b.2.1, q, rfl, e2, e3⟩
/-- the same of a dict that is not locked -/
theorem dictT {kvs : List (List Key × V)} (I : Inv X pins σ H s) (h : Rd H d (.dT kvs)) :
    (d == sysModules) = false ∧ kvs.length ≤ sizeLine ∧ ∃ (es : Array DictEntry) (ep : Nat), DT.Raw s.heap d es ep ∧ es.size = kvs.length ∧
      ∀ (i : Nat) (k : List Key) (v : V), kvs[i]? = some (k, v) → ∃ (en : DictEntry) (q : Addr), es[i]? = some en ∧ en.key = .ref q ∧ H q = some (.tup (k.map kV)) ∧ RelV v en.val := by
  obtain ⟨z, hs, xs, pr, o', es, ep, ho, hx, hdt, he, _⟩ := (show ObjOk X.prog X.w H s.heap d (.dT kvs) from rd_of I.hok h)
  refine ⟨hs, z, es, ep, ⟨o', ho, hx, hdt⟩, ?_, fun i k v e => ?_⟩
  · have l1 : es.size = xs.length := size_of_entries he
    have l2 : kvs.length = xs.length := Paired.length pr
    omega
  · obtain ⟨b, hb, e1, e2, e3⟩ := L2.paired_get pr e
    have q := entry_at he i
    rw [hb] at q
    exact ⟨_, b.2.1, q, rfl, e2, e3⟩
end
/-- the pairs of the locked dict at d, each a new tuple of the key's own tuple and the value -/
def Itit (d : Addr) (o : Obj) (kvs : List (List Key × V)) : It :=
  ⟨fun i H => H d = some (.frz o (.dT kvs)) ∧ i < kvs.length, fun i H x H' => ∃ T k v q, kvs[i]? = some (k, v) ∧ x = .ref T ∧ H T = none ∧ H q = some (.tup (k.map kV)) ∧ H' = upd H T (.tup [.ref q, v]), fun i H => H d = some (.frz o (.dT kvs)) ∧ kvs.length ≤ i⟩
theorem turn_itemsT {P : Program} {w : World} {K : PySem.W.Frag} {elts : List Expr} {kk : Nat} {tpos : Pos} {d : Addr} {o : Obj} {es : Array DictEntry} {ep : Nat} {kvs : List (List Key × V)} (it : Addr) (hod : o.data = .dict es ep) :
    Turn P w K (.Tuple elts kk tpos) (Itit d o kvs) [it] it (fun i h => ∃ ok ov, IsItemIter h it d i es.size ep ok ov) where
  mem := by simp
  obj := fun i h st b hb => by
    have e : b = it := by simpa using hb
    subst e
    obtain ⟨ok, ov, e⟩ := st
    exact ⟨_, e, fun v z => nomatch z⟩
  keep := fun i h h' st k => let ⟨ok, ov, e⟩ := st; ⟨ok, ov, k it (by simp) _ e⟩
  item := by
    intro X hP hw hK hc i pins s σ H E I hf st hg
    subst hP hw hK
    obtain ⟨hd, hi⟩ := hg
    obtain ⟨hs, es', ep', hdt, hm, hsz, ent⟩ := frzT2 I hd
    obtain ⟨rfl, rfl⟩ := L2.dict_ep hod hdt
    obtain ⟨⟨k, v⟩, hkv⟩ : ∃ p, kvs[i]? = some p := ⟨kvs[i], List.getElem?_eq_getElem hi⟩
    obtain ⟨en, q, hen, hkey, hq, rv⟩ := ent i k v hkv
    have hlt : i < es'.size := by omega
    have hen' : es'[i] = en := by rw [Array.getElem?_eq_getElem hlt] at hen; exact Option.some.inj hen
    obtain ⟨ok, ov, he⟩ := st
    have hil : it < s.heap.objs.size := Heap.lt_size he
    refine DT.nextI he hm hlt fun h' ho hT hz hk => ?_
    refine ⟨_, rfl, wpAny_letOwnedTupleGo_items (s := { s with heap := h' }) ho fun h'' he' sb => ?_⟩
    rw [hen'] at hT he' ho
    have hT2 : h''.get? s.heap.objs.size = some { cls := .type "tuple", data := .seq #[en.key, en.val] } := (sb.2 _ (Nat.ne_of_gt hil)).trans hT
    have new : ObjOk X.prog X.w (upd H s.heap.objs.size (.tup [.ref q, v])) h'' s.heap.objs.size (.tup [.ref q, v]) :=
      ⟨by show 2 ≤ sizeLine; decide, [en.key, en.val], .cons hkey (.cons rv .nil), ⟨_, hT2, rfl, _, rfl⟩⟩
    have I1 : Inv X pins σ (upd H s.heap.objs.size (.tup [.ref q, v])) { s with heap := h'' } :=
      I.turnedNew (t' := s.toks) (ch := [it]) (fun b ob hb e => (sb.2 b (by simpa using hb)).trans (hk b ob (by simpa using hb) e)) hf (Nat.le_refl _) new
    refine ⟨.ref s.heap.objs.size, _, I1, rfl, ⟨_, k, v, q, hkv, rfl, I.hok.fresh (Nat.le_refl _), hq, rfl⟩, ⟨en.key, en.val, he'⟩, fun b hb => ?_⟩
    have e : b = it := by simpa using hb
    rw [e, upd_ne (Nat.ne_of_lt hil)]
    exact (hf it (by simp)).1
  done := by
    intro X hP hw hK hc i pins s σ H E I hf st hg
    subst hP hw hK
    obtain ⟨hd, hi⟩ := hg
    obtain ⟨f0, f1, f2, f3, f4, f5⟩ := hf it (by simp)
    obtain ⟨hs, es', ep', hdt, hm, hsz, ent⟩ := frzT2 I hd
    obtain ⟨rfl, rfl⟩ := L2.dict_ep hod hdt
    obtain ⟨ok, ov, he⟩ := st
    exact DT.endI (I.ok.hd hc) he hm (by omega) fun h' eb => ⟨rfl, I.turned (t' := s.toks) (fun b ob hb e => eb b ob hb e) f0 f1 f3 f4 f5⟩
  self := fun A i s Q E st h => let ⟨_, _, e⟩ := st; PySem.W.kcp_self e h
/-- d.items() of a locked dict -/
def iItemsT (td : TE) : TI := fun σ H R => td σ H fun x H1 => ∃ d o kvs, x = .ref d ∧ H1 d = some (.frz o (.dT kvs)) ∧ R (Itit d o kvs) H1
theorem pi_itemsT {X : Cx} {e : Expr} {td : TE} {apos cpos : Pos} {elts : List Expr} {kk : Nat} {tpos : Pos} (he : PE X e td) (hbase : attributeBase e "items" X.env (eval e X.env) = eval e X.env := by rfl) (hline : (apos.endLine == cpos.line) = true := by rfl) :
    PI X (.Tuple elts kk tpos) (.Call (.Attribute e "items" apos) [] [] cpos) (iItemsT td) := by
  refine ⟨fun pins s σ H R I h => ?_⟩
  refine wpAny_Call_method (T := "dict") (id := "dict.items") hbase rfl hline F.plainAttrs_dict F.slot_dict_items F.type_dict_items (thn (he.run pins s σ H _ I h) fun u s1 ⟨x, H1, I1, rx, d, o, kvs, ex, hd, q⟩ => ?_)
  subst ex
  obtain rfl : u = Value.ref d := rx
  obtain ⟨hs, es, ep, hdt, hm, hsz, ent⟩ := frzT2 I1 hd
  obtain ⟨t1, t2, _⟩ := isD_at I1 (.inr ⟨kvs, .inr ⟨o, hd⟩⟩)
  refine ⟨t1, t2, ?_⟩
  have I2 : Inv X pins σ H1 { s1 with heap := s1.heap.push { cls := .type "dict_items", data := .fields #[.ref d] } } := I1.kept (t' := s1.toks) fun b ob q => Heap.get?_push_of_some _ q
  have fin : wpAny (model X.prog X.w) X.A (pyIter (.ref s1.heap.objs.size)) (PIE X pins σ (.Tuple elts kk tpos) R) X.xe { s1 with heap := s1.heap.push { cls := .type "dict_items", data := .fields #[.ref d] } } :=
    DT.iterI (d := d) ⟨_, Heap.get?_push_size _ rfl, rfl, rfl⟩ (hm.push _) (pi_one (tk := s1.toks) I2 _ (turn_itemsT _ hdt) ⟨.none, .none, Heap.get?_push_size _ rfl⟩ q)
  show wpAny _ _ (callWith cpos (.builtin "dict.items") [.ref d] [] []) _ X.xe s1
  exact method_meetsIn F.slot_dict_items F.entry_dict_items rfl (PySem.evalArgs_none ⟨rfl, t1, F.args_dict_items_1 _, _, DT.meetsItems hs, ⟨hm, fin⟩⟩)
/-- the statement runs while the thing at d is locked, and it stays locked -/
def tFrz (t : TS) : TS := fun D σ H => ∃ d u, H d = some u ∧ Mut (some u) ∧ ∀ od, t D σ (upd H d (.frz od u))
theorem ps_frz {X : Cx} {st : Stmt} {t : TS} (h : PS X st t) : PS X st (tFrz t) := by
  refine ⟨fun pins s σ H D I hw => ?_⟩
  obtain ⟨d, u, hd, mu, hw⟩ := hw
  obtain ⟨od, I1⟩ := I.lock hd mu
  exact h.run pins s σ _ _ I1 (hw od)
/-! ### d == {} -/
theorem size_ne {prog : Program} {w : World} {A : Around} {E : Value → Shared → Prop} {s : Shared} {a b : Addr} {es es' : Array DictEntry} {ep ep' : Nat} {Q : Value → Shared → Prop} (ha : (a == sysModules) = false) (hb : (b == sysModules) = false)
    (da : DT.Raw s.heap a es ep) (db : DT.Raw s.heap b es' ep') (hz : es'.size = 0) (hu : A.units < cLine) (h : Q (.bool (decide (es.size ≠ 0))) s) :
    wpAny (model prog w) A (compareOp .NotEq (.ref a) (.ref b)) Q E s := by
  refine wpAny_richCompare_same_room (op := .NotEq) da.typeIs db.typeIs PySem.F.slot_dict_ne (wpAny_call_entry PySem.F.slot_dict_ne da.typeIs PySem.F.entry_dict_ne ?_ (PySem.F.args_dict_ne_2 _ _)) hu
  show wpAny _ _ (Builtin.Dict.dictSlotArgs "__ne__" ⟨[.ref a, .ref b], []⟩ >>= _) _ _ s
  refine wpAny_bind ?_
  unfold Builtin.Dict.dictSlotArgs
  refine wpAny_bind (wpAny_notOrdered_dict da.typeIs ?_)
  show wpAny _ _ (pure (Value.ref a, Value.ref b)) _ _ s
  refine wpAny_pure ?_
  refine wpAny_bind (wpAny_isInstance (T := "dict") db.typeIs PySem.F.sub_dict_dict ?_)
  simp only [Bool.not_true, Bool.false_eq_true, if_false]
  refine wpAny_bind (wpAny_pure (wpAny_bind (wpAny_pure ?_)))
  obtain ⟨oa, hoa, _, hda⟩ := da
  obtain ⟨ob, hob, _, hdb⟩ := db
  refine wpAny_bind (wpAny_mono (Q := fun r s' => s' = s ∧ r = decide (es.size = 0)) ?_ (fun r s' q => ?_) fun _ _ e => e)
  · unfold Builtin.Dict.samePairs Builtin.Dict.showsAll
    rw [if_neg (show ¬ (a == sysModules) = true by rw [ha]; exact Bool.false_ne_true), if_neg (show ¬ (b == sysModules) = true by rw [hb]; exact Bool.false_ne_true)]
    refine wpAny_bind (wpAny_pure (wpAny_bind (wpAny_pure ?_)))
    refine wpAny_bind (wpAny_dictEntries hoa hda ?_)
    dsimp only
    refine wpAny_bind (wpAny_dictEntries hob hdb ?_)
    by_cases hsz : es.size = 0
    case neg =>
      rw [if_pos (by rw [hz]; simpa using hsz)]
      exact wpAny_bind (wpAny_rule (wpAny_pure ⟨rfl, by simp [hsz]⟩))
    case pos =>
      rw [if_neg (by rw [hsz, hz]; simp)]
      refine wpAny_bind (wpAny_dictEpoch hoa hda ?_)
      rw [hsz]
      refine wpAny_bind ?_
      rw [Std.Legacy.Range.forIn_eq_forIn_range']
      simp only [Std.Legacy.Range.size, Nat.sub_zero, Nat.add_sub_cancel, Nat.div_one, List.range'_zero, List.forIn_nil]
      exact wpAny_pure (wpAny_pure ⟨rfl, by simp⟩)
  · obtain ⟨rfl, rfl⟩ := q
    refine wpAny_pure ⟨_, rfl, ?_, ?_⟩
    · exact fun x => nomatch x
    · by_cases hsz : es.size = 0
      · simpa [hsz] using h
      · simpa [hsz] using h
def rNeT : R2 := fun x y H Q => ∃ a b kvs, x = .ref a ∧ y = .ref b ∧ Rd H a (.dT kvs) ∧ Rd H b (.dT []) ∧ Q (.bl (decide (kvs ≠ []))) H
theorem op_neT {X : Cx} (hu : X.A.units + 64 < cLine) : OpR X (compareOp .NotEq) rNeT := by
  intro pins s σ H x y v u Q I rx ry h
  obtain ⟨a, b, kvs, rfl, rfl, ea, eb, q⟩ := h
  obtain rfl : v = Value.ref a := rx
  obtain rfl : u = Value.ref b := ry
  obtain ⟨sa, _, es, ep, da, za, _⟩ := dictT I ea
  obtain ⟨sb, _, es', ep', db, zb, _⟩ := dictT I eb
  refine size_ne sa sb da db (by simpa using zb) (by omega) ⟨.bl _, H, I, rfl, ?_⟩
  have e : decide (es.size ≠ 0) = decide (kvs ≠ []) := by
    rw [za]
    cases kvs <;> simp
  rw [e]
  exact q
/-! ### y in d -/
def rInT (neg : Bool) : R2 := fun y x H Q => ∃ a o, x = .ref a ∧ DGet H a y o ∧ Q (.bl (xor neg o.isSome)) H
theorem op_inT {X : Cx} (hu : X.A.units + 64 < cLine) : OpR X (compareOp .In) (rInT false) := by
  intro pins s σ H y x u v Q I ry rx h
  obtain ⟨a, o, rfl, g, q⟩ := h
  obtain rfl : v = Value.ref a := rx
  exact d_in (by omega) I g ry fun s' I' => ⟨.bl _, H, I', rfl, by simpa using q⟩
theorem op_notinT {X : Cx} (hu : X.A.units + 64 < cLine) : OpR X (compareOp .NotIn) (rInT true) := by
  intro pins s σ H y x u v Q I ry rx h
  obtain ⟨a, o, rfl, g, q⟩ := h
  obtain rfl : v = Value.ref a := rx
  exact d_notIn (by omega) I g ry fun s' I' => ⟨.bl _, H, I', rfl, by simpa using q⟩
/-! ### {k: v} -/
def tDisp1 (tk tv : TE) : TE := fun σ H Q => ∀ p, H p = none → tk σ (upd H p (.dT [])) fun x H1 => tv σ H1 fun y H2 => ∃ b ks, x = .ref b ∧ H2 b = some (.tup (ks.map kV)) ∧ H2 p = some (.dT []) ∧ Q (.ref p) (upd H2 p (.dT [(ks, y)]))
theorem pe_disp1 {X : Cx} {pos : Pos} {k v : Expr} {tk tv : TE} (hu : X.A.units + 64 < cLine) (hk : PE X k tk) (hv : PE X v tv) : PE X (.Dict [some k] [v] pos) (tDisp1 tk tv) := by
  refine ⟨fun pins s σ H Q I q => ?_⟩
  have hn := I.hok.fresh (Nat.le_refl s.heap.objs.size)
  have I1 := I.laid (a := s.heap.objs.size) (o := .dT []) (h' := s.heap.push { cls := .type "dict", data := .dict #[] }) (t' := s.toks) (fun _ _ q => Heap.get?_push_of_some _ q) (Nat.le_refl _) (dt_empty s.heap I.big)
  have hall : ([some k] : List (Option Expr)).all (·.isSome) = true := rfl
  rw [arm_eval_Dict, zip_pairTrees [some k] [v] X.env pos hall rfl, dictDisplay_pairs _ (fun z => by have := pairTrees_length [some k] [v] X.env pos hall rfl; rw [z] at this; cases this) (by rw [pairTrees_length _ _ _ _ hall rfl]; simp)]
  refine wpAny_bind (wpAny_standAt (wpAny_bind (wpAny_subDictH (knd := tupleKind (mixKind X.prog X.w)) (show X.A.units < cLine by omega) (by rw [pairTrees_length _ _ _ _ hall rfl]; simp) ?_)))
  refine pairTrees_cons_walk (thn (hk.run pins _ σ _ _ I1 (q _ hn)) fun kv s1 ⟨x, H1, I2, rx, q1⟩ => thn (hv.run pins s1 σ H1 _ I2 q1) fun vv s2 ⟨y, H2, I3, ry, b, ks, ex, hb, hp, q2⟩ => pairTrees_nil_walk ?_)
  subst ex
  obtain rfl : kv = Value.ref b := rx
  obtain ⟨z, hd, xs0, r0, dd⟩ := dt_of I3.hok hp
  cases r0
  refine ⟨[(ks, b, vv)], ⟨rfl, rfl, key_of I3.hok hb, trivial⟩, dd, fun h' tk dd' hs => wpAny_pure ?_⟩
  have he : ∃ q, h'.get? s.heap.objs.size = some q := let ⟨q, _, _, hq, _⟩ := dd'; ⟨q, hq⟩
  have bne : b ≠ s.heap.objs.size := fun z => by rw [z, hp] at hb; cases hb
  refine ⟨.ref s.heap.objs.size, _, d_write (t' := tk) I3 (by rw [hp]; exact True.intro) hs he ?_, rfl, q2⟩
  obtain ⟨o, es, ep, h1, h2, h3, h4, h5, h6⟩ := dd'
  exact ⟨by show 1 ≤ sizeLine; decide, hd, [(ks, b, vv)], .cons ⟨rfl, by rw [upd_ne bne]; exact hb, ry⟩ .nil, o, es, ep, h1, h2, h3, h4, h6⟩

/-! ### list(d), d.update(e) -/
theorem paired_of {α β : Type} {G : α → β → Prop} : ∀ {l₁ : List α} {l₂ : List β}, l₁.length = l₂.length → (∀ (i : Nat) a b, l₁[i]? = some a → l₂[i]? = some b → G a b) → Paired G l₁ l₂
  | [], [], _, _ => .nil
  | a :: as, b :: bs, hl, h => .cons (h 0 a b rfl rfl) (paired_of (by simpa using hl) fun i x y h1 h2 => h (i + 1) x y (by simpa using h1) (by simpa using h2))
  | [], _ :: _, hl, _ => by simp at hl
  | _ :: _, [], hl, _ => by simp at hl
def refA : Value → Addr
  | .ref q => q
  | _ => 0
def rListT : List V → Hp → L2.VK → Prop := fun xs H Q => ∃ p kvs, xs = [.ref p] ∧ Rd H p (.dT kvs) ∧ ∀ l qs, H l = none → Paired (fun (kv : List Key × V) (q : Addr) => H q = some (.tup (kv.1.map kV))) kvs qs → Q (.ref l) (upd H l (.lst (qs.map V.ref)))
theorem call_listT {X : Cx} (hc : X.calm = true) : CallR X (.type "list") rListT := by
  intro pins s σ H xs us Q I r h
  obtain ⟨p, kvs, rfl, hp, q⟩ := h
  obtain ⟨u, rfl, rx⟩ := vals1 r
  cases rx
  obtain ⟨hs, hz, es, ep, ⟨o, ho, hx, hd⟩, hsz, ent⟩ := dictT I hp
  refine PySem.W.kdl_call (kdl_raw hs hx hd) (I.ok.hd hc) ho (by omega) fun h' tk acc' c' kp e2 it => ?_
  have hl : acc'.size = es.size := it.1
  have key : ∀ i v, acc'.toList[i]? = some v → ∃ (k : List Key) (w : V) (q : Addr), kvs[i]? = some (k, w) ∧ v = Value.ref q ∧ H q = some (.tup (k.map kV)) := fun i v hv => by
    obtain ⟨en, he, hk⟩ := it.2 i v (by rw [← Array.getElem?_toList]; exact hv)
    obtain ⟨hi, _⟩ := Array.getElem?_eq_some_iff.mp he
    have hi2 : i < kvs.length := by omega
    obtain ⟨en', q, he', hk', hq, _⟩ := ent i (kvs[i]'hi2).1 (kvs[i]'hi2).2 (List.getElem?_eq_getElem hi2)
    rw [he] at he'
    cases he'
    exact ⟨_, _, q, List.getElem?_eq_getElem hi2, hk.trans hk', hq⟩
  have rel : Vals ((acc'.toList.map refA).map V.ref) acc'.toList := paired_of (by simp) fun i a b h1 h2 => by
    obtain ⟨k, w, q, _, rfl, _⟩ := key i b h2
    rw [List.map_map, List.getElem?_map, h2] at h1
    cases h1
    exact rfl
  have new : ObjOk X.prog X.w (upd H s.heap.objs.size (.lst ((acc'.toList.map refA).map V.ref))) h' s.heap.objs.size (.lst ((acc'.toList.map refA).map V.ref)) :=
    ⟨by simp only [List.length_map, Array.length_toList]; omega, acc'.toList, c', rel, e2⟩
  refine ⟨.ref s.heap.objs.size, _, I.laid (t' := tk) kp (Nat.le_refl _) new, rfl, q _ _ (I.hok.fresh (Nat.le_refl _)) (paired_of (by simp only [List.length_map, Array.length_toList]; omega) fun i a b h1 h2 => ?_)⟩
  rw [List.getElem?_map] at h2
  obtain ⟨v, h3, rfl⟩ := Option.map_eq_some_iff.mp h2
  obtain ⟨k, w, q, h4, rfl, h5⟩ := key i v h3
  rw [h1] at h4
  cases h4
  exact h5
def mergeT {α κ : Type} [DecidableEq κ] (kvs more : List (κ × α)) : List (κ × α) := more.foldl (fun acc kv => if (acc.any fun p => decide (p.1 = kv.1)) = true then acc.map (fun p => if p.1 = kv.1 then (p.1, kv.2) else p) else acc ++ [kv]) kvs
theorem mergeT_put (kvs more : List (List Key × V)) : mergeT kvs more = more.foldl (fun acc kv => putK acc kv.1 kv.2) kvs := rfl
theorem length_mergeT : ∀ (more kvs : List (List Key × V)), (mergeT kvs more).length ≤ kvs.length + more.length
  | [], kvs => by simp [mergeT]
  | p :: ps, kvs => by
    have h1 := length_mergeT ps (putK kvs p.1 p.2)
    have h2 := length_putK kvs p.1 p.2
    rw [mergeT_put] at h1 ⊢
    simp only [List.foldl_cons, List.length_cons] at h1 ⊢
    omega
theorem KT.merge {H : Hp} : ∀ {more : List (List Key × V)} {ys : List (List Key × Addr × Value)} {kvs : List (List Key × V)} {xs : List (List Key × Addr × Value)}, KT H more ys → KT H kvs xs → KT H (mergeT kvs more) (storedAllH xs ys) := by
  intro more ys kvs xs r
  induction r generalizing kvs xs with
  | nil => exact fun h => h
  | @cons p q ps qs hpq t ih =>
    intro h
    obtain ⟨h1, h2, h3⟩ := hpq
    have h4 : H q.2.1 = some (.tup (p.1.map kV)) := h2
    have := KT.put h p.1 h4 h3
    rw [mergeT_put, List.foldl_cons, ← mergeT_put]
    rw [h1] at this ⊢
    exact ih this
def rUpdT : V → List V → Hp → L2.VK → Prop := fun x xs H Q => ∃ a b kvs more, x = .ref a ∧ xs = [.ref b] ∧ a ≠ b ∧ H a = some (.dT kvs) ∧ Rd H b (.dT more) ∧ kvs ≠ [] ∧ kvs.length + more.length ≤ sizeLine ∧ Q .non (upd H a (.dT (mergeT kvs more)))
theorem mt_updT {X : Cx} (hu : X.A.units + 64 < cLine) : MtR X "dict.update" rUpdT := by
  intro pins s σ H x xs v us Q I rx rs h
  obtain ⟨a, b, kvs, more, rfl, rfl, hab, ha, hb, hne, hz, q⟩ := h
  obtain ⟨u, rfl, ru⟩ := vals1 rs
  cases rx
  cases ru
  obtain ⟨z, hd, ys, r, dd⟩ := dt_of I.hok ha
  obtain ⟨z2, hd2, ys2, r2, dd2⟩ := dt_rd I.hok hb
  have l1 : kvs.length = ys.length := Paired.length r
  have l2 : more.length = ys2.length := Paired.length r2
  refine call_update_dictH (knd := tupleKind (mixKind X.prog X.w)) (tupleKind_room_in1 (by omega)) hab hd2 dd dd2 (.inl fun e => hne (by rw [e] at l1; exact List.length_eq_zero_iff.mp l1)) (by omega) fun h' dd' _ hs => ?_
  have he : ∃ q, h'.get? a = some q := let ⟨q, _, _, hq, _⟩ := dd'; ⟨q, hq⟩
  refine ⟨.non, _, d_write (t' := s.toks) I (by rw [ha]; exact True.intro) hs he ?_, rfl, q⟩
  obtain ⟨o, es, ep, h1, h2, h3, h4, h5, h6⟩ := dd'
  have lm := length_mergeT more kvs
  have keep : ∀ c ws, H c = some (.tup ws) → upd H a (.dT (mergeT kvs more)) c = some (.tup ws) := fun c ws hc => by rw [upd_ne (fun z => by rw [z, ha] at hc; cases hc)]; exact hc
  exact ⟨by omega, hd, _, (KT.merge r2 r).keeps keep, o, es, ep, h1, h2, h3, h4, h6⟩
end VS

/-! dicts with tuple keys as data -/
namespace VS
open PySem PySem.Spec PyProof.Rows L2
variable {Θ : List (Addr × Str)}
theorem nodup1 {α : Type} (a : α) : [a].Nodup := List.nodup_cons.mpr ⟨by simp, List.nodup_nil⟩
def keyD : Key → D
  | .inl i => .int i
  | .inr x => .str x
abbrev keyT (ks : List Key) : D := .tup (ks.map keyD)
section
variable {K : PySem.W.Frag} {P P' : List Addr} {H H' : Hp}
theorem DVs.keys : ∀ {ks : List Key} {vs : List V} {F : List Addr}, DVs K P H (ks.map keyD) vs F → vs = ks.map kV ∧ F = []
  | [], _, _, .nil => ⟨rfl, rfl⟩
  | .inl i :: ks, _, _, .cons (.int _) hs => let ⟨a, b⟩ := DVs.keys hs; ⟨by rw [a]; rfl, by rw [b]; rfl⟩
  | .inr x :: ks, _, _, .cons (.str _) hs => let ⟨a, b⟩ := DVs.keys hs; ⟨by rw [a]; rfl, by rw [b]; rfl⟩
theorem dvs_keys : ∀ (ks : List Key), DVs K P H (ks.map keyD) (ks.map kV) []
  | [] => .nil
  | .inl i :: ks => .cons (F := []) (.int i) (dvs_keys ks)
  | .inr x :: ks => .cons (F := []) (.str x) (dvs_keys ks)
theorem DV.key {ks : List Key} {v : V} {F : List Addr} (h : DV K P H (keyT ks) v F) : ∃ b, v = .ref b ∧ H b = some (.tup (ks.map kV)) ∧ b ∉ P ∧ F = [] := by
  obtain ⟨a, vs, rfl, h1, h2, h3⟩ := h.tup_is
  obtain ⟨rfl, rfl⟩ := h3.keys
  exact ⟨a, rfl, h1, h2, rfl⟩
theorem dv_key {ks : List Key} {b : Addr} (h : H b = some (.tup (ks.map kV))) (n : b ∉ P) : DV K P H (keyT ks) (.ref b) [] := .tup ⟨h, n⟩ (dvs_keys ks)
theorem imm_key (ks : List Key) : (keyT ks).imm = true := by
  have : immAll (ks.map keyD) = true := by
    rw [immAll_iff]
    intro d hd
    obtain ⟨k, _, rfl⟩ := List.mem_map.mp hd
    cases k <;> rfl
  simpa [keyT, D.imm] using this
/-- what stands at a key -/
def lk {κ α : Type} [DecidableEq κ] (kds : List (κ × α)) (k : κ) : Option α := (kds.find? fun kv => decide (kv.1 = k)).map (·.2)
def putL {κ α : Type} [DecidableEq κ] (kvs : List (κ × α)) (k : κ) (v : α) : List (κ × α) := if (kvs.any fun kv => decide (kv.1 = k)) = true then kvs.map (fun kv => if kv.1 = k then (kv.1, v) else kv) else kvs ++ [(k, v)]
theorem lk_dvs {κ : Type} [DecidableEq κ] {k : κ} : ∀ {kds : List (κ × D)} {kvs : List (κ × V)} {F : List Addr}, kvs.map (·.1) = kds.map (·.1) → DVs K P H (kds.map (·.2)) (kvs.map (·.2)) F →
    (lk kds k = none ∧ valV kvs k = none) ∨ ∃ d v G, lk kds k = some d ∧ valV kvs k = some v ∧ DV K P H d v G ∧ G.Sublist F
  | [], [], _, _, _ => .inl ⟨rfl, rfl⟩
  | p :: ps, q :: qs, _, e, .cons (F := F) (G := G) h hs => by
    simp only [List.map_cons, List.cons.injEq] at e
    by_cases z : p.1 = k
    · exact .inr ⟨p.2, q.2, F, by simp [lk, List.find?_cons, z], valV_pos (e.1.trans z), h, List.sublist_append_left _ _⟩
    · have z2 : ¬ q.1 = k := fun y => z (e.1.symm.trans y)
      have e1 : lk (p :: ps) k = lk ps k := by simp [lk, List.find?_cons, z]
      rw [e1, valV_neg z2]
      rcases lk_dvs (k := k) e.2 hs with h | ⟨d, v, G', h1, h2, h3, h4⟩
      · exact .inl h
      · exact .inr ⟨d, v, G', h1, h2, h3, h4.trans (List.sublist_append_right _ _)⟩
  | [], _ :: _, _, e, _ => by simp at e
  | _ :: _, [], _, e, _ => by simp at e
theorem Fin.dit_inv {fp : Nat → List Addr} {env : Env} {Hs : Hp} {kds : List (List Key × D)} {p : Prov} {v : V} (f : Fin K fp env Hs (.dit kds) p v H P) :
    ∃ a kvs F G, v = .ref a ∧ Rd H a (.dT kvs) ∧ a ∉ P ∧ kvs.map (·.1) = kds.map (·.1) ∧ DVs K P H (kds.map (·.2)) (kvs.map (·.2)) G ∧ F = a :: G ∧ POk fp env Hs H (.dit kds) F p := by
  obtain ⟨F, dv, pk⟩ := f
  cases dv with
  | dit h n e hs => exact ⟨_, _, _, _, rfl, h, n, e, hs, rfl, pk⟩
end
/-! ### d[k], k in d, d != {} -/
def oDix : Op2 := fun x y Q => ∃ kds ks d, x.1 = .dit kds ∧ y.1 = keyT ks ∧ lk kds ks = some d ∧ Q d x.2.part
def rDix : R2 := fun x y H Q => ∃ a v, x = .ref a ∧ DGet H a y (some v) ∧ Q v H
theorem l_dix {K : PySem.W.Frag} : Lift2 K rDix oDix where
  mono := fun x y Q Q' h ⟨kds, ks, d, e1, e2, e3, q⟩ => ⟨kds, ks, d, e1, e2, e3, h _ _ q⟩
  run := fun fp env Hs H P x y v w Q hs hP f g ⟨kds, ks, d, e1, e2, e3, q⟩ => by
    obtain ⟨dx, p⟩ := x
    obtain ⟨dy, p'⟩ := y
    dsimp only at e1 e2 q f g
    subst e1 e2
    obtain ⟨a, kvs, F, G, rfl, h1, h2, h3, h4, rfl, pk⟩ := f.dit_inv
    obtain ⟨G2, dv2, _⟩ := g
    obtain ⟨b, rfl, h5, h6, rfl⟩ := dv2.key
    rcases lk_dvs (k := ks) h3 h4 with ⟨z, _⟩ | ⟨d', u, G3, z1, z2, z3, z4⟩
    · rw [e3] at z; cases z
    · rw [e3] at z1; cases z1
      exact ⟨a, u, rfl, .inr ⟨kvs, ks, b, h1, rfl, h5, z2.symm⟩, q u H (Same.refl H) ⟨G3, z3, pk.part (z4.trans (List.sublist_cons_self _ _))⟩⟩
def oDin (neg : Bool) : Op2 := fun x y Q => ∃ kds ks, y.1 = .dit kds ∧ x.1 = keyT ks ∧ Q (.bl (xor neg (lk kds ks).isSome)) .fresh
theorem l_din {K : PySem.W.Frag} {neg : Bool} : Lift2 K (rInT neg) (oDin neg) where
  mono := fun x y Q Q' h ⟨kds, ks, e1, e2, q⟩ => ⟨kds, ks, e1, e2, h _ _ q⟩
  run := fun fp env Hs H P x y v w Q hs hP g f ⟨kds, ks, e1, e2, q⟩ => by
    obtain ⟨dx, p⟩ := x
    obtain ⟨dy, p'⟩ := y
    dsimp only at e1 e2 q f g
    subst e1 e2
    obtain ⟨a, kvs, F, G, rfl, h1, h2, h3, h4, rfl, pk⟩ := f.dit_inv
    obtain ⟨G2, dv2, _⟩ := g
    obtain ⟨b, rfl, h5, h6, rfl⟩ := dv2.key
    refine ⟨a, valV kvs ks, rfl, .inr ⟨kvs, ks, b, h1, rfl, h5, rfl⟩, ?_⟩
    have e : (valV kvs ks).isSome = (lk kds ks).isSome := by
      rcases lk_dvs (k := ks) h3 h4 with ⟨z, z2⟩ | ⟨d', u, G3, z1, z2, z3, z4⟩
      · rw [z, z2] <;> rfl
      · rw [z1, z2] <;> rfl
    rw [e]
    exact q _ H (Same.refl H) fin_bl
def oDne : Op2 := fun x y Q => ∃ kds, x.1 = .dit kds ∧ y.1 = .dit [] ∧ Q (.bl (decide (kds ≠ []))) .fresh
theorem l_dne {K : PySem.W.Frag} : Lift2 K rNeT oDne where
  mono := fun x y Q Q' h ⟨kds, e1, e2, q⟩ => ⟨kds, e1, e2, h _ _ q⟩
  run := fun fp env Hs H P x y v w Q hs hP f g ⟨kds, e1, e2, q⟩ => by
    obtain ⟨dx, p⟩ := x
    obtain ⟨dy, p'⟩ := y
    dsimp only at e1 e2 q f g
    subst e1 e2
    obtain ⟨a, kvs, F, G, rfl, h1, h2, h3, h4, rfl, pk⟩ := f.dit_inv
    obtain ⟨b, kvs2, F2, G2, rfl, k1, k2, k3, k4, rfl, pk2⟩ := g.dit_inv
    have e : kvs2 = [] := by simpa using k3
    subst e
    refine ⟨a, b, kvs, rfl, rfl, h1, k1, ?_⟩
    have e : decide (kvs ≠ []) = decide (kds ≠ []) := by
      have l : kvs.length = kds.length := by simpa using congrArg List.length h3
      cases kvs <;> cases kds <;> simp_all
    rw [e]
    exact q _ H (Same.refl H) fin_bl
section
variable {X : Cx} {R : RC} {pos : Pos} {a b e : Expr} {ta tb tc : VT} {c₁ c₂ c₃ c : Nat}
theorem ve_dix (hu : X.A.units + 64 < cLine) (ha : VE X R c₁ a ta) (hb : VE X R c₂ b tb) (hs : NoSl b := by exact fun _ _ => rfl) : VE X R (c₁ + c₂) (.Subscript a b pos) (vOp oDix ta tb) :=
  ⟨mono_op (l_dix (K := X.K)).mono ha.mono hb.mono, PE.imp (pe_dget (by omega) ha.run hb.run hs) (op_imp (ea := 0) (eb := 0) l_dix ha hb)⟩
theorem ve_din (hu : X.A.units + 64 < cLine) (ha : VE X R c₁ a ta) (hb : VE X R c₂ b tb) (hm : behindInMarks .In b = false := by with_unfolding_all rfl) : VE X R (c₁ + c₂) (.Compare a [.In] [b] pos) (vOp (oDin false) ta tb) := ve_cmp (op_inT hu) l_din ha hb hm
theorem vc_din (hu : X.A.units + 64 < cLine) (ha : VE X R c₁ a ta) (hb : VE X R c₂ b tb) (hm : behindInMarks .In b = false := by with_unfolding_all rfl) : VC X R (c₁ + c₂) (.Compare a [.In] [b] pos) (vTest (vOp (oDin false) ta tb)) := vc_cmp (op_inT hu) l_din ha hb hm
theorem vc_dne (hu : X.A.units + 64 < cLine) (ha : VE X R c₁ a ta) (hb : VE X R c₂ b tb) : VC X R (c₁ + c₂) (.Compare a [.NotEq] [b] pos) (vTest (vOp oDne ta tb)) := vc_cmp (op_neT hu) l_dne ha hb (nomark b)
/-! ### {}, {k: v}, d.get(k, x), list(d) -/
def vDict0 : VT := fun _ Q => Q (.dit []) .fresh
theorem ve_dict0 : VE X R 0 (.Dict [] [] pos) vDict0 where
  mono := fun env Q Q' h q => h _ _ q
  run := PE.imp pe_dnewT fun σ H Q ⟨env, P, fp, T, r, rep, pots, q⟩ => fun p hp =>
    q _ _ P (Evo.upd hp) ((pots.updN hp).le (by omega)) ⟨[p], .dit (.inl upd_same) (fun z => pots.some p z hp) rfl .nil, nodup1 _, fun x hx => by rw [List.mem_singleton] at hx; subst hx; exact ⟨hp, _, upd_same, trivial⟩⟩
def vDict1 (tk tv : VT) : VT := fun env Q => tk env fun d _ => tv env fun e _ => ∃ ks, d = keyT ks ∧ e.imm = true ∧ Q (.dit [(ks, e)]) .fresh
theorem ve_dict1 {k v : Expr} (hu : X.A.units + 64 < cLine) (hk : VE X R c₁ k ta) (hv : VE X R c₂ v tb) : VE X R (c₁ + c₂) (.Dict [some k] [v] pos) (vDict1 ta tb) where
  mono := fun env Q Q' h q => hk.mono _ _ _ (fun d p q => hv.mono _ _ _ (fun e p2 ⟨ks, h1, h2, q⟩ => ⟨ks, h1, h2, h _ _ q⟩) q) q
  run := PE.imp (pe_disp1 hu hk.run hv.run) fun σ H Q ⟨env, P, fp, T, r, rep, pots, q⟩ => fun p hp => by
    have hpP : p ∉ P := fun z => pots.some p z hp
    refine ⟨env, P, fp, T, c₂ + r, rep.evo (Evo.upd hp), by rw [← Nat.add_assoc]; exact pots.updN hp, hk.mono _ _ _ (fun d1 p1 h1 => ?_) q⟩
    intro v1 H1 P1 e1 pots1 ⟨F1, dv1, pk1⟩
    refine ⟨env, P1, fp, T, r, (rep.evo (Evo.upd hp)).evo e1, pots1, hv.mono _ _ _ (fun d2 p2 ⟨ks, h2, h3, q⟩ => ?_) h1⟩
    intro v2 H2 P2 e2 pots2 ⟨F2, dv2, pk2⟩
    subst h2
    obtain ⟨b, rfl, h5, h6, rfl⟩ := (dv1.evo e2).key
    have e12 := e1.trans e2
    have hp2 : H2 p = some (.dT []) := e12.keep p _ upd_same hpP nt_dT
    have hpP2 : p ∉ P2 := e12.notin (by rw [upd_same]; simp) hpP
    refine ⟨b, ks, rfl, h5, hp2, ?_⟩
    have eH : Evo R.T P P2 H H2 := (Evo.upd hp).trans e12
    have NTB : (∀ ps, H2 p ≠ some (.tbl ps)) ∧ ∀ q, H2 p ≠ some (LamX.CodeO p q) := MutO.ntb hp2 trivial
    have dv3 : DV X.K P2 (L2.upd H2 p (.dT [(ks, v2)])) d2 v2 F2 := dv2.mut hp2 trivial (by rw [dv2.imm_nil h3]; exact fun z => by cases z)
    refine q (.ref p) _ P2 (eH.out hp NTB) (pots2.upd hpP2) ⟨p :: (F2 ++ []), .dit (.inl upd_same) hpP2 rfl (.cons dv3 .nil), ?_⟩
    rw [dv2.imm_nil h3]
    exact ⟨nodup1 _, fun x hx => by
      have hx : x = p := by simpa using hx
      subst hx; exact ⟨hp, _, upd_same, trivial⟩⟩
def vDGet2 (ta tb tc : VT) : VT := fun env Q => ta env fun d _ => ∃ kds, d = .dit kds ∧ immAll (kds.map (·.2)) = true ∧ tb env fun e _ => ∃ ks, e = keyT ks ∧ tc env fun z _ => z.imm = true ∧ Q ((lk kds ks).getD z) .fresh
theorem lk_mem {κ α : Type} [DecidableEq κ] {kds : List (κ × α)} {k : κ} {d : α} (h : lk kds k = some d) : d ∈ kds.map (·.2) := by
  unfold lk at h
  obtain ⟨p, h1, rfl⟩ := Option.map_eq_some_iff.mp h
  exact List.mem_map_of_mem (List.mem_of_find?_eq_some h1)
theorem ve_dget2 {o e f : Expr} {apos cpos : Pos} (hu : X.A.units + 64 < cLine) (ho : VE X R c₁ o ta) (he : VE X R c₂ e tb) (hf : VE X R c₃ f tc) (m : M2 X o "get" apos e f cpos := by exact ⟨by rfl, by rfl, by rfl, by rfl⟩) :
    VE X R (c₁ + (c₂ + c₃)) (.Call (.Attribute o "get" apos) [e, f] [] cpos) (vDGet2 ta tb tc) where
  mono := fun env Q Q' h q => ho.mono _ _ _ (fun d p ⟨kds, e1, e2, q⟩ => ⟨kds, e1, e2, he.mono _ _ _ (fun d2 p2 ⟨ks, e3, q⟩ => ⟨ks, e3, hf.mono _ _ _ (fun d3 p3 ⟨e4, q⟩ => ⟨e4, h _ _ q⟩) q⟩) q⟩) q
  run := PE.imp (pe_dget2 (by omega) ho.run he.run hf.run m) fun σ H Q ⟨env, P, fp, T, r, rep, pots, q⟩ => by
    refine ⟨env, P, fp, T, (c₂ + c₃) + r, rep, by rw [← Nat.add_assoc]; exact pots, ho.mono _ _ _ (fun d1 p1 ⟨kds, z1, z2, h1⟩ => ?_) q⟩
    intro v1 H1 P1 e1 pots1 f1
    subst z1
    obtain ⟨a, kvs, F, G, rfl, k1, k2, k3, k4, rfl, pk⟩ := f1.dit_inv
    refine ⟨a, rfl, .inr ⟨kvs, k1⟩, env, P1, fp, T, c₃ + r, rep.evo e1, by rw [← Nat.add_assoc]; exact pots1, he.mono _ _ _ (fun d2 p2 ⟨ks, z3, h2⟩ => ?_) h1⟩
    intro v2 H2 P2 e2 pots2 ⟨F2, dv2, pk2⟩
    subst z3
    refine ⟨env, P2, fp, T, r, (rep.evo e1).evo e2, pots2, hf.mono _ _ _ (fun d3 p3 ⟨z4, h3⟩ => ?_) h2⟩
    intro v3 H3 P3 e3 pots3 ⟨F3, dv3, pk3⟩
    obtain ⟨b, rfl, h5, h6, rfl⟩ := (dv2.evo e3).key
    have e23 := e2.trans e3
    have k4' := k4.evo e23
    refine ⟨valV kvs ks, .inr ⟨kvs, ks, b, Rd.evo e23 k1 k2 nt_dT, rfl, h5, rfl⟩, ?_⟩
    have him : ∀ {d : D} {v : V} {F : List Addr}, DV X.K P3 H3 d v F → d.imm = true → Fin X.K fp env H d .fresh v H3 P3 := fun dv hi => Fin.imm dv hi
    rcases lk_dvs (k := ks) k3 k4' with ⟨y1, y2⟩ | ⟨d', u, G3, y1, y2, y3, y4⟩
    · rw [y2]
      rw [y1] at h3
      exact h3 _ H3 P3 (e1.trans e23) pots3 (him dv3 z4)
    · rw [y2]
      rw [y1] at h3
      exact h3 _ H3 P3 (e1.trans e23) pots3 (him y3 (immAll_iff.mp z2 _ (lk_mem y1)))
/-- list(d) -/
def oListT : OpA := oArg1 fun d _ Q => ∃ kds, d = .dit kds ∧ Q (.lst (kds.map fun kd => keyT kd.1)) .fresh
theorem pots_tup {n : Nat} {P : List Addr} {H : Hp} (p : Pots n P H) {a : Addr} {xs : List V} (h : H a = some (HO.tup xs)) : a ∉ P := fun ha => by
  obtain ⟨x, y, c, h1, _⟩ := p.2 a ha
  rw [h] at h1; cases h1
theorem dvs_keysT {K : PySem.W.Frag} {P : List Addr} {H : Hp} (hP : ∀ a xs, H a = some (.tup xs) → a ∉ P) : ∀ {kvs : List (List Key × V)} {qs : List Addr} {ks : List (List Key)}, kvs.map (·.1) = ks → Paired (fun (kv : List Key × V) (q : Addr) => H q = some (.tup (kv.1.map kV))) kvs qs → DVs K P H (ks.map keyT) (qs.map V.ref) []
  | [], [], _, rfl, .nil => .nil
  | kv :: kvs, q :: qs, _, rfl, .cons h t => .cons (F := []) (dv_key h (hP _ _ h)) (dvs_keysT hP rfl t)
theorem immAll_keys (ks : List (List Key)) : immAll (ks.map keyT) = true := by
  rw [immAll_iff]
  intro d hd
  obtain ⟨k, _, rfl⟩ := List.mem_map.mp hd
  exact imm_key k
theorem ve_listT {p : Pos} {t : VT} (hc : X.calm = true) (h : VE X R c e t) (hm : X.mg "list" = none) (hg : Gl X "list" := by rfl) (he : starEach (e :: []) X.env = (false, eval e X.env) :: starEach [] X.env := by rfl) (hpl : (backTo pos (starEach [] X.env)).any (·.1) = false := by rfl) :
    VE X R c (.Call (.Name "list" p) [e] [] pos) (vB oListT (vCons t vNil)) where
  mono := fun env Q Q' hq q => h.mono _ _ _ (fun d p ⟨d', p', e1, kds, e2, q⟩ => ⟨d', p', e1, kds, e2, hq _ _ q⟩) q
  run := PE.imp (pe_callTy (call_listT hc) hg hm (by decide +kernel) (vl_cons h vl_nil he).run (by decide) (by decide) he hpl) fun σ H Q ⟨env, P, fp, T, r, rep, pots, q⟩ => by
    refine ⟨env, P, fp, T, r, rep, by simpa using pots, h.mono _ _ _ (fun d1 p1 ⟨d', p', z1, kds, z2, h1⟩ => ?_) q⟩
    intro vs H1 P1 e1 pots1 fa
    simp only [List.cons.injEq, Prod.mk.injEq, and_true] at z1
    obtain ⟨rfl, rfl⟩ := z1
    subst z2
    obtain ⟨v, rfl, f1⟩ := fa.one
    obtain ⟨a, kvs, F, G, rfl, k1, k2, k3, k4, rfl, pk⟩ := f1.dit_inv
    refine ⟨a, kvs, rfl, k1, fun l qs hl hq => ?_⟩
    have hlP : l ∉ P1 := fun z => pots1.some l z hl
    have dvs := dvs_keysT (K := X.K) (P := P1) (H := H1) (fun b xs hb => pots_tup pots1 hb) k3 hq
    rw [List.map_map] at dvs
    exact h1 _ _ P1 (e1.trans (Evo.upd hl)) (pots1.updN hl) ⟨[l], .lst upd_same hlP (dvs.evoU hl), nodup1 _, fun x hx => by rw [List.mem_singleton] at hx; subst hx; exact ⟨e1.fresh hl, _, upd_same, trivial⟩⟩
end
/-! ### an own slot's object rewritten -/
section
variable {K : PySem.W.Frag} {R : RC} {env : Env} {σ : L2.St} {H : Hp} {P : List Addr} {fp : Nat → List Addr} {T : Tmp}
theorem Rep.rewrite {i : Nat} {a : Addr} {u o' : HO} {d d' : D} {F' : List Addr} (r : Rep K R env σ H P fp T) (hi : env[i]? = some (some (Fl.own, d))) (hv : σ[i]? = some (some (.ref a))) (hF : fp i = [a]) (ha : H a = some u) (mu : MutO u)
    (hd : DV K P (L2.upd H a o') d' (.ref a) F') (hF' : F' = [] ∨ (F' = [a] ∧ MutO o')) : Rep K R (putE env i d') σ (L2.upd H a o') P (fun j => if j = i then F' else fp j) T := by
  have haF : a ∈ fp i := by rw [hF]; simp
  obtain ⟨nd, own⟩ := r.own i _ hi
  have a0 : R.H0 a = none := (own a haF).1
  have NTB := MutO.ntb ha mu
  have off : ∀ j e, j ≠ i → env[j]? = some (some (Fl.own, e)) → a ∉ fp j := fun j e hj h z => r.dis i j _ _ (Ne.symm hj) hi h a haF z
  have sub : ∀ b ∈ F', b = a := fun b hb => by
    rcases hF' with h | ⟨h, _⟩
    · rw [h] at hb; cases hb
    · rw [h] at hb; simpa using hb
  have mF : ∀ b ∈ F', MutO o' := fun b hb => by
    rcases hF' with h | ⟨_, h⟩
    · rw [h] at hb; cases hb
    · exact h
  refine ⟨?_, ?_, fun p hp => tabS_upd (r.tab p hp) NTB.1 NTB.2, fun j f e h => ?_, fun j e h => ?_, fun j k e e' hjk h1 h2 => ?_, fun j e h => ?_, fun t ht => ?_, fun t ht j e h => ?_, fun t ht hx => ?_, r.tdj⟩
  · simp [putE, killE, r.len]
  · exact r.base.out a0 NTB
  · rcases put_get h with ⟨rfl, rfl, rfl⟩ | ⟨hj, h, hf⟩
    · exact ⟨_, hv, by simp only [if_pos]; exact hd⟩
    · obtain ⟨v, h1, h2⟩ := r.slot j f e h
      refine ⟨v, h1, ?_⟩
      simp only [if_neg hj]
      refine h2.mut ha mu fun z => ?_
      cases f with
      | own => exact off j _ hj h z
      | lck => exact r.lck j e h a z a0
      | bor => exact hf rfl
  · rcases put_get h with ⟨rfl, _, rfl⟩ | ⟨hj, h, hf⟩
    · simp only [if_pos]
      refine ⟨?_, fun b hb => ?_⟩
      · rcases hF' with h | ⟨h, _⟩ <;> rw [h]
        · exact List.nodup_nil
        · exact nodup1 _
      · rw [sub b hb]
        exact ⟨a0, _, upd_same, mF b hb⟩
    · simp only [if_neg hj]
      exact ⟨(r.own j e h).1, fun b hb => ⟨((r.own j e h).2 b hb).1, ((r.own j e h).2 b hb).2.upd fun z => off j e hj h (by rw [← z]; exact hb)⟩⟩
  · rcases put_get h1 with ⟨e1, _, _⟩ | ⟨hj, g1, _⟩
    · rcases put_get h2 with ⟨e2, _, _⟩ | ⟨hk, g2, _⟩
      · exact absurd (e1.trans e2.symm) hjk
      · simp only [if_pos e1, if_neg hk]
        exact fun b hb hm => off k e' hk g2 (by rw [← sub b hb]; exact hm)
    · rcases put_get h2 with ⟨e2, _, _⟩ | ⟨hk, g2, _⟩
      · simp only [if_pos e2, if_neg hj]
        exact fun b hb hm => off j e hj g1 (by rw [← sub b hm]; exact hb)
      · simp only [if_neg hj, if_neg hk]
        exact r.dis j k e e' hjk g1 g2
  · rcases put_get h with ⟨_, z, _⟩ | ⟨hj, h, _⟩
    · cases z
    · simp only [if_neg hj]
      exact r.lck j e h
  · exact (r.tmp t ht).mut ha mu fun z => r.tds t ht i _ hi a haF z
  · rcases put_get h with ⟨rfl, _, _⟩ | ⟨hj, h, _⟩
    · simp only [if_pos]
      exact fun b hb hm => r.tds t ht j _ hi a haF (by rw [← sub b hb]; exact hm)
    · simp only [if_neg hj]
      exact r.tds t ht j e h
  · exact ⟨(r.tex t ht hx).1, fun b hb => ⟨((r.tex t ht hx).2 b hb).1, ((r.tex t ht hx).2 b hb).2.upd fun z => r.tds t ht i _ hi a haF (by rw [← z]; exact hb)⟩⟩
/-- an own slot's thing is walked: the slot is not used -/
theorem Rep.holdOwn {i : Nat} {d : D} {v : V} (r : Rep K R env σ H P fp T) (hi : env[i]? = some (some (Fl.own, d))) (dv : DV K P H d v (fp i)) : Rep K R (env.set i none) σ H P fp (⟨d, v, fp i, false⟩ :: T) := by
  have l := r.lose i
  refine ⟨l.len, l.base, l.tab, l.slot, l.own, l.dis, l.lck, fun u hu => ?_, fun u hu j e hj => ?_, fun u hu hx => ?_, ?_⟩
  · rcases List.mem_cons.mp hu with rfl | hu
    · exact dv
    · exact l.tmp u hu
  · rcases List.mem_cons.mp hu with rfl | hu
    · obtain ⟨hj1, hj2⟩ := set_none_get hj
      exact r.dis j i _ _ hj2 hj1 hi
    · exact l.tds u hu j e hj
  · rcases List.mem_cons.mp hu with rfl | hu
    · cases hx
    · exact l.tex u hu hx
  · refine List.pairwise_cons.mpr ⟨fun u hu hx a ha hm => ?_, l.tdj⟩
    exact r.tds u hu i _ hi a ha hm
theorem Rep.dit {i : Nat} {kds : List (List Key × D)} (r : Rep K R env σ H P fp T) (hi : env[i]? = some (some (Fl.own, .dit kds))) (him : immAll (kds.map (·.2)) = true) :
    ∃ a kvs, σ[i]? = some (some (.ref a)) ∧ fp i = [a] ∧ H a = some (.dT kvs) ∧ a ∉ P ∧ kvs.map (·.1) = kds.map (·.1) ∧ DVs K P H (kds.map (·.2)) (kvs.map (·.2)) [] := by
  obtain ⟨v, h1, dv⟩ := r.slot i _ _ hi
  obtain ⟨nd, own⟩ := r.own i _ hi
  generalize hF : fp i = F at dv own
  cases dv with
  | dit h n e hs =>
    have z := hs.imm_nil him
    subst z
    refine ⟨_, _, h1, rfl, ?_, n, e, hs⟩
    rcases h with h | ⟨o, h⟩
    · exact h
    · obtain ⟨u, hu, mu⟩ := (own _ (List.mem_cons_self)).2
      rw [h] at hu
      cases hu
      exact False.elim mu
end

theorem keys_put {κ α β : Type} [DecidableEq κ] {kvs : List (κ × α)} {kds : List (κ × β)} (e : kvs.map (·.1) = kds.map (·.1)) (k : κ) (v : α) (d : β) : (putL kvs k v).map (·.1) = (putL kds k d).map (·.1) := by
  have h : (kvs.any fun kv => decide (kv.1 = k)) = (kds.any fun kv => decide (kv.1 = k)) := by
    have := congrArg (fun l : List κ => l.any fun x => decide (x = k)) e
    simpa [List.any_map, Function.comp_def] using this
  have m : ∀ {γ : Type} (l : List (κ × γ)) (x : γ), (l.map fun kv => if kv.1 = k then (kv.1, x) else kv).map (·.1) = l.map (·.1) := fun l x => by
    rw [List.map_map]
    refine List.map_congr_left fun p _ => ?_
    show (if p.1 = k then (p.1, x) else p).1 = p.1
    split <;> rfl
  unfold putL
  rw [h]
  split
  · rw [m, m]; exact e
  · rw [List.map_append, List.map_append, e]; rfl
theorem vals_repl {K : PySem.W.Frag} {P : List Addr} {H : Hp} {κ : Type} [DecidableEq κ] {k : κ} {v : V} {d : D} (dv : DV K P H d v []) : ∀ {kvs : List (κ × V)} {kds : List (κ × D)}, kvs.map (·.1) = kds.map (·.1) → immAll (kds.map (·.2)) = true → DVs K P H (kds.map (·.2)) (kvs.map (·.2)) [] →
    DVs K P H ((kds.map fun kv => if kv.1 = k then (kv.1, d) else kv).map (·.2)) ((kvs.map fun kv => if kv.1 = k then (kv.1, v) else kv).map (·.2)) []
  | [], [], _, _, h => h
  | q :: qs, p :: ps, e, hi, h => by
    simp only [List.map_cons, List.cons.injEq] at e
    simp only [List.map_cons, immAll, Bool.and_eq_true] at hi
    generalize hF : ([] : List Addr) = F at h
    cases h with
    | @cons _ _ _ _ F G h hs =>
      have e1 := h.imm_nil hi.1
      have e2 := hs.imm_nil hi.2
      subst e1 e2
      have r := vals_repl (k := k) dv e.2 hi.2 hs
      by_cases z : p.1 = k
      · have z2 : q.1 = k := e.1.trans z
        simp only [List.map_cons, if_pos z, if_pos z2]
        exact .cons (F := []) dv r
      · have z2 : ¬ q.1 = k := fun y => z (e.1.symm.trans y)
        simp only [List.map_cons, if_neg z, if_neg z2]
        exact .cons (F := []) h r
  | [], _ :: _, e, _, _ => by simp at e
  | _ :: _, [], e, _, _ => by simp at e
theorem vals_put {K : PySem.W.Frag} {P : List Addr} {H : Hp} {κ : Type} [DecidableEq κ] {k : κ} {v : V} {d : D} (dv : DV K P H d v []) {kvs : List (κ × V)} {kds : List (κ × D)} (e : kvs.map (·.1) = kds.map (·.1)) (hi : immAll (kds.map (·.2)) = true) (h : DVs K P H (kds.map (·.2)) (kvs.map (·.2)) []) :
    DVs K P H ((putL kds k d).map (·.2)) ((putL kvs k v).map (·.2)) [] := by
  have h2 : (kvs.any fun kv => decide (kv.1 = k)) = (kds.any fun kv => decide (kv.1 = k)) := by
    have := congrArg (fun l : List κ => l.any fun x => decide (x = k)) e
    simpa [List.any_map, Function.comp_def] using this
  unfold putL
  rw [h2]
  split
  · exact vals_repl dv e hi h
  · rw [List.map_append, List.map_append]
    exact h.append (.cons (F := []) (G := []) dv .nil)
theorem imm_put {κ : Type} [DecidableEq κ] {k : κ} {d : D} {kds : List (κ × D)} (hi : immAll (kds.map (·.2)) = true) (hd : d.imm = true) : immAll ((putL kds k d).map (·.2)) = true := by
  rw [immAll_iff] at *
  intro x hx
  obtain ⟨p, hp, rfl⟩ := List.mem_map.mp hx
  unfold putL at hp
  split at hp
  · obtain ⟨q, hq, rfl⟩ := List.mem_map.mp hp
    split
    · exact hd
    · exact hi _ (List.mem_map_of_mem hq)
  · rcases List.mem_append.mp hp with h | h
    · exact hi _ (List.mem_map_of_mem h)
    · rw [List.mem_singleton.mp h]; exact hd
theorem mergeT_putL {κ α : Type} [DecidableEq κ] (kvs more : List (κ × α)) : mergeT kvs more = more.foldl (fun acc kv => putL acc kv.1 kv.2) kvs := rfl
theorem merge_rel {K : PySem.W.Frag} {P : List Addr} {H : Hp} {κ : Type} [DecidableEq κ] : ∀ {more : List (κ × V)} {mds : List (κ × D)} {kvs : List (κ × V)} {kds : List (κ × D)}, more.map (·.1) = mds.map (·.1) → immAll (mds.map (·.2)) = true → DVs K P H (mds.map (·.2)) (more.map (·.2)) [] →
    kvs.map (·.1) = kds.map (·.1) → immAll (kds.map (·.2)) = true → DVs K P H (kds.map (·.2)) (kvs.map (·.2)) [] →
    (mergeT kvs more).map (·.1) = (mergeT kds mds).map (·.1) ∧ immAll ((mergeT kds mds).map (·.2)) = true ∧ DVs K P H ((mergeT kds mds).map (·.2)) ((mergeT kvs more).map (·.2)) []
  | [], [], _, _, _, _, _, e, i, h => ⟨e, i, h⟩
  | q :: qs, p :: ps, kvs, kds, e1, i1, h1, e, i, h => by
    simp only [List.map_cons, List.cons.injEq] at e1
    simp only [List.map_cons, immAll, Bool.and_eq_true] at i1
    generalize hF : ([] : List Addr) = F at h1
    cases h1 with
    | @cons _ _ _ _ F G h1 hs =>
      have z1 := h1.imm_nil i1.1
      have z2 := hs.imm_nil i1.2
      subst z1 z2
      have := merge_rel e1.2 i1.2 hs (kvs := putL kvs q.1 q.2) (kds := putL kds p.1 p.2) (by rw [e1.1]; exact keys_put e _ _ _) (imm_put i i1.1) (by rw [e1.1]; exact vals_put h1 e i h)
      rw [mergeT_putL, mergeT_putL, List.foldl_cons, List.foldl_cons, ← mergeT_putL, ← mergeT_putL]
      exact this
  | [], _ :: _, _, _, e, _, _, _, _, _ => by simp at e
  | _ :: _, [], _, _, e, _, _, _, _, _ => by simp at e
/-! ### d[k] = e -/
section
variable {X : Cx} {R : RC} {pos : Pos} {e o ix : Expr} {te tk : VT} {c₁ c₂ c : Nat}
theorem putK_eq (kvs : List (List Key × V)) (k : List Key) (v : V) : putK kvs k v = putL kvs k v := rfl
def vDPut (i : Nat) (te tk : VT) : VTS := fun k env => te env fun d _ => d.imm = true ∧ ∃ kds, env[i]? = some (some (Fl.own, .dit kds)) ∧ immAll (kds.map (·.2)) = true ∧ kds.length < SZ ∧ tk env fun e _ => ∃ ks, e = keyT ks ∧ k.nx (putE env i (.dit (putL kds ks d)))
theorem vs_dput (i : Nat) {x : Str} {p1 p2 : Pos} (hu : X.A.units + 64 < cLine) (he : VE X R c₁ e te) (hk : VE X R c₂ ix tk) (hN : X.N[i]? = some x := by rfl) (hv : Vis X.env.scope x := by first | exact Or.inl rfl | exact Or.inr (Or.inl rfl) | exact Or.inr (Or.inr rfl)) (hd : (x == ("__debug__" : Str)) = false := by decide)
    (hcd : (x == ("__classdict__" : Str)) = false := by decide) (hs : swapsWith e (some (.Subscript (.Name x p1) ix p2)) pos.line X.env = pure false := by rfl) : VS X R (c₁ + c₂) (.Assign [.Subscript (.Name x p1) ix p2] e pos) (vDPut i te tk) where
  mono := fun k k' hk' env q => he.mono _ _ _ (fun d p ⟨h1, kds, h2, h3, h4, q⟩ => ⟨h1, kds, h2, h3, h4, hk.mono _ _ _ (fun d2 p2 ⟨ks, h5, q⟩ => ⟨ks, h5, hk'.nx _ q⟩) q⟩) q
  run := PS.imp (ps_dput (by omega) (pe_var hN hv hd hcd) hk.run he.run hs) fun Dn σ H ⟨env, P, fp, T, r, k, rep, pots, q, gd⟩ => by
    refine ⟨env, P, fp, T, c₂ + r, rep, by rw [← Nat.add_assoc]; exact pots, he.mono _ _ _ (fun d pr ⟨z1, kds, hi, z2, z3, q⟩ => ?_) q⟩
    intro v H1 P1 e1 pots1 ⟨F, dv, pk⟩
    have rep1 := rep.evo e1
    obtain ⟨a, kvs, s1, _, _, _, _, _⟩ := rep1.dit hi z2
    refine ⟨_, s1, env, P1, fp, T, r, rep1, pots1, hk.mono _ _ _ (fun d2 p2 ⟨ks, z5, hnx⟩ => ?_) q⟩
    intro v2 H2 P2 e2 pots2 ⟨F2, dv2, pk2⟩
    subst z5
    obtain ⟨b, rfl, k1, k2, rfl⟩ := dv2.key
    have rep2 := rep1.evo e2
    obtain ⟨a', kvs, s1', s2, s3, s4, s5, s6⟩ := rep2.dit hi z2
    rw [s1] at s1'
    simp only [Option.some.injEq, V.ref.injEq] at s1'
    subst s1'
    have l : kvs.length = kds.length := by simpa using congrArg List.length s5
    have dv0 : DV X.K P2 H2 d v [] := by
      have := dv.evo e2
      rw [this.imm_nil z1] at this
      exact this
    have ng : a ∉ ([] : List Addr) := fun z => by cases z
    refine ⟨a, L2.upd H2 a (.dT (putL kvs ks v)), rfl, .inr ⟨kvs, ks, b, s3, rfl, k1, sz_lt (by omega), rfl⟩, gd.nx _ _ _ _ _ (rep2.rewrite hi s1 s2 s3 trivial (.dit (.inl upd_same) s4 (keys_put s5 ks v d) ((vals_put dv0 s5 z2 s6).mut s3 trivial ng)) (.inr ⟨rfl, trivial⟩)) (pots2.upd s4) hnx⟩
/-- d.update(e) -/
def vDUpd (i j : Nat) : VTS := fun k env => ∃ kds mds f, i ≠ j ∧ env[i]? = some (some (Fl.own, .dit kds)) ∧ immAll (kds.map (·.2)) = true ∧ kds ≠ [] ∧ env[j]? = some (some (f, .dit mds)) ∧ f ≠ .bor ∧ immAll (mds.map (·.2)) = true ∧ kds.length + mds.length ≤ SZ ∧ k.nx (putE env i (.dit (mergeT kds mds)))
theorem vs_dupd (i j : Nat) {x y : Str} {p1 p2 apos cpos spos : Pos} (hu : X.A.units + 64 < cLine) (hN : X.N[i]? = some x := by rfl) (hv : Vis X.env.scope x := by first | exact Or.inl rfl | exact Or.inr (Or.inl rfl) | exact Or.inr (Or.inr rfl)) (hd : (x == ("__debug__" : Str)) = false := by decide)
    (hcd : (x == ("__classdict__" : Str)) = false := by decide) (hN2 : X.N[j]? = some y := by rfl) (hv2 : Vis X.env.scope y := by first | exact Or.inl rfl | exact Or.inr (Or.inl rfl) | exact Or.inr (Or.inr rfl)) (hd2 : (y == ("__debug__" : Str)) = false := by decide)
    (hcd2 : (y == ("__classdict__" : Str)) = false := by decide) (hs : swapsWith (.Call (.Attribute (.Name x p1) "update" apos) [.Name y p2] [] cpos) none spos.line X.env = pure false := by rfl)
    (hbase : attributeBase (.Name x p1) "update" X.env (eval (.Name x p1) X.env) = eval (.Name x p1) X.env := by rfl)
    (hfew : ((backTo cpos (starEach ((.Name y p2) :: []) X.env)).all (fun x => !x.1) && (backToKw cpos (keywordEach [] X.env)).all (fun x => x.1.isSome) && decide (((.Name y p2) :: [] : List Expr).length + ([] : List Keyword).length + (if ([] : List Keyword).isEmpty then 0 else 1) < 30)) = true := by rfl)
    (hline : (apos.endLine == cpos.line) = true := by rfl) (hst : starEach ((.Name y p2) :: []) X.env = (false, eval (.Name y p2) X.env) :: starEach [] X.env := by rfl) (hpl : (backTo cpos (starEach [] X.env)).any (·.1) = false := by rfl) :
    VS X R 0 (.Expr (.Call (.Attribute (.Name x p1) "update" apos) [.Name y p2] [] cpos) spos) (vDUpd i j) where
  mono := fun k k' hk env ⟨kds, mds, f, h0, h1, h2, h3, h4, h5, h6, h7, q⟩ => ⟨kds, mds, f, h0, h1, h2, h3, h4, h5, h6, h7, hk.nx _ q⟩
  run := PS.imp (ps_expr (pe_bm PySem.F.plainAttrs_dict PySem.F.slot_dict_update PySem.F.type_dict_update (mt_updT hu) (pe_var hN hv hd hcd) (pa_cons (pe_var hN2 hv2 hd2 hcd2) pa_nil hst) hbase hfew hline hst hpl) hs) fun Dn σ H ⟨env, P, fp, T, r, k, rep, pots, ⟨kds, mds, f, h0, h1, h2, h3, h4, h5, h6, h7, q⟩, gd⟩ => by
    obtain ⟨a, kvs, s1, s2, s3, s4, s5, s6⟩ := rep.dit h1 h2
    obtain ⟨v, t1, dv⟩ := rep.slot j _ _ h4
    generalize hF : fp j = F at dv
    cases dv with
    | @dit b more _ G m1 m2 m3 m4 =>
      have e := m4.imm_nil h6
      subst e
      have hab : a ≠ b := fun z => by
        have ha : a ∈ fp i := by rw [s2]; simp
        have hb : a ∈ fp j := by rw [hF, z]; simp
        cases f with
        | own => exact rep.dis i j _ _ h0 h1 h4 a ha hb
        | lck => exact rep.lck j _ h4 a hb ((rep.own i _ h1).2 a ha).1
        | bor => exact h5 rfl
      have l : kvs.length = kds.length := by simpa using congrArg List.length s5
      have l2 : more.length = mds.length := by simpa using congrArg List.length m3
      obtain ⟨r1, r2, r3⟩ := merge_rel m3 h6 m4 s5 h2 s6
      have ng : a ∉ ([] : List Addr) := fun z => by cases z
      exact ⟨_, s1, .inr (.inr (.inl ⟨rfl, .inr ⟨kvs, s3⟩⟩)), _, t1, a, b, kvs, more, rfl, rfl, hab, s3, m1, fun z => h3 (by rw [z] at l; exact List.length_eq_zero_iff.mp l.symm), sz_of (by omega),
        gd.nx _ _ _ _ _ (rep.rewrite h1 s1 s2 s3 trivial (.dit (.inl upd_same) s4 r1 (r3.mut s3 trivial ng)) (.inr ⟨rfl, trivial⟩)) ((pots.le (by omega)).upd s4) q⟩
/-! ### loops over an own slot's thing -/
variable {tg iter : Expr} {u : VIt} {g : VGt} {t : VTS} {is : List Nat} {ci cb : Nat} {body : List Stmt}
/-- what follows the start of a loop whose source is held -/
theorem loop_run {Y : Nat → Hp → V → Hp → Prop} {G : Hp → Prop} {J : It} {n : Nat} (wk : Walk J n G Y) {items : List D} {tm : Tm} {T : Tmp} {r : Nat} {k : VK} {Dn : Ends} (hb : VSs X R cb body t) (hg : VG X R is tg g) (hn : items.length = n)
    (gd : Good X.K R T r k Dn) (σ1 : L2.St) (H1 : Hp) (env1 : Env) (P1 : List Addr) (fp1 : Nat → List Addr) (rep1 : Rep X.K R env1 σ1 H1 P1 fp1 (tm :: T)) (pots1 : Pots (n * cb + r) P1 H1)
    (hG : ∀ P H, DV X.K P H tm.d tm.v tm.F → G H)
    (hY : ∀ i P H x H', i < n → DV X.K P H tm.d tm.v tm.F → (∀ a xs, H a = some (HO.tup xs) → a ∉ P) → (∀ a ∈ P, H a ≠ none) → Y i H x H' → Same H H' ∧ ∃ d F, items[i]? = some d ∧ DV X.K P H' d x F)
    (I : Nat → Env → Prop) (h0 : I 0 env1) (hs : ∀ i d e1, items[i]? = some d → I i e1 → g (d, .any) e1 (t { nx := I (i + 1), ct := I (i + 1), bk := k.nx, rt := k.rt, ex := k.ex })) (hd : ∀ e1, I items.length e1 → k.nx e1) :
    ∃ W : Nat → Nat → L2.St → Hp → Prop, (∃ m, W 0 m σ1 H1) ∧ ∀ i m σ H, W i m σ H →
      (J.stop i H ∧ Dn.nx σ H) ∨ (J.go i H ∧ ∃ N : L2.St → Hp → Prop, (∀ σ' H', N σ' H' → ∃ m', m' < m ∧ W (i + 1) m' σ' H') ∧ ∀ x H', J.yld i H x H' → liftG X.K R is g x σ H' fun σ2 H2 => liftS X.K R cb t { Dn with nx := N, ct := N, bk := Dn.nx } σ2 H2) := by
  subst hn
  refine for_it wk (g := liftG X.K R is g) (tb := liftS X.K R cb t) (fun i σ' H' => i ≤ items.length ∧ ∃ env' P' fp', Rep X.K R env' σ' H' P' fp' (tm :: T) ∧ Pots ((items.length - i) * cb + r) P' H' ∧ I i env') ?_ ?_ ?_ ?_
  · exact ⟨Nat.zero_le _, env1, P1, fp1, rep1, by simpa using pots1, h0⟩
  · rintro i σ' H' _ ⟨_, env', P', fp', rep', _, _⟩
    exact hG P' H' (rep'.tmp tm (by simp))
  · rintro i x σ' H' H2 hlt ⟨_, env', P', fp', rep', pots', hI⟩ y
    obtain ⟨ey0, d, Fd, hdi, dvx⟩ := hY i P' H' x H2 hlt (rep'.tmp tm (by simp)) (fun a xs h => pots_tup pots' h) pots'.some y
    refine ⟨env', P', fp', tm :: T, (d, .any), Fd, rep'.evo (Evo.same ey0), dvx, trivial, hg.mono _ _ _ _ (fun e2 q2 => ?_) (hs i d env' hdi hI)⟩
    intro σ2 fp2 _ rep2
    refine ⟨e2, P', fp2, tm :: T, (items.length - (i + 1)) * cb + r, _, rep2, ?_, q2, fun e3 σ3 H3 P3 fp3 rep3 pots3 h3 => ⟨hlt, e3, P3, fp3, rep3, pots3, h3⟩, fun e3 σ3 H3 P3 fp3 rep3 pots3 h3 => ?_, fun e3 σ3 H3 P3 fp3 rep3 pots3 h3 => ⟨hlt, e3, P3, fp3, rep3, pots3, h3⟩, fun d v H3 P3 ok pots3 h3 => ?_, fun x d w dx σ3 H3 P3 h1 h2 h3 h4 h5 h6 p q => gd.ex x d w dx σ3 H3 P3 h1 h2 h3 h4 h5 h6 (p.le (by omega)) q⟩
    · rw [mul_le hlt]; exact pots'.same ey0
    · exact gd.nx _ _ _ _ _ (Rep.drop (ts := [tm]) rep3) (pots3.le (by omega)) h3
    · exact gd.rt d v H3 P3 ok (pots3.le (by omega)) h3
  · rintro σ' H' ⟨_, env', P', fp', rep', pots', hI⟩
    exact gd.nx _ _ _ _ _ (Rep.drop (ts := [tm]) rep') (pots'.le (by omega)) (hd _ hI)
/-- a loop over the own slot i's list or tuple; behind it the slot is not known -/
def vForO (i : Nat) (u : VIt) (g : VGt) (t : VTS) : VTS := fun k env => u env fun items srcs => items.length ≤ SZ ∧ ∃ d, srcs = [(d, .all i)] ∧ env[i]? = some (some (Fl.own, d)) ∧ ∃ I : Nat → Env → Prop, I 0 (env.set i none) ∧
  (∀ j d e1, items[j]? = some d → I j e1 → g (d, .any) e1 (t { nx := I (j + 1), ct := I (j + 1), bk := k.nx, rt := k.rt, ex := k.ex })) ∧ ∀ e1, I items.length e1 → k.nx e1
theorem vs_forO (i : Nat) (hp : PassesOwn (model X.prog X.w) X.A X.env X.xe) (hc : X.calm = true) (hi : VI X R ci tg iter u) (hg : VG X R is tg g) (hb : VSs X R cb body t) (hf : ∀ x, foldedSetIterable iter X.env x = pure x := by intro _; rfl) :
    VS X R (ci + SZ * cb) (.For tg iter body [] pos) (vForO i u g t) where
  mono := fun k k' hk env q => hi.mono _ _ _ (fun items srcs ⟨h1, d, e1, e2, I, h3, h4, h5⟩ => ⟨h1, d, e1, e2, I, h3, fun i d e1 hd hI => hg.mono _ _ (t { nx := I (i + 1), ct := I (i + 1), bk := k.nx, rt := k.rt, ex := k.ex }) _ (fun e2 q => hb.mono { nx := I (i + 1), ct := I (i + 1), bk := k.nx, rt := k.rt, ex := k.ex } { nx := I (i + 1), ct := I (i + 1), bk := k'.nx, rt := k'.rt, ex := k'.ex } ⟨fun _ h => h, hk.rt, hk.nx, fun _ h => h, hk.ex⟩ _ q) (h4 i d e1 hd hI), fun e1 h => hk.nx _ (h5 e1 h)⟩) q
  run := PS.imp (ps_for hp hc hi.run hg.run hb.run hf) fun Dn σ H ⟨env, P, fp, T, r, k, rep, pots, q, gd⟩ => by
    refine ⟨env, P, fp, T, SZ * cb + r, rep, by rw [← Nat.add_assoc]; exact pots, hi.mono _ _ _ (fun items srcs ⟨hsz, d, es, ei, I, hI0, hIs, hId⟩ => ?_) q⟩
    intro J H1 P1 ts e1 pots1 hts hsrc hnd wk
    subst es
    have et : ∃ tm, ts = [tm] ∧ tm.d = d ∧ tm.F = fp i := by
      cases ts with
      | nil => exact hsrc.elim
      | cons t0 ts =>
        obtain ⟨s1, s2, s3, s4⟩ := hsrc
        cases ts with
        | nil => exact ⟨t0, rfl, s1, s2.2⟩
        | cons _ _ => exact s4.elim
    obtain ⟨tm, rfl, ed, eF⟩ := et
    have dv := hts tm (by simp)
    have ex : tm.ex = false := hsrc.2.2.1
    obtain ⟨td, tv, tF, tx⟩ := tm
    dsimp only at ed eF ex dv
    subst ed eF ex
    have rep1 := (rep.evo e1).holdOwn ei dv
    refine loop_run wk hb hg rfl gd σ H1 _ P1 fp rep1 (pots1.le (Nat.add_le_add_right (Nat.mul_le_mul_right _ hsz) _)) (fun P' H' h => ⟨P', fun t ht => ?_⟩) (fun j P' H' x H'' hj h h1 h2 y => y P' h2 fun t ht => ?_) I hI0 hIs hId
    · rw [List.mem_singleton.mp ht]; exact h
    · rw [List.mem_singleton.mp ht]; exact h
/-- a loop over d.items(), d the own slot i's dict; behind it the slot is not known -/
def vForIt (i : Nat) (g : VGt) (t : VTS) : VTS := fun k env => ∃ kds, env[i]? = some (some (Fl.own, .dit kds)) ∧ immAll (kds.map (·.2)) = true ∧ kds.length ≤ SZ ∧ ∃ I : Nat → Env → Prop, I 0 ((killE env).set i none) ∧
  (∀ j kd e1, kds[j]? = some kd → I j e1 → g (.tup [keyT kd.1, kd.2], .any) e1 (t { nx := I (j + 1), ct := I (j + 1), bk := k.nx, rt := k.rt, ex := k.ex })) ∧ ∀ e1, I kds.length e1 → k.nx e1
theorem walk_itemsT {d : Addr} {o : Obj} {kvs : List (List Key × V)} : Walk (Itit d o kvs) kvs.length (fun H => H d = some (.frz o (.dT kvs)))
    (fun i H x H' => ∃ T k v q, kvs[i]? = some (k, v) ∧ x = .ref T ∧ H T = none ∧ H q = some (.tup (k.map kV)) ∧ H' = upd H T (.tup [.ref q, v])) :=
  ⟨fun _ _ hi q => ⟨q, hi⟩, fun _ q => ⟨q, Nat.le_refl _⟩, fun _ _ _ _ _ _ y => y⟩
theorem vs_forIt (i : Nat) {x : Str} {p1 apos cpos tpos : Pos} {elts : List Expr} {kk : Nat} (hp : PassesOwn (model X.prog X.w) X.A X.env X.xe) (hc : X.calm = true) (hg : VG X R is (.Tuple elts kk tpos) g) (hb : VSs X R cb body t) (hN : X.N[i]? = some x := by rfl) (hv : Vis X.env.scope x := by first | exact Or.inl rfl | exact Or.inr (Or.inl rfl) | exact Or.inr (Or.inr rfl)) (hd : (x == ("__debug__" : Str)) = false := by decide)
    (hcd : (x == ("__classdict__" : Str)) = false := by decide) (hbase : attributeBase (.Name x p1) "items" X.env (eval (.Name x p1) X.env) = eval (.Name x p1) X.env := by rfl) (hline : (apos.endLine == cpos.line) = true := by rfl)
    (hf : ∀ z, foldedSetIterable (.Call (.Attribute (.Name x p1) "items" apos) [] [] cpos) X.env z = pure z := by intro _; rfl) :
    VS X R (SZ * cb) (.For (.Tuple elts kk tpos) (.Call (.Attribute (.Name x p1) "items" apos) [] [] cpos) body [] pos) (vForIt i g t) where
  mono := fun k k' hk env ⟨kds, h1, h2, h3, I, h4, h5, h6⟩ => ⟨kds, h1, h2, h3, I, h4, fun i d e1 hd hI => hg.mono _ _ (t { nx := I (i + 1), ct := I (i + 1), bk := k.nx, rt := k.rt, ex := k.ex }) _ (fun e2 q => hb.mono { nx := I (i + 1), ct := I (i + 1), bk := k.nx, rt := k.rt, ex := k.ex } { nx := I (i + 1), ct := I (i + 1), bk := k'.nx, rt := k'.rt, ex := k'.ex } ⟨fun _ h => h, hk.rt, hk.nx, fun _ h => h, hk.ex⟩ _ q) (h5 i d e1 hd hI), fun e1 h => hk.nx _ (h6 e1 h)⟩
  run := PS.imp (ps_frz (ps_for hp hc (pi_itemsT (pe_var hN hv hd hcd) hbase hline) hg.run hb.run hf)) fun Dn σ H ⟨env, P, fp, T, r, k, rep, pots, ⟨kds, hi, him, hsz, I, hI0, hIs, hId⟩, gd⟩ => by
    obtain ⟨a, kvs, s1, s2, s3, s4, s5, s6⟩ := rep.dit hi him
    refine ⟨a, .dT kvs, s3, trivial, fun od => ⟨_, s1, a, od, kvs, rfl, upd_same, ?_⟩⟩
    have ng : a ∉ ([] : List Addr) := fun z => by cases z
    have l : kvs.length = kds.length := by simpa using congrArg List.length s5
    have dv1 : DV X.K P (L2.upd H a (.frz od (.dT kvs))) (.rdi od kvs kds) (.ref a) [] := .rdi upd_same s4 s5 (s6.mut s3 trivial ng)
    have rep1 := rep.rewrite hi s1 s2 s3 trivial dv1 (.inl rfl)
    have hlt : i < env.length := (List.getElem?_eq_some_iff.mp hi).1
    have ei : (putE env i (.rdi od kvs kds))[i]? = some (some (Fl.own, .rdi od kvs kds)) := by
      unfold putE
      rw [List.getElem?_set_self (by simpa [killE] using hlt)]
    have rep2 := rep1.holdOwn ei (v := .ref a) (by simpa using dv1)
    have ee : (putE env i (.rdi od kvs kds)).set i none = (killE env).set i none := by unfold putE; rw [List.set_set]
    rw [ee] at rep2
    simp only [if_pos] at rep2
    refine loop_run (walk_itemsT (d := a) (o := od) (kvs := kvs)) (items := kds.map fun kd => .tup [keyT kd.1, kd.2]) (tm := ⟨.rdi od kvs kds, .ref a, [], false⟩) hb hg (by simp [l]) gd σ _ _ P _ rep2 ((pots.upd s4).le (Nat.add_le_add_right (Nat.mul_le_mul_right _ (by omega)) _)) (fun P' H' h => ?_) (fun j P' H' x H'' hj h h1 h2 y => ?_) I hI0 (fun j d e1 hj h => ?_) (fun e1 h => hId e1 (by simpa using h))
    · cases h with
      | rdi h _ _ _ => exact h
    · cases h with
      | rdi h n e hs =>
        obtain ⟨A, k0, v0, q, y1, rfl, y3, y4, rfl⟩ := y
        have hj2 : j < kds.length := by omega
        have g1 : (kvs.map (·.2))[j]? = some v0 := by rw [List.getElem?_map, y1]; rfl
        obtain ⟨dd, G', q1, q2, _⟩ := hs.get g1
        rw [List.getElem?_map, List.getElem?_eq_getElem hj2] at q1
        have q1 : (kds[j]'hj2).2 = dd := by simpa using q1
        have k1 : (kds[j]'hj2).1 = k0 := by
          have := congrArg (fun l : List (List Key) => l[j]?) e
          simp only [List.getElem?_map, y1, List.getElem?_eq_getElem hj2, Option.map_some, Option.some.injEq] at this
          exact this.symm
        refine ⟨same_upd y3, .tup [keyT (kds[j]'hj2).1, (kds[j]'hj2).2], _, by rw [List.getElem?_map, List.getElem?_eq_getElem hj2]; rfl, .tup ⟨upd_same, fun hP => h2 A hP y3⟩ (.cons ((dv_key (by rw [k1]; exact y4) (h1 q _ y4)).evoU y3) (.cons (by rw [q1]; exact q2.evoU y3) .nil))⟩
    · rw [List.getElem?_map] at hj
      obtain ⟨kd, hk, rfl⟩ := Option.map_eq_some_iff.mp hj
      exact hIs j kd e1 hk h
end
end VS

namespace VS
open PySem PySem.Spec PyProof.Rows L2
section
variable {X : Cx} {R : RC} {pos : Pos}
/-- x = y, y not used again: the own thing moves -/
def vMv (i j : Nat) : VTS := fun k env => ∃ d, env[j]? = some (some (Fl.own, d)) ∧ i < env.length ∧ k.nx (stE (env.set j none) i d .fresh)
theorem vs_mv (i j : Nat) {x y : Str} {p1 p2 : Pos} (hNd : X.N.Nodup) (hi : X.N[i]? = some x := by rfl) (hx : Loc X.env.scope x := by first | exact Or.inl rfl | exact Or.inr rfl) (hj : X.N[j]? = some y := by rfl) (hv : Vis X.env.scope y := by first | exact Or.inl rfl | exact Or.inr (Or.inl rfl) | exact Or.inr (Or.inr rfl)) (hd : (y == ("__debug__" : Str)) = false := by decide)
    (hcd : (y == ("__classdict__" : Str)) = false := by decide) (hs : swapsWith (.Name y p2) (some (.Name x p1)) pos.line X.env = pure false := by rfl) (hf : X.fn x = true ∨ X.env.scope.names.lookup x = some .local := by first | exact .inl rfl | exact .inr rfl | assumption) :
    VS X R 0 (.Assign [.Name x p1] (.Name y p2) pos) (vMv i j) where
  mono := fun k k' hk env ⟨d, h1, h2, q⟩ => ⟨d, h1, h2, hk.nx _ q⟩
  run := PS.imp (ps_set hNd hi hx (pe_var hj hv hd hcd) hs hf) fun Dn σ H ⟨env, P, fp, T, r, k, rep, pots, ⟨d, h1, h2, q⟩, gd⟩ => by
    obtain ⟨v, s1, dv⟩ := rep.slot j _ _ h1
    refine ⟨v, s1, ?_⟩
    have ex : PIn R (env.set j none) H fp T (fp j) .fresh := ⟨(rep.own j d h1).1, fun a ha => ⟨((rep.own j d h1).2 a ha).1, ((rep.own j d h1).2 a ha).2, fun l e hl hm => by
      obtain ⟨hl1, hl2⟩ := set_none_get hl
      exact rep.dis j l _ _ (Ne.symm hl2) h1 hl1 a ha hm, fun t ht hm => rep.tds t ht j d h1 a ha hm⟩⟩
    exact gd.nx _ _ _ _ _ ((rep.lose j).store (p := .fresh) (by simpa using h2) dv ex) (pots.le (by omega)) q
end
@[simp] theorem vMv_eq {i j : Nat} {k : VK} {env : Env} : vMv i j k env = ∃ d, env[j]? = some (some (Fl.own, d)) ∧ i < env.length ∧ k.nx (stE (env.set j none) i d .fresh) := rfl
end VS

set_option maxHeartbeats 400000
/-! tuples read from behind; sorted(set(..)) -/
namespace VS
open PySem PySem.Spec PyProof.Rows L2
theorem back_adjust (n : Nat) : Builtin.Slice.sliceAdjust none none (-1) (n : Int) = ((n : Int) - 1, -1) := by
  simp [Builtin.Slice.sliceAdjust]
theorem back_places (n : Nat) : Builtin.Slice.slicePlaces ((n : Int) - 1) (-1) (-1) = n := by
  unfold Builtin.Slice.slicePlaces
  simp
  split <;> omega
theorem back_pick (xs : Array Value) : ((List.range xs.size).filterMap fun (m : Nat) => xs[(((xs.size : Int) - 1) + (m : Int) * (-1)).toNat]?).toArray = xs.toList.reverse.toArray := by
  congr 1
  have e : (fun (m : Nat) => xs[(((xs.size : Int) - 1) + (m : Int) * (-1)).toNat]?) = fun m => if m < xs.size then xs.toList.reverse[m]? else xs[0]? := by
    funext m
    by_cases h : m < xs.size
    · rw [if_pos h, List.getElem?_reverse (by simpa using h)]
      have : (((xs.size : Int) - 1) + (m : Int) * (-1)).toNat = xs.toList.length - 1 - m := by rw [Array.length_toList]; omega
      rw [this]
      simp
    · rw [if_neg h]
      have : (((xs.size : Int) - 1) + (m : Int) * (-1)).toNat = 0 := by omega
      rw [this]
  have e2 : (List.range xs.size).filterMap (fun (m : Nat) => xs[(((xs.size : Int) - 1) + (m : Int) * (-1)).toNat]?) = (List.range xs.toList.reverse.length).filterMap fun m => xs.toList.reverse[m]? := by
    rw [e, List.length_reverse, Array.length_toList]
    have aux : ∀ l : List Nat, (∀ m ∈ l, m < xs.size) → l.filterMap (fun m => if m < xs.size then xs.toList.reverse[m]? else xs[0]?) = l.filterMap fun m => xs.toList.reverse[m]? := by
      intro l
      induction l with
      | nil => intro _; rfl
      | cons m l ih =>
        intro hm
        rw [List.filterMap_cons, List.filterMap_cons, if_pos (hm m (by simp)), ih fun x hx => hm x (by simp [hx])]
    exact aux _ fun m hm => List.mem_range.mp hm
  rw [e2]
  generalize xs.toList.reverse = l
  induction l with
  | nil => rfl
  | cons x l ih =>
    rw [List.length_cons, List.range_succ_eq_map, List.filterMap_cons]
    simp only [List.getElem?_cons_zero, List.filterMap_map]
    congr 1
section
variable {prog : Program} {w : World} {A : Around} {E : Value → Shared → Prop} {s : Shared}
theorem sliceApplied_back {sl : Addr} {vl vu vs : Value} {n : Nat} {Q : Int × Int × Nat → Shared → Prop} (slc : s.heap.IsSliceOf sl vl vu vs) (pl : IsPart vl none) (pu : IsPart vu none) (ps : IsPart vs (some (-1))) (h : Q ((n : Int) - 1, -1, n) s) :
    wpAny (model prog w) A (Builtin.Slice.sliceApplied (.ref sl) (pure (n : Int))) Q E s := by
  obtain ⟨ob, ho, kl, fl⟩ := slc
  unfold Builtin.Slice.sliceApplied Builtin.Slice.sliceFields
  refine wpAny_bind (wpAny_bind (wpAny_field ho fl (x := vl) rfl (wpAny_bind (wpAny_field ho fl (x := vu) rfl (wpAny_bind (wpAny_field ho fl (x := vs) rfl (wpAny_pure ?_)))))))
  refine wpAny_bind (HT.slicePart_ ps ?_)
  show wpAny _ _ (if ((-1 : Int) == 0) = true then _ else _) _ _ s
  rw [if_neg (by decide)]
  refine wpAny_bind (HT.slicePart_ pl (wpAny_bind (HT.slicePart_ pu (wpAny_bind (wpAny_pure ?_)))))
  show wpAny _ _ (match Builtin.Slice.sliceAdjust none none (-1) (n : Int) with | (lo, hi) => pure (lo, (-1 : Int), Builtin.Slice.slicePlaces lo hi (-1))) _ _ s
  rw [back_adjust]
  show wpAny _ _ (pure ((n : Int) - 1, (-1 : Int), Builtin.Slice.slicePlaces ((n : Int) - 1) (-1) (-1))) _ _ s
  rw [back_places]
  exact wpAny_pure h
theorem getItem_tuple_back {t sl : Addr} {items : Array Value} {vl vu vs : Value} {Q : Value → Shared → Prop} (tup : IsTup s.heap t items) (slc : s.heap.IsSliceOf sl vl vu vs) (pl : IsPart vl none) (pu : IsPart vu none) (ps : IsPart vs (some (-1)))
    (fits : items.size ≤ sizeLine) (h : Q (.ref s.heap.objs.size) { s with heap := s.heap.push { cls := .type "tuple", data := .seq items.toList.reverse.toArray } }) : wpAny (model prog w) A (getItem (.ref t) (.ref sl)) Q E s := by
  have room : sizeOk (.seq items.toList.reverse.toArray) := by
    show items.toList.reverse.toArray.size ≤ sizeLine
    rw [List.size_toArray, List.length_reverse, Array.length_toList]
    exact fits
  have slc' := slc
  obtain ⟨ob, ho, kl, fl⟩ := slc'
  have isSl : s.TypeIs (.ref sl) "slice" := ⟨ob, ho, kl⟩
  unfold getItem
  try with_reducible refine wpAny_holding ?_
  first | refine wpAny_bind (wpAny_pure ?_) | skip
  refine wpAny_bind (wpAny_sequenceKey tup.typeIs (by decide) (wpAny_bind (wpAny_callSpecial?_slot (name := Str.ofString "__getitem__") tup.typeIs PyProof.Rows.slot_tuple_getitem (wpAny_call_entry PyProof.Rows.slot_tuple_getitem tup.typeIs entry_tuple_getitem ?_ (args_tuple_getitem _ _)))))
  show wpAny _ _ (Builtin.Tuple.tupleItemsOf (.ref t) >>= _) _ _ s
  refine wpAny_bind (tupleItemsOf_ tup (wpAny_bind (wpAny_typeOf isSl ?_)))
  rw [if_pos (by decide)]
  refine wpAny_bind (sliceApplied_back slc pl pu ps ?_)
  show wpAny _ _ (if (((items.size : Int) - 1) == 0 && (-1 : Int) == 1 && items.size == items.size) = true then _ else _) _ _ s
  rw [if_neg (by simp)]
  rw [back_pick]
  first
    | exact wpAny_bind (m := Builtin.Tuple.tupleExact _) (wpAny_newObj_type (wpAny_pure ⟨_, rfl, wpAny_pure h⟩) room)
    | exact wpAny_bind (wpAny_bind (m := Builtin.Tuple.tupleExact _) (wpAny_newObj_type (wpAny_pure (wpAny_pure ⟨_, rfl, wpAny_pure h⟩)) room))
    | exact wpAny_bind (wpAny_bind (m := Builtin.Tuple.tupleExact _) (wpAny_newObj_type (wpAny_pure ⟨_, rfl, wpAny_pure h⟩) room))
end
/-- e[::-1], a list or a tuple -/
def tBack (K : PySem.W.Frag) (te : TE) : TE := fun σ H Q => te σ H fun x H1 => ∃ a xs, x = .ref a ∧ ((SqL K H1 a xs ∧ ∀ p, H1 p = none → Q (.ref p) (upd H1 p (.lst xs.reverse))) ∨ (SqT K H1 a xs ∧ ∀ p, H1 p = none → Q (.ref p) (upd H1 p (.tup xs.reverse))))
section
variable {X : Cx} {R : RC} {c : Nat} {e : Expr} {t : VT} {pos p1 p2 p3 : Pos} {k : Nat}
theorem pe_back {te : TE} (he : PE X e te) : PE X (.Subscript e (.Slice none none (some (.UnaryOp .USub (.Constant (.int 1) k p1) p2)) p3) pos) (tBack X.K te) := by
  refine ⟨fun pins s σ H Q I h => ?_⟩
  refine Subscript_ (thn (he.run pins s σ H _ I h) fun v s1 ⟨x, H1, I1, r1, a, xs, ex, q⟩ => ?_)
  subst ex
  cases r1
  have minus : PO X (some (.UnaryOp .USub (.Constant (.int 1) k p1) p2)) (tPart (tUn (rU fun i => .int (-i)) (tC (.int 1)))) := po_some (pe_un un_neg pe_int)
  refine wpAny_Slice (thn (po_none.run pins s1 σ H1 (fun o H2 => o = none ∧ H2 = H1) I1 ⟨rfl, rfl⟩) fun w1 s2 ⟨o1, H2, I2, g1, e1, e1'⟩ => ?_)
  subst e1 e1'
  refine thn (po_none.run pins s2 σ H2 (fun o H3 => o = none ∧ H3 = H2) I2 ⟨rfl, rfl⟩) fun w2 s3 ⟨o2, H3, I3, g2, e2, e2'⟩ => ?_
  subst e2 e2'
  refine thn (minus.run pins s3 σ H3 (fun o H4 => o = some (-1) ∧ H4 = H3) I3 ⟨1, rfl, -1, rfl, rfl, rfl⟩) fun w3 s4 ⟨o3, H4, I4, g3, e3, e3'⟩ => ?_
  subst e3 e3'
  have J : Inv X pins σ H4 { s4 with heap := s4.heap.push { cls := .type "slice", data := .fields #[w1, w2, w3] } } := I4.kept (t' := s4.toks) fun _ _ z => Heap.get?_push_of_some _ z
  show wpAny (model X.prog X.w) X.A (subscriptTail e (.Slice none none (some (.UnaryOp .USub (.Constant (.int 1) k p1) p2)) p3) (.ref a) (.ref s4.heap.objs.size)) (EP X pins σ Q) X.xe { s4 with heap := s4.heap.push { cls := .type "slice", data := .fields #[w1, w2, w3] } }
  rcases q with ⟨hx, q⟩ | ⟨hx, q⟩
  · obtain ⟨its, rel, li, hz⟩ := J.list hx
    have hl := rel.length
    refine tail_any (ops := [.ref a, .ref s4.heap.objs.size]) li.isList.typeIs (PySem.slot_list_getitem.lookup) (wpAny_getItem_list_slice li.isList (Heap.IsSliceOf.new _ w1 w2 w3) g1 g2 g3 (by decide) ?_ (by rw [List.size_toArray]; omega)) (by with_unfolding_all rfl)
    rw [PySem.W.krv_pick]
    refine ⟨.ref _, _, J.laid (t' := s4.toks) (o := .lst xs.reverse) (fun _ _ z => Heap.get?_push_of_some _ z) (Nat.le_refl _) ?_, rfl, q _ (J.hok.fresh (Nat.le_refl _))⟩
    exact ⟨by rw [List.length_reverse]; exact hz, _, 0, rel.reverse, Heap.get?_push_size _ rfl⟩
  · obtain ⟨its, rel, ti, hz⟩ := J.tuple hx
    have hl := rel.length
    refine tail_any (ops := [.ref a, .ref s4.heap.objs.size]) ti.typeIs PyProof.Rows.slot_tuple_getitem.lookup (getItem_tuple_back ti (Heap.IsSliceOf.new _ w1 w2 w3) g1 g2 g3 (by rw [List.size_toArray]; omega) ?_) (by with_unfolding_all rfl)
    refine ⟨.ref _, _, J.laid (t' := s4.toks) (o := .tup xs.reverse) (fun _ _ z => Heap.get?_push_of_some _ z) (Nat.le_refl _) ?_, rfl, q _ (J.hok.fresh (Nat.le_refl _))⟩
    exact ⟨by rw [List.length_reverse]; exact hz, _, rel.reverse, ⟨_, Heap.get?_push_size _ rfl, rfl, 0, rfl⟩⟩
theorem DVs.rev {K : PySem.W.Frag} {P : List Addr} {H : Hp} : ∀ {ds : List D} {vs : List V} {F : List Addr}, DVs K P H ds vs F → ∃ G, DVs K P H ds.reverse vs.reverse G
  | _, _, _, .nil => ⟨[], .nil⟩
  | _, _, _, .cons h hs => by
    obtain ⟨G, g⟩ := DVs.rev hs
    rw [List.reverse_cons, List.reverse_cons]
    exact ⟨_, g.append (.cons h .nil)⟩
theorem immAll_rev {ds : List D} (h : immAll ds = true) : immAll ds.reverse = true := immAll_iff.mpr fun d hd => immAll_iff.mp h d (List.mem_reverse.mp hd)
def vBack (t : VT) : VT := fun env Q => t env fun d _ => ∃ ds, immAll ds = true ∧ (((d = .lst ds ∨ d = .rol ds) ∧ Q (.lst ds.reverse) .fresh) ∨ (d = .tup ds ∧ Q (.tup ds.reverse) .fresh))
theorem ve_back (h : VE X R c e t) : VE X R c (.Subscript e (.Slice none none (some (.UnaryOp .USub (.Constant (.int 1) k p1) p2)) p3) pos) (vBack t) where
  mono := fun env Q Q' hq q => h.mono _ _ _ (fun d p ⟨ds, im, q⟩ => ⟨ds, im, q.imp (fun q => ⟨q.1, hq _ _ q.2⟩) fun q => ⟨q.1, hq _ _ q.2⟩⟩) q
  run := PE.imp (pe_back h.run) fun σ H Q ⟨env, P, fp, T, r, rep, pots, q⟩ => by
    refine ⟨env, P, fp, T, r, rep, pots, h.mono _ _ _ (fun d p ⟨ds, im, q⟩ => ?_) q⟩
    intro v H1 P1 e1 pots1 ⟨F, dv, _⟩
    rcases q with ⟨hd, q⟩ | ⟨rfl, q⟩
    · have sq : ∃ a vs G, v = .ref a ∧ SqL X.K H1 a vs ∧ DVs X.K P1 H1 ds vs G := by
        rcases hd with rfl | rfl
        · obtain ⟨a, vs, G, rfl, ha, _, dvs, _⟩ := dv.lst_inv
          exact ⟨a, vs, G, rfl, SqL.of ha, dvs⟩
        · obtain ⟨a, vs, rfl, ha, dvs⟩ := dv.rol_inv
          exact ⟨a, vs, _, rfl, ha, dvs⟩
      obtain ⟨a, vs, G, rfl, ha, dvs⟩ := sq
      refine ⟨a, vs, rfl, .inl ⟨ha, fun p hp => ?_⟩⟩
      have np : p ∉ P1 := fun z => pots1.some p z hp
      obtain ⟨G', g⟩ := (dvs.evoU (o := .lst vs.reverse) hp).rev
      have e0 := g.imm_nil (immAll_rev im)
      subst e0
      exact q _ _ P1 (e1.trans (Evo.upd hp)) (pots1.updN hp) ⟨[p], .lst upd_same np g, by simp, fun a ha => by
        have : a = p := by simpa using ha
        subst this
        exact ⟨e1.fresh hp, _, upd_same, trivial⟩⟩
    · obtain ⟨a, vs, rfl, ha, dvs⟩ := dv.tup_inv
      refine ⟨a, vs, rfl, .inr ⟨ha, fun p hp => ?_⟩⟩
      have np : p ∉ P1 := fun z => pots1.some p z hp
      obtain ⟨G', g⟩ := (dvs.evoU (o := .tup vs.reverse) hp).rev
      have e0 := g.imm_nil (immAll_rev im)
      subst e0
      exact q _ _ P1 (e1.trans (Evo.upd hp)) (pots1.updN hp) (Fin.imm (.tup ⟨upd_same, np⟩ g) (by simpa [D.imm] using immAll_rev im))
end
/-! ### sorted(set(a tuple of ints)) -/
section
variable {X : Cx} {R : RC} {c : Nat} {e : Expr} {t : VT} {pos pos2 p p2 : Pos}
def rSetT (K : PySem.W.Frag) (w : World) : List V → Hp → L2.VK → Prop := fun vs H Q => ∃ (a : Addr) (ns : List Int), vs = [V.ref a] ∧ SqT K H a (ns.map V.int) ∧ ns.length < 64 ∧ ∀ (q : Addr) (n : Nat), H q = none → n ≤ ns.length → Q (.ref q) (upd H q (SetO w q (fun j => decide (j ∈ ns)) n))
theorem cr_setT (hc : X.calm = true) : CallR X (.type "set") (rSetT X.K X.w) := by
  intro pins s σ H vs us Q I r h
  obtain ⟨a, ns, rfl, ha, hl, q⟩ := h
  rw [Vals.ref1 r]
  obtain ⟨its, rv, ti, _⟩ := I.tuple ha
  refine call_set_tupI ns (I.ok.hd hc) (show s.heap.IsTuple a its.toArray from ti) (ints_of_vals rv) (by unfold scanBound; omega) fun h' tk n R1 hn k => ?_
  exact ⟨.ref _, _, I.laid (t' := tk) k (Nat.le_refl _) (setO_new R1), rfl, q _ n (I.hok.fresh (Nat.le_refl _)) hn⟩
def vSortSet (t : VT) : VT := fun env Q => t env fun d _ => ∃ ns : List Int, d = .tup (ns.map D.int) ∧ ns.length < 64 ∧ ∀ ms : List Int, ms.Pairwise (· < ·) → (∀ k, k ∈ ms ↔ k ∈ ns) → Q (.lst (ms.map D.int)) .fresh
theorem dvs_mk {K : PySem.W.Frag} {P : List Addr} {H : Hp} : ∀ ns : List Int, DVs K P H (ns.map D.int) (ns.map V.int) []
  | [] => .nil
  | n :: ns => .cons (F := []) (.int n) (dvs_mk ns)
theorem ve_sortSet (hc : X.calm = true) (h : VE X R c e t) (hm : X.mg "sorted" = none) (hm2 : X.mg "set" = none) (hg : Gl X "sorted" := by rfl) (hg2 : Gl X "set" := by rfl)
    (he : starEach [e] X.env = (false, eval e X.env) :: starEach [] X.env := by rfl) (hpl : (backTo pos2 (starEach [] X.env)).any (·.1) = false := by rfl)
    (he2 : starEach [.Call (.Name "set" p2) [e] [] pos2] X.env = (false, eval (.Call (.Name "set" p2) [e] [] pos2) X.env) :: starEach [] X.env := by rfl) (hpl2 : (backTo pos (starEach [] X.env)).any (·.1) = false := by rfl) :
    VE X R c (.Call (.Name "sorted" p) [.Call (.Name "set" p2) [e] [] pos2] [] pos) (vSortSet t) where
  mono := fun env Q Q' hq q => h.mono _ _ _ (fun d p ⟨ns, e, hl, q⟩ => ⟨ns, e, hl, fun ms h1 h2 => hq _ _ (q ms h1 h2)⟩) q
  run := PE.imp (pe_callB (id := "sorted") (cr_sortedSet hc) hg hm (by decide +kernel) (pa_cons (pe_callTy (T := "set") (cr_setT hc) hg2 hm2 (by decide +kernel) (pa_cons h.run pa_nil he) (he := he) (hpl := hpl)) pa_nil he2) (he := he2) (hpl := hpl2)) fun σ H Q ⟨env, P, fp, T, r, rep, pots, q⟩ => by
    refine ⟨env, P, fp, T, r, rep, pots, h.mono _ _ _ (fun d p ⟨ns, ed, hl, q⟩ => ?_) q⟩
    intro v H1 P1 e1 pots1 ⟨F, dv, _⟩
    subst ed
    obtain ⟨a, vs, rfl, ha, dvs⟩ := dv.tup_inv
    obtain rfl := dvs_ints (F := []) dvs
    refine ⟨a, ns, rfl, ha, hl, fun y n hy hn => ?_⟩
    refine ⟨y, _, n, rfl, upd_same, by omega, fun ms z hs hk _ hz => ?_⟩
    have e2 : Evo R.T P P1 H (upd (upd H1 y (SetO X.w y (fun j => decide (j ∈ ns)) n)) z (.lst (ms.map V.int))) := (e1.trans (Evo.upd hy)).trans (Evo.upd hz)
    have p2 := (pots1.updN (o := SetO X.w y (fun j => decide (j ∈ ns)) n) hy).updN (o := .lst (ms.map V.int)) hz
    have nz : z ∉ P1 := fun q => (pots1.updN (o := SetO X.w y (fun j => decide (j ∈ ns)) n) hy).some z q hz
    refine q ms hs (fun k => by rw [hk k]; simp) _ _ P1 e2 p2 ⟨[z], .lst upd_same nz (dvs_mk ms), by simp, fun b hb => ?_⟩
    have : b = z := by simpa using hb
    subst this
    exact ⟨(e1.trans (Evo.upd hy)).fresh hz, _, upd_same, trivial⟩
end
end VS

/-! expressions that only read: the keys of sorted -/
namespace VS
open PySem PySem.Spec PyProof.Rows L2 LamX
/-- nothing but a heap that has grown -/
def Grow (s s' : Shared) : Prop := ∃ h' tk, s' = { s with heap := h', toks := tk } ∧ ∀ b o, s.heap.get? b = some o → h'.get? b = some o
theorem Grow.refl (s : Shared) : Grow s s := ⟨s.heap, s.toks, rfl, fun _ _ h => h⟩
theorem Grow.tok (s : Shared) (t : Nat) : Grow s { s with toks := t } := ⟨s.heap, t, rfl, fun _ _ h => h⟩
theorem Grow.trans {a b c : Shared} (x : Grow a b) (y : Grow b c) : Grow a c := by
  obtain ⟨h1, t1, rfl, k1⟩ := x
  obtain ⟨h2, t2, rfl, k2⟩ := y
  exact ⟨h2, t2, rfl, fun d o e => k2 d o (k1 d o e)⟩
theorem Grow.keep {a b : Shared} (x : Grow a b) : ∀ d o, a.heap.get? d = some o → b.heap.get? d = some o := by
  obtain ⟨h1, t1, rfl, k1⟩ := x
  exact k1
/-- what is known within the key's frame -/
structure KSt (P : Program) (w : World) (K : PySem.W.Frag) (env : PySem.Env) (N : List Str) (σ : L2.St) (H : Hp) (s : Shared) : Prop where
  kind : env.scope.kind = .function
  kin : K.In s.heap
  loc : ∃ m, s.heap.Ns env.locals m ∧ ∀ (i : Nat) (x : Str) (v : V), N[i]? = some x → σ[i]? = some (some v) → Vis env.scope x → ∃ u, RelV v u ∧ Look env s.heap m x u
  hok : HOk P w H s.heap
section
variable {P : Program} {w : World} {K : PySem.W.Frag} {A : Around} {env : PySem.Env} {N : List Str} {σ : L2.St} {H : Hp} {s s' : Shared}
theorem KSt.grow (J : KSt P w K env N σ H s) (g : Grow s s') : KSt P w K env N σ H s' := by
  refine ⟨J.kind, fun a o e => g.keep a o (J.kin a o e), ?_, J.hok.kept g.keep⟩
  obtain ⟨m, ⟨o, es, ep, ho, hr⟩, hl⟩ := J.loc
  refine ⟨m, ⟨o, es, ep, g.keep _ _ ho, hr⟩, fun i x v h1 h2 h3 => ?_⟩
  obtain ⟨u, r, l⟩ := hl i x v h1 h2 h3
  exact ⟨u, r, l.imp id fun ⟨k, c, hc, hcell⟩ => ⟨k, c, hc, hcell.keeps g.keep⟩⟩
theorem KSt.list {a : Addr} {xs : List V} (J : KSt P w K env N σ H s) (h : SqL K H a xs) : ∃ its : List Value, Vals xs its ∧ PlainL s.heap a its.toArray ∧ xs.length ≤ sizeLine := by
  rcases h with h | ⟨o, its, n, e, e1, e2, e3, e4, r⟩
  · obtain ⟨z, its, n, r, q⟩ := h.ok J.hok
    exact ⟨its, r, ⟨_, n, q, rfl, rfl, rfl⟩, z⟩
  · exact ⟨its.toList, r, ⟨o, n, J.kin a o e, e1, e2, by simpa using e3⟩, by rw [r.length, Array.length_toList]; assumption⟩
theorem KSt.tuple {a : Addr} {xs : List V} (J : KSt P w K env N σ H s) (h : SqT K H a xs) : ∃ its : List Value, Vals xs its ∧ IsTup s.heap a its.toArray ∧ xs.length ≤ sizeLine := by
  rcases h with h | ⟨o, its, n, e, e1, e2, e4, r⟩
  · obtain ⟨z, its, r, q⟩ := h.ok J.hok
    exact ⟨its, r, q, z⟩
  · exact ⟨its.toList, r, ⟨o, J.kin a o e, e1, n, by simpa using e2⟩, by rw [r.length, Array.length_toList]; assumption⟩
end
/-- what such an expression leaves -/
def KP (P : Program) (w : World) (K : PySem.W.Frag) (env : PySem.Env) (N : List Str) (σ : L2.St) (H : Hp) (s : Shared) (Q : V → Hp → Prop) (u : Value) (s' : Shared) : Prop :=
  Grow s s' ∧ ∃ v H', KSt P w K env N σ H' s' ∧ Same H H' ∧ RelV v u ∧ Q v H'
structure PEk (P : Program) (w : World) (K : PySem.W.Frag) (A : Around) (env : PySem.Env) (N : List Str) (e : Expr) (t : TE) : Prop where
  run : ∀ (s : Shared) (σ : L2.St) (H : Hp) (Q : L2.VK) (E : Value → Shared → Prop), KSt P w K env N σ H s → t σ H Q → wpAny (model P w) A (eval e env) (KP P w K env N σ H s Q) E s
section
variable {P : Program} {w : World} {K : PySem.W.Frag} {A : Around} {env : PySem.Env} {N : List Str} {a b e : Expr} {ta tb : TE} {pos : Pos}
theorem pek_var {i : Nat} {x : Str} (hN : N[i]? = some x) (hv : Vis env.scope x) (hd : (x == ("__debug__" : Str)) = false := by decide) (hcd : (x == ("__classdict__" : Str)) = false := by decide) : PEk P w K A env N (.Name x pos) (tVar i) := by
  refine ⟨fun s σ H Q E J ⟨v, e, q⟩ => ?_⟩
  obtain ⟨m, hn, hl⟩ := J.loc
  obtain ⟨u, r, look⟩ := hl i x v hN e hv
  have fin : KP P w K env N σ H s Q u s := ⟨Grow.refl s, v, H, J, Same.refl H, r, q⟩
  rcases look with ⟨hk, hm⟩ | ⟨hk | hk, c, hc, hcell⟩
  · exact wpAny_Name (wpAny_loadName_local J.kind hk hn hm fin) hd
  · exact wpAny_Name (wpAny_loadName_cell J.kind hk hc hcell fin) hd
  · exact wpAny_Name (wpAny_loadName_free J.kind hk hc hcell fin hcd) hd
theorem pek_int {i : Int} {j} : PEk P w K A env N (.Constant (.int i) j pos) (tC (.int i)) :=
  ⟨fun s σ H Q E J q => wpAny_Constant_int ⟨Grow.tok s _, .int i, H, J.grow (Grow.tok s _), Same.refl H, ⟨_, rfl⟩, q⟩⟩
def rIxK (K : PySem.W.Frag) : R2 := fun x y H Q => ∃ p xs i v, x = V.ref p ∧ y = .int i ∧ atI xs i = some v ∧ (SqT K H p xs ∨ (SqL K H p xs ∧ 0 ≤ i)) ∧ Q v H
theorem bink (ha : PEk P w K A env N a ta) (hb : PEk P w K A env N b tb) {s : Shared} {σ : L2.St} {H : Hp} {R : V → V → Hp → Prop} {Q : Value → Shared → Prop} {E : Value → Shared → Prop} {f : Value → Value → Sem Value} (J : KSt P w K env N σ H s) (h : ta σ H fun x H1 => tb σ H1 fun y H2 => R x y H2)
    (hf : ∀ v u s2 x y H2, KSt P w K env N σ H2 s2 → Grow s s2 → Same H H2 → RelV x v → RelV y u → R x y H2 → wpAny (model P w) A (f v u) Q E s2) :
    wpAny (model P w) A (eval a env) (fun v s₁ => wpAny (model P w) A (eval b env) (fun u s₂ => wpAny (model P w) A (f v u) Q E s₂) E s₁) E s :=
  wpAny_mono (ha.run s σ H _ E J h) (fun v s1 ⟨g1, x, H1, J1, sm1, r1, q1⟩ => wpAny_mono (hb.run s1 σ H1 _ E J1 q1) (fun u s2 ⟨g2, y, H2, J2, sm2, r2, q2⟩ => hf v u s2 x y H2 J2 (g1.trans g2) (fun c o z => sm2 c o (sm1 c o z)) r1 r2 q2) fun _ _ z => z) fun _ _ z => z
theorem pek_ix (ha : PEk P w K A env N a ta) (hb : PEk P w K A env N b tb) (hs : PlainIx b) : PEk P w K A env N (.Subscript a b pos) (tOp (rIxK K) ta tb) := by
  refine ⟨fun s σ H Q E J h => Subscript_ (bink ha hb J h fun v u s2 x y H2 J2 g sm rx ry q => ?_)⟩
  obtain ⟨p, xs, i, z, rfl, rfl, he, hq, q⟩ := q
  cases rx
  obtain ⟨t, rfl⟩ := ry
  obtain ⟨j, h1, h2, h3, h4, h5⟩ := atI_get he
  have big := line63
  rcases hq with hq | ⟨hq, h0⟩
  · obtain ⟨its, r, tup, hz⟩ := J2.tuple hq
    obtain ⟨val, ev, rv⟩ := r.get h2
    have hl := r.length
    have fin : KP P w K env N σ H s Q val s2 := ⟨g, z, H2, J2, sm, rv, q⟩
    refine subscriptTail_builtinR (x := val) tup.typeIs slot_tuple_getitem.lookup (getItem_tuple (j := j) (Q := fun r s' => r = val ∧ KP P w K env N σ H s Q r s') tup (by omega) (by omega) ?_ (by simpa using ev) ⟨rfl, fin⟩) (hs _ _)
    rw [List.size_toArray, ← hl]
    exact h1
  · obtain ⟨its, r, li, hz⟩ := J2.list hq
    obtain ⟨val, ev, rv⟩ := r.get h2
    have fin : KP P w K env N σ H s Q val s2 := ⟨g, z, H2, J2, sm, rv, q⟩
    have hj : i.toNat = j := by
      rw [seqIndex_of h0 h5] at h1
      exact Option.some.inj h1
    exact item_listR li.isList h0 (by omega) (by rw [hj]; simpa using ev) fin (hs _ _)
theorem pek_neg (ha : PEk P w K A env N a ta) : PEk P w K A env N (.UnaryOp .USub a pos) (tUn (rU fun i => .int (-i)) ta) := by
  refine ⟨fun s σ H Q E J h => UnaryOp_ (wpAny_mono (ha.run s σ H _ E J h) (fun v s1 ⟨g1, x, H1, J1, sm1, r1, q1⟩ => ?_) fun _ _ z => z)⟩
  obtain ⟨i, rfl, q⟩ := q1
  obtain ⟨t, rfl⟩ := r1
  exact neg_int ⟨g1.trans (Grow.tok s1 _), .int (-i), H1, J1.grow (Grow.tok s1 _), sm1, ⟨_, rfl⟩, q⟩
theorem pek_sub (ha : PEk P w K A env N a ta) (hb : PEk P w K A env N b tb) : PEk P w K A env N (.BinOp a .Sub b pos) (tOp (rI0 fun i j => .int (i - j)) ta tb) := by
  refine ⟨fun s σ H Q E J h => wpAny_BinOp (bink ha hb J h fun v u s2 x y H2 J2 g sm rx ry q => ?_)⟩
  obtain ⟨i, j, rfl, rfl, q⟩ := q
  obtain ⟨t, rfl⟩ := rx
  obtain ⟨t', rfl⟩ := ry
  exact sub_int ⟨g.trans (Grow.tok s2 _), .int (i - j), H2, J2.grow (Grow.tok s2 _), sm, ⟨_, rfl⟩, q⟩
def tPair (ta tb : TE) : TE := fun σ H Q => ta σ H fun x H1 => tb σ H1 fun y H2 => ∀ p, H2 p = none → Q (.ref p) (upd H2 p (.tup [x, y]))
theorem pek_pair {k} (ha : PEk P w K A env N a ta) (hb : PEk P w K A env N b tb) (he : starEach [a, b] env = (false, eval a env) :: starEach [b] env := by rfl) (he2 : starEach [b] env = (false, eval b env) :: starEach [] env := by rfl) :
    PEk P w K A env N (.Tuple [a, b] k pos) (tPair ta tb) := by
  refine ⟨fun s σ H Q E J h => wpAny_Tuple_spliced (args_cons (wpAny_mono (ha.run s σ H _ E J h) (fun v s1 ⟨g1, x, H1, J1, sm1, r1, q1⟩ => ?_) fun _ _ z => z) he)⟩
  refine args_cons (wpAny_mono (hb.run s1 σ H1 _ E J1 q1) (fun u s2 ⟨g2, y, H2, J2, sm2, r2, q2⟩ => ?_) fun _ _ z => z) he2
  refine args_nil ⟨by rw [sizeLine_eq]; simp, ?_⟩
  have gr : Grow s2 { s2 with heap := s2.heap.push { cls := .type "tuple", data := .seq [v, u].toArray } } := ⟨_, s2.toks, rfl, fun _ _ z => Heap.get?_push_of_some _ z⟩
  have hf : H2 s2.heap.objs.size = none := J2.hok.fresh (Nat.le_refl _)
  have J3 := J2.grow gr
  refine ⟨(g1.trans g2).trans gr, .ref s2.heap.objs.size, upd H2 s2.heap.objs.size (.tup [x, y]), ⟨J3.kind, J3.kin, J3.loc, J2.hok.laid gr.keep (Nat.le_refl _) ?_⟩, fun c o z => ?_, rfl, q2 _ hf⟩
  · exact ⟨by rw [sizeLine_eq]; simp, [v, u], .cons r1 (.cons r2 .nil), ⟨_, Heap.get?_push_size _ rfl, rfl, _, rfl⟩⟩
  · have z2 := sm2 c o (sm1 c o z)
    rw [upd_ne (ne_of_none z2 hf)]
    exact z2
end
end VS

/-! a lambda with one parameter as the key of sorted -/
namespace VS
open PySem PySem.Spec PyProof.Rows L2 LamX
/-- one parameter, captured names and globals -/
structure LamP (sc scope : Scope) (a : Str) : Prop where
  kind : scope.kind = .function
  co : scope.isCoroutine = false
  gen : scope.isGenerator = false
  par : scope.names.lookup a = some .local
  own : ∀ y ∈ scope.names, y.2 ≠ .cell ∧ (y.2 = .local → y.1 = a)
  free : ∀ y ∈ scope.names, y.2 = .free → sc.names.lookup y.1 = some .cell ∨ sc.names.lookup y.1 = some .free
def lamPB (sc scope : Scope) (a : Str) : Bool :=
  decide (scope.kind = .function) && (!scope.isCoroutine && (!scope.isGenerator && (decide (scope.names.lookup a = some .local) && (scope.names.all fun y => !decide (y.2 = .cell) && ((!decide (y.2 = .local) || decide (y.1 = a)) && (!decide (y.2 = .free) || (decide (sc.names.lookup y.1 = some .cell) || decide (sc.names.lookup y.1 = some .free))))))))
theorem lamP_by {sc scope : Scope} {a : Str} (h : lamPB sc scope a = true) : LamP sc scope a := by
  unfold lamPB at h
  simp only [Bool.and_eq_true, Bool.or_eq_true, Bool.not_eq_true', decide_eq_true_eq, decide_eq_false_iff_not, List.all_eq_true] at h
  obtain ⟨h1, h2, h3, h4, h5⟩ := h
  refine ⟨h1, h2, h3, h4, fun y hy => ⟨(h5 y hy).1, fun e => ?_⟩, fun y hy e => ?_⟩
  · rcases (h5 y hy).2.1 with z | z
    · exact absurd e z
    · exact z
  · rcases (h5 y hy).2.2 with z | z
    · exact absurd e z
    · exact z
theorem LamP.has {X : Cx} {scope : Scope} {a : Str} (L : LamP X.env.scope scope a) (ok : X.Ok) : ∀ y ∈ scope.names, y.2 = .free → ∃ c, X.env.cells.lookup y.1 = some c := fun y hy e => (L.free y hy e).elim (fun k => ok.has _ (.inl k)) fun k => ok.has _ (.inr k)
section
variable {X : Cx} {pins : List (Addr × Obj)} {σ : L2.St} {H : Hp} {s s1 : Shared}
/-- the key's frame at its start -/
theorem lamk_start {scope : Scope} {a : Str} {f c' : Addr} {h₁ : Heap} {tk : Nat} {arg : V} {u : Value} {vs : List Nat} (I : Inv X pins σ H s) (L : LamP X.env.scope scope a) (g : Grow s s1) (ra : RelV arg u) (hvs : ∀ i, X.N[i]? = some a → i ∈ vs) (hl : σ.length = X.N.length)
    (hns : h₁.Ns s1.heap.objs.size fun y => ([(a, u)] : List (Str × Value)).reverse.lookup y) (kp : ∀ b o, s1.heap.get? b = some o → h₁.get? b = some o) :
    KSt X.prog X.w X.K (lamEnv X scope s1.heap.objs.size f c') (X.N ++ [a]) (wipe σ vs ++ [some arg]) H { s1 with heap := h₁, toks := tk } := by
  have all : ∀ b o, s.heap.get? b = some o → h₁.get? b = some o := fun b o e => kp b o (g.keep b o e)
  have wl : (wipe σ vs).length = X.N.length := by rw [wipe_length]; exact hl
  refine ⟨L.kind, fun b o e => all b o (I.kIn b o e), ⟨_, hns, fun i y v e1 e2 e3 => ?_⟩, I.hok.kept all⟩
  by_cases hi : i < X.N.length
  · rw [List.getElem?_append_left hi] at e1
    rw [List.getElem?_append_left (by rw [wl]; exact hi)] at e2
    obtain ⟨e4, ni⟩ := wipe_some e2
    have na : y ≠ a := fun z => ni (hvs i (by rw [e1, z]))
    have e3 : Vis scope y := e3
    have k : scope.names.lookup y = some .free := by
      rcases e3 with k | k | k
      · exact absurd ((L.own _ (PySem.mem_of_lookup k)).2 rfl) na
      · exact absurd rfl (L.own _ (PySem.mem_of_lookup k)).1
      · exact k
    have hy : (y, NameKind.free) ∈ scope.names := PySem.mem_of_lookup k
    obtain ⟨m, hn, look⟩ := I.loc
    have hv : Vis X.env.scope y := (L.free _ hy rfl).elim (fun k => .inr (.inl k)) fun k => .inr (.inr k)
    obtain ⟨w', r, q⟩ := look i y v e1 e4 hv
    obtain ⟨c1, hc1⟩ := L.has I.ok _ hy rfl
    have hc1 : X.env.cells.lookup y = some c1 := hc1
    obtain ⟨c2, hc2⟩ := mem_lookup (cloFrom_has (cells := X.env.cells) (acc := []) hy)
    have same : c2 = c1 := by
      rcases cloFrom_mem (PySem.mem_of_lookup hc2) with z | ⟨_, z⟩
      · cases z
      · rw [z, hc1] <;> rfl
    subst same
    refine ⟨w', r, .inr ⟨.inr k, c2, hc2, ?_⟩⟩
    rcases q with ⟨k', _⟩ | ⟨_, c3, e', z⟩
    · have k' : X.env.scope.names.lookup y = some .local := k'
      rcases L.free _ hy rfl with k2 | k2 <;> rw [show X.env.scope.names.lookup y = _ from k2] at k' <;> cases k'
    · rw [hc1] at e'
      cases e'
      exact z.keeps all
  · rw [List.getElem?_append_right (by omega)] at e1
    rw [List.getElem?_append_right (by rw [wl]; omega), wl] at e2
    obtain ⟨z, hz⟩ : ∃ z, i - X.N.length = z := ⟨_, rfl⟩
    rw [hz] at e1 e2
    cases z with
    | succ z => simp at e1
    | zero =>
      simp at e1 e2
      subst e1 e2
      exact ⟨u, ra, .inl ⟨L.par, by simp⟩⟩
/-- a key: an int, or a pair of ints -/
def KeyAt (H : Hp) (v : V) (k : PyData) : Prop := (∃ i, v = .int i ∧ k = .int i) ∨ ∃ p i j, v = .ref p ∧ H p = some (.tup [.int i, .int j]) ∧ k = .tuple [.int i, .int j]
theorem key_reads {P : Program} {w : World} {h : Heap} {v : V} {u : Value} {k : PyData} (ok : HOk P w H h) (r : RelV v u) (q : KeyAt H v k) : Reads h u k [] := by
  rcases q with ⟨i, rfl, rfl⟩ | ⟨p, i, j, rfl, e, rfl⟩
  · obtain ⟨t, rfl⟩ := r
    exact .int i t
  · obtain rfl : u = Value.ref p := r
    obtain ⟨_, its, rv, o, ho, hc, n, hd⟩ := (ok p _ e : _ ∧ ∃ its : List Value, Vals _ its ∧ IsTup h p its.toArray)
    cases rv with
    | cons r1 rr =>
      cases rr with
      | cons r2 rr =>
        cases rr
        obtain ⟨t1, rfl⟩ := r1
        obtain ⟨t2, rfl⟩ := r2
        exact .tuple (as := []) ho hc hd (.cons (as := []) (bs := []) (.int i t1) (.cons (as := []) (bs := []) (.int j t2) .nil))
/-- f(u), f the key's lambda -/
theorem run_key {A : Around} {scope : Scope} {params : Arguments} {body : Expr} {a : Str} {f c' : Addr} {pm ctv : Value} {arg : V} {u : Value} {vs : List Nat} {tb : TE} {k : PyData} (I : Inv X pins σ H s) (L : LamP X.env.scope scope a) (hvs : ∀ i, X.N[i]? = some a → i ∈ vs)
    (hd : A.depth < recursionLimit) (fObj : s.heap.get? f = some (PySem.W.kla_obj "<lambda>" (X.env.qual ++ "<lambda>") params body scope (cloFrom X.env.cells scope.names []) pm c' ctv)) (hco : H c' = some (CodeO c' (X.env.qual ++ "<lambda>")))
    (hbind : bindArgs (PySem.W.kla_fn "<lambda>" (X.env.qual ++ "<lambda>") params body scope (cloFrom X.env.cells scope.names []) pm (.ref c') ctv) ⟨[u], []⟩ = pure [(a, u)])
    (hbody : ∀ (A : Around) (L0 : Addr), PEk X.prog X.w X.K A (lamEnv X scope L0 f c') (X.N ++ [a]) body tb) (ra : RelV arg u) (g : Grow s s1)
    (q : tb (wipe σ vs ++ [some arg]) H fun v H' => KeyAt H' v k) : wpAny (model X.prog X.w) A (call (.ref f) [u]) (PySem.W.KeyPure k s1) (fun _ _ => False) s1 := by
  have fObj1 := g.keep _ _ fObj
  obtain ⟨⟨oc, ws, t, hoc, hdc, hvc⟩, _, _⟩ := I.hok c' _ hco
  have rc : codeAny (model X.prog X.w) A (.call (.ref f) ⟨[u], []⟩) (fun r s' => ∃ v, r = .ok (.ret v) ∧ PySem.W.KeyPure k s1 v s') s1 := by
    refine PySem.W.kla_callFunE hd fObj1 rfl L.co L.gen rfl ⟨c', oc, ws, t, rfl, g.keep _ _ hoc, hdc, hvc⟩ ?_
    rw [hbind]
    refine wpAny_pure (wpAny_newFunctionEnv (fun y hy => (L.own y hy).1) (fun y hy => ?_) (fun h₁ hns hsb => ⟨(I.nolimit.keeps g.keep).fresh _ hsb, ?_⟩) L.kind)
    · have e : y = (a, u) := by simpa using hy
      rw [e]
      exact L.par
    · show codeAny _ _ (.expr body (lamEnv X scope s1.heap.objs.size f c')) _ _
      have kp : ∀ b o, s1.heap.get? b = some o → h₁.get? b = some o := fun b o e => hsb.extBut b o (Nat.ne_of_lt (Heap.lt_size e)) (Heap.get?_push_of_some _ e)
      have J := lamk_start (f := f) (c' := c') (tk := s1.toks + ([(a, u)] : List (Str × Value)).length) I L g ra hvs I.len hns kp
      refine PySem.W.kla_codeExpr (wpAny_mono ((hbody _ _).run _ _ _ _ (fun _ _ => False) J q) (fun v s' hq => ?_) fun e s' z => z.elim)
      obtain ⟨g2, w', H', J', _, rv, kq⟩ := hq
      obtain ⟨h2, t2, rfl, k2⟩ := g2
      exact ⟨v, rfl, h2, t2, rfl, fun b o e => k2 b o (kp b o e), key_reads J'.hok rv kq⟩
  refine wpAny_call (codeAny_mono rc fun r s' hq => ?_)
  obtain ⟨v, rfl, hq⟩ := hq
  exact hq
end
end VS
namespace VS
open PySem PySem.Spec PyProof.Rows L2 LamX
/-- what is sorted: a range, or a list of ints -/
def WalkOf (K : PySem.W.Frag) (H : Hp) (r : Addr) (ns : List Int) : Prop := (∃ lo hi, H r = some (.rng lo hi) ∧ RgOk lo hi ∧ ns = (List.range (hi - lo).toNat).map fun i : Nat => lo + (i : Nat)) ∨ SqL K H r (ns.map V.int)
theorem WalkOf.len {K : PySem.W.Frag} {P : Program} {w : World} {H : Hp} {h : Heap} {r : Addr} {ns : List Int} (W : WalkOf K H r ns) (ok : HOk P w H h) : ns.length ≤ sizeLine := by
  rcases W with ⟨lo, hi, _, ok2, rfl⟩ | W
  · rw [List.length_map, List.length_range, sizeLine_eq]
    have := ok2.2.2.2.2
    omega
  · rcases W with W | ⟨o, its, n, e, e1, e2, e3, e4, rv⟩
    · obtain ⟨z, _⟩ := W.ok ok
      rwa [List.length_map] at z
    · have := rv.length
      rw [List.length_map] at this
      rw [this, Array.length_toList]
      exact e4
theorem each_ints : ∀ {ns : List Int} {vs : List Value}, Vals (ns.map V.int) vs → PySem.W.EachIs (fun v n => ∃ t, v = Value.int n t) vs ns
  | [], _, .nil => .nil
  | n :: ns, _, h => by
    cases h with
    | cons h1 h2 => exact .cons h1 (each_ints h2)
theorem ints_each : ∀ {ns : List Int} {vs : List Value}, PySem.W.EachIs (fun v n => ∃ t, v = Value.int n t) vs ns → Vals (ns.map V.int) vs
  | _, _, .nil => .nil
  | _, _, .cons h1 h2 => .cons h1 (ints_each h2)
section
variable {X : Cx} {pins : List (Addr × Obj)} {σ : L2.St} {H : Hp} {s : Shared}
theorem collect_walk {A : Around} {r : Addr} {ns : List Int} {Q : List Value → Shared → Prop} {E : Value → Shared → Prop} (I : Inv X pins σ H s) (hd : A.handled = none) (W : WalkOf X.K H r ns)
    (hq : ∀ vs s', Grow s s' → Vals (ns.map V.int) vs → Q vs s') : wpAny (model X.prog X.w) A (collect (.ref r)) Q E s := by
  have hlen := W.len I.hok
  rcases W with ⟨lo, hi, e, ok, rfl⟩ | W
  · obtain ⟨b1, b2, b3, b4, b5⟩ := ok
    obtain ⟨t, u, v, ho⟩ := (I.hok r _ e : ∃ t u v, s.heap.get? r = some { cls := .type "range", data := .fields #[.int lo t, .int hi u, .int 1 v] })
    refine collect_range (n := (hi - lo).toNat) hd (by first | exact ⟨_, ho, rfl, rfl⟩ | exact ho) (small_one b1 b2 b3 b4) (rangeSize_nat lo hi) b5 fun h' tk acc hk hacc => ?_
    have rv := vals_rg hacc
    unfold rgV at rv
    exact hq _ _ ⟨h', tk, rfl, hk⟩ (by rw [List.map_map]; exact rv)
  · obtain ⟨its, rv, li, hz⟩ := I.list W
    refine PyProof.Rows.collect_list li.isList ?_ (by rw [← rv.length]; exact hz)
    refine hq _ _ ⟨_, s.toks, rfl, fun b o q => ?_⟩ rv
    rw [Heap.get?_update_ne _ _ _ _ (Nat.ne_of_lt (Heap.lt_size q))]
    exact Heap.get?_push_of_some _ q
theorem run_sorted {scope : Scope} {params : Arguments} {body : Expr} {a : Str} {f c' r : Addr} {pm ctv : Value} {vs : List Nat} {tb : TE} {ns : List Int} {key : Int → PyData} {Q : L2.VK} (I : Inv X pins σ H s) (L : LamP X.env.scope scope a) (hvs : ∀ i, X.N[i]? = some a → i ∈ vs)
    (hc : X.calm = true) (hr : Room 1 X.A) (fObj : s.heap.get? f = some (PySem.W.kla_obj "<lambda>" (X.env.qual ++ "<lambda>") params body scope (cloFrom X.env.cells scope.names []) pm c' ctv)) (hco : H c' = some (CodeO c' (X.env.qual ++ "<lambda>")))
    (hbind : ∀ u, bindArgs (PySem.W.kla_fn "<lambda>" (X.env.qual ++ "<lambda>") params body scope (cloFrom X.env.cells scope.names []) pm (.ref c') ctv) ⟨[u], []⟩ = pure [(a, u)])
    (hbody : ∀ (A : Around) (L0 : Addr), PEk X.prog X.w X.K A (lamEnv X scope L0 f c') (X.N ++ [a]) body tb) (W : WalkOf X.K H r ns)
    (hk : (∃ x : Int → Int, key = fun n => .int (x n)) ∨ ∃ x y : Int → Int, key = fun n => .tuple [.int (x n), .int (y n)])
    (q : ∀ n ∈ ns, tb (wipe σ vs ++ [some (.int n)]) H fun v H' => KeyAt H' v (key n)) (fin : ∀ l, H l = none → Q (.ref l) (upd H l (.lst ((ns.mergeSort (PySem.W.dataLe false key)).map V.int)))) :
    wpAny (model X.prog X.w) X.A (call (.builtin "sorted") [.ref r] [(Str.ofString "key", .ref f)]) (EP X pins σ Q) X.xe s := by
  have hlen := W.len I.hok
  refine PyProof.Rows.call_function_entry_kw PyProof.Rows.kind_sorted PyProof.Rows.plain_sorted PyProof.Rows.entry_sorted (PyProof.Rows.ksk_s1 _ _) ?_
  unfold Builtin.«sorted»
  refine wpAny_bind (m := checkCount "sorted" 1 1 _) (wpAny_pure ?_)
  refine wpAny_bind (collect_walk I (I.ok.hd hc) W fun ws s2 g rv => ?_)
  have hlw : ws.length = ns.length := by rw [← rv.length, List.length_map]
  obtain ⟨h2, t2, rfl, k2⟩ := g
  refine wpAny_bind (wpAny_newList ?_ (by rw [hlw]; exact hlen))
  have at_ : (h2.push (seqObj "list" ws.toArray 0)).get? h2.objs.size = some (seqObj "list" ws.toArray 0) := Heap.get?_push_size _ rfl
  have k3 : ∀ {h' : Heap}, PySem.W.KeepsBut h2.objs.size (h2.push (seqObj "list" ws.toArray 0)) h' → ∀ b o, s.heap.get? b = some o → h'.get? b = some o := fun {h'} kb b o e =>
    kb b o (Nat.ne_of_lt (Heap.lt_size (k2 b o e))) (Heap.get?_push_of_some _ (k2 b o e))
  have I2 : Inv X pins σ H { s with heap := h2, toks := t2 } := I.kept k2
  refine wpAny_bind (wpAny_holding (PySem.W.list_sort_key_data (A := X.A.in1) (b := false) (s := { s with heap := h2.push (seqObj "list" ws.toArray 0), toks := t2 }) (R := fun v n => ∃ t, v = Value.int n t) key at_ (each_ints rv) ?_ ?_ hlen ?_ (PyProof.Rows.ksk_l1 _ _) (PyProof.Rows.ksk_t1 _ _) (fun v n hR hn h tk kb => ?_) fun out c h' tk kb hD hl eo => ?_))
  · rcases hk with ⟨x, rfl⟩ | ⟨x, y, rfl⟩
    · exact PySem.W.AllAlike.of fun _ _ => by simp [PySem.W.alike]
    · exact PySem.W.AllAlike.of fun _ _ => by simp [PySem.W.alike, PySem.W.alikeAll]
  · rcases hk with ⟨x, rfl⟩ | ⟨x, y, rfl⟩
    · exact PySem.W.Sortable.others fun _ => ⟨by simp, by simp⟩
    · exact PySem.W.Sortable.tuples fun _ => ⟨_, _, rfl⟩
  · intro n _
    have hun := hr.un
    have hdp : (key n).depth ≤ 1 := by
      rcases hk with ⟨x, rfl⟩ | ⟨x, y, rfl⟩ <;> simp [PyData.depth, PyData.depthAll]
    show X.A.units + 1 + 1 + _ < _
    omega
  · exact run_key I L hvs (by have := hr.dp; show X.A.depth < _; omega) fObj hco (hbind v) hbody (arg := .int n) hR ⟨h, tk, rfl, k3 kb⟩ (q n hn)
  · refine wpAny_pure ⟨_, rfl, ?_⟩
    exact ⟨.ref h2.objs.size, upd H h2.objs.size (.lst ((ns.mergeSort (PySem.W.dataLe false key)).map V.int)), I2.laid (t' := tk) (fun b o e => kb b o (Nat.ne_of_lt (Heap.lt_size e)) (Heap.get?_push_of_some _ e)) (Nat.le_refl _)
      (show ObjOk X.prog X.w _ _ _ (.lst _) from ⟨by rw [List.length_map, List.length_mergeSort]; exact hlen, out, c, ints_each eo, hD⟩), rfl, fin _ (I2.hok.fresh (Nat.le_refl _))⟩
end
end VS

/-! sorted(.., key = lambda a: ..) -/
namespace VS
open PySem PySem.Spec PyProof.Rows L2 LamX
theorem WalkOf.lamd {T : List (Addr × Str)} {K : PySem.W.Frag} {H H1 : Hp} {r : Addr} {ns : List Int} (W : WalkOf K H r ns) (l : Lamd T H H1) : WalkOf K H1 r ns := by
  rcases W with ⟨lo, hi, e, ok, z⟩ | W
  · exact .inl ⟨lo, hi, l.keep _ _ e (fun _ z => nomatch z), ok, z⟩
  · refine .inr (W.imp (fun W => ?_) id)
    rcases W with W | ⟨o, W⟩
    · exact .inl (l.keep _ _ W nt_lst)
    · exact .inr ⟨o, l.keep _ _ W nt_frz⟩
def tSortKey (T : List (Addr × Str)) (K : PySem.W.Frag) (vs : List Nat) (ti tb : TE) : TE := fun σ H Q => ti σ H fun x H1 => Tabs T H1 ∧ ∃ (r : Addr) (ns : List Int), x = .ref r ∧ WalkOf K H1 r ns ∧ ∀ H2, Lamd T H1 H2 →
  ∃ key : Int → PyData, ((∃ x : Int → Int, key = fun n => .int (x n)) ∨ ∃ x y : Int → Int, key = fun n => .tuple [.int (x n), .int (y n)]) ∧ (∀ n ∈ ns, tb (wipe σ vs ++ [some (.int n)]) H2 fun v H' => KeyAt H' v (key n)) ∧
    ∀ l, H2 l = none → Q (.ref l) (upd H2 l (.lst ((ns.mergeSort (PySem.W.dataLe false key)).map V.int)))
theorem pe_sortKey {X : Cx} {T : List (Addr × Str)} {c P : Addr} {e body : Expr} {params : Arguments} {scope : Scope} {a : Str} {vs : List Nat} {ti tb : TE} {p pos lpos kpos : Pos} (hg : Gl X "sorted") (hm : X.mg "sorted" = none) (hi : PE X e ti)
    (TB : TabB X.base X.mg c P) (hcode : X.env.code = .ref c) (hmT : (P, X.env.qual ++ "<lambda>") ∈ T) (hu : ∀ p ∈ T, p.1 = P → p.2 = X.env.qual ++ "<lambda>") (L : LamP X.env.scope scope a) (hvs : ∀ i, X.N[i]? = some a → i ∈ vs) (hc : X.calm = true) (hr : Room 1 X.A)
    (hdef : defaultsOf params X.env = ([], [])) (hbind : ∀ (q : Str) (cl : List (Str × Addr)) (pm cv ctv u : Value), bindArgs (PySem.W.kla_fn "<lambda>" q params body scope cl pm cv ctv) ⟨[u], []⟩ = pure [(a, u)])
    (hbody : ∀ (A : Around) (L0 f c' : Addr), PEk X.prog X.w X.K A (lamEnv X scope L0 f c') (X.N ++ [a]) body tb)
    (he : backTo pos (starEach [e] X.env) = (false, eval e X.env) :: backTo pos (starEach [] X.env) := by rfl) (he' : starEach [e] X.env = (false, eval e X.env) :: starEach [] X.env := by rfl) (hpl : (backTo pos (starEach [e] X.env)).any (·.1) = false := by rfl)
    (hall : (backToKw pos (keywordEach [⟨some "key", .Lambda params body scope lpos, kpos⟩] X.env)).all (·.1.isSome) = true := by rfl) (hnone : (backToKw pos (keywordEach [⟨some "key", .Lambda params body scope lpos, kpos⟩] X.env)).any (·.1.isNone) = false := by rfl)
    (hks : (backToKw pos (keywordEach [⟨some "key", .Lambda params body scope lpos, kpos⟩] X.env)).filterMap (·.1) = [("key" : Str)] := by rfl) :
    PE X (.Call (.Name "sorted" p) [e] [⟨some "key", .Lambda params body scope lpos, kpos⟩] pos) (tSortKey T X.K vs ti tb) := by
  refine ⟨fun pins s σ H Q I h => ?_⟩
  refine wpAny_Call_Name_kw (ld_blt I hg hm (PyProof.Rows.boot_sorted) ?_ (by decide) (by decide))
  refine PyProof.Rows.callWith_kw (args_cons (thn (hi.run pins s σ H _ I h) fun v s1 ⟨x, H1, I1, r1, hT, r, ns, ex, W, q⟩ => args_nil ?_) he') he hpl hall hnone
  subst ex
  obtain rfl : v = Value.ref r := r1
  rw [hks]
  refine wpAny_evalAll_cons (wpAny_bind (lam_make3 I1 TB hcode hmT hu hT hdef (L.has I1.ok) fun f c' pm ctv H2 s2 I2 lamd hf hfn hfr hco => ?_))
  refine wpAny_bind (wpAny_standAt (wpAny_pure (wpAny_evalAll_nil ?_)))
  obtain ⟨key, hk, hq, fin⟩ := q H2 lamd
  exact run_sorted I2 L hvs hc hr hf hco (fun u => hbind _ _ _ _ _ u) (fun A L0 => hbody A L0 f c') (W.lamd lamd) hk hq fin
end VS
namespace VS
open PySem PySem.Spec PyProof.Rows L2 LamX
/-! ### the key's reading -/
def RepK (K : PySem.W.Frag) (P : List Addr) (env : Env) (σ : L2.St) (H : Hp) : Prop := ∀ (i : Nat) (f : Fl) (d : D), env[i]? = some (some (f, d)) → ∃ v F, σ[i]? = some (some v) ∧ DV K P H d v F
theorem RepK.same {K : PySem.W.Frag} {P : List Addr} {env : Env} {σ : L2.St} {H H' : Hp} (r : RepK K P env σ H) (h : Same H H') : RepK K P env σ H' := fun i f d e => let ⟨v, F, h1, h2⟩ := r i f d e; ⟨v, F, h1, h2.evo (Evo.same (Θ := []) h)⟩
def liftK (K : PySem.W.Frag) (t : VT) : TE := fun σ H Q => ∃ env P, RepK K P env σ H ∧ (∀ a ∈ P, H a ≠ none) ∧ t env fun d _ => ∀ v H', Same H H' → (∃ F, DV K P H' d v F) → Q v H'
structure VEk (Pg : Program) (w : World) (K : PySem.W.Frag) (A : Around) (le : PySem.Env) (N : List Str) (e : Expr) (t : VT) : Prop where
  mono : MonoE t
  run : PEk Pg w K A le N e (liftK K t)
theorem PEk.imp {Pg : Program} {w : World} {K : PySem.W.Frag} {A : Around} {le : PySem.Env} {N : List Str} {e : Expr} {t t' : TE} (h : PEk Pg w K A le N e t) (hi : ∀ σ H Q, t' σ H Q → t σ H Q) : PEk Pg w K A le N e t' := ⟨fun s σ H Q E J q => h.run s σ H Q E J (hi σ H Q q)⟩
section
variable {Pg : Program} {w : World} {K : PySem.W.Frag} {A : Around} {le : PySem.Env} {N : List Str} {a b : Expr} {ta tb : VT} {pos : Pos}
theorem vek_var (i : Nat) {x : Str} (hN : N[i]? = some x := by rfl) (hv : Vis le.scope x := by first | exact Or.inl rfl | exact Or.inr (Or.inl rfl) | exact Or.inr (Or.inr rfl)) (hd : (x == ("__debug__" : Str)) = false := by decide) (hcd : (x == ("__classdict__" : Str)) = false := by decide) : VEk Pg w K A le N (.Name x pos) (vVar i) where
  mono := fun env Q Q' h ⟨f, d, e, q⟩ => ⟨f, d, e, h _ _ q⟩
  run := (pek_var hN hv hd hcd).imp fun σ H Q ⟨env, P, rep, ps, f, d, e, q⟩ => by
    obtain ⟨v, F, h1, h2⟩ := rep i f d e
    exact ⟨v, h1, q v H (Same.refl H) ⟨F, h2⟩⟩
theorem vek_int {i : Int} {j} : VEk Pg w K A le N (.Constant (.int i) j pos) (vC (.int i)) where
  mono := fun env Q Q' h q => h _ _ q
  run := pek_int.imp fun σ H Q ⟨env, P, rep, ps, q⟩ => q (.int i) H (Same.refl H) ⟨[], .int i⟩
theorem opk_imp {r : R2} {o : Op2} (hm : ∀ x y (Q Q' : D → Prov → Prop), (∀ d p, Q d p → Q' d p) → o x y Q → o x y Q') (ha : MonoE ta) (hb : MonoE tb)
    (hr : ∀ (P : List Addr) (H : Hp) (d : D) (p : Prov) (d' : D) (p' : Prov) (v v' : V) (F F' : List Addr) (Q : L2.VK), DV K P H d v F → DV K P H d' v' F' → o (d, p) (d', p') (fun d _ => ∀ u H', Same H H' → (∃ F, DV K P H' d u F) → Q u H') → r v v' H Q)
    (σ : L2.St) (H : Hp) (Q : L2.VK) (q : liftK K (vOp o ta tb) σ H Q) : tOp r (liftK K ta) (liftK K tb) σ H Q := by
  obtain ⟨env, P, rep, ps, q⟩ := q
  refine ⟨env, P, rep, ps, ha _ _ _ (fun d p q => ?_) q⟩
  intro v H1 s1 ⟨F, dv⟩
  refine ⟨env, P, rep.same s1, fun a ha => by
    cases e : H a with
    | none => exact absurd e (ps a ha)
    | some o => rw [s1 a o e]; simp, hb _ _ _ (fun d' p' q => ?_) q⟩
  intro v' H2 s2 ⟨F', dv'⟩
  exact hr P H2 d p d' p' v v' F F' Q (dv.evo (Evo.same (Θ := []) s2)) dv' (hm _ _ _ _ (fun z pz hz u H3 s3 h3 => hz u H3 (fun c o e => s3 c o (s2 c o (s1 c o e))) h3) q)
def oIxK : Op2 := fun x y Q => match x.1, y.1 with
  | .tup xs, .int i => ∃ d, atI xs i = some d ∧ Q d .fresh
  | .lst xs, .int i => 0 ≤ i ∧ ∃ d, atI xs i = some d ∧ Q d .fresh
  | .rol xs, .int i => 0 ≤ i ∧ ∃ d, atI xs i = some d ∧ Q d .fresh
  | _, _ => False
theorem oIxK_mono (x y : DP) (Q Q' : D → Prov → Prop) (h : ∀ d p, Q d p → Q' d p) (q : oIxK x y Q) : oIxK x y Q' := by
  unfold oIxK at *
  split at q
  · obtain ⟨d, e, q⟩ := q; exact ⟨d, e, h _ _ q⟩
  · obtain ⟨z, d, e, q⟩ := q; exact ⟨z, d, e, h _ _ q⟩
  · obtain ⟨z, d, e, q⟩ := q; exact ⟨z, d, e, h _ _ q⟩
  · exact q
theorem vek_ix (ha : VEk Pg w K A le N a ta) (hb : VEk Pg w K A le N b tb) (hs : PlainIx b := by exact fun _ _ => rfl) : VEk Pg w K A le N (.Subscript a b pos) (vOp oIxK ta tb) where
  mono := mono_op oIxK_mono ha.mono hb.mono
  run := (pek_ix ha.run hb.run hs).imp (opk_imp oIxK_mono ha.mono hb.mono fun P H d p d' p' v v' F F' Q dv dv' q => by
    unfold oIxK at q
    dsimp only at q
    split at q
    · obtain ⟨z, e, q⟩ := q
      cases dv'
      obtain ⟨x, vs, rfl, hx, dvs⟩ := dv.tup_inv
      obtain ⟨j, e1, e2⟩ := atI_len dvs.length e
      obtain ⟨u, G, q1, q2, _⟩ := dvs.getD e1
      exact ⟨x, vs, _, u, rfl, rfl, e2 u q1, .inl hx, q u H (Same.refl H) ⟨G, q2⟩⟩
    · obtain ⟨h0, z, e, q⟩ := q
      cases dv'
      obtain ⟨x, vs, G0, rfl, hx, _, dvs, _⟩ := dv.lst_inv
      obtain ⟨j, e1, e2⟩ := atI_len dvs.length e
      obtain ⟨u, G, q1, q2, _⟩ := dvs.getD e1
      exact ⟨x, vs, _, u, rfl, rfl, e2 u q1, .inr ⟨SqL.of hx, h0⟩, q u H (Same.refl H) ⟨G, q2⟩⟩
    · obtain ⟨h0, z, e, q⟩ := q
      cases dv'
      obtain ⟨x, vs, rfl, hx, dvs⟩ := dv.rol_inv
      obtain ⟨j, e1, e2⟩ := atI_len dvs.length e
      obtain ⟨u, G, q1, q2, _⟩ := dvs.getD e1
      exact ⟨x, vs, _, u, rfl, rfl, e2 u q1, .inr ⟨hx, h0⟩, q u H (Same.refl H) ⟨G, q2⟩⟩
    · exact q.elim)
theorem vek_sub (ha : VEk Pg w K A le N a ta) (hb : VEk Pg w K A le N b tb) : VEk Pg w K A le N (.BinOp a .Sub b pos) (vOp oSub ta tb) where
  mono := mono_op (l_sub (K := K)).mono ha.mono hb.mono
  run := (pek_sub ha.run hb.run).imp (opk_imp (l_sub (K := K)).mono ha.mono hb.mono fun P H d p d' p' v v' F F' Q dv dv' q => by
    unfold oSub at q
    first
      | (dsimp only at q
         split at q
         · cases dv
           cases dv'
           exact ⟨_, _, rfl, rfl, q _ H (Same.refl H) ⟨[], .int _⟩⟩
         · exact q.elim)
      | (unfold oInt2 at q))
theorem vek_neg (ha : VEk Pg w K A le N a ta) : VEk Pg w K A le N (.UnaryOp .USub a pos) (vNeg ta) where
  mono := fun env Q Q' h q => ha.mono _ _ _ (fun d p ⟨i, e, q⟩ => ⟨i, e, h _ _ q⟩) q
  run := (pek_neg ha.run).imp fun σ H Q ⟨env, P, rep, ps, q⟩ => ⟨env, P, rep, ps, ha.mono _ _ _ (fun d p ⟨i, e, q⟩ v H1 s1 ⟨F, dv⟩ => by
    subst e
    cases dv
    exact ⟨i, rfl, q _ H1 s1 ⟨[], .int _⟩⟩) q⟩
theorem vek_pair {k} (ha : VEk Pg w K A le N a ta) (hb : VEk Pg w K A le N b tb) (he : starEach [a, b] le = (false, eval a le) :: starEach [b] le := by rfl) (he2 : starEach [b] le = (false, eval b le) :: starEach [] le := by rfl) :
    VEk Pg w K A le N (.Tuple [a, b] k pos) (vTup (vCons ta (vCons tb vNil))) where
  mono := fun env Q Q' h q => ha.mono _ _ _ (fun d p q => hb.mono _ _ _ (fun d' p' q => ⟨q.1, h _ _ q.2⟩) q) q
  run := (pek_pair ha.run hb.run he he2).imp fun σ H Q ⟨env, P, rep, ps, q⟩ => by
    refine ⟨env, P, rep, ps, ha.mono _ _ _ (fun d p q => ?_) q⟩
    intro v H1 s1 ⟨F, dv⟩
    have some1 : ∀ a ∈ P, H1 a ≠ none := fun a ha => by
      cases e : H a with
      | none => exact absurd e (ps a ha)
      | some o => rw [s1 a o e]; simp
    refine ⟨env, P, rep.same s1, some1, hb.mono _ _ _ (fun d' p' q => ?_) q⟩
    intro v' H2 s2 ⟨F', dv'⟩
    intro x hx
    have nx : x ∉ P := fun z => by
      cases e : H1 x with
      | none => exact some1 x z e
      | some o => have := s2 x o e; rw [hx] at this; cases this
    refine q.2 _ _ (fun c o e => ?_) ⟨F ++ (F' ++ []), .tup ⟨upd_same, nx⟩ (.cons ((dv.evo (Evo.same (Θ := []) s2)).evoU hx) (.cons (dv'.evoU hx) .nil))⟩
    rw [upd_ne (ne_of_none (s2 c o (s1 c o e)) hx)]
    exact s2 c o (s1 c o e)
end
end VS

/-! sorted(range(n), key = lambda a: ..) as a reading -/
namespace VS
open PySem PySem.Spec PyProof.Rows L2 LamX
section
variable {X : Cx}
theorem cr_range1 : CallR X (.type "range") (fun vs H Q => ∃ j, vs = [V.int j] ∧ ∀ p, H p = none → Q (.ref p) (upd H p (.rng 0 j))) := by
  intro pins s σ H vs us Q I r h
  obtain ⟨j, rfl, q⟩ := h
  cases r with
  | cons r1 rr =>
    cases rr
    obtain ⟨u, rfl⟩ := r1
    refine call_range_1 ⟨.ref s.heap.objs.size, upd H s.heap.objs.size (.rng 0 j), I.laid (t' := s.toks + 1 + 1) (fun b o e => Heap.get?_push_of_some _ e) (Nat.le_refl _) ?_, rfl, q _ (I.hok.fresh (Nat.le_refl _))⟩
    exact ⟨s.toks, u, s.toks + 1, Heap.get?_push_size _ rfl⟩
end
/-- 0 .. n - 1 by an int, by a pair of ints -/
def sortI (x : Int → Int) (ns : List Int) : List Int := ns.mergeSort fun p q => decide (x p ≤ x q)
def sortP (x y : Int → Int) (ns : List Int) : List Int := ns.mergeSort fun p q => decide (x p < x q ∨ (x p = x q ∧ y p ≤ y q))
def intsTo (n : Nat) : List Int := (List.range n).map fun i : Nat => (i : Int)
/-- the keys of the items are told by tb -/
def kKeyed (vs : List Nat) (tb : VT) (env : Env) (ns : List Int) (Q : List Int → Prop) : Prop :=
  (∃ x : Int → Int, (∀ n ∈ ns, tb (wipeE env vs ++ [some (.lck, .int n)]) fun d _ => d = .int (x n)) ∧ Q (sortI x ns)) ∨
    ∃ x y : Int → Int, (∀ n ∈ ns, tb (wipeE env vs ++ [some (.lck, .int n)]) fun d _ => d = .tup [.int (x n), .int (y n)]) ∧ Q (sortP x y ns)
def vSortRng (vs : List Nat) (te tb : VT) : VT := fun env Q => te env fun d _ => ∃ n : Nat, d = .int n ∧ n ≤ 16777216 ∧ kKeyed vs tb env (intsTo n) fun ms => Q (.lst (ms.map D.int)) .fresh
theorem wipeE_get {env : Env} {i : Nat} {f : Fl} {d : D} {vs : List Nat} (h : (wipeE env vs)[i]? = some (some (f, d))) : env[i]? = some (some (f, d)) ∧ i ∉ vs := wipeE_some h
theorem kKeyed.mono {vs : List Nat} {tb : VT} {env : Env} {ns : List Int} {Q Q' : List Int → Prop} (h : ∀ ms, Q ms → Q' ms) (q : kKeyed vs tb env ns Q) : kKeyed vs tb env ns Q' :=
  q.imp (fun ⟨x, h1, h2⟩ => ⟨x, h1, h _ h2⟩) fun ⟨x, y, h1, h2⟩ => ⟨x, y, h1, h _ h2⟩
theorem repK_key {K : PySem.W.Frag} {R : RC} {env : Env} {σ : L2.St} {H : Hp} {P : List Addr} {fp : Nat → List Addr} {T : Tmp} (rep : Rep K R env σ H P fp T) (vs : List Nat) (n : Int) : RepK K P (wipeE env vs ++ [some (.lck, .int n)]) (wipe σ vs ++ [some (.int n)]) H := by
  intro i f d e
  have rw' := rep.wipe vs
  have hl := rw'.len
  by_cases hi : i < (wipeE env vs).length
  · rw [List.getElem?_append_left hi] at e
    obtain ⟨v, h1, h2⟩ := rw'.slot i f d e
    exact ⟨v, fp i, by rw [List.getElem?_append_left (by omega)]; exact h1, h2⟩
  · rw [List.getElem?_append_right (by omega)] at e
    obtain ⟨z, hz⟩ : ∃ z, i - (wipeE env vs).length = z := ⟨_, rfl⟩
    rw [hz] at e
    cases z with
    | succ z => simp at e
    | zero =>
      simp at e
      obtain ⟨rfl, rfl⟩ := e
      refine ⟨.int n, [], ?_, .int n⟩
      rw [List.getElem?_append_right (by omega), ← hl, hz]
      rfl
theorem dataLe_key {key : Int → PyData} {ns : List Int} (x : Int → Int) (h : key = fun n => .int (x n)) : ns.mergeSort (PySem.W.dataLe false key) = sortI x ns := by
  subst h
  rw [PySem.W.dataLe_int]
  rfl
theorem dataLe_key2 {key : Int → PyData} {ns : List Int} (x y : Int → Int) (h : key = fun n => .tuple [.int (x n), .int (y n)]) : ns.mergeSort (PySem.W.dataLe false key) = sortP x y ns := by
  subst h
  rw [PySem.W.dataLe_ii]
  rfl
/-- what the keys' reading gives the raw rule -/
theorem keyed_raw {K : PySem.W.Frag} {R : RC} {env : Env} {σ : L2.St} {H : Hp} {P : List Addr} {fp : Nat → List Addr} {Tm : Tmp} {vs : List Nat} {tb : VT} {ns : List Int} {Q : List Int → Prop} (hm : MonoE tb) (rep : Rep K R env σ H P fp Tm) (ps : ∀ a ∈ P, H a ≠ none) (q : kKeyed vs tb env ns Q) :
    ∃ key : Int → PyData, ((∃ x : Int → Int, key = fun n => .int (x n)) ∨ ∃ x y : Int → Int, key = fun n => .tuple [.int (x n), .int (y n)]) ∧ (∀ n ∈ ns, liftK K tb (wipe σ vs ++ [some (.int n)]) H fun v H' => KeyAt H' v (key n)) ∧ Q (ns.mergeSort (PySem.W.dataLe false key)) := by
  rcases q with ⟨x, h1, h2⟩ | ⟨x, y, h1, h2⟩
  · refine ⟨_, .inl ⟨x, rfl⟩, fun n hn => ⟨_, P, repK_key rep vs n, ps, hm _ _ _ (fun d p e v H' s' ⟨F, dv⟩ => ?_) (h1 n hn)⟩, by rw [dataLe_key x rfl]; exact h2⟩
    subst e
    cases dv
    exact .inl ⟨_, rfl, rfl⟩
  · refine ⟨_, .inr ⟨x, y, rfl⟩, fun n hn => ⟨_, P, repK_key rep vs n, ps, hm _ _ _ (fun d p e v H' s' ⟨F, dv⟩ => ?_) (h1 n hn)⟩, by rw [dataLe_key2 x y rfl]; exact h2⟩
    subst e
    obtain ⟨a, ws, rfl, ha, _, dvs⟩ := dv.tup_is
    cases dvs with
    | cons d1 dvs =>
      cases d1
      cases dvs with
      | cons d2 dvs =>
        cases d2
        cases dvs
        exact .inr ⟨a, _, _, rfl, ha, rfl⟩
section
variable {X : Cx} {R : RC} {c : Nat} {e body : Expr} {te tb : VT} {params : Arguments} {scope : Scope} {a z : Str} {p p2 pos pos2 lpos kpos : Pos} {fa : Addr} {cdv : Value}
theorem ve_sortRng (vs : List Nat) (Tf : TabF R.T X.K X.mg X.base z) (hz : X.mg z = some (.ref fa)) (hcd : CodeAt X.K fa cdv) (hcode : X.env.code = cdv) (hq : X.env.qual = z ++ ".<locals>.") (L : LamP X.env.scope scope a) (hvs : ∀ i, X.N[i]? = some a → i ∈ vs) (hc : X.calm = true) (hr : Room 1 X.A)
    (h : VE X R c e te) (hb : ∀ (A : Around) (L0 f c' : Addr), VEk X.prog X.w X.K A (lamEnv X scope L0 f c') (X.N ++ [a]) body tb) (hm : X.mg "sorted" = none) (hm2 : X.mg "range" = none) (hg : Gl X "sorted" := by rfl) (hg2 : Gl X "range" := by rfl)
    (hdef : defaultsOf params X.env = ([], []) := by rfl) (hbind : ∀ (q : Str) (cl : List (Str × Addr)) (pm cv ctv u : Value), bindArgs (PySem.W.kla_fn "<lambda>" q params body scope cl pm cv ctv) ⟨[u], []⟩ = pure [(a, u)] := by intros; rfl)
    (he : starEach [e] X.env = (false, eval e X.env) :: starEach [] X.env := by rfl) (hpl : (backTo pos2 (starEach [] X.env)).any (·.1) = false := by rfl)
    (he2 : backTo pos (starEach [.Call (.Name "range" p2) [e] [] pos2] X.env) = (false, eval (.Call (.Name "range" p2) [e] [] pos2) X.env) :: backTo pos (starEach [] X.env) := by rfl) (he3 : starEach [.Call (.Name "range" p2) [e] [] pos2] X.env = (false, eval (.Call (.Name "range" p2) [e] [] pos2) X.env) :: starEach [] X.env := by rfl)
    (hpl2 : (backTo pos (starEach [.Call (.Name "range" p2) [e] [] pos2] X.env)).any (·.1) = false := by rfl)
    (hall : (backToKw pos (keywordEach [⟨some "key", .Lambda params body scope lpos, kpos⟩] X.env)).all (·.1.isSome) = true := by rfl) (hnone : (backToKw pos (keywordEach [⟨some "key", .Lambda params body scope lpos, kpos⟩] X.env)).any (·.1.isNone) = false := by rfl)
    (hks : (backToKw pos (keywordEach [⟨some "key", .Lambda params body scope lpos, kpos⟩] X.env)).filterMap (·.1) = [("key" : Str)] := by rfl) :
    VE X R c (.Call (.Name "sorted" p) [.Call (.Name "range" p2) [e] [] pos2] [⟨some "key", .Lambda params body scope lpos, kpos⟩] pos) (vSortRng vs te tb) where
  mono := fun env Q Q' hq q => h.mono _ _ _ (fun d p ⟨n, e1, e2, q⟩ => ⟨n, e1, e2, q.mono fun ms q => hq _ _ q⟩) q
  run := by
    obtain ⟨cA, cP, hcv, TB, hmT, hu⟩ := Tf
    obtain rfl := hcv fa cdv hz hcd
    refine PE.imp (pe_sortKey (T := R.T) (vs := vs) (tb := liftK X.K tb) hg hm (pe_callTy (T := "range") cr_range1 hg2 hm2 (by decide +kernel) (pa_cons h.run pa_nil he) (he := he) (hpl := hpl)) TB hcode (by rw [hq]; exact hmT) (by rw [hq]; exact hu) L hvs hc hr hdef hbind (fun A L0 f c' => (hb A L0 f c').run) he2 he3 hpl2 hall hnone hks) ?_
    rintro σ H Q ⟨env, P, fp, Tm, r, rep, pots, q⟩
    refine ⟨env, P, fp, Tm, r, rep, pots, h.mono _ _ _ (fun d pr ⟨n, ed, hn, q⟩ => ?_) q⟩
    intro v H1 P1 e1 pots1 f
    subst ed
    obtain rfl := f.int_inv
    refine ⟨n, rfl, fun y hy => ?_⟩
    have e2 : Evo R.T P P1 H (upd H1 y (.rng 0 n)) := e1.trans (Evo.upd hy)
    have pots2 := pots1.updN (o := .rng 0 n) hy
    refine ⟨fun q hq => e2.tab q hq (rep.tab q hq), y, intsTo n, rfl, .inl ⟨0, n, upd_same, ⟨by omega, by omega, by omega, by omega, by omega⟩, by simp [intsTo]⟩, fun H2 lamd => ?_⟩
    have e3 : Evo R.T P P1 H H2 := e2.trans lamd.evo
    have pots3 := lamd.pots pots2
    obtain ⟨key, k1, k2, k3⟩ := keyed_raw (hb X.A 0 0 0).mono (rep.evo e3) pots3.some q
    refine ⟨key, k1, k2, fun l hl => ?_⟩
    have nl : l ∉ P1 := fun z => pots3.some l z hl
    exact k3 _ _ P1 (e3.trans (Evo.upd hl)) (pots3.updN hl) ⟨[l], .lst upd_same nl (dvs_mk _), by simp, fun b hb => by
      have : b = l := by simpa using hb
      subst this
      exact ⟨e3.fresh hl, _, upd_same, trivial⟩⟩
end
end VS

/-! a zip held by a name, walked once in the very next statement -/
namespace VS
open PySem PySem.Spec PyProof.Rows L2
/-- the objects at fp are just these -/
def litH (fp : List Addr) (lit : Addr → Obj) (H : Hp) : Hp := fun c => if c ∈ fp then some (.ext fun h => h.get? c = some (lit c)) else H c
def offH (fp : List Addr) (H : Hp) : Hp := fun c => if c ∈ fp then none else H c
theorem off_lit {fp : List Addr} {lit : Addr → Obj} {H : Hp} (h : ∀ c ∈ fp, H c = none) : offH fp (litH fp lit H) = H := by
  funext c
  unfold offH litH
  by_cases hc : c ∈ fp
  · rw [if_pos hc, h c hc]
  · rw [if_neg hc, if_neg hc]
section
variable {X : Cx} {pins : List (Addr × Obj)} {σ : L2.St} {H H' : Hp} {s : Shared} {fp : List Addr}
/-- the abstract heap told anew at young objects that are nothing else's -/
theorem Inv.swap (I : Inv X pins σ H s) (same : ∀ c, c ∉ fp → H' c = H c) (old : ∀ c ∈ fp, ∀ u, H c = some u → ∃ φ, u = .ext φ) (hA : ∀ c ∈ fp, X.s_0.heap.objs.size ≤ c) (hB : ∀ c ∈ fp, c ≠ X.env.locals) (hC : ∀ c ∈ fp, ∀ x b, X.env.cells.lookup x = some b → b ≠ c)
    (hD : ∀ c ∈ fp, ∀ p ∈ X.pn ++ pins, p.1 ≠ c) (new : ∀ c ∈ fp, ∀ u, H' c = some u → ObjOk X.prog X.w H' s.heap c u) : Inv X pins σ H' s := by
  have keepT : ∀ c u, H c = some u → (∀ φ, u ≠ .ext φ) → H' c = some u := fun c u e n => by
    rw [same c fun hc => ?_]
    · exact e
    · obtain ⟨φ, z⟩ := old c hc u e
      exact n φ z
  have notIn : ∀ b o, X.s_0.heap.get? b = some o → b ∉ fp := fun b o e hb => absurd (Heap.lt_size e) (Nat.not_lt.mpr (hA b hb))
  refine ⟨I.ok, I.os, I.bare, ⟨I.base.keep, I.base.slot, fun b o e n nx => ?_, I.base.there, fun b xs e => keepT _ _ (I.base.tups b xs e) (fun _ z => nomatch z), fun b o u e => keepT _ _ (I.base.frzs b o u e) (fun _ z => nomatch z), fun b ps e => ?_⟩, I.loc, I.cell, ?_, fun x c e => ?_, fun p hp => ?_, fun b u e => ?_, I.len⟩
  · rw [same b (notIn b o e)]
    exact I.base.free b o e n nx
  · obtain ⟨more, z⟩ := I.base.tbls b ps e
    exact ⟨more, keepT _ _ z (fun _ z => nomatch z)⟩
  · rw [same _ fun hc => hB _ hc rfl]
    exact I.free
  · rw [same c fun hc => hC c hc x c e rfl]
    exact I.freeC x c e
  · obtain ⟨h1, h2, h3⟩ := I.pin p hp
    exact ⟨h1, by rw [same _ fun hc => hD _ hc p hp rfl]; exact h2, h3⟩
  · by_cases hb : b ∈ fp
    · exact new b hb u e
    · rw [same b hb] at e
      exact (I.hok b u e).stay (fun _ _ _ q => q) (fun c q => keepT _ _ q (fun _ z => nomatch z)) fun c xs q => keepT _ _ q (fun _ z => nomatch z)
end
/-- an iterator that the slot i holds, not yet begun -/
def iHeld (P : Program) (w : World) (K : PySem.W.Frag) (tg : Expr) (i n : Nat) : TI := fun σ H R => ∃ (z : Addr) (fp : List Addr) (tn : Nat → Heap → Prop) (J : It) (lit : Addr → Obj), σ[i]? = some (some (.ref z)) ∧ Turn P w K tg J fp z tn ∧ (∀ h : Heap, (∀ c ∈ fp, h.get? c = some (lit c)) → tn 0 h) ∧
  (∀ c ∈ fp, n ≤ c ∧ H c = some (.ext fun h => h.get? c = some (lit c))) ∧ R J (offH fp H)
section
variable {X : Cx} {pos px p : Pos} {x : Str} {i : Nat} {tg e e2 : Expr}
theorem pi_held (hN : X.N[i]? = some x) (hv : Vis X.env.scope x) (hd : (x == ("__debug__" : Str)) = false := by decide) (hcd : (x == ("__classdict__" : Str)) = false := by decide) : PI X tg (.Name x px) (iHeld X.prog X.w X.K tg i X.s_0.heap.objs.size) := by
  refine ⟨fun pins s σ H R I ⟨z, fp, tn, J, lit, hz, tu, h0, hfp, r⟩ => ?_⟩
  refine thn ((pe_var (pos := px) (i := i) hN hv hd hcd).run pins s σ H (fun v H1 => v = .ref z ∧ H1 = H) I ⟨.ref z, hz, rfl, rfl⟩) fun u s1 ⟨v, H1, I1, r1, ev, eH⟩ => ?_
  subst ev eH
  obtain rfl : u = Value.ref z := r1
  have at_ : ∀ c ∈ fp, s1.heap.get? c = some (lit c) := fun c hc => (I1.hok c _ (hfp c hc).2).1
  have b1 : ∀ c ∈ fp, c ≠ X.env.locals := fun c hc q => by
    have := I1.free
    rw [← q, (hfp c hc).2] at this
    cases this
  have b2 : ∀ c ∈ fp, ∀ y b, X.env.cells.lookup y = some b → b ≠ c := fun c hc y b e q => by
    have := I1.freeC y b e
    rw [q, (hfp c hc).2] at this
    cases this
  have b3 : ∀ c ∈ fp, ∀ q ∈ X.pn ++ pins, q.1 ≠ c := fun c hc q hq z => by
    have := (I1.pin q hq).2.1
    rw [z, (hfp c hc).2] at this
    cases this
  have b4 : ∀ c ∈ fp, c ∉ X.fs := fun c hc q => by
    obtain ⟨_, o, ho, _⟩ := I1.ok.funs.mem q
    exact absurd (Heap.lt_size ho) (Nat.not_lt.mpr (hfp c hc).1)
  have J1 : Inv X pins σ (offH fp H1) s1 := Inv.swap I1 (fun c hc => if_neg hc) (fun c hc u e => by rw [(hfp c hc).2] at e; cases e; exact ⟨_, rfl⟩) (fun c hc => (hfp c hc).1) b1 b2 b3 fun c hc u e => by
    unfold offH at e
    rw [if_pos hc] at e
    cases e
  exact tu.self X.A 0 s1 _ _ (h0 _ at_) ⟨z, fp, tn, J, offH fp H1, rfl, J1, tu, h0 _ at_, fun b hb => ⟨if_pos hb, b1 b hb, b4 b hb, .inr (hfp b hb).1, b2 b hb, b3 b hb⟩, r⟩
/-- zip(a, b) as a value -/
def tZipO (P : Program) (w : World) (K : PySem.W.Frag) (elts : List Expr) (kk : Nat) (tpos : Pos) (n : Nat) (ta : TA) : TE := fun σ H Q => ta σ H fun vs H1 => ∃ k1 k2 a b xs ys, vs = [V.ref a, .ref b] ∧ SqK K k1 H1 a xs ∧ SqK K k2 H1 b ys ∧
  ∀ (z : Addr) (fp : List Addr) (tn : Nat → Heap → Prop) (lit : Addr → Obj), Turn P w K (.Tuple elts kk tpos) (ItzK K k1 k2 a b) fp z tn → (∀ h : Heap, (∀ c ∈ fp, h.get? c = some (lit c)) → tn 0 h) → (∀ c ∈ fp, n ≤ c ∧ H1 c = none) → Q (.ref z) (litH fp lit H1)
theorem pe_zipO {ta : TA} {elts : List Expr} {kk : Nat} {tpos : Pos} (hg : Gl X "zip") (hm : X.mg "zip" = none) (ha : PA X [e, e2] ta)
    (hs : starEach [e, e2] X.env = (false, eval e X.env) :: starEach [e2] X.env := by rfl) (hpl : (backTo pos (starEach [e2] X.env)).any (·.1) = false := by rfl) :
    PE X (.Call (.Name "zip" p) [e, e2] [] pos) (tZipO X.prog X.w X.K elts kk tpos X.s_0.heap.objs.size ta) := by
  refine ⟨fun pins s σ H Q I h => ?_⟩
  refine Call_ (ld_blt I hg hm PyProof.Rows.boot_zip (PyProof.Rows.callWith_type1 (thn (ha.run pos pins s σ H _ I h) fun us s1 ⟨vs, H1, I1, r1, k1, k2, a, b, xs, ys, ex, hqx, hqy, q⟩ => ?_) hs hpl))
  subst ex
  cases r1 with
  | cons r rr =>
    cases rr with
    | cons r' rr =>
      cases rr
      cases r
      cases r'
      obtain ⟨its, rv, p1, _⟩ := inv_sqK I1 hqx
      obtain ⟨its2, rv2, p2, _⟩ := inv_sqK I1 hqy
      have la := p1.lt
      have lb := p2.lt
      refine zip_begins2 (beginsK k1 a its.toArray) (beginsK k2 b its2.toArray) p1 p2 fun h' hz hTI hTO h1 h2 hsz hk => ?_
      have I2 : Inv X pins σ H1 { s1 with heap := h' } := I1.kept (t' := s1.toks) hk
      have tu := turn_zipK (P := X.prog) (w := X.w) (K := X.K) (elts := elts) (kk := kk) (tpos := tpos) (k1 := k1) (k2 := k2) (zip_sep2 (N := s1.heap.objs.size) (fp1 := [a]) (fp2 := [b]) (by simpa using la) (by simpa using lb)) (Nat.ne_of_lt la) (Nat.ne_of_lt (Nat.lt_succ_of_lt lb))
      have hfr : ∀ c ∈ [s1.heap.objs.size + 4, s1.heap.objs.size + 2, s1.heap.objs.size + 3, s1.heap.objs.size, s1.heap.objs.size + 1], s1.heap.objs.size ≤ c := fun c hc => by
        have e' : c = s1.heap.objs.size + 4 ∨ c = s1.heap.objs.size + 2 ∨ c = s1.heap.objs.size + 3 ∨ c = s1.heap.objs.size ∨ c = s1.heap.objs.size + 1 := by simpa using hc
        omega
      obtain ⟨tn, htn⟩ : ∃ tn, Turn X.prog X.w X.K (.Tuple elts kk tpos) (ItzK X.K k1 k2 a b) [s1.heap.objs.size + 4, s1.heap.objs.size + 2, s1.heap.objs.size + 3, s1.heap.objs.size, s1.heap.objs.size + 1] (s1.heap.objs.size + 4) tn ∧ tn 0 h' :=
        ⟨_, tu, hz, hTI, ⟨_, _, hTO⟩, iterK_new h1, iterK_new h2⟩
      obtain ⟨tu, st0⟩ := htn
      have objs := tu.obj 0 h' st0
      have fpk := fun c hc => I1.fpOk (H' := H1) (hfr c hc) (I1.hok.fresh (hfr c hc))
      have lit0 : ∀ h : Heap, (∀ c ∈ [s1.heap.objs.size + 4, s1.heap.objs.size + 2, s1.heap.objs.size + 3, s1.heap.objs.size, s1.heap.objs.size + 1], h.get? c = some ((h'.get? c).getD { cls := .none })) → tn 0 h := fun h hh => tu.keep 0 h' h st0 fun b hb o e => by rw [hh b hb, e] <;> rfl
      refine ⟨.ref (s1.heap.objs.size + 4), _, Inv.swap I2 (fun c hc => if_neg hc) (fun c hc u e => by rw [I1.hok.fresh (hfr c hc)] at e; cases e) (fun c hc => Nat.le_trans I1.sz (hfr c hc)) (fun c hc => (fpk c hc).2.1) (fun c hc y d e => (fpk c hc).2.2.2.2.1 y d e) (fun c hc q hq => (fpk c hc).2.2.2.2.2 q hq) (fun c hc u e => ?_), rfl,
        q _ _ tn (fun c => (h'.get? c).getD { cls := .none }) tu lit0 fun c hc => ⟨Nat.le_trans I1.sz (hfr c hc), I1.hok.fresh (hfr c hc)⟩⟩
      have e' : u = .ext fun h => h.get? c = some ((h'.get? c).getD { cls := .none }) := by
        have e2 : (if c ∈ _ then some (HO.ext fun h => h.get? c = some ((h'.get? c).getD { cls := .none })) else H1 c) = some u := e
        rw [if_pos hc] at e2
        exact (Option.some.inj e2).symm
      subst e'
      obtain ⟨o, ho, _⟩ := objs c hc
      exact ⟨by show h'.get? c = _; rw [ho] <;> rfl, ⟨o, ho⟩, fun g1 g2 h1 st => st _ h1⟩
end
end VS

/-! x = zip(a, b); return all([.. for .. in x]) -/
namespace VS
open PySem PySem.Spec PyProof.Rows L2
theorem Rep.bump {K : PySem.W.Frag} {R : RC} {env : Env} {σ : L2.St} {H : Hp} {P : List Addr} {fp : Nat → List Addr} {T : Tmp} {i : Nat} {v : Option V} (r : Rep K R env σ H P fp T) (h : ∀ f d, env[i]? ≠ some (some (f, d))) : Rep K R env (σ.set i v) H P fp T :=
  ⟨by rw [List.length_set]; exact r.len, r.base, r.tab, fun j f d e => by
    obtain ⟨w, h1, h2⟩ := r.slot j f d e
    refine ⟨w, ?_, h2⟩
    have n : i ≠ j := fun z => by subst z; exact h f d e
    rw [List.getElem?_set_ne n]
    exact h1, r.own, r.dis, r.lck, r.tmp, r.tds, r.tex, r.tdj⟩
section
variable {X : Cx} {R : RC} {pos p : Pos} {tg e iter elt : Expr} {ifs : List Expr} {te : VT} {g : VGt} {tt : VB} {is : List Nat} {ci ct ce : Nat}
/-- the turns of a comprehension, from where its iterator has come -/
theorem lc_run {vs : List Nat} (hs : ∀ i ∈ is, i ∈ vs) (hg : ∀ x env (Q Q' : Env → Prop), (∀ e, Q e → Q' e) → g x env Q → g x env Q') (ht : MonoB tt) (he : MonoE te) {σ : L2.St} {H H1 : Hp} {Q : L2.VK} {env : Env} {P P1 : List Addr} {fp : Nat → List Addr} {T : Tmp} {r : Nat} {J : It} {ts : Tmp} {items : List D}
    (rep : Rep X.K R env σ H P fp T) (e1 : Evo R.T P P1 H H1) (pots1 : Pots (SZ * (ct + ce) + r) P1 H1) (hts : HoldT X.K P1 H1 ts) (wk : WkD X.K J items ts) (hsz : items.length ≤ SZ) (I : Nat → List D → Prop) (hI0 : I 0 [])
    (hIs : ∀ i d acc, items[i]? = some d → I i acc → g (d, .any) (wipeE env vs) fun e2 => tt e2 fun b => if b = true then te e2 fun y p => okIn y p = true ∧ I (i + 1) (acc ++ [y]) else I (i + 1) acc)
    (hId : ∀ acc, I items.length acc → acc.length ≤ items.length → ∀ v H' P', Evo R.T P P' H H' → Pots r P' H' → Fin X.K fp env H (.lst acc) .fresh v H' P' → Q v H') :
    tLc (fun _ _ Q' => Q' J H1) (liftG X.K R is g) (liftB X.K R ct tt) (liftE X.K R ce te) vs σ H Q := by
  intro D hD
  have hD0 : H D = none := e1.fresh hD
  have hpots1 : Pots ((items.length - 0) * (ct + ce) + r) P1 H1 := pots1.le (Nat.add_le_add_right (Nat.mul_le_mul_right _ (by omega)) _)
  refine lc_it wk (fun i Hc => i ≤ items.length ∧ ∃ acc vs F P', I i acc ∧ acc.length ≤ i ∧ Evo R.T P1 P' H1 Hc ∧ Hc D = some (.lst vs) ∧ D ∉ P' ∧ DVs X.K P' Hc acc vs F ∧ D ∉ F ∧ F.Nodup ∧ (∀ a ∈ F, H1 a = none ∧ Live Hc a) ∧ Pots ((items.length - i) * (ct + ce) + r) P' Hc) ?_ ?_ ?_ ?_
  · exact ⟨Nat.zero_le _, [], [], [], P1, hI0, Nat.le_refl _, Evo.upd hD, upd_same, fun hp => hpots1.some D hp hD, .nil, by simp, List.nodup_nil, (fun a ha => by cases ha), hpots1.updN hD⟩
  · rintro i Hc _ ⟨_, acc, vs', F, P', _, _, ev, _⟩
    exact ⟨P', hts.evo ev⟩
  · rintro i x Hc H' hlt ⟨_, acc, vs', F, P', hI, hlen, ev, hDc, hDP, dvs, hDF, hnF, hF, pc⟩ y
    obtain ⟨ey0, d, Fd, hd, dvx⟩ := y P' pc.some (hts.evo ev)
    have ey : Evo R.T P' P' Hc H' := Evo.same ey0
    have ev' : Evo R.T P1 P' H1 H' := ev.trans ey
    have rep1 : Rep X.K R (wipeE env vs) (wipe σ vs) H' P' fp T := (rep.evo (e1.trans ev')).wipe vs
    refine ⟨wipeE env vs, P', fp, T, (d, .any), Fd, rep1, dvx, trivial, hg _ _ _ _ (fun e2 q2 => ?_) (hIs i d acc hd hI)⟩
    intro σ2 fp2 ho rep2
    refine ⟨wipe_again hs ho, e2, P', fp2, T, ce + ((items.length - (i + 1)) * (ct + ce) + r), rep2, ?_, ht _ _ _ (fun b q3 => ?_) q2⟩
    · rw [← Nat.add_assoc, mul_le hlt]; exact pc.same ey0
    · intro H3 P3 e3 pots3
      have ec3 : Evo R.T P' P3 Hc H3 := ey.trans e3
      have hD3 : H3 D = some (.lst vs') := ec3.keep D _ hDc hDP nt_lst
      have hD3P : D ∉ P3 := ec3.notin (by rw [hDc]; simp) hDP
      have ev3 : Evo R.T P1 P3 H1 H3 := ev.trans ec3
      have hF3 : ∀ a ∈ F, H1 a = none ∧ Live H3 a := fun a ha => ⟨(hF a ha).1, (hF a ha).2.evo ec3 (dvs.live a ha).2⟩
      cases b with
      | false => exact ⟨hlt, acc, vs', F, P3, q3, by omega, ev3, hD3, hD3P, dvs.evo ec3, hDF, hnF, hF3, pots3.le (by omega)⟩
      | true =>
        rw [if_pos rfl]
        refine ⟨e2, P3, fp2, T, (items.length - (i + 1)) * (ct + ce) + r, rep2.evo e3, pots3, he _ _ _ (fun y p ⟨hok, hI'⟩ => ?_) q3⟩
        intro v H4 P4 e4 pots4 ⟨Fy, dvy, pky⟩
        have ec4 : Evo R.T P' P4 Hc H4 := ec3.trans e4
        have hD4 : H4 D = some (.lst vs') := ec4.keep D _ hDc hDP nt_lst
        have hD4P : D ∉ P4 := ec4.notin (by rw [hDc]; simp) hDP
        have hFy : Fy.Nodup ∧ ∀ a ∈ Fy, H3 a = none ∧ Live H4 a := by
          cases p with
          | fresh => exact pky
          | all k => rw [dvy.imm_nil hok]; exact ⟨List.nodup_nil, fun a ha => by cases ha⟩
          | sub k => rw [dvy.imm_nil hok]; exact ⟨List.nodup_nil, fun a ha => by cases ha⟩
          | any => rw [dvy.imm_nil hok]; exact ⟨List.nodup_nil, fun a ha => by cases ha⟩
        have hDy : D ∉ Fy := fun h => by
          have := (hFy.2 D h).1
          rw [hD3] at this; cases this
        have hF4 : ∀ a ∈ F, H1 a = none ∧ Live H4 a := fun a ha => ⟨(hF a ha).1, (hF a ha).2.evo ec4 (dvs.live a ha).2⟩
        have dvs4 := dvs.evo ec4
        have hl := dvs.length
        refine ⟨vs', hD4, sz_lt (by omega), hlt, acc ++ [y], vs' ++ [v], F ++ (Fy ++ []), P4, hI', by simp; omega, (ev.trans ec4).out hD (MutO.ntb hD4 trivial), upd_same, hD4P, ?_, ?_, ?_, ?_, pots4.upd hD4P⟩
        · exact (dvs4.mut hD4 trivial hDF).append (.cons (dvy.mut hD4 trivial hDy) .nil)
        · simp only [List.append_nil, List.mem_append, not_or]; exact ⟨hDF, hDy⟩
        · rw [List.append_nil]
          refine List.nodup_append.mpr ⟨hnF, hFy.1, fun a ha b hb z => ?_⟩
          subst z
          have := (hFy.2 a hb).1
          exact ((dvs.evo ec3).live a ha).1 this
        · intro a ha
          rw [List.append_nil] at ha
          rcases List.mem_append.mp ha with ha | ha
          · exact ⟨(hF4 a ha).1, (hF4 a ha).2.upd (fun z => hDF (by rw [← z]; exact ha))⟩
          · exact ⟨ev3.fresh (hFy.2 a ha).1, (hFy.2 a ha).2.upd (fun z => hDy (by rw [← z]; exact ha))⟩
  · rintro Hc ⟨_, acc, vs', F, P', hI, hlen, ev, hDc, hDP, dvs, hDF, hnF, hF, pc⟩
    refine hId acc hI hlen _ Hc P' (e1.trans ev) (pc.le (by omega)) ⟨D :: F, .lst hDc hDP dvs, List.nodup_cons.mpr ⟨hDF, hnF⟩, fun a ha => ?_⟩
    rcases List.mem_cons.mp ha with rfl | ha
    · exact ⟨hD0, _, hDc, trivial⟩
    · exact ⟨e1.fresh (hF a ha).1, (hF a ha).2⟩
end
/-- what it tells; i: the zip's slot -/
def vZipAll (i : Nat) (u : VA) (g : VGt) (tt : VB) (te : VT) (vs : List Nat) : VTS := fun k env => i < env.length ∧ u env fun xs => ∃ d p d2 p2 ds ds2, xs = [(d, p), (d2, p2)] ∧ d.items = some ds ∧ d2.items = some ds2 ∧
  vLc (fun _ Q => Q (zipD ds ds2) []) g tt te vs (wipeE env [i]) fun r _ => ∃ bs : List Bool, r = .lst (bs.map D.bl) ∧ k.rt (.bl (bs.all id))
section
variable {X : Cx} {R : RC} {pos p px px2 p3 apos cpos lpos rpos tpos : Pos} {e e2 elt : Expr} {elts ifs : List Expr} {kk : Nat} {te : VT} {g : VGt} {tt : VB} {is : List Nat} {c ct ce : Nat} {u : VA} {x : Str}
theorem vss_zipAll {scope : Scope} {own : List (Str × Nat)} (i : Nat) (hc : X.calm = true) (hN : X.N.Nodup) (h : VL X R c [e, e2] u) (ok : BlkOk X.N X.env.scope scope own)
    (hg : ∀ (s : Shared) (H : Hp) (C : Addr) (cl : List (Str × Addr)) (fp : List Addr), VG (X.blk s H scope (compEnvC scope cl C X.env) fp) R is (.Tuple elts kk tpos) g)
    (ht : ∀ (s : Shared) (H : Hp) (C : Addr) (cl : List (Str × Addr)) (fp : List Addr), VTs (X.blk s H scope (compEnvC scope cl C X.env) fp) R ct ifs tt)
    (he : ∀ (s : Shared) (H : Hp) (C : Addr) (cl : List (Str × Addr)) (fp : List Addr), VE (X.blk s H scope (compEnvC scope cl C X.env) fp) R ce elt te) (hmz : X.mg "zip" = none) (hma : X.mg "all" = none) (hgz : Gl X "zip" := by rfl) (hga : Gl X "all" := by rfl)
    (hi : X.N[i]? = some x := by rfl) (hx : Loc X.env.scope x := by first | exact Or.inl rfl | exact Or.inr rfl) (hv : Vis X.env.scope x := by first | exact Or.inl rfl | exact Or.inr (Or.inl rfl) | exact Or.inr (Or.inr rfl))
    (hsw : swapsWith (.Call (.Name "zip" p) [e, e2] [] pos) (some (.Name x px)) apos.line X.env = pure false := by rfl) (hf : X.fn x = true ∨ X.env.scope.names.lookup x = some .local := by first | exact .inl rfl | exact .inr rfl | assumption)
    (hs : ∀ i ∈ is, i ∈ own.map (·.2) := by decide) (hfo : ∀ y, foldedSetIterable (.Name x px2) X.env y = pure y := by intro _; rfl) (hd : (x == ("__debug__" : Str)) = false := by decide) (hcd : (x == ("__classdict__" : Str)) = false := by decide)
    (hs2 : starEach [e, e2] X.env = (false, eval e X.env) :: starEach [e2] X.env := by rfl) (hpl : (backTo pos (starEach [e2] X.env)).any (·.1) = false := by rfl)
    (ha2 : starEach [.ListComp elt [⟨.Tuple elts kk tpos, .Name x px2, ifs, 0⟩] scope lpos] X.env = (false, eval (.ListComp elt [⟨.Tuple elts kk tpos, .Name x px2, ifs, 0⟩] scope lpos) X.env) :: starEach [] X.env := by rfl) (hpl2 : (backTo cpos (starEach [] X.env)).any (·.1) = false := by rfl) :
    VSs X R (c + SZ * (ct + ce)) [.Assign [.Name x px] (.Call (.Name "zip" p) [e, e2] [] pos) apos, .Return (some (.Call (.Name "all" p3) [.ListComp elt [⟨.Tuple elts kk tpos, .Name x px2, ifs, 0⟩] scope lpos] [] cpos)) rpos]
      (vZipAll i u g tt te (own.map (·.2))) where
  mono := fun k k' hk env q => ⟨q.1, h.mono _ _ _ (fun xs ⟨d, p, d2, p2, ds, ds2, e1, e2, e3, h1, I, h2, h3, h4⟩ => ⟨d, p, d2, p2, ds, ds2, e1, e2, e3, h1, I, h2, h3, fun acc a b => let ⟨bs, z, q⟩ := h4 acc a b; ⟨bs, z, hk.rt _ q⟩⟩) q.2⟩
  run := by
    have m0 := (hg X.s_0 X.H_0 0 [] []).mono
    have m1 := (ht X.s_0 X.H_0 0 [] []).mono
    have m2 := (he X.s_0 X.H_0 0 [] []).mono
    refine PSs.imp (pss_cons (ps_set hN hi hx (pe_zipO (elts := elts) (kk := kk) (tpos := tpos) hgz hmz h.run hs2 hpl) hsw hf) (pss_one (ps_ret (pe_callB (id := "all") (cr_all hc) hga hma (by decide +kernel) (pa_cons (pe_lc (g := liftG X.K R is g) (tt := liftB X.K R ct tt) (te := liftE X.K R ce te) hc hN (pi_held hi hv hd hcd) ok (fun s H C cl fp => (hg s H C cl fp).run) (fun s H C cl fp => (ht s H C cl fp).run) (fun s H C cl fp => (he s H C cl fp).run) hfo) pa_nil ha2) (he := ha2) (hpl := hpl2))))) ?_
    rintro Dn σ H ⟨env, P, fp, T, r, k, rep, pots, ⟨hie, q⟩, gd⟩
    refine ⟨env, P, fp, T, SZ * (ct + ce) + r, rep, by rw [← Nat.add_assoc]; exact pots, h.mono _ _ _ (fun xs ⟨d, p, d2, p2, ds, ds2, ex, i1, i2, hsz, I, hI0, hIs, hId⟩ => ?_) q⟩
    intro vs H1 P1 e1 pots1 f
    subst ex
    obtain ⟨v, w, rfl, ⟨F, dv, pk⟩, ⟨F2, dv2, pk2⟩⟩ := f.two
    obtain ⟨a, ws, G, rfl, h1, h2⟩ := dv.seq i1
    obtain ⟨b, ws2, G2, rfl, g1, g2⟩ := dv2.seq i2
    refine ⟨d.sk, d2.sk, a, b, ws, ws2, rfl, h1, g1, fun z fz tn lit tu l0 hfz => ?_⟩
    have rep0 : Rep X.K R (wipeE env [i]) (wipe σ [i]) H1 P1 fp T := (rep.evo e1).wipe [i]
    have hno : ∀ f d, (wipeE env [i])[i]? ≠ some (some (f, d)) := fun f d z => (wipeE_some z).2 (by simp)
    have rep1 : Rep X.K R (wipeE env [i]) (σ.set i (some (.ref z))) H1 P1 fp T := by
      have := Rep.bump (v := some (.ref z)) rep0 hno
      have e2 : (wipe σ [i]).set i (some (.ref z)) = σ.set i (some (.ref z)) := by
        unfold wipe
        simp [wipe]
      rw [e2] at this
      exact this
    have hil : i < σ.length := by rw [← rep.len]; exact hie
    have hts : HoldT X.K P1 H1 [⟨d, .ref a, F, false⟩, ⟨d2, .ref b, F2, false⟩] := fun t ht => by
      rcases List.mem_cons.mp ht with rfl | ht
      · exact dv
      · rcases List.mem_cons.mp ht with rfl | ht
        · exact dv2
        · cases ht
    have key := lc_run (ct := ct) (ce := ce) (is := is) (Q := fun x H2 => rAll X.K [x] H2 Dn.rt) hs m0 m1 m2 rep1 Evo.refl pots1 hts (walk_zipK i1 i2 rfl rfl) hsz I hI0 hIs fun acc a1 a2 v3 H3 P3 e3 pots3 f3 => by
      obtain ⟨bs, eb, qb⟩ := hId acc a1 a2
      refine (l_all (K := X.K)).run fp (wipeE env [i]) H1 H3 P3 [(.lst acc, .fresh)] [v3] Dn.rt (fun y hy => e3.fresh hy) pots3.some ⟨[f3.choose], ⟨f3.choose_spec.1, f3.choose_spec.2, trivial⟩, ?_⟩ ?_
      · show (f3.choose ++ []).Nodup
        rw [List.append_nil]
        exact f3.choose_spec.2.1
      · refine ⟨_, _, rfl, bs, eb, fun v5 H5 s5 f5 => ?_⟩
        obtain rfl := f5.bl_inv
        exact gd.rt (.bl _) _ H5 P3 ⟨((rep.base.trans e1).trans e3).trans (Evo.same s5), [], .bl _, List.nodup_nil, fun y hy => by cases hy⟩ (pots3.same s5) qb
    refine ⟨z, fz, tn, _, lit, by rw [List.getElem?_set_self hil], tu, l0, fun c hc => ⟨(hfz c hc).1, if_pos hc⟩, ?_⟩
    rw [off_lit fun c hc => (hfz c hc).2]
    exact key
end
end VS

namespace VS
open PySem PySem.Spec PyProof.Rows L2
def hasAt (N : List Str) (a : Str) (vs : List Nat) : Nat → Bool
  | i => match N with
    | [] => true
    | x :: r => (x != a || vs.contains i) && hasAt r a vs (i + 1)
theorem hasAt_ok {a : Str} {vs : List Nat} : ∀ {N : List Str} {n : Nat}, hasAt N a vs n = true → ∀ i, N[i]? = some a → n + i ∈ vs
  | [], _, _, i, e => by simp at e
  | x :: r, n, h, i, e => by
    unfold hasAt at h
    simp only [Bool.and_eq_true, Bool.or_eq_true] at h
    cases i with
    | zero =>
      simp at e
      rcases h.1 with z | z
      · simp [e] at z
      · simpa using z
    | succ i =>
      have := hasAt_ok h.2 i (by simpa using e)
      rwa [show n + (i + 1) = n + 1 + i by omega]
theorem hvs_by {N : List Str} {a : Str} {vs : List Nat} (h : hasAt N a vs 0 = true) : ∀ i, N[i]? = some a → i ∈ vs := fun i e => by simpa using hasAt_ok h i e
end VS

/-! an own list that is not written any more -/
namespace VS
open PySem PySem.Spec PyProof.Rows L2
theorem Inv.frz {X : Cx} {pins : List (Addr × Obj)} {σ : L2.St} {H : Hp} {s : Shared} {a : Addr} {vs : List V} (I : Inv X pins σ H s) (ha : H a = some (.lst vs)) : ∃ o, Inv X pins σ (upd H a (.frz o (.lst vs))) s := by
  obtain ⟨z, its, n, r, e⟩ := (I.hok a _ ha : _ ∧ ∃ (its : List Value) (n : Nat), Vals vs its ∧ s.heap.get? a = some { cls := .type "list", data := .seq its.toArray n })
  obtain ⟨o, ho⟩ : ∃ o, s.heap.get? a = some o := ⟨_, e⟩
  have other : ∀ b u, H b = some u → (∀ ws, u ≠ .lst ws) → upd H a (.frz o (.lst vs)) b = some u := fun b u q n => by
    rw [upd_ne (fun z => by rw [z, ha] at q; cases q; exact n _ rfl)]
    exact q
  have none_ : ∀ b, H b = none → upd H a (.frz o (.lst vs)) b = none := fun b q => by
    rw [upd_ne (fun z => by rw [z, ha] at q; cases q)]
    exact q
  refine ⟨o, I.ok, I.os, I.bare, ⟨I.base.keep, I.base.slot, fun b ob e n nx => none_ _ (I.base.free b ob e n nx), I.base.there, fun b xs e => other _ _ (I.base.tups b xs e) (fun _ z => nomatch z), fun b ob u e => other _ _ (I.base.frzs b ob u e) (fun _ z => nomatch z), fun b ps e => ?_⟩, I.loc, I.cell, none_ _ I.free, fun x c e => none_ _ (I.freeC x c e), fun p hp => ?_, fun b u q => ?_, I.len⟩
  · obtain ⟨more, z⟩ := I.base.tbls b ps e
    exact ⟨more, other _ _ z (fun _ z => nomatch z)⟩
  · obtain ⟨h1, h2, h3⟩ := I.pin p hp
    exact ⟨h1, none_ _ h2, h3⟩
  · by_cases hb : b = a
    · subst hb
      rw [upd_same] at q
      cases q
      exact ⟨ho, z, its, n, r, e⟩
    · rw [upd_ne hb] at q
      exact (I.hok b u q).stay (fun _ _ _ q => q) (fun c q => other _ _ q (fun _ z => nomatch z)) fun c xs q => other _ _ q (fun _ z => nomatch z)
theorem pss_frz {X : Cx} {sts : List Stmt} {t : TS} (h : PSs X sts t) : PSs X sts (fun Dn σ H => ∃ a vs, H a = some (.lst vs) ∧ ∀ o, t Dn σ (upd H a (.frz o (.lst vs)))) :=
  ⟨fun pins s σ H Dn I ⟨a, vs, ha, q⟩ => by
    obtain ⟨o, J⟩ := Inv.frz I ha
    exact h.run pins s σ _ Dn J (q o)⟩
/-- the own list of the slot i is only read from here on -/
def vFrz (i : Nat) (t : VTS) : VTS := fun k env => ∃ ds, env[i]? = some (some (Fl.own, .lst ds)) ∧ immAll ds = true ∧ t k (putE env i (.rol ds))
theorem vss_frz {X : Cx} {R : RC} {c : Nat} {sts : List Stmt} {t : VTS} (i : Nat) (h : VSs X R c sts t) : VSs X R c sts (vFrz i t) where
  mono := fun k k' hk env ⟨ds, h1, h2, q⟩ => ⟨ds, h1, h2, h.mono _ _ hk _ q⟩
  run := PSs.imp (pss_frz h.run) fun Dn σ H ⟨env, P, fp, T, r, k, rep, pots, ⟨ds, hi, im, q⟩, gd⟩ => by
    obtain ⟨v, s1, dv⟩ := rep.slot i _ _ hi
    generalize hF : fp i = F at dv
    obtain ⟨a, vs, G, rfl, ha, na, dvs, rfl⟩ := dv.lst_inv
    have z := dvs.imm_nil im
    subst z
    refine ⟨a, vs, ha, fun o => ⟨_, P, _, T, r, k, rep.rewrite hi s1 hF ha trivial (d' := .rol ds) (F' := []) (.rol (.inl ⟨⟨o, upd_same⟩, na⟩) (dvs.mut ha trivial (by simp))) (.inl rfl), pots.upd na, q, gd⟩⟩
@[simp] theorem vFrz_eq {i : Nat} {t : VTS} {k : VK} {env : Env} : vFrz i t k env = (match env[i]? with | some (some (.own, .lst ds)) => immAll ds = true ∧ t k (putE env i (.rol ds)) | _ => False) := by
  apply propext
  unfold vFrz
  constructor
  · rintro ⟨ds, h1, h2, q⟩
    rw [h1]
    exact ⟨h2, q⟩
  · intro h
    split at h
    · rename_i ds e
      exact ⟨ds, e, h.1, h.2⟩
    · exact h.elim
end VS

/-! a tuple of new parts -/
namespace VS
open PySem PySem.Spec PyProof.Rows L2
def frsh : Prov → Bool | .fresh => true | _ => false
def allFr (xs : List DP) : Bool := xs.all fun x => x.1.imm || frsh x.2
@[simp] theorem frsh_fresh : frsh .fresh = true := rfl
@[simp] theorem frsh_any : frsh .any = false := rfl
@[simp] theorem allFr_nil : allFr [] = true := rfl
@[simp] theorem allFr_cons {x : DP} {xs : List DP} : allFr (x :: xs) = ((x.1.imm || frsh x.2) && allFr xs) := rfl
theorem finL_fr {K : PySem.W.Frag} {fp : Nat → List Addr} {env : Env} {Hs H : Hp} {P : List Addr} : ∀ {xs : List DP} {vs : List V} {Fs : List (List Addr)}, allFr xs = true → FinL K fp env Hs H P xs vs Fs → (freshF xs Fs).Nodup → ∃ F, DVs K P H (xs.map (·.1)) vs F ∧ F.Nodup ∧ (∀ a ∈ F, a ∈ freshF xs Fs) ∧ ∀ a ∈ F, Hs a = none ∧ Live H a
  | [], [], [], _, _, _ => ⟨[], .nil, List.nodup_nil, fun _ h => (by cases h), fun _ h => (by cases h)⟩
  | x :: xs, v :: vs, F :: Fs, ha, ⟨h1, h2, h3⟩, hn => by
    have ha' : (x.1.imm || frsh x.2) = true ∧ allFr xs = true := by simpa [allFr] using ha
    have hn' : (frOf x.2 F ++ freshF xs Fs).Nodup := hn
    rw [List.nodup_append] at hn'
    obtain ⟨G, g1, g2, g3, g4⟩ := finL_fr ha'.2 h3 hn'.2.1
    by_cases hi : x.1.imm = true
    · have e := h1.imm_nil hi
      subst e
      exact ⟨_, .cons h1 g1, g2, fun a h => List.mem_append_right _ (g3 a h), g4⟩
    · obtain ⟨dx, px⟩ := x
      have hp : frsh px = true := by simpa [hi] using ha'.1
      cases px <;> simp [frsh] at hp
      refine ⟨_, .cons h1 g1, List.nodup_append.mpr ⟨h2.1, g2, fun a h b h' => hn'.2.2 a h b (g3 b h')⟩, fun a h => ?_, fun a h => ?_⟩
      · rcases List.mem_append.mp h with h | h
        · exact List.mem_append_left _ h
        · exact List.mem_append_right _ (g3 a h)
      · rcases List.mem_append.mp h with h | h
        · exact h2.2 a h
        · exact g4 a h
  | [], _ :: _, _, _, h, _ => h.elim
  | [], [], _ :: _, _, h, _ => h.elim
  | _ :: _, [], _, _, h, _ => h.elim
  | _ :: _, _ :: _, [], _, h, _ => h.elim
def vTupF (u : VA) : VT := fun env Q => u env fun xs => xs.length ≤ SZ ∧ allFr xs = true ∧ Q (.tup (xs.map (·.1))) .fresh
section
variable {X : Cx} {R : RC} {pos : Pos} {es : List Expr} {u : VA} {c : Nat}
theorem ve_tupF {x1} (h : VL X R c es u) : VE X R c (.Tuple es x1 pos) (vTupF u) where
  mono := fun env Q Q' hq q => h.mono _ _ _ (fun xs ⟨l, a, q⟩ => ⟨l, a, hq _ _ q⟩) q
  run := PE.imp (pe_tup h.run) fun σ H Q ⟨env, P, fp, T, k, rep, pots, q⟩ => by
    refine ⟨env, P, fp, T, k, rep, pots, h.mono _ _ _ (fun xs ⟨l, al, q⟩ => ?_) q⟩
    intro vs H1 P1 e1 pots1 ⟨Fs, f1, f2⟩
    obtain ⟨F, dv, n, _, m⟩ := finL_fr al f1 f2
    have hl := dv.length
    rw [List.length_map] at hl
    refine ⟨sz_of (by omega), fun p hp => q _ _ P1 (e1.trans (Evo.upd hp)) (pots1.updN hp) ⟨F, .tup ⟨upd_same, fun z => pots1.some p z hp⟩ (dv.evoU hp), (show POk fp env H H1 .non F .fresh from ⟨n, m⟩).evo (Evo.upd (Θ := []) hp) fun a ha => (dv.live a ha).2⟩⟩
end
end VS

set_option maxHeartbeats 4000000
/-! what the laws' own defs lean on -/
namespace VS
open PySem PySem.Spec PyProof.Rows L2
theorem potB2 {x : Int} (h : potB 2 x) : 0 ≤ x ∧ x ≤ (CAP : Nat) := by
  rcases h with h | h | h
  · exact absurd h.1 (by decide)
  · exact absurd h.1 (by decide)
  · exact h.2
theorem potB1 {x : Int} (h : potB 1 x) : 0 ≤ x ∧ x < 2 ^ 62 := by
  rcases h with h | h | h
  · exact absurd h.1 (by decide)
  · exact h.2
  · exact absurd h.1 (by decide)
theorem potB0 {x : Int} (h : potB 0 x) : 0 ≤ x ∧ x < 2 ^ 1000 := by
  rcases h with h | h | h
  · exact h.2
  · exact absurd h.1 (by decide)
  · exact absurd h.1 (by decide)
theorem bits_of {x : Int} {k : Nat} (h : x.natAbs < 2 ^ k) : Builtin.Int.intBits x ≤ k := PySem.intBits_le_iff.mpr h
theorem bits_cap {x : Int} (h : potB 2 x) : Builtin.Int.intBits x ≤ 100001 := by
  obtain ⟨h1, h2⟩ := potB2 h
  refine bits_of ?_
  have h3 : x.natAbs ≤ CAP := by omega
  unfold CAP at h3
  exact Nat.lt_of_le_of_lt h3 (Nat.pow_lt_pow_right (by decide) (by decide))
theorem mulOk_bits {i j : Int} {m n : Nat} (hi : Builtin.Int.intBits i ≤ m) (hj : Builtin.Int.intBits j ≤ n) (hm : m ≤ 400000) (hn : n ≤ 400000) : MulOk i j :=
  .inr (.inr ⟨Nat.lt_of_lt_of_le (PySem.intBits_le_iff.mp hi) (Nat.pow_le_pow_right (by decide) hm), Nat.lt_of_lt_of_le (PySem.intBits_le_iff.mp hj) (Nat.pow_le_pow_right (by decide) hn)⟩)
theorem take_pow {k x x1 x2 c : Int} (hk : k.natAbs < 2 ^ 64) (hx : potB 1 x) (h1 : potB 2 x1) (h2 : potB 2 x2) (hc : c.natAbs < 2 ^ 64) : MulOk k x1 ∧ MulOk (k * x1) x2 ∧ PowOk (x + k * x1 * x2 + c) 3 := by
  have b1 := bits_cap h1
  have b2 := bits_cap h2
  have bk := bits_of hk
  have bc := bits_of hc
  have bx : Builtin.Int.intBits x ≤ 62 := bits_of (by
    obtain ⟨a, b⟩ := potB1 hx
    omega)
  have m1 := PySem.intBits_mul_le bk b1
  have m2 := PySem.intBits_mul_le m1 b2
  have s1 := PySem.intBits_add_le bx m2
  have s2 := PySem.intBits_add_le s1 bc
  refine ⟨.inl hk, mulOk_bits m1 b2 (by decide) (by decide), by decide, ?_⟩
  have : (max (max 62 (64 + 100001 + 100001) + 1) 64 + 1 : Nat) = 200068 := by decide
  rw [this] at s2
  omega
theorem mod_small {a m : Int} (hm : 0 < m) (h : m ≤ 2 ^ 63) : (a % m).natAbs < 2 ^ 64 := by
  have h1 := Int.emod_nonneg a (show m ≠ 0 by omega)
  have h2 := Int.emod_lt_of_pos a hm
  omega

def kSet (es : List D) (kd : D) (Q : Nat → Prop) : Prop := match kd with
  | .int kk => (match ixN es.length kk with | some n => Q n | none => False)
  | _ => False
@[simp] theorem kSet_int {es : List D} {kk : Int} {Q : Nat → Prop} : kSet es (.int kk) Q = (match ixN es.length kk with | some n => Q n | none => False) := rfl
@[simp] theorem vSetIx_eq {te u : VT} {t : VPl} {k : VK} {env : Env} : vSetIx te t u k env = te env fun d pr => t env fun i p => match env[i]? with
    | some (some (.own, D0)) => (match Dat D0 p with
      | some (.lst es) => u env fun kd _ => kSet es kd fun n => match absorb env i d pr with
        | some env1 => k.nx (putE env1 i (Dput D0 p (.lst (es.set n d))))
        | none => False
      | _ => False)
    | _ => False := by
  unfold vSetIx
  congr 1
  funext d pr
  congr 1
  funext i p
  apply propext
  have inner : ∀ (D0 : D) (es : List D), (fun kd (_ : Prov) => ∃ (kk : Int) (n : Nat) (env1 : Env), kd = .int kk ∧ ixN es.length kk = some n ∧ absorb env i d pr = some env1 ∧ k.nx (putE env1 i (Dput D0 p (.lst (es.set n d))))) = (fun kd _ => kSet es kd fun n => match absorb env i d pr with
        | some env1 => k.nx (putE env1 i (Dput D0 p (.lst (es.set n d))))
        | none => False) := by
    intro D0 es
    funext kd _
    apply propext
    constructor
    · rintro ⟨kk, n, env1, rfl, e1, e2, q⟩
      simp only [kSet_int, e1, e2]
      exact q
    · intro h
      unfold kSet at h
      split at h
      · rename_i kk
        split at h
        · rename_i n e1
          split at h
          · rename_i env1 e2
            exact ⟨kk, n, env1, rfl, e1, e2, h⟩
          · exact h.elim
        · exact h.elim
      · exact h.elim
  constructor
  · rintro ⟨D0, es, e1, e2, q⟩
    rw [e1]
    simp only
    rw [e2]
    simp only
    rw [← inner]; exact q
  · intro h
    split at h
    · rename_i D0 e1
      split at h
      · rename_i es e2
        exact ⟨D0, es, e1, e2, by rw [inner]; exact h⟩
      · exact h.elim
    · exact h.elim
theorem ixN_ofNat {n k : Nat} : ixN n (k : Int) = if k < n then some k else none := by
  unfold ixN
  rw [if_pos (by omega)]
  by_cases h : k < n
  · rw [if_pos (by omega), if_pos h]; simp
  · rw [if_neg (by omega), if_neg h]

theorem rsz_int {i : Int} : (D.int i).rsz ≤ 1921 := by
  simp only [D.rsz]
  split <;> omega
theorem repr_int {i : Int} {p : Prov} {Q : D → Prov → Prop} (h : i.natAbs.log2 < 1920) (q : Q (.str (D.int i).toPy.shown) .fresh) : oRepr [(.int i, p)] Q :=
  oRepr_of (by simpa [D.shows] using h) (Nat.le_trans rsz_int (by decide)) (by simp [D.toPy, PyData.depth]) q
theorem shows_ints : ∀ {xs : List Int}, (∀ x ∈ xs, x.natAbs.log2 < 1920) → showsAll (xs.map D.int) = true
  | [], _ => by simp [showsAll]
  | x :: xs, h => by
    have := shows_ints (xs := xs) fun y hy => h y (by simp [hy])
    simp only [List.map_cons, showsAll, this, Bool.and_true]
    simpa [D.shows] using h x (by simp)
theorem rsz_ints : ∀ (xs : List Int), rszs (xs.map D.int) ≤ 1923 * xs.length
  | [] => by simp [rszs]
  | x :: xs => by
    have h1 := rsz_ints xs
    have h2 := rsz_int (i := x)
    simp only [List.map_cons, rszs, List.length_cons]
    omega
theorem depth_intsD : ∀ (xs : List Int), PyData.depthAll (toPys (xs.map D.int)) = 0
  | [] => by simp [toPys, PyData.depthAll]
  | x :: xs => by
    have := depth_intsD xs
    simp [toPys, PyData.depthAll, D.toPy, PyData.depth] at this ⊢
    exact this
theorem repr_ints {xs : List Int} {p : Prov} {Q : D → Prov → Prop} (hl : xs.length ≤ 1000) (h : ∀ x ∈ xs, x.natAbs.log2 < 1920) (q : Q (.str (D.tup (xs.map D.int)).toPy.shown) .fresh) : oRepr [(.tup (xs.map D.int), p)] Q :=
  oRepr_of (by simpa [D.shows] using shows_ints h) (by have := rsz_ints xs; simp only [D.rsz]; omega) (by simp [D.toPy, PyData.depth, depth_intsD]) q
theorem log_lt {a k : Nat} (h : a < 2 ^ k) (hk : k ≤ 1920) (h0 : 0 < k) : a.log2 < 1920 := by
  by_cases e : a = 0
  · subst e; decide
  · exact Nat.lt_of_lt_of_le ((Nat.log2_lt e).mpr h) hk
end VS

/-! equality of plain data -/
namespace VS
open PySem PySem.Spec PyProof.Rows L2
mutual
/-- made of none, ints, texts, tuples, lists -/
def D.smp : D → Bool
  | .non => true
  | .int _ => true
  | .str x => PyData.strOk x
  | .tup xs => smps xs
  | .lst xs => smps xs
  | _ => false
def smps : List D → Bool
  | [] => true
  | d :: ds => d.smp && smps ds
end
theorem smps_iff {ds : List D} : smps ds = true ↔ ∀ d ∈ ds, d.smp = true := by
  induction ds with
  | nil => simp [smps]
  | cons d ds ih => simp [smps, ih]
mutual
def D.dep : D → Nat
  | .tup xs => deps xs + 1
  | .lst xs => deps xs + 1
  | _ => 0
def deps : List D → Nat
  | [] => 0
  | d :: ds => max d.dep (deps ds)
end
mutual
theorem D.toPy_dep : ∀ {d : D}, d.smp = true → d.toPy.depth = d.dep ∧ d.toPy.canLay0 = true
  | .non, _ => by simp [D.toPy, PyData.depth, D.dep, PyData.canLay0]
  | .int _, _ => by simp [D.toPy, PyData.depth, D.dep, PyData.canLay0]
  | .str x, h => by simp [D.smp] at h; simp [D.toPy, PyData.depth, D.dep, PyData.canLay0, h]
  | .tup xs, h => by
    have := toPys_dep (ds := xs) (by simpa [D.smp] using h)
    simp [D.toPy, PyData.depth, D.dep, PyData.canLay0, this.1, this.2]
  | .lst xs, h => by
    have := toPys_dep (ds := xs) (by simpa [D.smp] using h)
    simp [D.toPy, PyData.depth, D.dep, PyData.canLay0, this.1, this.2]
  | .bl _, h => by simp [D.smp] at h
  | .rol _, h => by simp [D.smp] at h
  | .dic _, h => by simp [D.smp] at h
  | .dit _, h => by simp [D.smp] at h
  | .ins _ _, h => by simp [D.smp] at h
  | .pot, h => by simp [D.smp] at h
  | .rdi _ _ _, h => by simp [D.smp] at h
  | .exc _ _, h => by simp [D.smp] at h
theorem toPys_dep : ∀ {ds : List D}, smps ds = true → PyData.depthAll (toPys ds) = deps ds ∧ PyData.canLayAll0 (toPys ds) = true
  | [], _ => by simp [toPys, PyData.depthAll, deps, PyData.canLayAll0]
  | d :: ds, h => by
    simp only [smps, Bool.and_eq_true] at h
    have h1 := D.toPy_dep h.1
    have h2 := toPys_dep h.2
    simp [toPys, PyData.depthAll, deps, PyData.canLayAll0, h1.1, h1.2, h2.1, h2.2]
end
mutual
theorem eqd_smp : ∀ {d e : D}, d.smp = true → e.smp = true → (PyData.eqv d.toPy e.toPy = true ↔ d = e)
  | .non, e, _, he => by cases e <;> simp_all [D.smp, D.toPy, PyData.eqv]
  | .int i, e, _, he => by cases e <;> simp_all [D.smp, D.toPy, PyData.eqv]
  | .str i, e, _, he => by cases e <;> simp_all [D.smp, D.toPy, PyData.eqv]
  | .tup xs, e, hd, he => by
    cases e <;> simp_all [D.smp, D.toPy, PyData.eqv]
    exact eqds_smp hd he
  | .lst xs, e, hd, he => by
    cases e <;> simp_all [D.smp, D.toPy, PyData.eqv]
    exact eqds_smp hd he
  | .bl _, _, h, _ => by simp [D.smp] at h
  | .rol _, _, h, _ => by simp [D.smp] at h
  | .dic _, _, h, _ => by simp [D.smp] at h
  | .dit _, _, h, _ => by simp [D.smp] at h
  | .ins _ _, _, h, _ => by simp [D.smp] at h
  | .pot, _, h, _ => by simp [D.smp] at h
  | .rdi _ _ _, _, h, _ => by simp [D.smp] at h
  | .exc _ _, _, h, _ => by simp [D.smp] at h
theorem eqds_smp : ∀ {ds es : List D}, smps ds = true → smps es = true → (PyData.eqvAll (toPys ds) (toPys es) = true ↔ ds = es)
  | [], [], _, _ => by simp [toPys, PyData.eqvAll]
  | [], _ :: _, _, _ => by simp [toPys, PyData.eqvAll]
  | _ :: _, [], _, _ => by simp [toPys, PyData.eqvAll]
  | d :: ds, e :: es, hd, he => by
    simp only [smps, Bool.and_eq_true] at hd he
    simp only [toPys, PyData.eqvAll, Bool.and_eq_true, eqd_smp hd.1 he.1, eqds_smp hd.2 he.2, List.cons.injEq]
end
theorem plain_smp {d : D} (h : d.smp = true) (hd : d.dep ≤ 64) : d.plain = true := by
  obtain ⟨h1, h2⟩ := D.toPy_dep h
  simp [D.plain, SeqAt.shaped, h1, h2, hd]
theorem oEqA_smp {d e : D} {p q : Prov} {Q : D → Prov → Prop} (hd : d.smp = true) (he : e.smp = true) (h1 : d.dep ≤ 64) (h2 : e.dep ≤ 64) (b : Bool) (hb : b = true ↔ d = e) (h : Q (.bl b) .fresh) : oEqA (d, p) (e, q) Q := by
  have key : d.eqd e = b := by
    have := eqd_smp hd he
    unfold D.eqd
    rw [Bool.eq_iff_iff, this, hb]
  have gen : oEq (d, p) (e, q) Q := ⟨plain_smp hd h1, plain_smp he h2, by rw [key]; exact h⟩
  unfold oEqA
  split
  · rename_i a b' ea eb
    simp only at ea eb
    subst ea eb
    have : decide (a = b') = b := by
      rw [Bool.eq_iff_iff, hb]; simp
    rw [this]; exact h
  · exact gen
theorem oNeA_smp {d e : D} {p q : Prov} {Q : D → Prov → Prop} (hd : d.smp = true) (he : e.smp = true) (h1 : d.dep ≤ 64) (h2 : e.dep ≤ 64) (b : Bool) (hb : b = true ↔ d ≠ e) (h : Q (.bl b) .fresh) : oNeA (d, p) (e, q) Q := by
  have hb' : (!b) = true ↔ d = e := by
    by_cases z : d = e
    · have : ¬ b = true := fun h => hb.mp h z
      simp [z, this]
    · have := hb.mpr z
      simp [z, this]
  have key : d.eqd e = !b := by
    have := eqd_smp hd he
    unfold D.eqd
    rw [Bool.eq_iff_iff, this, hb']
  have gen : oNe (d, p) (e, q) Q := ⟨plain_smp hd h1, plain_smp he h2, by rw [key]; simpa using h⟩
  unfold oNeA
  split
  · rename_i a b' ea eb
    simp only at ea eb
    subst ea eb
    have : (!decide (a = b')) = b := by
      rw [Bool.eq_iff_iff, hb]; simp
    rw [this]; exact h
  · exact gen
@[simp] theorem smp_int {i : Int} : (D.int i).smp = true := by simp [D.smp]
@[simp] theorem smp_non : D.non.smp = true := by simp [D.smp]
@[simp] theorem smp_str {x : Str} : (D.str x).smp = PyData.strOk x := by simp [D.smp]
@[simp] theorem smp_tup {xs : List D} : (D.tup xs).smp = smps xs := by simp [D.smp]
@[simp] theorem smp_lst {xs : List D} : (D.lst xs).smp = smps xs := by simp [D.smp]
@[simp] theorem smps_nil : smps [] = true := by simp [smps]
@[simp] theorem smps_cons {d : D} {ds : List D} : smps (d :: ds) = (d.smp && smps ds) := by simp [smps]
theorem smps_map {α : Type} {xs : List α} {f : α → D} (h : ∀ x ∈ xs, (f x).smp = true) : smps (xs.map f) = true := by
  rw [smps_iff]
  intro d hd
  obtain ⟨x, hx, rfl⟩ := List.mem_map.mp hd
  exact h x hx
theorem deps_map {α : Type} {xs : List α} {f : α → D} {n : Nat} (h : ∀ x ∈ xs, (f x).dep ≤ n) : deps (xs.map f) ≤ n := by
  induction xs with
  | nil => simp [deps]
  | cons x xs ih =>
    have a := h x (by simp)
    have b := ih fun y hy => h y (by simp [hy])
    simp [deps]; omega
@[simp] theorem dep_int {i : Int} : (D.int i).dep = 0 := by simp [D.dep]
@[simp] theorem dep_non : D.non.dep = 0 := by simp [D.dep]
@[simp] theorem dep_str {x : Str} : (D.str x).dep = 0 := by simp [D.dep]
@[simp] theorem dep_tup {xs : List D} : (D.tup xs).dep = deps xs + 1 := by simp [D.dep]
@[simp] theorem dep_lst {xs : List D} : (D.lst xs).dep = deps xs + 1 := by simp [D.dep]
@[simp] theorem deps_nil : deps [] = 0 := by simp [deps]
@[simp] theorem deps_cons {d : D} {ds : List D} : deps (d :: ds) = max d.dep (deps ds) := by simp [deps]
@[simp] theorem smps_ints {α : Type} {xs : List α} {f : α → Int} : smps (xs.map fun x => D.int (f x)) = true := smps_map fun _ _ => by simp
@[simp] theorem deps_ints {α : Type} {xs : List α} {f : α → Int} : deps (xs.map fun x => D.int (f x)) = 0 := by
  have := deps_map (xs := xs) (f := fun x => D.int (f x)) (n := 0) fun _ _ => by simp
  omega
end VS
namespace VS
open PySem PySem.Spec PyProof.Rows L2
@[simp] theorem vNeg_eq {te : VT} {env : Env} {Q : D → Prov → Prop} : vNeg te env Q = te env fun d _ => match d with | .int i => Q (.int (-i)) .fresh | _ => False := by
  unfold vNeg
  congr 1
  funext d p
  apply propext
  constructor
  · rintro ⟨i, rfl, q⟩; exact q
  · intro h
    split at h
    · exact ⟨_, rfl, h⟩
    · exact h.elim
theorem atI_neg {α : Type} {xs : List α} {k : Nat} (h0 : 0 < k) (h : k ≤ xs.length) : atI xs (-(k : Int)) = xs[xs.length - k]? := by
  unfold atI ixN
  rw [if_neg (by omega)]
  rw [if_pos (by omega)]
  simp
  congr 1
  omega
theorem atI_last {α : Type} {xs : List α} (h : xs ≠ []) : atI xs (-1) = xs.getLast? := by
  have := atI_neg (xs := xs) (k := 1) (by omega) (by cases xs <;> simp_all)
  rw [show (-1 : Int) = -((1 : Nat) : Int) by rfl, this, List.getLast?_eq_getElem?]
end VS

set_option maxHeartbeats 400000
/-! tuples of numbers -/
namespace VS
open PySem PySem.Spec PyProof.Rows L2
def ofN (xs : List Nat) : D := .tup (xs.map fun n : Nat => D.int (n : Int))
def lstN (xs : List Nat) : D := .lst (xs.map fun n : Nat => D.int (n : Int))
def isIntD : D → Bool
  | .int _ => true
  | _ => false
theorem immAll_ofI {α : Type} (xs : List α) (f : α → Int) : immAll (xs.map fun n => D.int (f n)) = true := immAll_map fun _ _ => rfl
@[simp] theorem immAll_natsN (xs : List Nat) : immAll (xs.map fun n : Nat => D.int (n : Int)) = true := immAll_ofI xs fun n => (n : Int)
@[simp] theorem imm_ofN (xs : List Nat) : (ofN xs).imm = true := by simp [ofN]
@[simp] theorem immAll_ofN {α : Type} (xs : List α) (f : α → List Nat) : immAll (xs.map fun x => ofN (f x)) = true := immAll_map fun _ _ => by simp
theorem smps_nats {α : Type} (xs : List α) (f : α → Int) : smps (xs.map fun n => D.int (f n)) = true := by
  induction xs with
  | nil => rfl
  | cons x xs ih => simp [smps, D.smp, ih]
theorem deps_nats {α : Type} (xs : List α) (f : α → Int) : deps (xs.map fun n => D.int (f n)) = 0 := by
  induction xs with
  | nil => rfl
  | cons x xs ih => simp [deps, D.dep, ih]
theorem smp_ofN (xs : List Nat) : (ofN xs).smp = true := by simp [ofN, D.smp, smps_nats]
theorem dep_ofN (xs : List Nat) : (ofN xs).dep ≤ 64 := by
  simp [ofN, D.dep, deps_nats]
theorem ofN_inj {xs ys : List Nat} : ofN xs = ofN ys ↔ xs = ys := by
  constructor
  · intro h
    unfold ofN at h
    injection h with h
    have := congrArg (fun l : List D => l.map fun d => match d with | .int i => i.toNat | _ => 0) h
    simpa [Function.comp_def] using this
  · intro h; rw [h]
theorem zip_all {α : Type} (R : α → α → Bool) : ∀ ys : List α, ys.Pairwise (fun a b => R a b = true) → (ys.zip (ys.drop 1)).all (fun p => R p.1 p.2) = true
  | [], _ => rfl
  | [_], _ => rfl
  | y :: z :: zs, hp => by
    have h3 := (List.pairwise_cons.mp hp).1 z (by simp)
    have h4 := zip_all R (z :: zs) (List.pairwise_cons.mp hp).2
    simp at h4 ⊢
    exact ⟨h3, h4⟩
/-- zip(xs, xs[1:]) of data -/
theorem viZip_tailD {α : Type} {i : Nat} {f : Fl} {xs : List α} (c : α → D) {env : VS.Env} (hf : f ≠ .bor) (h : env[i]? = some (some (f, .tup (xs.map c)))) (Q : List D → List DP → Prop)
    (q : Q ((xs.zip (xs.drop 1)).map fun p : α × α => D.tup [c p.1, c p.2]) [(.tup (xs.map c), .all i), (.tup ((xs.drop 1).map c), .sub i)]) :
    viZip (vCons (vVar i) (vCons (vSl (vVar i) (vPart (vC (.int 1))) vNo) vNil)) env Q := by
  have e := zipD_map c c xs (xs.drop 1)
  have e2 : cutL (xs.map c) (some 1) none = (xs.drop 1).map c := by
    rw [cutL_map]
    exact congrArg _ (cutL_from xs 1)
  have e3 : pvOf f i = .all i := by cases f <;> first | rfl | exact absurd rfl hf
  simp only [viZip_eq, vCons_eq, vNil_eq, vVar_eq, h, e3, vSl_eq, vPart_eq, vNo_eq, vC_eq, slD_tup, kZip_two, items_tup, e2, e, Prov.part]
  exact q
theorem viZip_tail {i : Nat} {f : Fl} {xs : List Nat} {env : VS.Env} (hf : f ≠ .bor) (h : env[i]? = some (some (f, ofN xs))) (Q : List D → List DP → Prop)
    (q : Q ((xs.zip (xs.drop 1)).map fun p : Nat × Nat => D.tup [.int p.1, .int p.2]) [(ofN xs, .all i), (ofN (xs.drop 1), .sub i)]) :
    viZip (vCons (vVar i) (vCons (vSl (vVar i) (vPart (vC (.int 1))) vNo) vNil)) env Q := viZip_tailD (fun n : Nat => D.int n) hf h Q q
@[simp] theorem atI_20 {α : Type} {a b : α} : atI [a, b] 0 = some a := rfl
@[simp] theorem atI_21 {α : Type} {a b : α} : atI [a, b] 1 = some b := rfl
@[simp] theorem atI_30 {α : Type} {a b c : α} : atI [a, b, c] 0 = some a := rfl
@[simp] theorem atI_31 {α : Type} {a b c : α} : atI [a, b, c] 1 = some b := rfl
@[simp] theorem atI_32 {α : Type} {a b c : α} : atI [a, b, c] 2 = some c := rfl
theorem atI_nats {xs : List Nat} {i : Nat} (h : i < xs.length) : atI (xs.map fun n : Nat => D.int (n : Int)) (i : Int) = some (.int ((xs.getD i 0 : Nat) : Int)) := by
  rw [atI_ofNat, List.getElem?_map, List.getElem?_eq_getElem h, List.getD_eq_getElem?_getD, List.getElem?_eq_getElem h]
  rfl
theorem inD_nats (x : Nat) (l : List Nat) : inD (.int (x : Nat)) (l.map fun n : Nat => D.int n) = decide (x ∈ l) := by
  unfold inD inV
  induction l with
  | nil => rfl
  | cons y l ih =>
    rw [List.map_cons, List.map_cons, List.any_cons, ih]
    have e : eqV (D.int (y : Nat)).toV (D.int (x : Nat)).toV = decide (x = y) := by
      show ((y : Int) == (x : Int)) = _
      rw [Bool.eq_iff_iff]
      simp
      omega
    rw [e]
    by_cases h : x = y <;> simp [h]
theorem all_flat (xs : List Nat) : (xs.map fun n : Nat => D.int n).all D.flat = true := by
  induction xs with
  | nil => rfl
  | cons x xs ih => simp [D.flat]
theorem oIn_nats {x : Nat} {l : List Nat} {p q : Prov} {Q : D → Prov → Prop} : oIn (.int (x : Nat), p) (.lst (l.map fun n : Nat => D.int n), q) Q = Q (.bl (decide (x ∈ l))) .fresh := by
  apply propext
  have e := inD_nats x l
  unfold oIn
  dsimp only
  rw [e]
  exact ⟨fun h => h.2.2, fun h => ⟨rfl, all_flat l, h⟩⟩
theorem oNotIn_nats {x : Nat} {l : List Nat} {p q : Prov} {Q : D → Prov → Prop} : oNotIn (.int (x : Nat), p) (.lst (l.map fun n : Nat => D.int n), q) Q = Q (.bl (!decide (x ∈ l))) .fresh := by
  apply propext
  have e := inD_nats x l
  unfold oNotIn
  dsimp only
  rw [e]
  exact ⟨fun h => h.2.2, fun h => ⟨rfl, all_flat l, h⟩⟩
theorem filterMap_ite {α β : Type} (p : α → Bool) (y : α → β) : ∀ xs : List α, xs.filterMap (fun x => if p x = true then some (y x) else none) = (xs.filter p).map y
  | [] => rfl
  | x :: xs => by
    rw [List.filterMap_cons, filterMap_ite p y xs]
    by_cases h : p x = true
    · rw [if_pos h, List.filter_cons_of_pos h]; rfl
    · rw [if_neg h, List.filter_cons_of_neg h]
/-- a comprehension with a test -/
theorem vLc_filter {α : Type} {u : VIt} {g : VGt} {tt : VB} {te : VT} {vs : List Nat} {env : VS.Env} {Q : D → Prov → Prop} (xs : List α) (c : α → D) {srcs : List DP} (p : α → Bool) (y : α → D) (hu : ∀ Q : List D → List DP → Prop, Q (xs.map c) srcs → u env Q) (h1 : xs.length ≤ 16777216)
    (hs : ∀ x ∈ xs, ∀ (A : D → Prop) (B : Prop), (p x = true → A (y x)) → (p x = false → B) → g (c x, .any) (wipeE env vs) fun e2 => tt e2 fun b => if b = true then te e2 fun y p => okIn y p = true ∧ A y else B) (hq : Q (.lst ((xs.filter p).map y)) .fresh) : vLc u g tt te vs env Q := by
  refine vLc_img xs c (fun x => if p x = true then some (y x) else none) hu h1 (fun x hx A B h1 h2 => hs x hx A B (fun h => h1 _ (by rw [if_pos h])) fun h => h2 (by rw [if_neg (by simp [h])])) ?_
  rw [filterMap_ite]
  exact hq
theorem sorts_nats (xs : List Nat) : Sorts (toPys (xs.map fun n : Nat => D.int n)) := by
  have e : toPys (xs.map fun n : Nat => D.int n) = xs.map fun n : Nat => PyData.int n := by
    rw [toPys_map, List.map_map]
    exact List.map_congr_left fun n _ => by simp [D.toPy]
  rw [e]
  refine ⟨fun d hd d' hd' => ?_, ?_, fun d hd => ?_⟩
  · obtain ⟨l, _, rfl⟩ := List.mem_map.mp hd
    obtain ⟨l', _, rfl⟩ := List.mem_map.mp hd'
    simp [PySem.W.alike]
  · refine .inl (.inr fun d hd => ?_)
    obtain ⟨l, _, rfl⟩ := List.mem_map.mp hd
    exact ⟨(fun z => by cases z), (fun xs z => by cases z)⟩
  · obtain ⟨l, _, rfl⟩ := List.mem_map.mp hd
    simp [PyData.depth]
/-- strictly rising lists of the same members -/
theorem rising_uniq {xs ys : List Int} (hx : xs.Pairwise (· < ·)) (hy : ys.Pairwise (· < ·)) (h : ∀ k, k ∈ xs ↔ k ∈ ys) : xs = ys := by
  have nx : xs.Nodup := hx.imp fun h => by omega
  have ny : ys.Nodup := hy.imp fun h => by omega
  have hp : xs.Perm ys := (List.perm_ext_iff_of_nodup nx ny).mpr h
  exact List.Perm.eq_of_pairwise (le := fun a b : Int => a ≤ b) (fun a b _ _ h1 h2 => by omega) (hx.imp fun h => by omega) (hy.imp fun h => by omega) hp
/-- the values below n, each once, rising -/
def valsB (n : Nat) (xs : List Nat) : List Nat := (List.range n).filter fun v => decide (v ∈ xs)
theorem valsB_rising (n : Nat) (xs : List Nat) : (valsB n xs).Pairwise (· < ·) := List.Pairwise.filter _ List.pairwise_lt_range
theorem mem_valsB {n : Nat} {xs : List Nat} (h : ∀ x ∈ xs, x < n) {v : Nat} : v ∈ valsB n xs ↔ v ∈ xs := by
  simp only [valsB, List.mem_filter, List.mem_range, decide_eq_true_eq]
  exact ⟨fun q => q.2, fun q => ⟨h v q, q⟩⟩
theorem valsB_uniq {n : Nat} {xs : List Nat} (h : ∀ x ∈ xs, x < n) {ms : List Int} (h1 : ms.Pairwise (· < ·)) (h2 : ∀ k, k ∈ ms ↔ k ∈ xs.map fun n : Nat => (n : Int)) : ms = (valsB n xs).map fun n : Nat => (n : Int) := by
  refine rising_uniq h1 ?_ fun k => ?_
  · rw [List.pairwise_map]
    exact (valsB_rising n xs).imp fun h => by omega
  · rw [h2 k]
    simp only [List.mem_map]
    constructor
    · rintro ⟨a, ha, rfl⟩
      exact ⟨a, (mem_valsB h).mpr ha, rfl⟩
    · rintro ⟨a, ha, rfl⟩
      exact ⟨a, (mem_valsB h).mp ha, rfl⟩
theorem oNeA_nil {l : List Nat} {p q : Prov} {Q : D → Prov → Prop} (h : Q (.bl (decide (l ≠ []))) .fresh) : oNeA (.lst (l.map fun n : Nat => D.int n), p) (.lst [], q) Q :=
  oNeA_smp (by simp [D.smp, smps_nats]) (by simp [D.smp, smps]) (by simp [D.dep, deps_nats]) (by simp [D.dep, deps]) _ (by simp) h
theorem oNeA_tupnil {l : List Nat} {p q : Prov} {Q : D → Prov → Prop} (h : Q (.bl (decide (l ≠ []))) .fresh) : oNeA (.tup (l.map fun n : Nat => D.int n), p) (.tup [], q) Q :=
  oNeA_smp (by simp [D.smp, smps_nats]) (by simp [D.smp, smps]) (by simp [D.dep, deps_nats]) (by simp [D.dep, deps]) _ (by simp) h
def lastN (l : List Nat) : Nat := l.getLastD 0
theorem atI_lastN {l : List Nat} (h : l ≠ []) : atI (l.map fun n : Nat => D.int (n : Int)) (-1) = some (.int ((lastN l : Nat) : Int)) := by
  unfold lastN
  rw [atI_last (by simpa using h), List.getLast?_map]
  cases l with
  | nil => exact absurd rfl h
  | cons x xs => simp [List.getLast?_eq_some_getLast, List.getLastD_eq_getLast?]
end VS

namespace K67
open PySem PySem.Spec PyProof.Rows L2 VS
def sp_is_integer : VS.Spec := fun ds Q => match ds with
  | [d] => (isaD "int" d).isSome = true ∧ Q (.bl (isIntD d))
  | _ => False
def sp_is_between : VS.Spec := fun ds Q => match ds with
  | [.int x, .int a, .int b] => Q (.bl (decide (a ≤ x ∧ x ≤ b)))
  | _ => False
def RowOk (xs : List Nat) : Prop := xs.length ≤ 30 ∧ ∀ x ∈ xs, 1 ≤ x ∧ x ≤ 99
def sp_is_row : VS.Spec := fun ds Q => match ds with
  | [d] => ∃ xs, d = ofN xs ∧ RowOk xs ∧ Q (.bl true)
  | _ => False
def sp_check_row : VS.Spec := fun ds Q => match ds with
  | [d] => ∃ xs, d = ofN xs ∧ RowOk xs ∧ Q .non
  | _ => False
def sp_check_upto : VS.Spec := fun ds Q => match ds with
  | [.int x, .int m] => 0 ≤ x ∧ x ≤ m ∧ Q .non
  | _ => False
def prodN (xs : List Nat) : Nat := xs.foldl (· * ·) 1
def TrOk (ts : List Nat) : Prop := ts.length ≤ 8 ∧ ∀ t ∈ ts, 1 ≤ t ∧ t ≤ 30
def sp_product : VS.Spec := fun ds Q => match ds with
  | [d] => ∃ ts, d = ofN ts ∧ TrOk ts ∧ Q (.int (prodN ts : Nat))
  | _ => False
def sp_are_codes : VS.Spec := fun ds Q => match ds with
  | [d, e] => ∃ xs cs, d = ofN xs ∧ e = ofN cs ∧ cs.length = xs.length ∧ xs.length ≤ 30 ∧ Q (.bl true)
  | _ => False
def sp_check_codes : VS.Spec := fun ds Q => match ds with
  | [d, e] => ∃ xs cs, d = ofN xs ∧ e = ofN cs ∧ cs.length = xs.length ∧ xs.length ≤ 30 ∧ Q .non
  | _ => False
/-- the cars by their codes -/
def lexB (cs : List Nat) (p q : Nat) : Bool := decide (cs.getD p 0 < cs.getD q 0 ∨ (cs.getD p 0 = cs.getD q 0 ∧ p ≤ q))
def ordL (cs : List Nat) : List Nat := (List.range cs.length).mergeSort (lexB cs)
def sp_ordered : VS.Spec := fun ds Q => match ds with
  | [d] => ∃ cs, d = ofN cs ∧ cs.length ≤ 30 ∧ Q (ofN (ordL cs))
  | _ => False
def inOrd (xs cs : List Nat) : Bool := (cs.zip (cs.drop 1)).all fun p => decide (xs.getD p.1 0 ≤ xs.getD p.2 0)
def sp_is_in_order : VS.Spec := fun ds Q => match ds with
  | [d, e] => ∃ xs cs, d = ofN xs ∧ e = ofN cs ∧ cs.length ≤ 30 ∧ (∀ c ∈ cs, c < xs.length) ∧ Q (.bl (inOrd xs cs))
  | _ => False
def barD (p : Nat × Nat) : D := .tup [.int (p.1 : Nat), .int (p.2 : Nat)]
def barsD (bs : List (Nat × Nat)) : D := .tup (bs.map barD)
def BarsOk (xs : List Nat) (bs : List (Nat × Nat)) : Prop := bs.length ≤ 100 ∧ (∀ p ∈ bs, p.2 < p.1 ∧ p.1 < xs.length ∧ xs.getD p.1 0 < xs.getD p.2 0) ∧ ∀ q ∈ bs.zip (bs.drop 1), q.2.1 = q.1.2 ∨ xs.getD q.1.2 0 < xs.getD q.2.1 0
def sp_are_bars : VS.Spec := fun ds Q => match ds with
  | [d, e] => ∃ xs bs, d = ofN xs ∧ e = barsD bs ∧ BarsOk xs bs ∧ Q (.bl true)
  | _ => False
/-! value by value -/
structure GS where
  code : Nat
  l : Nat
  codes : List Nat
  bars : List (Nat × Nat)
def vals (xs : List Nat) : List Nat := valsB 100 xs
def cars (xs : List Nat) (v : Nat) : List Nat := (List.range xs.length).filter fun i => xs.getD i 0 == v
def ahead (l : Nat) (cs : List Nat) : List Nat := cs.filter fun c => decide (c + 1 < l)
def gstep (xs : List Nat) (s : GS) (v : Nat) : GS :=
  let cs := cars xs v
  let ah := ahead s.l cs
  let cd := cs.foldl (fun cd c => cd.set c (s.code + if c + 1 < s.l then 1 else 0)) s.codes
  if ah = [] then ⟨s.code, lastN cs + 1, cd, s.bars⟩ else ⟨s.code + 1, lastN ah + 1, cd, s.bars ++ [(s.l - 1, lastN ah)]⟩
def g0 (xs : List Nat) : GS := ⟨0, 0, List.replicate xs.length 0, []⟩
def gl (xs : List Nat) : GS := (vals xs).foldl (gstep xs) (g0 xs)
def gD (g : GS) : D := .tup [.int (g.code : Nat), ofN g.codes, barsD g.bars]
def sp_greatest_codes : VS.Spec := fun ds Q => match ds with
  | [d] => ∃ xs, d = ofN xs ∧ RowOk xs ∧ Q (gD (gl xs))
  | _ => False
def sp_least_codes : VS.Spec := sp_greatest_codes
def sp_shows_least_codes : VS.Spec := fun ds Q => match ds with
  | [d, e] => ∃ xs, d = ofN xs ∧ RowOk xs ∧ e = gD (gl xs) ∧ Q (.bl true)
  | _ => False
/-! Euler's numbers -/
def eulStep (m : Nat) (r : List Int) : List Int := (List.range 31).map fun at_ : Nat => ((at_ : Int) + 1) * r.getD at_ 0 + ((m : Int) - at_) * (if at_ > 0 then r.getD (at_ - 1) 0 else 0)
def eulRow : Nat → List Int
  | 0 => 1 :: List.replicate 30 0
  | m + 1 => eulStep (m + 1) (eulRow m)
def sp_bar_count : VS.Spec := fun ds Q => match ds with
  | [.int n, .int b] => ∃ k j : Nat, n = k ∧ b = j ∧ k ≤ 30 ∧ j ≤ 30 ∧ Q (.int ((eulRow k).getD j 0))
  | _ => False
/-! passes -/
def dealsD (ds : List (List Nat)) : D := .tup (ds.map ofN)
def DealsOk (n : Nat) (ds : List (List Nat)) : Prop := ds.length ≤ 8 ∧ ∀ d ∈ ds, d.length = n ∧ ∀ t ∈ d, t < 30
def sp_are_deals : VS.Spec := fun ds Q => match ds with
  | [d, e] => ∃ xs es, d = ofN xs ∧ e = dealsD es ∧ xs.length ≤ 30 ∧ DealsOk xs.length es ∧ Q (.bl true)
  | _ => False
def sp_check_deals : VS.Spec := fun ds Q => match ds with
  | [d, e] => ∃ xs es, d = ofN xs ∧ e = dealsD es ∧ xs.length ≤ 30 ∧ DealsOk xs.length es ∧ Q .non
  | _ => False
def sp_check_tracks : VS.Spec := fun ds Q => match ds with
  | [d] => ∃ ts, d = ofN ts ∧ TrOk ts ∧ Q .non
  | _ => False
def sp_are_below : VS.Spec := fun ds Q => match ds with
  | [d, e] => ∃ es ts, d = dealsD es ∧ e = ofN ts ∧ es.length = ts.length ∧ ts.length ≤ 8 ∧ (∀ p ∈ es.zip ts, p.1.length ≤ 30 ∧ ∀ t ∈ p.1, t < p.2) ∧ Q (.bl true)
  | _ => False
def pull (cs dl : List Nat) : List Nat := (vals dl).flatMap fun t => cs.filter fun c => dl.getD c 0 == t
def sp_pulled : VS.Spec := fun ds Q => match ds with
  | [d, e] => ∃ cs dl, d = lstN cs ∧ e = ofN dl ∧ cs.Perm (List.range dl.length) ∧ dl.length ≤ 30 ∧ (∀ t ∈ dl, t < 30) ∧ Q (lstN (pull cs dl))
  | _ => False
def behL (n : Nat) (es : List (List Nat)) : List Nat := es.foldl pull (List.range n)
def sp_behind_all : VS.Spec := fun ds Q => match ds with
  | [d, e] => ∃ xs es, d = ofN xs ∧ e = dealsD es ∧ xs.length ≤ 30 ∧ DealsOk xs.length es ∧ Q (ofN (behL xs.length es))
  | _ => False
def sp_behind : VS.Spec := fun ds Q => match ds with
  | [d, e] => ∃ xs es, d = ofN xs ∧ e = dealsD es ∧ RowOk xs ∧ DealsOk xs.length es ∧ Q (ofN (behL xs.length es))
  | _ => False
def sp_by_codes : VS.Spec := fun ds Q => match ds with
  | [d, e] => ∃ xs cs, d = ofN xs ∧ e = ofN cs ∧ RowOk xs ∧ cs.length = xs.length ∧ Q (ofN (ordL cs))
  | _ => False
def sp_do_set : VS.Spec := fun ds Q => match ds with
  | [d, e] => ∃ xs cs, d = ofN xs ∧ e = ofN cs ∧ RowOk xs ∧ cs.length = xs.length ∧ Q (.bl (inOrd xs (ordL cs)))
  | _ => False
def figs : List Nat → List Nat → List (List Nat)
  | _, [] => []
  | cs, m :: ts => cs.map (· % m) :: figs (cs.map (· / m)) ts
def sp_figures : VS.Spec := fun ds Q => match ds with
  | [d, e] => ∃ cs ts, d = ofN cs ∧ e = ofN ts ∧ cs.length ≤ 30 ∧ TrOk ts ∧ Q (dealsD (figs cs ts))
  | _ => False
def maxN (cs : List Nat) : Nat := cs.foldl max 0
def spx_dealt : VS.SpecX := fun ds Q E => match ds with
  | [d, e, f] => ∃ xs cs ts, d = ofN xs ∧ e = ofN cs ∧ f = ofN ts ∧ RowOk xs ∧ cs.length = xs.length ∧ TrOk ts ∧ (cs = [] ∨ maxN cs < prodN ts → Q (dealsD (figs cs ts))) ∧ (¬ (cs = [] ∨ maxN cs < prodN ts) → E "TooGreat" (.int (maxN cs : Nat)))
  | _ => False
def sp_dealt : VS.Spec := fun ds Q => match ds with
  | [d, e, f] => ∃ xs cs ts, d = ofN xs ∧ e = ofN cs ∧ f = ofN ts ∧ RowOk xs ∧ cs.length = xs.length ∧ TrOk ts ∧ (cs = [] ∨ maxN cs < prodN ts) ∧ Q (dealsD (figs cs ts))
  | _ => False
def sp_codes_of : VS.Spec := fun ds Q => match ds with
  | [d, e, f] => ∃ xs cs ts, d = ofN xs ∧ e = dealsD (figs cs ts) ∧ f = ofN ts ∧ RowOk xs ∧ cs.length = xs.length ∧ TrOk ts ∧ (∀ c ∈ cs, c < prodN ts) ∧ Q (ofN cs)
  | _ => False
def setD (xs ts : List Nat) : D := if (gl xs).code < prodN ts then .tup [.str "deals", dealsD (figs (gl xs).codes ts)] else .tup [.str "bars", barsD ((gl xs).bars.take (prodN ts))]
def sp_can_set : VS.Spec := fun ds Q => match ds with
  | [d, e] => ∃ xs ts, d = ofN xs ∧ e = ofN ts ∧ RowOk xs ∧ TrOk ts ∧ Q (setD xs ts)
  | _ => False
def sp_shows_can_set : VS.Spec := fun ds Q => match ds with
  | [d, e, f] => ∃ xs ts, d = ofN xs ∧ e = ofN ts ∧ f = setD xs ts ∧ RowOk xs ∧ TrOk ts ∧ Q (.bl true)
  | _ => False
def sp_least_passes : VS.Spec := fun ds Q => match ds with
  | [d, .int m] => ∃ (xs : List Nat) (k : Nat), d = ofN xs ∧ m = k ∧ RowOk xs ∧ 2 ≤ k ∧ k ≤ 30 ∧ ∀ p : Nat, (gl xs).code < k ^ p → (∀ q, q < p → k ^ q ≤ (gl xs).code) → Q (.int (p : Nat))
  | _ => False
def sp__law_pot : VS.Spec := fun ds Q => match ds with
  | [.rol ns, .int p] => ∃ xs : List Int, ns = xs.map D.int ∧ 0 ≤ p ∧ p < 100 ∧ (∀ x ∈ xs, Builtin.Int.intBits x ≤ 1048576) ∧ Q .pot
  | _ => False
def sp__law_pot0 : VS.Spec := fun ds Q => match ds with
  | [.rol ns, .int p] => ∃ xs : List Int, ns = xs.map D.int ∧ 0 ≤ p ∧ p < 100 ∧ (∀ x ∈ xs, Builtin.Int.intBits x ≤ 1048576) ∧ ∀ x y : Int, potB 0 x → potB 1 y → Q (.lst [.int x, .int y, .int 0])
  | _ => False
def sp__law_take : VS.Spec := fun ds Q => match ds with
  | [.pot, .int n] => 0 < n ∧ n < 2 ^ 62 ∧ ∀ x : Int, 0 ≤ x → x < n → Q (.int x)
  | _ => False
def sp__law_cells : VS.Spec := fun ds Q => match ds with
  | [.rol ns, .int m] => m = 3 ∧ ns.length ≤ 63 ∧ ∀ k : Nat, 1 ≤ k → k ≤ 3 → Q (.lst (rngL 0 k))
  | _ => False
def sp__law_codes : VS.Spec := fun ds Q => match ds with
  | [d] => ∃ xs, d = ofN xs ∧ RowOk xs ∧ Q (.tup [.int ((gl xs).code : Nat), ofN (gl xs).codes])
  | _ => False
def sp__law_row : VS.Spec := fun ds Q => match ds with
  | [.pot, .int m] => 0 ≤ m ∧ m ≤ 30 ∧ ∀ xs : List Nat, xs.length ≤ m → (∀ x ∈ xs, 1 ≤ x ∧ x ≤ 40) → Q (ofN xs)
  | _ => False
def chooseI (n k : Nat) : Int := (List.range k).foldl (fun (f : Int) (at_ : Nat) => f * ((n : Int) - at_) / ((at_ : Int) + 1)) 1
def sp__law_choose : VS.Spec := fun ds Q => match ds with
  | [.int n, .int k] => ∃ a b : Nat, n = a ∧ k = b ∧ b ≤ a ∧ a ≤ 31 ∧ Q (.int (chooseI a b))
  | _ => False
def sp__law_power : VS.Spec := fun ds Q => match ds with
  | [.int b, .int n] => ∃ a k : Nat, b = a ∧ n = k ∧ a ≤ 31 ∧ k ≤ 30 ∧ Q (.int ((a ^ k : Nat) : Int))
  | _ => False
def sp__law_bars : VS.Spec := fun ds Q => match ds with
  | [.int n, .int b] => ∃ k j : Nat, n = k ∧ b = j ∧ k ≤ 30 ∧ j ≤ k ∧ Q (.int ((eulRow k).getD j 0))
  | _ => False
def sp__law_is_row_right : VS.Spec := fun ds Q => match ds with
  | [.pot, d] => ∃ xs, d = ofN xs ∧ RowOk xs ∧ Q (.bl true)
  | _ => False
def sp__law_right : VS.Spec := fun ds Q => match ds with
  | [.pot] => Q (.bl true)
  | _ => False
def sp_law : VS.Spec := fun ds Q => match ds with
  | [.rol ns] => ∃ xs : List Int, ns = xs.map D.int ∧ xs.length ≤ 63 ∧ (∀ x ∈ xs, Builtin.Int.intBits x ≤ 1048576) ∧ Q (.bl true)
  | _ => False
end K67

set_option maxHeartbeats 4000000
namespace K67
open PySem PySem.Spec PyProof.Rows L2 VS
def t_is_integer  : VTS :=
  (vRet (vAndV (vIsa "int" (vVar 0)) (vNotV (vIsa "bool" (vVar 0)))))

def t_is_between  : VTS :=
  (vRet (vAndV (vCall sp_is_integer (vCons (vVar 0) vNil)) (vChain oLe oLe (vVar 1) (vVar 0) (vVar 2))))

def t_is_row_c1  : VT :=
  vLc (viSeq (vVar 0)) (gvName 1) vYes (vCall sp_is_between (vCons (vVar 1) (vCons (vC (.int 1)) (vCons (vC (.int 99)) vNil)))) [1]
def t_is_row  : VTS :=
  (vSeq (vIfS (vOr (vNot (vTest (vIsa "tuple" (vVar 0)))) (vTest (vOp oGt (vB oLen (vCons (vVar 0) vNil)) (vC (.int 30))))) (vRet (vC (.bl false))) vNext)
  (vRet (vB oAll (vCons t_is_row_c1 vNil))))

def t_check_row  : VTS :=
  (vIfS (vNot (vTest (vCall sp_is_row (vCons (vVar 0) vNil)))) vNever vNext)

def t_check_upto  : VTS :=
  (vIfS (vNot (vTest (vCall sp_is_between (vCons (vVar 0) (vCons (vC (.int 0)) (vCons (vVar 1) vNil)))))) vNever vNext)

def t_product_l1  : VTS :=
  (vSet 1 (vOp oMulB (vVar 1) (vVar 2)))
def t_product  : VTS :=
  (vSeq (vSet 1 (vC (.int 1)))
  (vSeq (vFor (viSeq (vVar 0)) (gvName 2) t_product_l1)
  (vRet (vVar 1))))

def t_are_codes_c1  : VT :=
  vLc (viSeq (vVar 1)) (gvName 2) vYes (vAndV (vCall sp_is_integer (vCons (vVar 2) vNil)) (vOp oGe (vVar 2) (vC (.int 0)))) [2]
def t_are_codes  : VTS :=
  (vSeq (vIfS (vOr (vNot (vTest (vIsa "tuple" (vVar 1)))) (vTest (vOp oNeA (vB oLen (vCons (vVar 1) vNil)) (vB oLen (vCons (vVar 0) vNil))))) (vRet (vC (.bl false))) vNext)
  (vRet (vB oAll (vCons t_are_codes_c1 vNil))))

def t_check_codes  : VTS :=
  (vIfS (vNot (vTest (vCall sp_are_codes (vCons (vVar 0) (vCons (vVar 1) vNil))))) vNever vNext)

def t_ordered  : VTS :=
  (vRet (vB oTuple (vCons (vSortRng [] (vB oLen (vCons (vVar 0) vNil)) (vTup (vCons (vOp oIxK (vVar 0) (vVar 1)) (vCons (vVar 1) vNil)))) vNil)))

def t_is_in_order_c1  : VT :=
  vLc (viZip (vCons (vVar 1) (vCons (vSl (vVar 1) (vPart (vC (.int 1))) vNo) vNil))) (gvTup (gvCons 2 (gvCons 3 gvNil))) vYes (vOp oLe (vOp oIx (vVar 0) (vVar 2)) (vOp oIx (vVar 0) (vVar 3))) [2, 3]
def t_is_in_order  : VTS :=
  (vRet (vB oAll (vCons t_is_in_order_c1 vNil)))

def t_are_bars_c1  : VT :=
  vLc (viSeq (vVar 1)) (gvName 5) vYes (vAndV (vIsa "tuple" (vVar 5)) (vOp oEqA (vB oLen (vCons (vVar 5) vNil)) (vC (.int 2)))) [5]
def t_are_bars_l1  : VTS :=
  (vIfS (vOr (vNot (vTest (vCall sp_is_between (vCons (vVar 3) (vCons (vC (.int 0)) (vCons (vOp oSub (vB oLen (vCons (vVar 0) vNil)) (vC (.int 1))) vNil)))))) (vOr (vNot (vTest (vCall sp_is_between (vCons (vVar 4) (vCons (vC (.int 0)) (vCons (vOp oSub (vVar 3) (vC (.int 1))) vNil)))))) (vTest (vOp oLe (vOp oIx (vVar 0) (vVar 4)) (vOp oIx (vVar 0) (vVar 3)))))) (vRet (vC (.bl false))) vNext)
def t_are_bars_z1  : VTS :=
  vZipAll 2 (vCons (vVar 1) (vCons (vSl (vVar 1) (vPart (vC (.int 1))) vNo) vNil)) (gvTup (gvCons 5 (gvCons 6 gvNil))) vYes (vOrV (vOp oEqA (vOp oIx (vVar 6) (vC (.int 0))) (vOp oIx (vVar 5) (vC (.int 1)))) (vOp oGt (vOp oIx (vVar 0) (vOp oIx (vVar 6) (vC (.int 0)))) (vOp oIx (vVar 0) (vOp oIx (vVar 5) (vC (.int 1)))))) [5, 6]
def t_are_bars  : VTS :=
  (vSeq (vIfS (vOr (vNot (vTest (vIsa "tuple" (vVar 1)))) (vNot (vTest (vB oAll (vCons t_are_bars_c1 vNil))))) (vRet (vC (.bl false))) vNext)
  (vSeq (vFor (viSeq (vVar 1)) (gvTup (gvCons 3 (gvCons 4 gvNil))) t_are_bars_l1)
  t_are_bars_z1))

def t_greatest_codes_c1  : VT :=
  vLc (viRng1 (vCons (vB oLen (vCons (vVar 0) vNil)) vNil)) (gvName 9) (vTest (vOp oEqA (vOp oIx (vVar 0) (vVar 9)) (vVar 1))) (vVar 9) [9]
def t_greatest_codes_c2  : VT :=
  vLc (viSeq (vVar 6)) (gvName 9) (vOr (vTest (vOp oIs (vVar 5) (vC .non))) (vTest (vOp oGt (vVar 9) (vVar 5)))) (vVar 9) [9]
def t_greatest_codes_c3  : VT :=
  vLc (viSeq (vVar 6)) (gvName 9) (vTest (vOp oNotIn (vVar 9) (vVar 7))) (vVar 9) [9]
def t_greatest_codes_l1  : VTS :=
  (vSetIx (vIf (vTest (vOp oIn (vVar 9) (vVar 7))) (vVar 4) (vOp oAdd (vVar 4) (vC (.int 1)))) (pVar 2) (vVar 9))
def t_greatest_codes_s1  : VTS :=
  (vAsg (vTupF (vCons (vOp oAdd (vVar 4) (vC (.int 1))) (vCons (vOp oIx (vVar 8) (vNeg (vC (.int 1)))) vNil))) (gvTup (gvCons 4 (gvCons 5 gvNil))))
def t_greatest_codes_b1  : VTS :=
  (vSeq (vMeth (pVar 3) (vCons (vTup (vCons (vVar 5) (vCons (vOp oIx (vVar 8) (vNeg (vC (.int 1)))) vNil))) vNil) fApp)
  t_greatest_codes_s1)
def t_greatest_codes_s2  : VTS :=
  (vIfS (vTest (vOp oNeA (vVar 8) (vLst vNil))) t_greatest_codes_b1 (vSet 5 (vOp oIx (vVar 7) (vNeg (vC (.int 1))))))
def t_greatest_codes_f1  : VTS :=
  (vSeq (vFor (viSeq (vVar 6)) (gvName 9) t_greatest_codes_l1)
  t_greatest_codes_s2)
def t_greatest_codes_s3  : VTS :=
  (vSeq (vSet 8 t_greatest_codes_c3)
  (vFrz 6 t_greatest_codes_f1))
def t_greatest_codes_l2  : VTS :=
  (vSeq (vSet 6 t_greatest_codes_c1)
  (vSeq (vSet 7 t_greatest_codes_c2)
  t_greatest_codes_s3))
def t_greatest_codes_s4  : VTS :=
  (vRet (vTup (vCons (vVar 4) (vCons (vB oTuple (vCons (vVar 2) vNil)) (vCons (vB oTuple (vCons (vVar 3) vNil)) vNil)))))
def t_greatest_codes_s5  : VTS :=
  (vSeq (vFor (viSeq (vSortSet (vVar 0))) (gvName 1) t_greatest_codes_l2)
  t_greatest_codes_s4)
def t_greatest_codes  : VTS :=
  (vSeq (vAsg (vTupF (vCons (vOp oMulB (vLst (vCons (vC (.int 0)) vNil)) (vB oLen (vCons (vVar 0) vNil))) (vCons (vLst vNil) (vCons (vC (.int 0)) (vCons (vC .non) vNil))))) (gvTup (gvCons 2 (gvCons 3 (gvCons 4 (gvCons 5 gvNil))))))
  t_greatest_codes_s5)

def t_least_codes  : VTS :=
  (vSeq (vDrop (vCall sp_check_row (vCons (vVar 0) vNil)))
  (vRet (vCall sp_greatest_codes (vCons (vVar 0) vNil))))

def t_shows_least_codes_c1  : VT :=
  vLc (viSeq (vVar 3)) (gvName 5) vYes (vOp oGt (vVar 5) (vVar 2)) [5]
def t_shows_least_codes  : VTS :=
  (vSeq (vDrop (vCall sp_check_row (vCons (vVar 0) vNil)))
  (vSeq (vIfS (vOr (vNot (vTest (vIsa "tuple" (vVar 1)))) (vOr (vTest (vOp oNeA (vB oLen (vCons (vVar 1) vNil)) (vC (.int 3)))) (vNot (vTest (vCall sp_is_integer (vCons (vOp oIx (vVar 1) (vC (.int 0))) vNil)))))) (vRet (vC (.bl false))) vNext)
  (vSeq (vAsg (vVar 1) (gvTup (gvCons 2 (gvCons 3 (gvCons 4 gvNil)))))
  (vSeq (vIfS (vOr (vNot (vTest (vCall sp_are_codes (vCons (vVar 0) (vCons (vVar 3) vNil))))) (vOr (vTest (vB oAny (vCons t_shows_least_codes_c1 vNil))) (vNot (vTest (vCall sp_is_in_order (vCons (vVar 0) (vCons (vCall sp_ordered (vCons (vVar 3) vNil)) vNil))))))) (vRet (vC (.bl false))) vNext)
  (vRet (vAndV (vCall sp_are_bars (vCons (vVar 0) (vCons (vVar 4) vNil))) (vOp oEqA (vB oLen (vCons (vVar 4) vNil)) (vVar 2))))))))

def t_bar_count_l1  : VTS :=
  (vSeq (vSet 6 (vIf (vTest (vOp oGt (vVar 5) (vC (.int 0)))) (vOp oIx (vVar 2) (vOp oSub (vVar 5) (vC (.int 1)))) (vC (.int 0))))
  (vMeth (pVar 4) (vCons (vOp oAdd (vOp oMulB (vOp oAdd (vVar 5) (vC (.int 1))) (vOp oIx (vVar 2) (vVar 5))) (vOp oMulB (vOp oSub (vVar 3) (vVar 5)) (vVar 6))) vNil) fApp))
def t_bar_count_l2  : VTS :=
  (vSeq (vSet 4 (vLst vNil))
  (vSeq (vFor (viRng1 (vCons (vOp oAdd (vC (.int 30)) (vC (.int 1))) vNil)) (gvName 5) t_bar_count_l1)
  (vMv 2 4)))
def t_bar_count  : VTS :=
  (vSeq (vDrop (vCall sp_check_upto (vCons (vVar 0) (vCons (vC (.int 30)) vNil))))
  (vSeq (vDrop (vCall sp_check_upto (vCons (vVar 1) (vCons (vC (.int 30)) vNil))))
  (vSeq (vSet 2 (vOp oAdd (vLst (vCons (vC (.int 1)) vNil)) (vOp oMulB (vLst (vCons (vC (.int 0)) vNil)) (vC (.int 30)))))
  (vSeq (vFor (viRng2 (vCons (vC (.int 1)) (vCons (vOp oAdd (vVar 0) (vC (.int 1))) vNil))) (gvName 3) t_bar_count_l2)
  (vRet (vOp oIx (vVar 2) (vVar 1)))))))

def t_are_deals_c1  : VT :=
  vLc (viSeq (vVar 1)) (gvName 2) vYes (vAndV (vIsa "tuple" (vVar 2)) (vOp oEqA (vB oLen (vCons (vVar 2) vNil)) (vB oLen (vCons (vVar 0) vNil)))) [2]
def t_are_deals_c2  : VT :=
  vLc (viSeq (vVar 2)) (gvName 3) vYes (vCall sp_is_between (vCons (vVar 3) (vCons (vC (.int 0)) (vCons (vOp oSub (vC (.int 30)) (vC (.int 1))) vNil)))) [3]
def t_are_deals_c3  : VT :=
  vLc (viSeq (vVar 1)) (gvName 2) vYes (vB oAll (vCons t_are_deals_c2 vNil)) [2]
def t_are_deals  : VTS :=
  (vSeq (vIfS (vOr (vNot (vTest (vIsa "tuple" (vVar 1)))) (vTest (vOp oGt (vB oLen (vCons (vVar 1) vNil)) (vC (.int 8))))) (vRet (vC (.bl false))) vNext)
  (vSeq (vIfS (vNot (vTest (vB oAll (vCons t_are_deals_c1 vNil)))) (vRet (vC (.bl false))) vNext)
  (vRet (vB oAll (vCons t_are_deals_c3 vNil)))))

def t_check_deals  : VTS :=
  (vIfS (vNot (vTest (vCall sp_are_deals (vCons (vVar 0) (vCons (vVar 1) vNil))))) vNever vNext)

def t_check_tracks_c1  : VT :=
  vLc (viSeq (vVar 0)) (gvName 1) vYes (vCall sp_is_between (vCons (vVar 1) (vCons (vC (.int 1)) (vCons (vC (.int 30)) vNil)))) [1]
def t_check_tracks  : VTS :=
  (vSeq (vIfS (vOr (vNot (vTest (vIsa "tuple" (vVar 0)))) (vTest (vOp oGt (vB oLen (vCons (vVar 0) vNil)) (vC (.int 8))))) vNever vNext)
  (vIfS (vNot (vTest (vB oAll (vCons t_check_tracks_c1 vNil)))) vNever vNext))

def t_are_below_c1  : VT :=
  vLc (viSeq (vVar 2)) (gvName 4) vYes (vOp oLt (vVar 4) (vVar 3)) [4]
def t_are_below_c2  : VT :=
  vLc (viZip (vCons (vVar 0) (vCons (vVar 1) vNil))) (gvTup (gvCons 2 (gvCons 3 gvNil))) vYes (vB oAll (vCons t_are_below_c1 vNil)) [2, 3]
def t_are_below  : VTS :=
  (vSeq (vIfS (vTest (vOp oNeA (vB oLen (vCons (vVar 0) vNil)) (vB oLen (vCons (vVar 1) vNil)))) (vRet (vC (.bl false))) vNext)
  (vRet (vB oAll (vCons t_are_below_c2 vNil))))

def t_pulled_c1  : VT :=
  vLc (viSeq (vVar 0)) (gvName 4) (vTest (vOp oEqA (vOp oIx (vVar 1) (vVar 4)) (vVar 3))) (vVar 4) [4]
def t_pulled_l1  : VTS :=
  (vMeth (pVar 2) (vCons t_pulled_c1 vNil) fExt)
def t_pulled  : VTS :=
  (vSeq (vSet 2 (vLst vNil))
  (vSeq (vFor (viSeq (vSortSet (vVar 1))) (gvName 3) t_pulled_l1)
  (vRet (vVar 2))))

def t_behind_all_l1  : VTS :=
  (vSet 2 (vCall sp_pulled (vCons (vVar 2) (vCons (vVar 3) vNil))))
def t_behind_all  : VTS :=
  (vSeq (vSet 2 (vLRng (vR1 (vB oLen (vCons (vVar 0) vNil)))))
  (vSeq (vFor (viSeq (vVar 1)) (gvName 3) t_behind_all_l1)
  (vRet (vB oTuple (vCons (vVar 2) vNil)))))

def t_behind  : VTS :=
  (vSeq (vDrop (vCall sp_check_row (vCons (vVar 0) vNil)))
  (vSeq (vDrop (vCall sp_check_deals (vCons (vVar 0) (vCons (vVar 1) vNil))))
  (vRet (vCall sp_behind_all (vCons (vVar 0) (vCons (vVar 1) vNil))))))

def t_by_codes  : VTS :=
  (vSeq (vDrop (vCall sp_check_row (vCons (vVar 0) vNil)))
  (vSeq (vDrop (vCall sp_check_codes (vCons (vVar 0) (vCons (vVar 1) vNil))))
  (vRet (vCall sp_ordered (vCons (vVar 1) vNil)))))

def t_do_set  : VTS :=
  (vSeq (vDrop (vCall sp_check_row (vCons (vVar 0) vNil)))
  (vSeq (vDrop (vCall sp_check_codes (vCons (vVar 0) (vCons (vVar 1) vNil))))
  (vRet (vCall sp_is_in_order (vCons (vVar 0) (vCons (vCall sp_ordered (vCons (vVar 1) vNil)) vNil))))))

def t_figures_c1  : VT :=
  vLc (viSeq (vVar 4)) (gvName 5) vYes (vOp oMod (vVar 5) (vVar 2)) [5]
def t_figures_c2  : VT :=
  vLc (viSeq (vVar 4)) (gvName 5) vYes (vOp oDiv (vVar 5) (vVar 2)) [5]
def t_figures_l1  : VTS :=
  (vSeq (vMeth (pVar 3) (vCons (vB oTuple (vCons t_figures_c1 vNil)) vNil) fApp)
  (vSet 4 t_figures_c2))
def t_figures  : VTS :=
  (vSeq (vPar [3, 4] (vCons (vLst vNil) (vCons (vB oList (vCons (vVar 0) vNil)) vNil)))
  (vSeq (vFor (viSeq (vVar 1)) (gvName 2) t_figures_l1)
  (vRet (vB oTuple (vCons (vVar 3) vNil)))))

def t_dealt  : VTS :=
  (vSeq (vDrop (vCall sp_check_row (vCons (vVar 0) vNil)))
  (vSeq (vDrop (vCall sp_check_codes (vCons (vVar 0) (vCons (vVar 1) vNil))))
  (vSeq (vDrop (vCall sp_check_tracks (vCons (vVar 2) vNil)))
  (vSeq (vIfS (vAnd (vTest (vOp oNeA (vVar 1) (vTup vNil))) (vTest (vOp oGe (vB oMax1 (vCons (vVar 1) vNil)) (vCall sp_product (vCons (vVar 2) vNil))))) (vRaise "TooGreat" (vB oMax1 (vCons (vVar 1) vNil))) vNext)
  (vRet (vCall sp_figures (vCons (vVar 1) (vCons (vVar 2) vNil))))))))

def t_codes_of_c1  : VT :=
  vLc (viZip (vCons (vVar 3) (vCons (vVar 5) vNil))) (gvTup (gvCons 7 (gvCons 8 gvNil))) vYes (vOp oAdd (vVar 7) (vOp oMulB (vVar 4) (vVar 8))) [7, 8]
def t_codes_of_l1  : VTS :=
  (vSeq (vSet 3 t_codes_of_c1)
  (vSet 4 (vOp oMulB (vVar 4) (vVar 6))))
def t_codes_of  : VTS :=
  (vSeq (vDrop (vCall sp_check_row (vCons (vVar 0) vNil)))
  (vSeq (vDrop (vCall sp_check_deals (vCons (vVar 0) (vCons (vVar 1) vNil))))
  (vSeq (vDrop (vCall sp_check_tracks (vCons (vVar 2) vNil)))
  (vSeq (vIfS (vNot (vTest (vCall sp_are_below (vCons (vVar 1) (vCons (vVar 2) vNil))))) vNever vNext)
  (vSeq (vAsg (vTup (vCons (vOp oMulB (vLst (vCons (vC (.int 0)) vNil)) (vB oLen (vCons (vVar 0) vNil))) (vCons (vC (.int 1)) vNil))) (gvTup (gvCons 3 (gvCons 4 gvNil))))
  (vSeq (vFor (viZip (vCons (vVar 1) (vCons (vVar 2) vNil))) (gvTup (gvCons 5 (gvCons 6 gvNil))) t_codes_of_l1)
  (vRet (vB oTuple (vCons (vVar 3) vNil)))))))))

def t_can_set_b1  : VTS :=
  (vRet (vTup (vCons (vC (.str "deals")) (vCons (vCall sp_figures (vCons (vVar 3) (vCons (vVar 1) vNil))) vNil))))
def t_can_set  : VTS :=
  (vSeq (vDrop (vCall sp_check_row (vCons (vVar 0) vNil)))
  (vSeq (vDrop (vCall sp_check_tracks (vCons (vVar 1) vNil)))
  (vSeq (vAsg (vCall sp_greatest_codes (vCons (vVar 0) vNil)) (gvTup (gvCons 2 (gvCons 3 (gvCons 4 gvNil)))))
  (vSeq (vIfS (vTest (vOp oLt (vVar 2) (vCall sp_product (vCons (vVar 1) vNil)))) t_can_set_b1 vNext)
  (vRet (vTup (vCons (vC (.str "bars")) (vCons (vSl (vVar 4) vNo (vPart (vCall sp_product (vCons (vVar 1) vNil)))) vNil))))))))

def t_shows_can_set_b1  : VTS :=
  (vSeq (vIfS (vOr (vNot (vTest (vCall sp_are_deals (vCons (vVar 0) (vCons (vOp oIx (vVar 2) (vC (.int 1))) vNil))))) (vNot (vTest (vCall sp_are_below (vCons (vOp oIx (vVar 2) (vC (.int 1))) (vCons (vVar 1) vNil)))))) (vRet (vC (.bl false))) vNext)
  (vRet (vCall sp_is_in_order (vCons (vVar 0) (vCons (vCall sp_behind_all (vCons (vVar 0) (vCons (vOp oIx (vVar 2) (vC (.int 1))) vNil))) vNil)))))
def t_shows_can_set  : VTS :=
  (vSeq (vDrop (vCall sp_check_row (vCons (vVar 0) vNil)))
  (vSeq (vDrop (vCall sp_check_tracks (vCons (vVar 1) vNil)))
  (vSeq (vIfS (vOr (vNot (vTest (vIsa "tuple" (vVar 2)))) (vOr (vTest (vOp oNeA (vB oLen (vCons (vVar 2) vNil)) (vC (.int 2)))) (vNot (vTest (vIsa "str" (vOp oIx (vVar 2) (vC (.int 0)))))))) (vRet (vC (.bl false))) vNext)
  (vSeq (vIfS (vTest (vOp oEqA (vOp oIx (vVar 2) (vC (.int 0))) (vC (.str "deals")))) t_shows_can_set_b1 vNext)
  (vRet (vAndV (vOp oEqA (vOp oIx (vVar 2) (vC (.int 0))) (vC (.str "bars"))) (vAndV (vCall sp_are_bars (vCons (vVar 0) (vCons (vOp oIx (vVar 2) (vC (.int 1))) vNil))) (vOp oEqA (vB oLen (vCons (vOp oIx (vVar 2) (vC (.int 1))) vNil)) (vCall sp_product (vCons (vVar 1) vNil))))))))))

def t_least_passes_w1  : VTS :=
  (vPar [3, 4] (vCons (vOp oAdd (vVar 3) (vC (.int 1))) (vCons (vOp oMulB (vVar 4) (vVar 1)) vNil)))
def t_least_passes  : VTS :=
  (vSeq (vDrop (vCall sp_check_row (vCons (vVar 0) vNil)))
  (vSeq (vIfS (vNot (vTest (vCall sp_is_between (vCons (vVar 1) (vCons (vC (.int 2)) (vCons (vC (.int 30)) vNil)))))) vNever vNext)
  (vSeq (vPar [2, 3, 4] (vCons (vOp oIx (vCall sp_greatest_codes (vCons (vVar 0) vNil)) (vC (.int 0))) (vCons (vC (.int 0)) (vCons (vC (.int 1)) vNil))))
  (vSeq (vWhile (vTest (vOp oLe (vVar 4) (vVar 2))) t_least_passes_w1)
  (vRet (vVar 3))))))

def t__law_pot_s1  : VTS :=
  (vRet (vLst (vCons (vVar 3) (vCons (vOp oMod (vB oInt (vCons (vOp oAdd (vOp oAdd (vOp oMulB (vVar 4) (vC (.int 41165))) (vOp oMulB (vOp oMulB (vC (.int 9201)) (vVar 1)) (vVar 1))) (vC (.int 2053))) vNil)) (vC (.int 2305843009213693921))) (vCons (vC (.int 0)) vNil)))))
def t__law_pot_s2  : VTS :=
  (vSeq (vSet 4 (vOp oMod (vB oInt (vCons (vVar 2) vNil)) (vC (.int 2305843009213693951))))
  t__law_pot_s1)
def t__law_pot_s3  : VTS :=
  (vSeq (vSet 3 (vOp oMulB (vOp oMod (vB oInt (vCons (vB oAbs (vCons (vVar 2) vNil)) vNil)) (vOp oPow (vOp oPow (vC (.int 10)) (vC (.int 60))) (vC (.int 5)))) (vB oInt (vCons (vOp oGe (vB oAbs (vCons (vVar 2) vNil)) (vOp oPow (vC (.int 10)) (vC (.int 18)))) vNil))))
  t__law_pot_s2)
def t__law_pot  : VTS :=
  (vSeq (vSet 2 (vIf (vTest (vOp oLt (vVar 1) (vB oLen (vCons (vVar 0) vNil)))) (vOp oIx (vVar 0) (vVar 1)) (vOp oAdd (vOp oAdd (vOp oMod (vB oSum (vCons (vSl (vVar 0) vNo (vPart (vC (.int 1)))) vNil)) (vC (.int 1000639))) (vOp oMulB (vC (.int 7113)) (vVar 1))) (vC (.int 1283)))))
  t__law_pot_s3)

def t__law_take_b1  : VTS :=
  (vSeq (vSet 4 (vOp oMod (vB oInt (vCons (vPotIx 0 0) vNil)) (vVar 1)))
  (vSeq (vDiv 0 1)
  (vRet (vVar 4))))
def t__law_take  : VTS :=
  (vSeq (vIfS (vTest (vOp oGt (vPotIx 0 0) (vC (.int 0)))) t__law_take_b1 vNext)
  (vSeq (vInc 0)
  (vSeq (vSet 2 (vOp oIx (vLst (vCons (vC (.int 2147483647)) (vCons (vC (.int 2147483629)) (vCons (vC (.int 2147483587)) (vCons (vC (.int 2147483579)) (vCons (vC (.int 2147483563)) vNil)))))) (vOp oMod (vB oInt (vCons (vPotIx 0 2) vNil)) (vC (.int 5)))))
  (vSeq (vSet 3 (vOp oMod (vB oInt (vCons (vOp oPow (vB oInt (vCons (vOp oAdd (vOp oAdd (vPotIx 0 1) (vOp oMulB (vOp oMulB (vC (.int 52203)) (vPotIx 0 2)) (vPotIx 0 2))) (vC (.int 3067))) vNil)) (vC (.int 3))) vNil)) (vVar 2)))
  (vSeq (vSet 3 (vOp oMod (vB oInt (vCons (vOp oMulB (vVar 3) (vOp oAdd (vOp oMod (vB oInt (vCons (vVar 3) vNil)) (vC (.int 8185))) (vOp oMulB (vC (.int 641)) (vPotIx 0 2)))) vNil)) (vC (.int 2305843009213693907))))
  (vRet (vOp oMod (vB oInt (vCons (vOp oDiv (vVar 3) (vC (.int 195))) vNil)) (vVar 1))))))))

def t__law_cells  : VTS :=
  (vRet (vLRng (vR1 (vB oMax2 (vCons (vC (.int 1)) (vCons (vB oMin2 (vCons (vVar 1) (vCons (vB oLen (vCons (vVar 0) vNil)) vNil))) vNil))))))

def t__law_codes_c1  : VT :=
  vLc (viEnum (vCons (vVar 0) vNil)) (gvTup (gvCons 7 (gvCons 8 gvNil))) (vTest (vOp oEqA (vVar 8) (vVar 1))) (vVar 7) [7, 8]
def t__law_codes_c2  : VT :=
  vLc (viSeq (vVar 5)) (gvName 7) (vTest (vOp oLt (vVar 7) (vVar 4))) (vVar 7) [7]
def t__law_codes_l1  : VTS :=
  (vSetIx (vB oInt (vCons (vOp oAdd (vVar 3) (vIf (vTest (vOp oLt (vVar 7) (vVar 4))) (vC (.int 1)) (vC (.int 0)))) vNil)) (pVar 2) (vVar 7))
def t__law_codes_f1  : VTS :=
  (vSeq (vFor (viSeq (vVar 5)) (gvName 7) t__law_codes_l1)
  (vAsg (vTupF (vCons (vOp oAdd (vVar 3) (vIf (vTest (vOp oNeA (vVar 6) (vLst vNil))) (vC (.int 1)) (vC (.int 0)))) (vCons (vB oMax1 (vCons (vIf (vTest (vOp oNeA (vVar 6) (vLst vNil))) (vVar 6) (vVar 5)) vNil)) vNil))) (gvTup (gvCons 3 (gvCons 4 gvNil)))))
def t__law_codes_l2  : VTS :=
  (vSeq (vSet 5 t__law_codes_c1)
  (vSeq (vSet 6 t__law_codes_c2)
  (vFrz 5 t__law_codes_f1)))
def t__law_codes  : VTS :=
  (vSeq (vAsg (vTupF (vCons (vOp oMulB (vLst (vCons (vC (.int 0)) vNil)) (vB oLen (vCons (vVar 0) vNil))) (vCons (vC (.int 0)) (vCons (vNeg (vC (.int 1))) vNil)))) (gvTup (gvCons 2 (gvCons 3 (gvCons 4 gvNil)))))
  (vSeq (vFor (viSeq (vSortSet (vVar 0))) (gvName 1) t__law_codes_l2)
  (vRet (vTup (vCons (vB oInt (vCons (vVar 3) vNil)) (vCons (vB oTuple (vCons (vVar 2) vNil)) vNil))))))

def t__law_row_c1  : VT :=
  vLc (viRng1 (vCons (vCall sp__law_take (vCons (vVar 0) (vCons (vOp oAdd (vVar 1) (vC (.int 1))) vNil))) vNil)) (gvName 3) vYes (vB oInt (vCons (vOp oAdd (vC (.int 1)) (vCall sp__law_take (vCons (vVar 0) (vCons (vVar 2) vNil)))) vNil)) [3]
def t__law_row  : VTS :=
  (vSeq (vSet 2 (vOp oAdd (vC (.int 1)) (vCall sp__law_take (vCons (vVar 0) (vCons (vC (.int 40)) vNil)))))
  (vRet (vB oTuple (vCons t__law_row_c1 vNil))))

def t__law_choose_l1  : VTS :=
  (vSet 2 (vOp oDiv (vOp oMulB (vVar 2) (vOp oSub (vVar 0) (vVar 3))) (vOp oAdd (vVar 3) (vC (.int 1)))))
def t__law_choose  : VTS :=
  (vSeq (vSet 2 (vC (.int 1)))
  (vSeq (vFor (viRng1 (vCons (vVar 1) vNil)) (gvName 3) t__law_choose_l1)
  (vRet (vVar 2))))

def t__law_power_l1  : VTS :=
  (vSet 2 (vOp oMulB (vVar 2) (vVar 0)))
def t__law_power  : VTS :=
  (vSeq (vSet 2 (vC (.int 1)))
  (vSeq (vFor (viRng1 (vCons (vVar 1) vNil)) (gvName 3) t__law_power_l1)
  (vRet (vVar 2))))

def t__law_bars_c1  : VT :=
  vLc (viRng1 (vCons (vOp oAdd (vVar 1) (vC (.int 1))) vNil)) (gvName 2) vYes (vOp oMulB (vOp oMulB (vOp oSub (vC (.int 1)) (vOp oMulB (vC (.int 2)) (vOp oMod (vVar 2) (vC (.int 2))))) (vCall sp__law_choose (vCons (vOp oAdd (vVar 0) (vC (.int 1))) (vCons (vVar 2) vNil)))) (vCall sp__law_power (vCons (vOp oSub (vOp oAdd (vVar 1) (vC (.int 1))) (vVar 2)) (vCons (vVar 0) vNil)))) [2]
def t__law_bars  : VTS :=
  (vSeq (vIfS (vTest (vOp oEqA (vVar 0) (vC (.int 0)))) (vRet (vB oInt (vCons (vOp oEqA (vVar 1) (vC (.int 0))) vNil))) vNext)
  (vRet (vB oSum (vCons t__law_bars_c1 vNil))))

def t__law_is_row_right_c1  : VT :=
  vLc (viZip (vCons (vVar 3) (vCons (vSl (vVar 3) (vPart (vC (.int 1))) vNo) vNil))) (gvTup (gvCons 17 (gvCons 18 gvNil))) vYes (vOp oGt (vOp oIx (vVar 1) (vVar 17)) (vOp oIx (vVar 1) (vVar 18))) [17, 18]
def t__law_is_row_right_c2  : VT :=
  vLc (viRng1 (vCons (vCall sp__law_take (vCons (vVar 0) (vCons (vC (.int 5)) vNil))) vNil)) (gvName 16) vYes (vB oInt (vCons (vOp oAdd (vC (.int 1)) (vCall sp__law_take (vCons (vVar 0) (vCons (vC (.int 6)) vNil)))) vNil)) [16]
def t__law_is_row_right_l1  : VTS :=
  (vSet 5 (vOp oMulB (vVar 5) (vVar 6)))
def t__law_is_row_right_c3  : VT :=
  vLc (viSeq (vVar 9)) (gvName 19) vYes (vB oInt (vCons (vOp oMod (vOp oDiv (vVar 19) (vVar 15)) (vVar 6)) vNil)) [19]
def t__law_is_row_right_l2  : VTS :=
  (vSeq (vMeth (pVar 14) (vCons (vB oTuple (vCons t__law_is_row_right_c3 vNil)) vNil) fApp)
  (vSet 15 (vOp oMulB (vVar 15) (vVar 6))))
def t__law_is_row_right_c4  : VT :=
  vLc (viZip (vCons (vVar 10) (vCons (vSl (vVar 10) (vPart (vC (.int 1))) vNo) vNil))) (gvTup (gvCons 17 (gvCons 18 gvNil))) vYes (vOp oGt (vOp oIx (vVar 1) (vVar 17)) (vOp oIx (vVar 1) (vVar 18))) [17, 18]
def t__law_is_row_right_s1  : VTS :=
  (vIfS (vTest (vB oAny (vCons t__law_is_row_right_c4 vNil))) (vRet (vC (.bl false))) vNext)
def t__law_is_row_right_s2  : VTS :=
  (vSeq (vSet 10 (vCall sp_behind (vCons (vVar 1) (vCons (vOp oIx (vVar 7) (vC (.int 1))) vNil))))
  t__law_is_row_right_s1)
def t__law_is_row_right_s3  : VTS :=
  (vSeq (vIfS (vOr (vTest (vOp oNeA (vB oRepr (vCons (vCall sp_dealt (vCons (vVar 1) (vCons (vVar 9) (vCons (vVar 4) vNil)))) vNil)) (vB oRepr (vCons (vB oTuple (vCons (vVar 14) vNil)) vNil)))) (vOr (vTest (vOp oNeA (vCall sp_codes_of (vCons (vVar 1) (vCons (vB oTuple (vCons (vVar 14) vNil)) (vCons (vVar 4) vNil)))) (vVar 9))) (vTest (vOp oNeA (vCall sp_behind (vCons (vVar 1) (vCons (vB oTuple (vCons (vVar 14) vNil)) vNil))) (vVar 3))))) (vRet (vC (.bl false))) vNext)
  t__law_is_row_right_s2)
def t__law_is_row_right_s4  : VTS :=
  (vSeq (vFor (viSeq (vVar 4)) (gvName 6) t__law_is_row_right_l2)
  t__law_is_row_right_s3)
def t__law_is_row_right_s5  : VTS :=
  (vIfS (vAnd (vTest (vOp oNeA (vVar 1) (vTup vNil))) (vOr (vNot (vTest (vIsaE "TooGreat" (vVar 11)))) (vTest (vOp oNeA (vB oRepr (vCons (vValue ["TooGreat"] (vVar 11)) vNil)) (vB oRepr (vCons (vVar 8) vNil)))))) (vRet (vC (.bl false))) vNext)
def t__law_is_row_right_b1  : VTS :=
  (vSeq (vAsg (vTup (vCons (vLst vNil) (vCons (vC (.int 1)) vNil))) (gvTup (gvCons 14 (gvCons 15 gvNil))))
  t__law_is_row_right_s4)
def t__law_is_row_right_b2  : VTS :=
  (vSeq (vSet 11 (vCaught ["TooGreat"] spx_dealt (vCons (vVar 1) (vCons (vVar 9) (vCons (vVar 4) vNil)))))
  t__law_is_row_right_s5)
def t__law_is_row_right_w1  : VTS :=
  (vPar [12, 13] (vCons (vOp oAdd (vVar 12) (vC (.int 1))) (vCons (vOp oMulB (vVar 13) (vVar 6)) vNil)))
def t__law_is_row_right_s6  : VTS :=
  (vRet (vOp oEqA (vB oRepr (vCons (vCall sp_least_passes (vCons (vVar 1) (vCons (vVar 6) vNil))) vNil)) (vB oRepr (vCons (vB oInt (vCons (vVar 12) vNil)) vNil))))
def t__law_is_row_right_s7  : VTS :=
  (vSeq (vWhile (vTest (vOp oLe (vVar 13) (vVar 8))) t__law_is_row_right_w1)
  t__law_is_row_right_s6)
def t__law_is_row_right_s8  : VTS :=
  (vSeq (vAsg (vTup (vCons (vB oInt (vCons (vOp oAdd (vC (.int 2)) (vCall sp__law_take (vCons (vVar 0) (vCons (vC (.int 29)) vNil)))) vNil)) (vCons (vC (.int 0)) (vCons (vC (.int 1)) vNil)))) (gvTup (gvCons 6 (gvCons 12 (gvCons 13 gvNil)))))
  t__law_is_row_right_s7)
def t__law_is_row_right_s9  : VTS :=
  (vSeq (vIfS (vTest (vOp oGt (vVar 5) (vVar 8))) t__law_is_row_right_b1 t__law_is_row_right_b2)
  t__law_is_row_right_s8)
def t__law_is_row_right_s10  : VTS :=
  (vSeq (vIfS (vOr (vTest (vOp oNeA (vOp oEqA (vOp oIx (vVar 7) (vC (.int 0))) (vC (.str "deals"))) (vOp oGt (vVar 5) (vVar 8)))) (vTest (vOp oIsNot (vCall sp_shows_can_set (vCons (vVar 1) (vCons (vVar 4) (vCons (vVar 7) vNil)))) (vC (.bl true))))) (vRet (vC (.bl false))) vNext)
  t__law_is_row_right_s9)
def t__law_is_row_right_s11  : VTS :=
  (vSeq (vSet 7 (vCall sp_can_set (vCons (vVar 1) (vCons (vVar 4) vNil))))
  t__law_is_row_right_s10)
def t__law_is_row_right_s12  : VTS :=
  (vSeq (vFor (viSeq (vVar 4)) (gvName 6) t__law_is_row_right_l1)
  t__law_is_row_right_s11)
def t__law_is_row_right_s13  : VTS :=
  (vSeq (vSet 4 (vB oTuple (vCons t__law_is_row_right_c2 vNil)))
  (vSeq (vSet 5 (vC (.int 1)))
  t__law_is_row_right_s12))
def t__law_is_row_right_s14  : VTS :=
  (vSeq (vIfS (vOr (vTest (vOp oNeA (vCall sp_by_codes (vCons (vVar 1) (vCons (vVar 9) vNil))) (vVar 3))) (vTest (vB oAny (vCons t__law_is_row_right_c1 vNil)))) (vRet (vC (.bl false))) vNext)
  t__law_is_row_right_s13)
def t__law_is_row_right_s15  : VTS :=
  (vSeq (vSet 3 (vB oTuple (vCons (vSortRng [] (vB oLen (vCons (vVar 1) vNil)) (vTup (vCons (vOp oIxK (vVar 9) (vVar 20)) (vCons (vVar 20) vNil)))) vNil)))
  t__law_is_row_right_s14)
def t__law_is_row_right_s16  : VTS :=
  (vSeq (vIfS (vTest (vOp oIsNot (vCall sp_shows_least_codes (vCons (vVar 1) (vCons (vTup (vCons (vVar 8) (vCons (vVar 9) (vCons (vOp oIx (vVar 2) (vC (.int 2))) vNil)))) vNil))) (vC (.bl true)))) (vRet (vC (.bl false))) vNext)
  t__law_is_row_right_s15)
def t__law_is_row_right_s17  : VTS :=
  (vSeq (vIfS (vOr (vTest (vOp oNeA (vB oRepr (vCons (vOp oIx (vVar 2) (vC (.int 0))) vNil)) (vB oRepr (vCons (vVar 8) vNil)))) (vOr (vTest (vOp oIsNot (vCall sp_shows_least_codes (vCons (vVar 1) (vCons (vVar 2) vNil))) (vC (.bl true)))) (vTest (vOp oIsNot (vCall sp_do_set (vCons (vVar 1) (vCons (vVar 9) vNil))) (vC (.bl true)))))) (vRet (vC (.bl false))) vNext)
  t__law_is_row_right_s16)
def t__law_is_row_right_s18  : VTS :=
  (vSeq (vSet 2 (vCall sp_least_codes (vCons (vVar 1) vNil)))
  t__law_is_row_right_s17)
def t__law_is_row_right  : VTS :=
  (vSeq (vAsg (vCall sp__law_codes (vCons (vVar 1) vNil)) (gvTup (gvCons 8 (gvCons 9 gvNil))))
  t__law_is_row_right_s18)

def t__law_right_c1  : VT :=
  vLc (viSeq (vVar 7)) (gvName 10) vYes (vB oInt (vCons (vOp oAdd (vVar 10) (vB oMax1 (vCons (vOp oAdd (vTup (vCons (vC (.int 0)) vNil)) (vVar 6)) vNil))) vNil)) [10]
def t__law_right_c2  : VT :=
  vLc (viSeq (vVar 6)) (gvName 10) vYes (vB oInt (vCons (vOp oAdd (vVar 10) (vB oMax1 (vCons (vOp oAdd (vTup (vCons (vC (.int 0)) vNil)) (vVar 7)) vNil))) vNil)) [10]
def t__law_right_l1  : VTS :=
  (vMeth (pVar 4) (vCons (vCall sp__law_take (vCons (vVar 0) (vCons (vOp oAdd (vVar 5) (vC (.int 1))) vNil))) (vCons (vB oInt (vCons (vOp oAdd (vOp oMulB (vC (.int 3)) (vVar 5)) (vC (.int 1))) vNil)) vNil)) fIns)
def t__law_right_c3  : VT :=
  vLc (viSeq (vTup (vCons (vCall sp__law_row (vCons (vVar 0) (vCons (vC (.int 30)) vNil))) (vCons (vVar 4) (vCons (vVar 2) vNil))))) (gvName 12) vYes (vCall sp__law_is_row_right (vCons (vVar 0) (vCons (vVar 12) vNil))) [12]
def t__law_right_s1  : VTS :=
  (vRet (vOp oEqA (vB oRepr (vCons (vCall sp_bar_count (vCons (vVar 10) (vCons (vVar 11) vNil))) vNil)) (vB oRepr (vCons (vIf (vTest (vOp oLe (vVar 11) (vVar 10))) (vCall sp__law_bars (vCons (vVar 10) (vCons (vVar 11) vNil))) (vC (.int 0))) vNil))))
def t__law_right_s2  : VTS :=
  (vSeq (vPar [10, 11] (vCons (vB oInt (vCons (vCall sp__law_take (vCons (vVar 0) (vCons (vC (.int 31)) vNil))) vNil)) (vCons (vB oInt (vCons (vCall sp__law_take (vCons (vVar 0) (vCons (vC (.int 31)) vNil))) vNil)) vNil)))
  t__law_right_s1)
def t__law_right_s3  : VTS :=
  (vSeq (vIfS (vOr (vTest (vOp oNeA (vOp oAdd (vOp oIx (vCall sp_least_codes (vCons (vVar 4) vNil)) (vC (.int 0))) (vOp oIx (vCall sp_least_codes (vCons (vBack (vVar 4)) vNil)) (vC (.int 0)))) (vOp oSub (vVar 3) (vC (.int 1))))) (vNot (vTest (vB oAll (vCons t__law_right_c3 vNil))))) (vRet (vC (.bl false))) vNext)
  t__law_right_s2)
def t__law_right_s4  : VTS :=
  (vSeq (vSet 4 (vB oTuple (vCons (vVar 4) vNil)))
  t__law_right_s3)
def t__law_right_s5  : VTS :=
  (vSeq (vFor (viRng1 (vCons (vVar 3) vNil)) (gvName 5) t__law_right_l1)
  t__law_right_s4)
def t__law_right_s6  : VTS :=
  (vSeq (vSet 3 (vOp oAdd (vC (.int 1)) (vCall sp__law_take (vCons (vVar 0) (vCons (vC (.int 30)) vNil)))))
  (vSeq (vSet 4 (vLst vNil))
  t__law_right_s5))
def t__law_right_s7  : VTS :=
  (vSeq (vIfS (vOr (vTest (vOp oNeA (vOp oIx (vCall sp_least_codes (vCons (vVar 1) vNil)) (vC (.int 0))) (vOp oAdd (vVar 8) (vVar 9)))) (vTest (vOp oNeA (vOp oIx (vCall sp_least_codes (vCons (vVar 2) vNil)) (vC (.int 0))) (vOp oAdd (vOp oAdd (vVar 8) (vVar 9)) (vB oInt (vCons (vAndV (vOp oNeA (vVar 6) (vTup vNil)) (vOp oNeA (vVar 7) (vTup vNil))) vNil)))))) (vRet (vC (.bl false))) vNext)
  t__law_right_s6)
def t__law_right_s8  : VTS :=
  (vSeq (vSet 2 (vOp oAdd (vB oTuple (vCons t__law_right_c2 vNil)) (vVar 7)))
  t__law_right_s7)
def t__law_right_s9  : VTS :=
  (vSeq (vSet 1 (vOp oAdd (vVar 6) (vB oTuple (vCons t__law_right_c1 vNil))))
  t__law_right_s8)
def t__law_right_s10  : VTS :=
  (vSeq (vPar [8, 9] (vCons (vOp oIx (vCall sp__law_codes (vCons (vVar 6) vNil)) (vC (.int 0))) (vCons (vOp oIx (vCall sp__law_codes (vCons (vVar 7) vNil)) (vC (.int 0))) vNil)))
  t__law_right_s9)
def t__law_right  : VTS :=
  (vSeq (vAsg (vTup (vCons (vCall sp__law_row (vCons (vVar 0) (vCons (vC (.int 15)) vNil))) (vCons (vCall sp__law_row (vCons (vVar 0) (vCons (vC (.int 15)) vNil))) vNil))) (gvTup (gvCons 6 (gvCons 7 gvNil))))
  t__law_right_s10)

def t_law_l1  : VTS :=
  (vIfS (vNot (vTest (vCall sp__law_right (vCons (vCall sp__law_pot (vCons (vVar 0) (vCons (vVar 1) vNil))) vNil)))) (vRet (vC (.bl false))) vNext)
def t_law  : VTS :=
  (vSeq (vFor (viSeq (vCall sp__law_cells (vCons (vVar 0) (vCons (vC (.int 3)) vNil)))) (gvName 1) t_law_l1)
  (vRet (vC (.bl true))))
end K67

set_option maxHeartbeats 400000
namespace K67
open PySem PySem.Spec PyProof.Rows L2 VS
theorem p_is_integer (ds : List D) (Q : D → Prop) (h : sp_is_integer ds Q) : t_is_integer { nx := fun _ => Q .non, rt := Q } (startE ["value"] ds) := by
  unfold sp_is_integer at h
  split at h
  case h_2 => exact h.elim
  rename_i d
  unfold t_is_integer
  cases d <;> simp_all [startE, isaD, retB, pvOf, isIntD]
theorem p_is_between (ds : List D) (Q : D → Prop) (h : sp_is_between ds Q) : t_is_between { nx := fun _ => Q .non, rt := Q } (startE ["value", "low", "high"] ds) := by
  unfold sp_is_between at h
  split at h
  case h_2 => exact h.elim
  rename_i x a b
  unfold t_is_between
  simp [sp_is_integer, startE, isaD, retB, pvOf, isIntD]
  by_cases h1 : a ≤ x
  · simp [h1] at h ⊢
    exact h
  · simp [h1] at h
    simp [h1, retB, h]
theorem p__law_take (ds : List D) (Q : D → Prop) (h : sp__law_take ds Q) : t__law_take { nx := fun _ => Q .non, rt := Q } (startE ["pot", "upto", "prime", "blend", "digit"] ds) := by
  unfold sp__law_take at h
  split at h
  case h_2 => exact h.elim
  rename_i n
  obtain ⟨h0, h1, q⟩ := h
  unfold t__law_take
  simp only [vSeq_eq, vIfS_eq, vTest_eq, vOp_eq, vC_eq, startE, List.map_cons, List.map_nil, List.length_cons, List.length_nil]
  refine ⟨⟨_, rfl⟩, .inl rfl, fun x hx => ?_⟩
  simp only [oGt_int]
  by_cases hpos : 0 < x
  · rw [if_pos (by simpa using hpos)]
    unfold t__law_take_b1
    simp [stE, pvOf, vPotIx, vDiv]
    intro y hy
    refine ⟨h0, ?_, q _ (Int.emod_nonneg _ (by omega)) (Int.emod_lt_of_pos _ h0)⟩
    exact ⟨_, _, ⟨rfl, rfl⟩, h0, Nat.lt_of_lt_of_le ((Nat.log2_lt (k := 62) (by omega)).mpr (by omega)) (by decide)⟩
  · rw [if_neg (by simpa using hpos)]
    simp [stE, pvOf, vPotIx, vInc, prLst, prOf]
    refine ⟨by decide, fun y hy => ?_⟩
    obtain ⟨pr, e, p1, p2⟩ : ∃ pr : Int, atI [D.int 2147483647, D.int 2147483629, D.int 2147483587, D.int 2147483579, D.int 2147483563] (y % 5) = some (D.int pr) ∧ 0 < pr ∧ pr ≤ 2 ^ 63 := by
      have : y % 5 = 0 ∨ y % 5 = 1 ∨ y % 5 = 2 ∨ y % 5 = 3 ∨ y % 5 = 4 := by omega
      rcases this with e | e | e | e | e <;> rw [e] <;> exact ⟨_, rfl, by decide, by decide⟩
    simp only [e]
    intro s hs a ha
    refine ⟨.inl (by decide), fun b hb => ?_⟩
    obtain ⟨_, m2, pw⟩ := take_pow (k := 52203) (c := 3067) (by decide) hs ha hb (by decide)
    refine ⟨m2, pw, ?_⟩
    simp [p1]
    intro z hz
    refine ⟨.inl (by decide), .inl (mod_small p1 p2), by decide, h0, q _ (Int.emod_nonneg _ (by omega)) (Int.emod_lt_of_pos _ h0)⟩
theorem p__law_cells (ds : List D) (Q : D → Prop) (h : sp__law_cells ds Q) : t__law_cells { nx := fun _ => Q .non, rt := Q } (startE ["script", "most"] ds) := by
  unfold sp__law_cells at h
  split at h
  case h_2 => exact h.elim
  rename_i ns m
  obtain ⟨rfl, hl, q⟩ := h
  unfold t__law_cells
  simp [startE, stE, pvOf]
  have q' := q (max 1 (min 3 ns.length)) (by omega) (by omega)
  have e : (if 1 < (if (ns.length : Int) < 3 then (ns.length : Int) else 3) then (if (ns.length : Int) < 3 then (ns.length : Int) else 3) else 1) = ((max 1 (min 3 ns.length) : Nat) : Int) := by
    split <;> split <;> omega
  rw [e]
  exact ⟨⟨by omega, by omega, by omega, by omega, by omega⟩, q'⟩
theorem p__law_pot_rest (xs : List Int) (p cell : Int) (Q : D → Prop) (q : ∀ x y : Int, potB 0 x → potB 1 y → Q (.lst [.int x, .int y, .int 0])) (hp : p.natAbs < 2 ^ 64) : t__law_pot_s3 { nx := fun _ => Q .non, rt := Q } [some (.lck, .rol (xs.map D.int)), some (.lck, .int p), some (.own, .int cell), none, none] := by
  unfold t__law_pot_s3 t__law_pot_s2 t__law_pot_s1
  simp [stE, pvOf]
  have p1 : PowOk 10 60 := by unfold PowOk; decide +kernel
  have p2 : PowOk 1000000000000000000000000000000000000000000000000000000000000 5 := by unfold PowOk; decide +kernel
  have p3 : PowOk 10 18 := by unfold PowOk; decide +kernel
  refine ⟨p1, p2, p3, ?_⟩
  have hc : ∀ (b : Bool), (if b = true then (1 : Int) else 0) = 0 ∨ (if b = true then (1 : Int) else 0) = 1 := by intro b; cases b <;> simp
  generalize hd : (if cell < 0 then -cell else cell) = ab
  have ha : 0 ≤ ab := by rw [← hd]; split <;> omega
  generalize hm : ab % _ = own
  have ho : 0 ≤ own ∧ own < 2 ^ 1000 := by
    rw [← hm]
    exact ⟨Int.emod_nonneg _ (by decide), Int.lt_of_lt_of_le (Int.emod_lt_of_pos _ (by decide)) (by decide)⟩
  have hfl : (if 1000000000000000000 ≤ ab then (1 : Int) else 0) = 0 ∨ (if 1000000000000000000 ≤ ab then (1 : Int) else 0) = 1 := by split <;> simp
  generalize (if 1000000000000000000 ≤ ab then (1 : Int) else 0) = fl at hfl
  have hfl2 : fl.natAbs < 2 ^ 64 := by rcases hfl with e | e <;> rw [e] <;> decide
  refine ⟨.inr (.inl hfl2), .inr (.inl (by decide)), .inl (by decide), .inr (.inl hp), by decide, ?_, q _ _ (.inl ⟨rfl, ?_⟩) (.inr (.inl ⟨rfl, Int.emod_nonneg _ (by decide), Int.lt_of_lt_of_le (Int.emod_lt_of_pos _ (by decide)) (by decide)⟩))⟩
  · rw [prLst_imm (by simp)]; rfl
  · rcases hfl with e | e <;> rw [e] <;> simp <;> omega
theorem p__law_pot0 (ds : List D) (Q : D → Prop) (h : sp__law_pot0 ds Q) : t__law_pot { nx := fun _ => Q .non, rt := Q } (startE ["script", "place", "cell", "own", "small"] ds) := by
  unfold sp__law_pot0 at h
  split at h
  case h_2 => exact h.elim
  rename_i ns p
  obtain ⟨xs, rfl, h0, h1, hb, q⟩ := h
  unfold t__law_pot
  simp [startE, stE, pvOf]
  by_cases hlt : p < xs.length
  · obtain ⟨c, hc⟩ : ∃ c, atI (xs.map D.int) p = some (D.int c) := by
      rw [atI_map]
      have e : p = ((p.toNat : Nat) : Int) := by omega
      rw [e, atI_ofNat, List.getElem?_eq_getElem (by omega)]
      exact ⟨_, rfl⟩
    rw [if_pos hlt, hc]
    simp
    exact p__law_pot_rest xs p c Q q (by omega)
  · rw [if_neg hlt]
    refine oSum_ints (xs := cutL xs none (some 1)) (by rw [cutL_map]; rfl) ?_
    simp
    exact ⟨.inl (by decide), p__law_pot_rest xs p _ Q q (by omega)⟩

end K67

namespace K67
open PySem PySem.Spec PyProof.Rows L2 VS
theorem p_check_upto (ds : List D) (Q : D → Prop) (h : sp_check_upto ds Q) : t_check_upto { nx := fun _ => Q .non, rt := Q } (startE ["value", "most"] ds) := by
  unfold sp_check_upto at h
  split at h
  case h_2 => exact h.elim
  obtain ⟨h0, h1, q⟩ := h
  unfold t_check_upto
  simp [sp_is_between, startE, pvOf, h0, h1]
  exact q
theorem p_is_row (ds : List D) (Q : D → Prop) (h : sp_is_row ds Q) : t_is_row { nx := fun _ => Q .non, rt := Q } (startE ["value", "number"] ds) := by
  unfold sp_is_row at h
  split at h
  case h_2 => exact h.elim
  obtain ⟨xs, rfl, ⟨h1, h2⟩, q⟩ := h
  unfold t_is_row t_is_row_c1
  simp [startE, stE, pvOf, isaD, ofN, show ¬ ((30 : Int) < (xs.length : Int)) by omega]
  refine vLc_map xs (fun n : Nat => D.int n) (srcs := [(ofN xs, .all 0)]) (fun n : Nat => .bl (decide (1 ≤ n ∧ n ≤ 99))) ?_ (by omega) ?_ ?_
  · intro Q h
    simp [pvOf, ofN]
    exact h
  · intro n hn A B h
    simp [wipeE, stE, pvOf, sp_is_between]
    have e : (decide (1 ≤ (n : Int)) && decide ((n : Int) ≤ 99)) = decide (1 ≤ n ∧ n ≤ 99) := by
      rw [← Bool.decide_and]; apply decide_eq_decide.mpr; omega
    rw [e]
    exact h
  · refine oAll_of ?_
    have a1 : xs.all (fun n => decide (1 ≤ n ∧ n ≤ 99)) = true := by simpa using h2
    rw [a1]
    exact ⟨rfl, q⟩
theorem p_check_row (ds : List D) (Q : D → Prop) (h : sp_check_row ds Q) : t_check_row { nx := fun _ => Q .non, rt := Q } (startE ["value"] ds) := by
  unfold sp_check_row at h
  split at h
  case h_2 => exact h.elim
  obtain ⟨xs, rfl, hT, q⟩ := h
  unfold t_check_row
  simp [sp_is_row, startE, pvOf]
  exact ⟨xs, rfl, hT, q⟩
theorem prodN_append (xs ys : List Nat) : prodN (xs ++ ys) = ys.foldl (· * ·) (prodN xs) := by unfold prodN; rw [List.foldl_append]
theorem foldl_mul (ys : List Nat) : ∀ a : Nat, ys.foldl (· * ·) a = a * prodN ys := by
  induction ys with
  | nil => intro a; simp [prodN]
  | cons y ys ih =>
    intro a
    have h1 := ih (a * y)
    have h2 := ih (1 * y)
    unfold prodN at h1 h2 ⊢
    simp only [List.foldl_cons]
    rw [h1, h2, Nat.one_mul, Nat.mul_assoc]
theorem prodN_cons (x : Nat) (xs : List Nat) : prodN (x :: xs) = x * prodN xs := by
  have := foldl_mul xs (1 * x)
  unfold prodN at this ⊢
  simp only [List.foldl_cons]
  rw [this, Nat.one_mul]
theorem prodN_take {xs : List Nat} {i : Nat} {x : Nat} (h : xs[i]? = some x) : prodN (xs.take (i + 1)) = prodN (xs.take i) * x := by
  unfold prodN
  rw [List.take_add_one, h, List.foldl_append]
  rfl
theorem prodN_pos : ∀ {ts : List Nat}, (∀ t ∈ ts, 1 ≤ t ∧ t ≤ 30) → 1 ≤ prodN ts
  | [], _ => by simp [prodN]
  | t :: ts, h => by
    rw [prodN_cons]
    exact Nat.mul_pos (h t (by simp)).1 (prodN_pos fun x hx => h x (by simp [hx]))
theorem prodN_le : ∀ {ts : List Nat}, (∀ t ∈ ts, 1 ≤ t ∧ t ≤ 30) → prodN ts ≤ 30 ^ ts.length
  | [], _ => by simp [prodN]
  | t :: ts, h => by
    rw [prodN_cons, List.length_cons, Nat.pow_succ, Nat.mul_comm]
    exact Nat.mul_le_mul (prodN_le fun x hx => h x (by simp [hx])) (h t (by simp)).2
theorem p_product (ds : List D) (Q : D → Prop) (h : sp_product ds Q) : t_product { nx := fun _ => Q .non, rt := Q } (startE ["numbers", "found", "number"] ds) := by
  unfold sp_product at h
  split at h
  case h_2 => exact h.elim
  obtain ⟨ts, rfl, ⟨hl, hx⟩, q⟩ := h
  unfold t_product
  simp [startE, stE, flg, retB, pvOf]
  refine vFor_img ts (fun n : Nat => D.int n) (srcs := [(ofN ts, .all 0)]) (fun i e => ∃ l, e = [some (.lck, ofN ts), some (.own, .int (prodN (ts.take i) : Nat)), l]) ?_ (by omega) ?_ ?_ ?_ ?_
  · intro Q h
    simp [pvOf, ofN]
    exact h
  · simp [srcB]
  · simp [prodN]
  · rintro i x e1 hx1 ⟨l, rfl⟩
    have hm := hx x (List.mem_of_getElem? hx1)
    simp [t_product_l1, stE, flg, pvOf, prodN_take hx1]
    exact .inr (.inl (by omega))
  · rintro e1 ⟨l, rfl⟩
    simp [retB, pvOf, q]
theorem p_are_codes (ds : List D) (Q : D → Prop) (h : sp_are_codes ds Q) : t_are_codes { nx := fun _ => Q .non, rt := Q } (startE ["row", "value", "code"] ds) := by
  unfold sp_are_codes at h
  split at h
  case h_2 => exact h.elim
  obtain ⟨xs, cs, rfl, rfl, h1, h2, q⟩ := h
  unfold t_are_codes t_are_codes_c1
  simp [startE, stE, pvOf, isaD, ofN, h1]
  refine vLc_map cs (fun n : Nat => D.int n) (srcs := [(ofN cs, .all 1)]) (fun n : Nat => .bl true) ?_ (by omega) ?_ ?_
  · intro Q h
    simp [pvOf, ofN]
    exact h
  · intro n hn A B h
    simp [wipeE, stE, pvOf, sp_is_integer, isaD, isIntD]
    exact h
  · refine oAll_of (xs := cs) (f := fun _ => true) ?_
    rw [show cs.all (fun _ => true) = true by simp]
    exact ⟨rfl, q⟩
theorem p_check_codes (ds : List D) (Q : D → Prop) (h : sp_check_codes ds Q) : t_check_codes { nx := fun _ => Q .non, rt := Q } (startE ["row", "value"] ds) := by
  unfold sp_check_codes at h
  split at h
  case h_2 => exact h.elim
  obtain ⟨xs, cs, rfl, rfl, h1, h2, q⟩ := h
  unfold t_check_codes
  simp [sp_are_codes, startE, pvOf]
  exact ⟨xs, rfl, cs, rfl, h1, h2, q⟩
/-! ### the order by codes -/
theorem ord_sortP (cs : List Nat) : sortP (fun i => ((cs.getD i.toNat 0 : Nat) : Int)) (fun i => i) (intsTo cs.length) = (ordL cs).map fun n : Nat => (n : Int) := by
  unfold sortP intsTo ordL
  refine (List.map_mergeSort (r := lexB cs) (f := fun n : Nat => (n : Int)) fun a ha b hb => ?_).symm
  unfold lexB
  apply decide_eq_decide.mpr
  simp
  omega
theorem key_codes {N : VS.Env} {cs : List Nat} {i j n : Nat} {f g : Fl} (hi : N[i]? = some (some (f, ofN cs))) (hj : N[j]? = some (some (g, .int (n : Int)))) (hn : n < cs.length) (Q : D → Prov → Prop) (q : Q (.tup [.int ((cs.getD n 0 : Nat) : Int), .int (n : Int)]) .fresh) :
    vTup (vCons (vOp oIxK (vVar i) (vVar j)) (vCons (vVar j) vNil)) N Q := by
  simp only [vTup_eq, vCons_eq, vNil_eq, vOp_eq, vVar_eq, hi, hj]
  refine ⟨_, atI_nats hn, by simp [SZ], ?_⟩
  have : prOf [((D.int ((cs.getD n 0 : Nat) : Int)), Prov.fresh), (D.int (n : Int), pvOf g j)] = .fresh := prOf_imm rfl
  rw [this]
  exact q
theorem p_ordered (ds : List D) (Q : D → Prop) (h : sp_ordered ds Q) : t_ordered { nx := fun _ => Q .non, rt := Q } (startE ["codes"] ds) := by
  unfold sp_ordered at h
  split at h
  case h_2 => exact h.elim
  obtain ⟨cs, rfl, hl, q⟩ := h
  unfold t_ordered
  simp only [vRet_eq, vB_eq, vCons_eq, vNil_eq, startE]
  unfold vSortRng
  simp [pvOf, ofN]
  refine ⟨cs.length, rfl, by omega, .inr ⟨fun i => ((cs.getD i.toNat 0 : Nat) : Int), fun i => i, fun n hn => ?_, ?_⟩⟩
  · obtain ⟨k, hk, rfl⟩ : ∃ k : Nat, k < cs.length ∧ n = (k : Int) := by
      simp [intsTo] at hn
      obtain ⟨a, h1, h2⟩ := hn
      exact ⟨a, h1, h2.symm⟩
    simp only [wipeE]
    exact key_codes (i := 0) (j := 1) (f := .lck) (g := .lck) rfl rfl hk _ rfl
  · rw [ord_sortP]
    simp [Function.comp_def]
    exact q
theorem p_is_in_order (ds : List D) (Q : D → Prop) (h : sp_is_in_order ds Q) : t_is_in_order { nx := fun _ => Q .non, rt := Q } (startE ["row", "cars", "one", "other"] ds) := by
  unfold sp_is_in_order at h
  split at h
  case h_2 => exact h.elim
  obtain ⟨xs, cs, rfl, rfl, hl, hc, q⟩ := h
  unfold t_is_in_order t_is_in_order_c1
  simp only [vRet_eq, vB_eq, vCons_eq, vNil_eq, startE]
  refine vLc_map (cs.zip (cs.drop 1)) (fun p : Nat × Nat => D.tup [.int p.1, .int p.2]) (srcs := [(ofN cs, .all 1), (ofN (cs.drop 1), .sub 1)]) (fun p => D.bl (decide (xs.getD p.1 0 ≤ xs.getD p.2 0))) ?_ (by simp; omega) ?_ ?_
  · intro Q h
    exact viZip_tail (f := .lck) (by decide) (by simp) _ h
  · intro p hp A B h
    obtain ⟨a, b⟩ := p
    have ha : a < xs.length := hc a (List.of_mem_zip hp).1
    have hb : b < xs.length := hc b (List.mem_of_mem_drop (List.of_mem_zip hp).2)
    simp [wipeE, stE, pvOf, itPr, ofN, -List.getD_eq_getElem?_getD, atI_nats ha, atI_nats hb] at h ⊢
    exact h
  · refine oAll_of ?_
    unfold inOrd at q
    exact ⟨rfl, q⟩
end K67

namespace K67
open PySem PySem.Spec PyProof.Rows L2 VS
@[simp] theorem imm_barD (p : Nat × Nat) : (barD p).imm = true := by simp [barD]
@[simp] theorem immAll_bars (bs : List (Nat × Nat)) : immAll (bs.map barD) = true := immAll_map fun _ _ => by simp
@[simp] theorem imm_barsD (bs : List (Nat × Nat)) : (barsD bs).imm = true := by simp [barsD]
theorem p_are_bars (ds : List D) (Q : D → Prop) (h : sp_are_bars ds Q) : t_are_bars { nx := fun _ => Q .non, rt := Q } (startE ["row", "value", "links", "one", "other", "pair", "later"] ds) := by
  unfold sp_are_bars at h
  split at h
  case h_2 => exact h.elim
  obtain ⟨xs, bs, rfl, rfl, ⟨hl, h1, h2⟩, q⟩ := h
  unfold t_are_bars
  simp [startE, stE, pvOf, isaD, barsD]
  unfold t_are_bars_c1
  refine vLc_map bs barD (srcs := [(barsD bs, .all 1)]) (fun _ => .bl true) ?_ (by omega) ?_ ?_
  · intro Q h
    simp [pvOf]
    exact h
  · intro p hp A B h
    simp [wipeE, stE, pvOf, isaD, barD]
    exact h
  refine oAll_of (xs := bs) (f := fun _ => true) ?_
  rw [show bs.all (fun _ => true) = true by simp]
  simp
  refine vFor_img bs barD (srcs := [(barsD bs, .all 1)]) (fun i e => ∃ a b, e = [some (.lck, ofN xs), some (.lck, barsD bs), none, a, b, none, none]) ?_ (by omega) ?_ ⟨none, none, rfl⟩ ?_ ?_
  · intro Q h
    simp [pvOf, barsD]
    exact h
  · simp [srcB]
  · rintro i ⟨one, other⟩ e1 hx ⟨a, b, rfl⟩
    obtain ⟨k1, k2, k3⟩ := h1 _ (List.mem_of_getElem? hx)
    have k4 : other < xs.length := by simp at k1 k2; omega
    have k2 : one < xs.length := k2
    have k1 : other < one := k1
    have k3 : xs.getD one 0 < xs.getD other 0 := k3
    unfold t_are_bars_l1
    simp [barD, stE, flg, pvOf, itPr, sp_is_between, ofN, -List.getD_eq_getElem?_getD, atI_nats k2, atI_nats k4]
    have c1 : (0 : Int) ≤ one ∧ (one : Int) ≤ (xs.length : Int) - 1 := by omega
    have c2 : (0 : Int) ≤ other ∧ (other : Int) ≤ (one : Int) - 1 := by omega
    simp [c1, c2, show ¬ ((xs.getD other 0 : Int) ≤ xs.getD one 0) by omega, -List.getD_eq_getElem?_getD]
    omega
  · rintro e1 ⟨a, b, rfl⟩
    unfold t_are_bars_z1 vZipAll
    have e2 : cutL (bs.map barD) (some 1) none = (bs.drop 1).map barD := by
      rw [cutL_map]
      exact congrArg _ (cutL_from bs 1)
    refine ⟨by simp, ?_⟩
    simp only [vCons_eq, vNil_eq, vVar_eq, vSl_eq, vPart_eq, vNo_eq, vC_eq, List.getElem?_cons_succ, List.getElem?_cons_zero, pvOf, barsD, slD_tup, e2]
    refine ⟨_, _, _, _, bs.map barD, (bs.drop 1).map barD, rfl, rfl, rfl, ?_⟩
    rw [zipD_map]
    refine vLc_map (bs.zip (bs.drop 1)) (fun p : (Nat × Nat) × (Nat × Nat) => D.tup [barD p.1, barD p.2]) (srcs := []) (fun _ => .bl true) (fun Q h => h) (by simp; omega) ?_ ?_
    · rintro ⟨p, l⟩ hp A B h
      have k := h2 _ hp
      have hp1 := h1 p (List.of_mem_zip hp).1
      have hp2 := h1 l (List.mem_of_mem_drop (List.of_mem_zip hp).2)
      have a1 : p.2 < xs.length := by omega
      have a2 : l.1 < xs.length := by omega
      simp [wipeE, stE, flg, pvOf, itPr, barD, ofN, atI_nats a1, atI_nats a2, -List.getD_eq_getElem?_getD] at h ⊢
      by_cases e : (l.1 : Int) = (p.2 : Int)
      · rw [if_pos e]; exact h
      · rw [if_neg e]
        have k' : xs.getD p.2 0 < xs.getD l.1 0 := by
          rcases k with k | k
          · exact absurd (by rw [show l.1 = p.2 from k]) e
          · exact k
        simp [k', -List.getD_eq_getElem?_getD]
        exact h
    · exact ⟨(bs.zip (bs.drop 1)).map fun _ => true, by simp [Function.comp_def], by rw [List.all_map, show (bs.zip (bs.drop 1)).all (id ∘ fun _ => true) = true by simp]; exact q⟩
end K67

namespace VS
open PySem PySem.Spec PyProof.Rows L2
theorem viSortSet {i : Nat} {f : Fl} {xs : List Nat} {env : VS.Env} (n : Nat) (h : env[i]? = some (some (f, ofN xs))) (hl : xs.length < 64) (hb : ∀ x ∈ xs, x < n) (Q : List D → List DP → Prop)
    (q : Q ((valsB n xs).map fun n : Nat => D.int n) [(.lst ((valsB n xs).map fun n : Nat => D.int n), .fresh)]) : viSeq (vSortSet (vVar i)) env Q := by
  unfold viSeq vSortSet
  simp only [vVar_eq, h]
  refine ⟨xs.map fun n : Nat => (n : Int), by simp [ofN, Function.comp_def], by simpa using hl, fun ms h1 h2 => ?_⟩
  obtain rfl := valsB_uniq hb h1 h2
  refine ⟨_, rfl, ?_⟩
  rw [List.map_map]
  exact q
end VS

namespace K67
open PySem PySem.Spec PyProof.Rows L2 VS
def lastD : Nat → D
  | 0 => .non
  | l + 1 => .int (l : Nat)
def setC (l code : Nat) (cs : List Nat) (cd : List Nat) : List Nat := cs.foldl (fun cd c => cd.set c (code + if c + 1 < l then 1 else 0)) cd
theorem setC_len (l code : Nat) : ∀ (cs cd : List Nat), (setC l code cs cd).length = cd.length
  | [], _ => rfl
  | c :: cs, cd => by
    show (setC l code cs (cd.set c _)).length = _
    rw [setC_len l code cs, List.length_set]
theorem setC_take {l code : Nat} {cs cd : List Nat} {i c : Nat} (h : cs[i]? = some c) : setC l code (cs.take (i + 1)) cd = (setC l code (cs.take i) cd).set c (code + if c + 1 < l then 1 else 0) := by
  unfold setC
  rw [List.take_add_one, h, List.foldl_append]
  rfl
theorem mem_cars {xs : List Nat} {v c : Nat} : c ∈ cars xs v ↔ c < xs.length ∧ xs.getD c 0 = v := by
  simp [cars]
theorem set_nats (cd : List Nat) (c n : Nat) : (cd.map fun n : Nat => D.int (n : Int)).set c (.int (n : Int)) = (cd.set c n).map fun n : Nat => D.int (n : Int) := by
  rw [List.map_set]
def genv (xs : List Nat) (s : GS) (a b c d f : Option (Fl × D)) : VS.Env := [some (.lck, ofN xs), a, some (.own, lstN s.codes), some (.own, .lst (s.bars.map barD)), some (.own, .int (s.code : Nat)), some (.own, lastD s.l), b, c, d, f]
@[simp] theorem imm_lastD (l : Nat) : (lastD l).imm = true := by cases l <;> rfl
theorem g_body {xs : List Nat} (hl : xs.length ≤ 30) (s : GS) (v : Nat) (b c d f : Option (Fl × D)) (k : VS.VK) (hcl : s.codes.length = xs.length) (hbl : s.bars.length ≤ 100) (hne : s.l ≠ 0 → xs.getD (s.l - 1) 0 ≠ v) (hcs : cars xs v ≠ [])
    (hk : ∀ b c d f, k.nx (genv xs (gstep xs s v) (some (.own, .int (v : Nat))) b c d f)) : t_greatest_codes_l2 k (genv xs s (some (.own, .int (v : Nat))) b c d f) := by
  have hcar : ∀ c ∈ cars xs v, c < xs.length := fun c h => (mem_cars.mp h).1
  have hlen : (cars xs v).length ≤ 30 := Nat.le_trans (List.length_filter_le _ _) (by simpa using hl)
  unfold t_greatest_codes_l2 genv
  simp only [vSeq_eq, vSet_eq]
  refine ⟨by simp, ?_⟩
  unfold t_greatest_codes_c1
  refine vLc_filter (List.range xs.length) (fun n : Nat => D.int n) (srcs := []) (fun i => xs.getD i 0 == v) (fun n : Nat => D.int n) ?_ (by simpa using by omega) ?_ ?_
  · intro Q h
    simp [pvOf, ofN, rngD_map] at h ⊢
    exact ⟨by omega, h⟩
  · intro i hi A B h1 h2
    have hi : i < xs.length := by simpa using hi
    simp [wipeE, stE, pvOf, ofN, atI_nats hi, -List.getD_eq_getElem?_getD]
    split
    · exact h1 (beq_iff_eq.mpr (by omega))
    · exact h2 (by rw [beq_eq_false_iff_ne]; omega)
  have ecars : (List.range xs.length).filter (fun i => xs.getD i 0 == v) = cars xs v := rfl
  rw [ecars]
  simp only [stE, List.set_cons_succ, List.set_cons_zero, flg]
  refine ⟨by simp, ?_⟩
  unfold t_greatest_codes_c2
  refine vLc_filter (cars xs v) (fun n : Nat => D.int n) (srcs := [(lstN (cars xs v), .all 6)]) (fun c => !decide (c + 1 < s.l)) (fun n : Nat => D.int n) ?_ (by omega) ?_ ?_
  · intro Q h
    simp [pvOf]
    exact h
  · intro i hi A B h1 h2
    obtain ⟨g1, g2⟩ := mem_cars.mp hi
    cases hsl : s.l with
    | zero =>
      rw [hsl] at h1 h2
      simp [wipeE, stE, pvOf, flg, lastD, vOp, oIs, isD]
      exact h1 (by simp)
    | succ l =>
      rw [hsl] at h1 h2 hne
      have hne := hne (by omega)
      have nl : i ≠ l := fun z => hne (by rw [← g2, z]; rfl)
      simp [wipeE, stE, pvOf, flg, lastD, oIs, isD]
      split
      · exact h1 (by simpa using by omega)
      · exact h2 (by simpa using by omega)
  simp only [stE, List.set_cons_succ, List.set_cons_zero, flg]
  unfold t_greatest_codes_s3
  simp only [vSeq_eq, vSet_eq]
  refine ⟨by simp, ?_⟩
  unfold t_greatest_codes_c3
  have ebh : ∀ c ∈ cars xs v, (!decide (c ∈ (cars xs v).filter fun c => !decide (c + 1 < s.l))) = decide (c + 1 < s.l) := by
    intro c hc
    by_cases e : c + 1 < s.l <;> simp [hc, e]
  generalize hbh : (cars xs v).filter (fun c => !decide (c + 1 < s.l)) = bh at ebh ⊢
  refine vLc_filter (cars xs v) (fun n : Nat => D.int n) (srcs := [(lstN (cars xs v), .all 6)]) (fun c => decide (c + 1 < s.l)) (fun n : Nat => D.int n) ?_ (by omega) ?_ ?_
  · intro Q h
    simp [pvOf]
    exact h
  · intro i hi A B h1 h2
    have e := ebh i hi
    simp only [wipeE, gvName_eq, stE, pvOf, flg, vTest_eq, vOp_eq, vVar_eq, List.set_cons_succ, List.set_cons_zero, List.getElem?_cons_succ, List.getElem?_cons_zero, imm_int, if_true, oNotIn_nats, e]
    refine ⟨by simp, ?_⟩
    by_cases e2 : i + 1 < s.l
    · simp [e2, okIn]
      exact h1 (by simp [e2])
    · simp [e2]
      exact h2 (by simp [e2])
  have eah : (cars xs v).filter (fun c => decide (c + 1 < s.l)) = ahead s.l (cars xs v) := rfl
  rw [eah]
  simp only [stE, List.set_cons_succ, List.set_cons_zero, flg]
  simp only [vFrz_eq, List.getElem?_cons_succ, List.getElem?_cons_zero]
  refine ⟨by simp, ?_⟩
  simp only [putE, killE, List.map_cons, List.map_nil, List.set_cons_succ, List.set_cons_zero]
  unfold t_greatest_codes_f1
  simp only [vSeq_eq]
  refine vFor_img (cars xs v) (fun n : Nat => D.int n) (srcs := [(.rol ((cars xs v).map fun n : Nat => D.int n), .all 6)]) (fun i e => ∃ f, e = [some (.lck, ofN xs), some (.own, .int (v : Nat)), some (.own, lstN (setC s.l s.code ((cars xs v).take i) s.codes)), some (.own, .lst (s.bars.map barD)), some (.own, .int (s.code : Nat)), some (.own, lastD s.l), some (.own, .rol ((cars xs v).map fun n : Nat => D.int n)), some (.own, lstN bh), some (.own, lstN (ahead s.l (cars xs v))), f]) ?_ (by omega) ?_ ⟨_, rfl⟩ ?_ ?_
  · intro Q h
    simp [pvOf]
    exact h
  · simp [srcB]
  · rintro i c e1 hc ⟨f, rfl⟩
    have hm : c ∈ cars xs v := List.mem_of_getElem? hc
    have hlt := hcar c hm
    have e := ebh c hm
    have hsl : (setC s.l s.code ((cars xs v).take i) s.codes).length = xs.length := by rw [setC_len, hcl]
    rw [setC_take hc]
    unfold t_greatest_codes_l1
    generalize setC s.l s.code ((cars xs v).take i) s.codes = cd at hsl ⊢
    simp only [gvName_eq, stE, flg, imm_int, if_true, List.set_cons_succ, List.set_cons_zero, vSetIx_eq, vIf_eq, vTest_eq, vOp_eq, vVar_eq, List.getElem?_cons_succ, List.getElem?_cons_zero, lstN, oIn_nats, pVar_eq, vC_eq]
    refine ⟨by simp, ?_⟩
    have em : decide (c ∈ bh) = !decide (c + 1 < s.l) := by rw [← e, Bool.not_not]
    rw [em]
    have fin : ∀ n : Nat, (n = s.code + if c + 1 < s.l then 1 else 0) → (cd.map fun n : Nat => D.int (n : Int)).set c (.int (n : Int)) = ((cd.set c (s.code + if c + 1 < s.l then 1 else 0)).map fun n : Nat => D.int (n : Int)) := fun n hn => by rw [set_nats, hn]
    by_cases h : c + 1 < s.l
    · have fin' := fin (s.code + 1) (by rw [if_pos h])
      simp [h, putE, killE, ixN_ofNat, hsl, hlt, pvOf, absorb_imm] at fin' ⊢
    · have fin' := fin s.code (by rw [if_neg h]; rfl)
      simp only [h, decide_false, Bool.not_false, if_true, ixN_ofNat, List.length_map, hsl, hlt, pvOf, List.getElem?_cons_succ, List.getElem?_cons_zero, kSet_int, Dat]
      rw [absorb_imm rfl]
      simp only [putE, killE, Dput, List.map_cons, List.map_nil, List.set_cons_succ, List.set_cons_zero, fin']
      exact ⟨_, by simp only [h]; rfl⟩
  · rintro e1 ⟨f, rfl⟩
    rw [List.take_length]
    unfold t_greatest_codes_s2
    simp only [vIfS_eq, vTest_eq, vOp_eq, vVar_eq, List.getElem?_cons_succ, List.getElem?_cons_zero, vLst_eq, vNil_eq, lstN, pvOf, vSet_eq, vNeg_eq, vC_eq]
    refine ⟨by simp, oNeA_nil ?_⟩
    by_cases hah : ahead s.l (cars xs v) = []
    · have e0 : bh = cars xs v := by
        rw [← hbh, List.filter_eq_self]
        intro c hc
        have := List.filter_eq_nil_iff.mp hah c hc
        simpa using this
      have e1 : gstep xs s v = ⟨s.code, lastN (cars xs v) + 1, setC s.l s.code (cars xs v) s.codes, s.bars⟩ := by
        unfold gstep
        rw [if_pos hah]
        rfl
      rw [e0]
      simp [hah, atI_lastN hcs, stE]
      have := hk
      rw [e1] at this
      exact this _ _ _ _
    · have e1 : gstep xs s v = ⟨s.code + 1, lastN (ahead s.l (cars xs v)) + 1, setC s.l s.code (cars xs v) s.codes, s.bars ++ [(s.l - 1, lastN (ahead s.l (cars xs v)))]⟩ := by
        unfold gstep
        rw [if_neg hah]
        rfl
      obtain ⟨l, hl'⟩ : ∃ l, s.l = l + 1 := by
        cases e : s.l with
        | zero =>
          exfalso
          apply hah
          rw [e]
          simp [ahead]
        | succ l => exact ⟨l, rfl⟩
      rw [hl'] at hah ⊢
      unfold t_greatest_codes_b1 t_greatest_codes_s1
      simp [hah, atI_lastN hah, stE, lastD, pvOf, putE, killE, flg, prLst, prOf, itPr]
      have h2 : (2 : Nat) ≤ SZ := by simp [SZ]
      refine ⟨h2, by omega, ?_⟩
      unfold vAsg vTupF
      simp [atI_lastN hah, stE, pvOf, flg, prOf, itPr]
      have := hk
      rw [e1, hl'] at this
      refine ⟨h2, ?_⟩
      have z := this (some (.own, .rol ((cars xs v).map fun n : Nat => D.int n))) (some (.own, lstN bh)) (some (.own, lstN (ahead (l + 1) (cars xs v)))) (match f with | some (Fl.bor, snd) => none | o => o)
      simp [genv, lastD, lstN, barD, ofN] at z
      exact z
end K67

namespace K67
open PySem PySem.Spec PyProof.Rows L2 VS
def gAt (xs : List Nat) (i : Nat) : GS := ((vals xs).take i).foldl (gstep xs) (g0 xs)
theorem gAt_succ {xs : List Nat} {i v : Nat} (h : (vals xs)[i]? = some v) : gAt xs (i + 1) = gstep xs (gAt xs i) v := by
  unfold gAt
  rw [List.take_add_one, h, List.foldl_append]
  rfl
theorem gAt_all (xs : List Nat) : gAt xs (vals xs).length = gl xs := by
  unfold gAt gl
  rw [List.take_length]
theorem lastN_mem {l : List Nat} (h : l ≠ []) : lastN l ∈ l := by
  unfold lastN
  rw [List.getLastD_eq_getLast?, List.getLast?_eq_some_getLast h]
  exact List.getLast_mem h
theorem mem_ahead {l : Nat} {cs : List Nat} {c : Nat} : c ∈ ahead l cs ↔ c ∈ cs ∧ c + 1 < l := by simp [ahead]
theorem gstep_cases (xs : List Nat) (s : GS) (v : Nat) : (ahead s.l (cars xs v) = [] ∧ gstep xs s v = ⟨s.code, lastN (cars xs v) + 1, setC s.l s.code (cars xs v) s.codes, s.bars⟩) ∨
    (ahead s.l (cars xs v) ≠ [] ∧ gstep xs s v = ⟨s.code + 1, lastN (ahead s.l (cars xs v)) + 1, setC s.l s.code (cars xs v) s.codes, s.bars ++ [(s.l - 1, lastN (ahead s.l (cars xs v)))]⟩) := by
  by_cases h : ahead s.l (cars xs v) = []
  · exact .inl ⟨h, by unfold gstep; rw [if_pos h]; rfl⟩
  · exact .inr ⟨h, by unfold gstep; rw [if_neg h]; rfl⟩
theorem vals_lt {xs : List Nat} (h : RowOk xs) : ∀ x ∈ xs, x < 100 := fun x hx => by have := h.2 x hx; omega
theorem mem_vals {xs : List Nat} (h : ∀ x ∈ xs, x < 100) {v : Nat} : v ∈ vals xs ↔ v ∈ xs := mem_valsB h
theorem cars_ne {xs : List Nat} {v : Nat} (h : v ∈ xs) : cars xs v ≠ [] := by
  obtain ⟨i, hi, e⟩ := List.mem_iff_getElem.mp h
  exact List.ne_nil_of_mem (mem_cars.mpr ⟨hi, by rw [List.getD_eq_getElem?_getD, List.getElem?_eq_getElem hi, e]; rfl⟩)
structure GI (xs : List Nat) (i : Nat) (s : GS) : Prop where
  len : s.codes.length = xs.length
  bars : s.bars.length = s.code
  code : s.code ≤ i
  last : s.l ≠ 0 → s.l - 1 < xs.length ∧ xs.getD (s.l - 1) 0 ∈ (vals xs).take i
theorem GI.step {xs : List Nat} {i v : Nat} {s : GS} (g : GI xs i s) (h : (vals xs)[i]? = some v) (hc : cars xs v ≠ []) : GI xs (i + 1) (gstep xs s v) := by
  have hm : v ∈ (vals xs).take (i + 1) := by rw [List.take_add_one, h]; simp
  rcases gstep_cases xs s v with ⟨_, e⟩ | ⟨ha, e⟩
  · rw [e]
    refine ⟨by simp only [setC_len]; exact g.len, g.bars, Nat.le_succ_of_le g.code, fun _ => ?_⟩
    have := mem_cars.mp (lastN_mem hc)
    simp only [Nat.add_sub_cancel]
    exact ⟨this.1, by rw [this.2]; exact hm⟩
  · rw [e]
    refine ⟨by simp only [setC_len]; exact g.len, by simp only [List.length_append, List.length_cons, List.length_nil, g.bars], Nat.succ_le_succ g.code, fun _ => ?_⟩
    have := mem_cars.mp (mem_ahead.mp (lastN_mem ha)).1
    simp only [Nat.add_sub_cancel]
    exact ⟨this.1, by rw [this.2]; exact hm⟩
theorem vals_get {xs : List Nat} (h : ∀ x ∈ xs, x < 100) {i v : Nat} (e : (vals xs)[i]? = some v) : cars xs v ≠ [] := cars_ne ((mem_vals h).mp (List.mem_of_getElem? e))
theorem gAt_inv {xs : List Nat} (h : ∀ x ∈ xs, x < 100) : ∀ i, i ≤ (vals xs).length → GI xs i (gAt xs i)
  | 0, _ => ⟨by simp [gAt, g0], rfl, Nat.le_refl _, fun z => absurd rfl z⟩
  | i + 1, hi => by
    have e : (vals xs)[i]? = some ((vals xs)[i]'(by omega)) := List.getElem?_eq_getElem (by omega)
    rw [gAt_succ e]
    exact (gAt_inv h i (by omega)).step e (vals_get h e)
theorem not_before {xs : List Nat} {i v : Nat} (e : (vals xs)[i]? = some v) : v ∉ (vals xs).take i := fun hm => by
  have hp := valsB_rising 100 xs
  obtain ⟨j, hj, ej⟩ := List.mem_iff_getElem.mp hm
  obtain ⟨hi, ei⟩ := List.getElem?_eq_some_iff.mp e
  rw [List.length_take] at hj
  rw [List.getElem_take] at ej
  have := List.pairwise_iff_getElem.mp hp j i (by show j < (vals xs).length; omega) hi (by omega)
  have e2 : (valsB 100 xs)[j]'(by show j < (vals xs).length; omega) = v := ej
  have e3 : (valsB 100 xs)[i]'hi = v := ei
  omega
theorem vals_len (xs : List Nat) : (vals xs).length ≤ 100 := Nat.le_trans (List.length_filter_le _ _) (by simp)
theorem p_greatest_codes (ds : List D) (Q : D → Prop) (h : sp_greatest_codes ds Q) : t_greatest_codes { nx := fun _ => Q .non, rt := Q } (startE ["row", "number", "codes", "bars", "code", "last", "cars", "behind", "ahead", "car"] ds) := by
  unfold sp_greatest_codes at h
  split at h
  case h_2 => exact h.elim
  obtain ⟨xs, rfl, hr, q⟩ := h
  have hlt := vals_lt hr
  have vl := vals_len xs
  unfold t_greatest_codes
  have e0 : (List.replicate xs.length [D.int 0]).flatten = (List.replicate xs.length 0).map fun n : Nat => D.int (n : Int) := by
    simp [List.flatten_replicate_singleton]
  have h1 := hr.1
  unfold vSeq vAsg vTupF
  simp [startE, ofN, pvOf, e0, itPr, stE, flg, prLst, prOf, oMulB, oMul, SZ, immAll]
  refine ⟨by omega, by omega, ?_⟩
  unfold t_greatest_codes_s5
  simp only [vSeq_eq]
  refine vFor_img (vals xs) (fun n : Nat => D.int n) (srcs := [(.lst ((vals xs).map fun n : Nat => D.int n), .fresh)]) (fun i e => ∃ a b c d f, e = genv xs (gAt xs i) a b c d f) ?_ (by omega) (by simp [srcB]) ?_ ?_ ?_
  · intro Q h
    exact viSortSet 100 (f := .lck) rfl (by omega) hlt Q h
  · exact ⟨none, none, none, none, none, by simp [genv, gAt, g0, lastD, lstN, ofN]⟩
  · rintro i v e1 hv ⟨a, b, c, d, f, rfl⟩
    have hi : i < (vals xs).length := (List.getElem?_eq_some_iff.mp hv).1
    have g := gAt_inv hlt i (by omega)
    have gb := g.bars
    have gc := g.code
    simp only [gvName_eq]
    refine ⟨by simp [genv], ?_⟩
    have := g_body h1 (gAt xs i) v b c d f { nx := fun e => ∃ a b c d f, e = genv xs (gAt xs (i + 1)) a b c d f, ct := fun e => ∃ a b c d f, e = genv xs (gAt xs (i + 1)) a b c d f, bk := t_greatest_codes_s4 { nx := fun _ => Q .non, rt := Q }, rt := Q } g.len (by omega) (fun z e => not_before hv (by rw [← e]; exact (g.last z).2)) (vals_get hlt hv) (fun b c d f => ⟨_, b, c, d, f, by rw [gAt_succ hv]⟩)
    simpa [genv, stE, flg] using this
  · rintro e1 ⟨a, b, c, d, f, rfl⟩
    rw [gAt_all]
    unfold t_greatest_codes_s4
    have g := gAt_inv hlt _ (Nat.le_refl (vals xs).length)
    rw [gAt_all] at g
    simp [genv, pvOf, lstN, prOf]
    exact ⟨by simp [SZ], q⟩
theorem p_least_codes (ds : List D) (Q : D → Prop) (h : sp_least_codes ds Q) : t_least_codes { nx := fun _ => Q .non, rt := Q } (startE ["row"] ds) := by
  unfold sp_least_codes sp_greatest_codes at h
  split at h
  case h_2 => exact h.elim
  obtain ⟨xs, rfl, hr, q⟩ := h
  unfold t_least_codes
  simp [startE, pvOf, sp_check_row, sp_greatest_codes]
  exact ⟨xs, rfl, hr, xs, rfl, hr, q⟩
end K67

namespace K67
open PySem PySem.Spec PyProof.Rows L2 VS
/-! ### Euler's numbers -/
theorem eulRow_len : ∀ m, (eulRow m).length = 31
  | 0 => by simp [eulRow]
  | m + 1 => by simp [eulRow, eulStep]
theorem atI_ints {xs : List Int} {i : Nat} (h : i < xs.length) : atI (xs.map D.int) (i : Int) = some (.int (xs.getD i 0)) := by
  rw [atI_ofNat, List.getElem?_map, List.getElem?_eq_getElem h, List.getD_eq_getElem?_getD, List.getElem?_eq_getElem h]
  rfl
@[simp] theorem immAll_ints (xs : List Int) : immAll (xs.map D.int) = true := immAll_map fun _ _ => rfl
theorem small {i : Int} (h : -1000 ≤ i ∧ i ≤ 1000) : i.natAbs < 2 ^ 64 := by omega
theorem p_bar_count (ds : List D) (Q : D → Prop) (h : sp_bar_count ds Q) : t_bar_count { nx := fun _ => Q .non, rt := Q } (startE ["number", "bars", "found", "many", "later", "at", "ahead"] ds) := by
  unfold sp_bar_count at h
  split at h
  case h_2 => exact h.elim
  obtain ⟨k, j, rfl, rfl, hk, hj, q⟩ := h
  have a1 : (0 : Int) ≤ k ∧ (k : Int) ≤ 30 := by omega
  have a2 : (0 : Int) ≤ j ∧ (j : Int) ≤ 30 := by omega
  unfold t_bar_count
  simp [startE, stE, flg, pvOf, sp_check_upto, a1, a2, prLst, prOf, SZ, oAdd, oMulB, oMul, immAll]
  refine vFor_img ((List.range k).map (· + 1)) (fun i : Nat => D.int i) (srcs := []) (fun m e => ∃ a b c, e = [some (.lck, .int k), some (.lck, .int j), some (.own, .lst ((eulRow m).map D.int)), a, none, b, c]) ?_ (by simp; omega) (by simp) ⟨none, none, none, rfl⟩ ?_ ?_
  · intro Q h
    have e := rngD_map 1 k
    simp [pvOf, Function.comp_def] at h e ⊢
    rw [e]
    simp only [Int.add_comm] at h ⊢
    exact ⟨by omega, h⟩
  · rintro m x e1 hx ⟨a, b, c, rfl⟩
    obtain ⟨hm, rfl⟩ : m < k ∧ x = m + 1 := by
      obtain ⟨h1, h2⟩ := List.getElem?_eq_some_iff.mp hx
      simp at h1 h2
      exact ⟨h1, h2.symm⟩
    have hl := eulRow_len m
    unfold t_bar_count_l2
    simp [stE, flg, pvOf, prLst, prOf, SZ]
    refine vFor_img (List.range 31) (fun i : Nat => D.int i) (srcs := []) (fun i e => ∃ b c, e = [some (.lck, .int k), some (.lck, .int j), some (.own, .lst ((eulRow m).map D.int)), some (.own, .int ((m : Int) + 1)), some (.own, .lst (((eulStep (m + 1) (eulRow m)).take i).map D.int)), b, c]) ?_ (by simp) (by simp) ⟨b, c, by simp⟩ ?_ ?_
    · intro Q h
      simp [pvOf]
      exact h
    · rintro i x e1 hx ⟨b, c, rfl⟩
      obtain ⟨hi, rfl⟩ : i < 31 ∧ x = i := by
        obtain ⟨h1, h2⟩ := List.getElem?_eq_some_iff.mp hx
        simp at h1 h2
        exact ⟨h1, h2.symm⟩
      have es : (eulStep (m + 1) (eulRow m))[x]? = some (((x : Int) + 1) * (eulRow m).getD x 0 + (((m + 1 : Nat) : Int) - x) * (if x > 0 then (eulRow m).getD (x - 1) 0 else 0)) := by
        unfold eulStep
        rw [List.getElem?_map, List.getElem?_range hi]
        rfl
      rw [List.take_add_one, es]
      unfold t_bar_count_l1
      cases x with
      | zero =>
        have a0 : atI ((eulRow m).map D.int) 0 = some (.int ((eulRow m).getD 0 0)) := atI_ints (i := 0) (by omega)
        simp [stE, flg, pvOf, a0, -List.getD_eq_getElem?_getD, putE, killE]
        exact ⟨.inl (by decide), .inr (.inl (by decide))⟩
      | succ x =>
        have a0 : atI ((eulRow m).map D.int) ((x : Int) + 1) = some (.int ((eulRow m).getD (x + 1) 0)) := atI_ints (i := x + 1) (by omega)
        have a1 : atI ((eulRow m).map D.int) (x : Int) = some (.int ((eulRow m).getD x 0)) := atI_ints (i := x) (by omega)
        simp [stE, flg, pvOf, a0, a1, -List.getD_eq_getElem?_getD, putE, killE]
        exact ⟨.inl (small (by omega)), .inl (small (by omega)), by omega⟩
    · rintro e1 ⟨b, c, rfl⟩
      unfold vMv
      refine ⟨_, rfl, by simp, ?_⟩
      rw [List.take_of_length_le (by simp [eulStep])]
      simp [stE, flg]
      rfl
  · rintro e1 ⟨a, b, c, rfl⟩
    have a0 : atI ((eulRow k).map D.int) (j : Int) = some (.int ((eulRow k).getD j 0)) := atI_ints (by rw [eulRow_len]; omega)
    have ek : (((List.range k).map (· + 1)).length) = k := by simp
    simp [pvOf, a0, -List.getD_eq_getElem?_getD]
    exact q
theorem p__law_choose (ds : List D) (Q : D → Prop) (h : sp__law_choose ds Q) : t__law_choose { nx := fun _ => Q .non, rt := Q } (startE ["number", "many", "found", "at"] ds) := by
  unfold sp__law_choose at h
  split at h
  case h_2 => exact h.elim
  obtain ⟨a, b, rfl, rfl, hb, ha, q⟩ := h
  unfold t__law_choose
  simp [startE, stE, flg, pvOf]
  refine vFor_img (List.range b) (fun i : Nat => D.int i) (srcs := []) (fun i e => ∃ c, e = [some (.lck, .int a), some (.lck, .int b), some (.own, .int (chooseI a i)), c]) ?_ (by simp; omega) (by simp) ⟨none, by simp [chooseI]⟩ ?_ ?_
  · intro Q h
    simp [pvOf, rngD_map] at h ⊢
    exact ⟨by omega, h⟩
  · rintro i x e1 hx ⟨c, rfl⟩
    obtain ⟨hi, rfl⟩ : i < b ∧ x = i := by
      have := List.getElem?_eq_some_iff.mp hx
      obtain ⟨h1, h2⟩ := this
      simp at h1 h2
      exact ⟨h1, h2.symm⟩
    unfold t__law_choose_l1
    have e : chooseI a (x + 1) = chooseI a x * ((a : Int) - x) / ((x : Int) + 1) := by
      unfold chooseI
      rw [List.range_succ, List.foldl_append]
      rfl
    simp [stE, flg, pvOf, e]
    have h2 : ((x : Int) + 1).natAbs.log2 < 9000 := Nat.lt_of_le_of_lt (Nat.log2_le_self _) (by omega)
    exact ⟨.inr (.inl (small (by omega))), h2⟩
  · rintro e1 ⟨c, rfl⟩
    simp [pvOf]
    exact q
theorem p__law_power (ds : List D) (Q : D → Prop) (h : sp__law_power ds Q) : t__law_power { nx := fun _ => Q .non, rt := Q } (startE ["base", "number", "found", "lap"] ds) := by
  unfold sp__law_power at h
  split at h
  case h_2 => exact h.elim
  obtain ⟨a, b, rfl, rfl, ha, hb, q⟩ := h
  unfold t__law_power
  simp [startE, stE, flg, pvOf]
  refine vFor_img (List.range b) (fun i : Nat => D.int i) (srcs := []) (fun i e => ∃ c, e = [some (.lck, .int a), some (.lck, .int b), some (.own, .int ((a ^ i : Nat) : Int)), c]) ?_ (by simp; omega) (by simp) ⟨none, by simp⟩ ?_ ?_
  · intro Q h
    simp [pvOf, rngD_map] at h ⊢
    exact ⟨by omega, h⟩
  · rintro i x e1 hx ⟨c, rfl⟩
    unfold t__law_power_l1
    simp [stE, flg, pvOf, Nat.pow_succ]
    exact .inr (.inl (small (by omega)))
  · rintro e1 ⟨c, rfl⟩
    simp [pvOf]
    simpa using q
theorem choose_small : (List.range 32).all (fun a => (List.range 32).all fun b => decide ((chooseI a b).natAbs < 2 ^ 63)) = true := by decide +kernel
def eulT (k j : Nat) (x : Nat) : Int := (1 - 2 * ((x : Int) % 2)) * chooseI (k + 1) x * (((j + 1 - x) ^ k : Nat) : Int)
def eulSum (k j : Nat) : Int := ((List.range (j + 1)).map (eulT k j)).sum
theorem eul_all : (List.range 30).all (fun k => decide ((eulRow (k + 1)).take (k + 2) = (List.range (k + 2)).map (eulSum (k + 1)))) = true := by decide +kernel
theorem eul_eq {k j : Nat} (hk : k + 1 ≤ 30) (hj : j ≤ k + 1) : eulSum (k + 1) j = (eulRow (k + 1)).getD j 0 := by
  have := List.all_eq_true.mp eul_all k (List.mem_range.mpr (by omega))
  have e := of_decide_eq_true this
  have h1 : ((eulRow (k + 1)).take (k + 2))[j]? = ((List.range (k + 2)).map (eulSum (k + 1)))[j]? := by rw [e]
  rw [List.getElem?_take_of_lt (by omega), List.getElem?_map, List.getElem?_range (by omega)] at h1
  rw [List.getD_eq_getElem?_getD, h1]
  rfl
theorem p__law_bars (ds : List D) (Q : D → Prop) (h : sp__law_bars ds Q) : t__law_bars { nx := fun _ => Q .non, rt := Q } (startE ["number", "bars", "at"] ds) := by
  unfold sp__law_bars at h
  split at h
  case h_2 => exact h.elim
  obtain ⟨k, j, rfl, rfl, hk, hj, q⟩ := h
  unfold t__law_bars
  cases k with
  | zero =>
    have : j = 0 := by omega
    subst this
    simp [startE, pvOf]
    exact q
  | succ k =>
    simp [startE, pvOf, show ¬ ((k : Int) + 1 = 0) by omega]
    unfold t__law_bars_c1
    refine vLc_map (List.range (j + 1)) (fun n : Nat => D.int n) (srcs := []) (fun x => .int (eulT (k + 1) j x)) ?_ (by simp; omega) ?_ ?_
    · intro Q h
      have e := rngD_map 0 (j + 1)
      simp [pvOf] at h e ⊢
      rw [e]
      exact ⟨by omega, by omega, h⟩
    · intro x hx A B h
      have hx : x < j + 1 := by simpa using hx
      simp [wipeE, stE, pvOf, sp__law_choose, sp__law_power]
      refine ⟨.inl (by decide), k + 1 + 1, by omega, x, rfl, by omega, by omega, .inl (small (by omega)), j + 1 - x, by omega, k + 1, by omega, by omega, by omega, .inl ?_, ?_⟩
      · have c := of_decide_eq_true (List.all_eq_true.mp (List.all_eq_true.mp choose_small (k + 1 + 1) (List.mem_range.mpr (by omega))) x (List.mem_range.mpr (by omega)))
        rw [Int.natAbs_mul]
        have : (1 - 2 * ((x : Int) % 2)).natAbs = 1 := by omega
        rw [this]
        omega
      · unfold eulT at h
        simpa using h
    · refine ⟨_, _, rfl, (List.range (j + 1)).map (eulT (k + 1) j), by simp [D.items, Function.comp_def], ?_⟩
      have := eul_eq hk hj
      unfold eulSum at this
      rw [this]
      exact ⟨rfl, q⟩
end K67

namespace K67
open PySem PySem.Spec PyProof.Rows L2 VS
@[simp] theorem immAll_deals (es : List (List Nat)) : immAll (es.map ofN) = true := immAll_map fun _ _ => by simp
@[simp] theorem imm_dealsD (es : List (List Nat)) : (dealsD es).imm = true := by simp [dealsD]
theorem p_are_deals (ds : List D) (Q : D → Prop) (h : sp_are_deals ds Q) : t_are_deals { nx := fun _ => Q .non, rt := Q } (startE ["row", "value", "deal", "track"] ds) := by
  unfold sp_are_deals at h
  split at h
  case h_2 => exact h.elim
  obtain ⟨xs, es, rfl, rfl, hx, ⟨hl, h1⟩, q⟩ := h
  unfold t_are_deals
  simp [startE, stE, pvOf, isaD, dealsD, show ¬ ((8 : Int) < (es.length : Int)) by omega]
  unfold t_are_deals_c1
  refine vLc_map es ofN (srcs := [(dealsD es, .all 1)]) (fun _ => .bl true) ?_ (by omega) ?_ ?_
  · intro Q h
    simp [pvOf]
    exact h
  · intro p hp A B h
    have := (h1 p hp).1
    simp [wipeE, stE, pvOf, isaD, ofN, this]
    exact h
  refine oAll_of (xs := es) (f := fun _ => true) ?_
  rw [show es.all (fun _ => true) = true by simp]
  simp
  unfold t_are_deals_c3
  refine vLc_map es ofN (srcs := [(dealsD es, .all 1)]) (fun _ => .bl true) ?_ (by omega) ?_ ?_
  · intro Q h
    simp [pvOf]
    exact h
  · intro p hp A B h
    obtain ⟨g1, g2⟩ := h1 p hp
    simp [wipeE, stE, pvOf]
    unfold t_are_deals_c2
    refine vLc_map p (fun n : Nat => D.int n) (srcs := [(ofN p, .all 2)]) (fun _ => .bl true) ?_ (by omega) ?_ ?_
    · intro Q h
      simp [pvOf, ofN, flg]
      exact h
    · intro n hn A B h
      have := g2 n hn
      have e : (decide ((0 : Int) ≤ n) && decide ((n : Int) ≤ 30 - 1)) = true := by simp; omega
      simp [wipeE, stE, pvOf, sp_is_between, flg] at e ⊢
      simp [e]
      exact h
    · refine oAll_of (xs := p) (f := fun _ => true) ?_
      rw [show p.all (fun _ => true) = true by simp]
      exact ⟨rfl, h⟩
  · refine oAll_of (xs := es) (f := fun _ => true) ?_
    rw [show es.all (fun _ => true) = true by simp]
    exact ⟨rfl, q⟩
theorem p_check_deals (ds : List D) (Q : D → Prop) (h : sp_check_deals ds Q) : t_check_deals { nx := fun _ => Q .non, rt := Q } (startE ["row", "value"] ds) := by
  unfold sp_check_deals at h
  split at h
  case h_2 => exact h.elim
  obtain ⟨xs, es, rfl, rfl, h1, h2, q⟩ := h
  unfold t_check_deals
  simp [sp_are_deals, startE, pvOf]
  exact ⟨xs, rfl, es, rfl, h1, h2, q⟩
theorem p_check_tracks (ds : List D) (Q : D → Prop) (h : sp_check_tracks ds Q) : t_check_tracks { nx := fun _ => Q .non, rt := Q } (startE ["value", "many"] ds) := by
  unfold sp_check_tracks at h
  split at h
  case h_2 => exact h.elim
  obtain ⟨ts, rfl, ⟨hl, h1⟩, q⟩ := h
  unfold t_check_tracks
  simp [startE, stE, pvOf, isaD, ofN, show ¬ ((8 : Int) < (ts.length : Int)) by omega]
  unfold t_check_tracks_c1
  refine ⟨by omega, ?_⟩
  refine vLc_map ts (fun n : Nat => D.int n) (srcs := [(ofN ts, .all 0)]) (fun _ => .bl true) ?_ (by omega) ?_ ?_
  · intro Q h
    simp [pvOf]
    exact h
  · intro n hn A B h
    have := h1 n hn
    have e : (1 : Int) ≤ n ∧ (n : Int) ≤ 30 := by omega
    simp [wipeE, stE, pvOf, sp_is_between, e]
    exact h
  · refine oAll_of (xs := ts) (f := fun _ => true) ?_
    rw [show ts.all (fun _ => true) = true by simp]
    simp
    exact q
theorem p_are_below (ds : List D) (Q : D → Prop) (h : sp_are_below ds Q) : t_are_below { nx := fun _ => Q .non, rt := Q } (startE ["deals", "tracks", "deal", "many", "track"] ds) := by
  unfold sp_are_below at h
  split at h
  case h_2 => exact h.elim
  obtain ⟨es, ts, rfl, rfl, hl, h8, h1, q⟩ := h
  unfold t_are_below
  simp [startE, stE, pvOf, dealsD, ofN, hl]
  unfold t_are_below_c2
  refine vLc_map (es.zip ts) (fun p : List Nat × Nat => D.tup [ofN p.1, .int (p.2 : Nat)]) (srcs := [(dealsD es, .all 0), (ofN ts, .all 1)]) (fun _ => .bl true) ?_ (by simp; omega) ?_ ?_
  · intro Q h
    have := zipD_map ofN (fun n : Nat => D.int (n : Int)) es ts
    simp [pvOf, ofN, dealsD] at h this ⊢
    rw [this]
    exact h
  · rintro ⟨p, t⟩ hp A B h
    obtain ⟨g1, g2⟩ := h1 _ hp
    have g1 : p.length ≤ 30 := g1
    simp [wipeE, stE, pvOf, itPr]
    unfold t_are_below_c1
    refine vLc_map p (fun n : Nat => D.int n) (srcs := [(ofN p, .all 2)]) (fun _ => .bl true) ?_ (by omega) ?_ ?_
    · intro Q h
      simp [pvOf, ofN, flg]
      exact h
    · intro n hn A B h
      have g3 := g2 n hn
      have g3 : n < t := g3
      simp [wipeE, stE, pvOf, flg, g3]
      exact h
    · refine oAll_of (xs := p) (f := fun _ => true) ?_
      rw [show p.all (fun _ => true) = true by simp]
      exact ⟨rfl, h⟩
  · refine oAll_of (xs := es.zip ts) (f := fun _ => true) ?_
    rw [show (es.zip ts).all (fun _ => true) = true by simp]
    exact ⟨rfl, q⟩
theorem p_behind (ds : List D) (Q : D → Prop) (h : sp_behind ds Q) : t_behind { nx := fun _ => Q .non, rt := Q } (startE ["row", "deals"] ds) := by
  unfold sp_behind at h
  split at h
  case h_2 => exact h.elim
  obtain ⟨xs, es, rfl, rfl, h1, h2, q⟩ := h
  unfold t_behind
  simp [startE, pvOf, sp_check_row, sp_check_deals, sp_behind_all]
  exact ⟨xs, rfl, h1, xs, rfl, es, rfl, h1.1, h2, xs, rfl, es, rfl, h1.1, h2, q⟩
theorem p_by_codes (ds : List D) (Q : D → Prop) (h : sp_by_codes ds Q) : t_by_codes { nx := fun _ => Q .non, rt := Q } (startE ["row", "codes"] ds) := by
  unfold sp_by_codes at h
  split at h
  case h_2 => exact h.elim
  obtain ⟨xs, cs, rfl, rfl, h1, h2, q⟩ := h
  unfold t_by_codes
  simp [startE, pvOf, sp_check_row, sp_check_codes, sp_ordered]
  exact ⟨xs, rfl, h1, xs, rfl, cs, rfl, h2, h1.1, cs, rfl, by rw [h2]; exact h1.1, q⟩
theorem ordL_perm (cs : List Nat) : (ordL cs).Perm (List.range cs.length) := List.mergeSort_perm _ _
theorem ordL_len (cs : List Nat) : (ordL cs).length = cs.length := by simp [ordL]
theorem ordL_lt {cs : List Nat} : ∀ c ∈ ordL cs, c < cs.length := fun c h => List.mem_range.mp ((ordL_perm cs).mem_iff.mp h)
theorem p_do_set (ds : List D) (Q : D → Prop) (h : sp_do_set ds Q) : t_do_set { nx := fun _ => Q .non, rt := Q } (startE ["row", "codes"] ds) := by
  unfold sp_do_set at h
  split at h
  case h_2 => exact h.elim
  obtain ⟨xs, cs, rfl, rfl, h1, h2, q⟩ := h
  unfold t_do_set
  simp [startE, pvOf, sp_check_row, sp_check_codes, sp_ordered, sp_is_in_order]
  exact ⟨xs, rfl, h1, xs, rfl, cs, rfl, h2, h1.1, cs, rfl, by rw [h2]; exact h1.1, xs, rfl, ordL cs, rfl, by rw [ordL_len, h2]; exact h1.1, fun c hc => by rw [← h2]; exact ordL_lt c hc, q⟩
end K67

namespace K67
open PySem PySem.Spec PyProof.Rows L2 VS
/-- the cars that one track after the other gives -/
def pulls (cs dl : List Nat) (vs : List Nat) : List Nat := vs.flatMap fun t => cs.filter fun c => dl.getD c 0 == t
theorem pulls_append (cs dl vs : List Nat) (v : Nat) : pulls cs dl (vs ++ [v]) = pulls cs dl vs ++ cs.filter fun c => dl.getD c 0 == v := by simp [pulls]
theorem count_flat (cs : List Nat) (f : Nat → Nat) (a : Nat) : ∀ vs : List Nat, vs.Nodup → (vs.flatMap fun t => cs.filter fun c => f c == t).count a = if f a ∈ vs then cs.count a else 0
  | [], _ => by simp
  | v :: vs, hn => by
    obtain ⟨h1, h2⟩ := List.nodup_cons.mp hn
    rw [List.flatMap_cons, List.count_append, count_flat cs f a vs h2]
    by_cases h : f a = v
    · subst h
      rw [if_neg h1, if_pos (by simp), List.count_filter (by simp)]
      omega
    · have : (cs.filter fun c => f c == v).count a = 0 := by
        rw [List.count_eq_zero]
        simp [h]
      rw [this]
      simp [h]
theorem pulls_perm {cs dl vs : List Nat} (hn : vs.Nodup) (h : ∀ c ∈ cs, dl.getD c 0 ∈ vs) : (pulls cs dl vs).Perm cs := by
  rw [List.perm_iff_count]
  intro a
  unfold pulls
  rw [count_flat cs (fun c => dl.getD c 0) a vs hn]
  by_cases ha : a ∈ cs
  · rw [if_pos (h a ha)]
  · split
    · rfl
    · rw [List.count_eq_zero.mpr ha]
theorem vals_nodup (xs : List Nat) : (vals xs).Nodup := (valsB_rising 100 xs).imp fun h => by omega
theorem pull_perm {cs dl : List Nat} (h : ∀ c ∈ cs, c < dl.length) (h2 : ∀ t ∈ dl, t < 100) : (pull cs dl).Perm cs := by
  refine pulls_perm (vals_nodup dl) fun c hc => ?_
  have hc := h c hc
  rw [mem_vals h2, List.getD_eq_getElem?_getD, List.getElem?_eq_getElem hc]
  exact List.getElem_mem hc
theorem p_pulled (ds : List D) (Q : D → Prop) (h : sp_pulled ds Q) : t_pulled { nx := fun _ => Q .non, rt := Q } (startE ["cars", "deal", "found", "track", "car"] ds) := by
  unfold sp_pulled at h
  split at h
  case h_2 => exact h.elim
  obtain ⟨cs, dl, rfl, rfl, hp, hl, ht, q⟩ := h
  have hcl : cs.length = dl.length := by rw [hp.length_eq]; simp
  have hc : ∀ c ∈ cs, c < dl.length := fun c h => List.mem_range.mp (hp.mem_iff.mp h)
  have hlt : ∀ t ∈ dl, t < 100 := fun t h => by have := ht t h; omega
  have vl := vals_len dl
  unfold t_pulled
  simp [startE, stE, flg, pvOf, prLst, prOf, SZ]
  refine vFor_img (vals dl) (fun n : Nat => D.int n) (srcs := [(.lst ((vals dl).map fun n : Nat => D.int n), .fresh)]) (fun i e => ∃ a b, e = [some (.lck, lstN cs), some (.lck, ofN dl), some (.own, lstN (pulls cs dl ((vals dl).take i))), a, b]) ?_ (by omega) (by simp [srcB]) ⟨none, none, by simp [pulls, lstN]⟩ ?_ ?_
  · intro Q h
    exact viSortSet 100 (f := .lck) rfl (by omega) hlt Q h
  · rintro i v e1 hv ⟨a, b, rfl⟩
    have e : (vals dl).take (i + 1) = (vals dl).take i ++ [v] := by rw [List.take_add_one, hv]; rfl
    rw [e, pulls_append]
    have hpl : (pulls cs dl ((vals dl).take i)).length ≤ 3000 := by
      have : ∀ vs : List Nat, (pulls cs dl vs).length ≤ vs.length * 30 := by
        intro vs
        induction vs with
        | nil => simp [pulls]
        | cons v vs ih =>
          have : (cs.filter fun c => dl.getD c 0 == v).length ≤ 30 := Nat.le_trans (List.length_filter_le _ _) (by omega)
          simp only [pulls, List.flatMap_cons, List.length_append, List.length_cons] at ih ⊢
          omega
      have := this ((vals dl).take i)
      have : ((vals dl).take i).length ≤ 100 := by simp; omega
      omega
    unfold t_pulled_l1 t_pulled_c1
    simp [stE, flg]
    refine vLc_filter cs (fun n : Nat => D.int n) (srcs := [(lstN cs, .all 0)]) (fun c => dl.getD c 0 == v) (fun n : Nat => D.int n) ?_ (by omega) ?_ ?_
    · intro Q h
      simp [pvOf, lstN]
      exact h
    · intro c hc' A B h1 h2
      have hc := hc c hc'
      simp [wipeE, stE, pvOf, ofN, atI_nats hc, -List.getD_eq_getElem?_getD]
      split
      · exact h1 (beq_iff_eq.mpr (by omega))
      · exact h2 (by rw [beq_eq_false_iff_ne]; omega)
    · have hf : (cs.filter fun c => dl.getD c 0 == v).length ≤ 30 := Nat.le_trans (List.length_filter_le _ _) (by omega)
      simp [lstN, putE, killE, -List.getD_eq_getElem?_getD]
      exact ⟨by omega, rfl⟩
  · rintro e1 ⟨a, b, rfl⟩
    rw [List.take_length]
    simp [pvOf]
    exact ⟨rfl, q⟩
theorem behL_take {n : Nat} {es : List (List Nat)} {i : Nat} {d : List Nat} (h : es[i]? = some d) : behL n (es.take (i + 1)) = pull (behL n (es.take i)) d := by
  unfold behL
  rw [List.take_add_one, h, List.foldl_append]
  rfl
theorem behL_perm {n : Nat} : ∀ (es : List (List Nat)), (∀ d ∈ es, d.length = n ∧ ∀ t ∈ d, t < 100) → (behL n es).Perm (List.range n) := by
  intro es
  unfold behL
  suffices ∀ cs : List Nat, cs.Perm (List.range n) → (∀ d ∈ es, d.length = n ∧ ∀ t ∈ d, t < 100) → (es.foldl pull cs).Perm (List.range n) from this _ (List.Perm.refl _)
  induction es with
  | nil => exact fun cs h _ => h
  | cons d es ih =>
    intro cs h1 h2
    obtain ⟨g1, g2⟩ := h2 d (by simp)
    exact ih _ ((pull_perm (fun c hc => by rw [g1]; exact List.mem_range.mp (h1.mem_iff.mp hc)) g2).trans h1) fun x hx => h2 x (by simp [hx])
theorem p_behind_all (ds : List D) (Q : D → Prop) (h : sp_behind_all ds Q) : t_behind_all { nx := fun _ => Q .non, rt := Q } (startE ["row", "deals", "cars", "deal"] ds) := by
  unfold sp_behind_all at h
  split at h
  case h_2 => exact h.elim
  obtain ⟨xs, es, rfl, rfl, hl, ⟨h8, hd⟩, q⟩ := h
  unfold t_behind_all
  simp [startE, stE, flg, pvOf, ofN]
  have hd' : ∀ i, ∀ d ∈ es.take i, d.length = xs.length ∧ ∀ t ∈ d, t < 100 := fun i d h => by
    obtain ⟨a, b⟩ := hd d (List.mem_of_mem_take h)
    exact ⟨a, fun t ht => by have := b t ht; omega⟩
  refine ⟨by unfold RgOk; omega, ?_⟩
  have e0 : rngL 0 (xs.length : Int) = (List.range xs.length).map fun n : Nat => D.int (n : Int) := by
    have := rngD_map 0 xs.length
    simpa [rngL] using this
  rw [e0]
  refine vFor_img es ofN (srcs := [(dealsD es, .all 1)]) (fun i e => ∃ a, e = [some (.lck, ofN xs), some (.lck, dealsD es), some (.own, lstN (behL xs.length (es.take i))), a]) ?_ (by omega) (by simp [srcB]) ⟨none, by simp [behL, ofN, lstN]⟩ ?_ ?_
  · intro Q h
    simp [pvOf, dealsD]
    exact h
  · rintro i d e1 he ⟨a, rfl⟩
    rw [behL_take he]
    obtain ⟨g1, g2⟩ := hd d (List.mem_of_getElem? he)
    unfold t_behind_all_l1
    simp [stE, flg, pvOf, sp_pulled]
    exact ⟨_, rfl, d, rfl, by rw [g1]; exact behL_perm _ (hd' i), by omega, g2, rfl⟩
  · rintro e1 ⟨a, rfl⟩
    rw [List.take_length]
    simp [pvOf, lstN]
    exact q
theorem figs_snoc (m : Nat) : ∀ (cs ts : List Nat), figs cs (ts ++ [m]) = figs cs ts ++ [cs.map fun c => c / prodN ts % m]
  | cs, [] => by simp [figs, prodN]
  | cs, t :: ts => by
    rw [List.cons_append, figs, figs_snoc m (cs.map (· / t)) ts, figs]
    simp only [List.map_map, List.cons_append, prodN_cons]
    congr 3
    refine List.map_congr_left fun c _ => ?_
    simp [Nat.div_div_eq_div_mul]
theorem figs_len : ∀ (cs ts : List Nat), (figs cs ts).length = ts.length
  | _, [] => rfl
  | cs, t :: ts => by rw [figs, List.length_cons, figs_len, List.length_cons]
theorem p_figures (ds : List D) (Q : D → Prop) (h : sp_figures ds Q) : t_figures { nx := fun _ => Q .non, rt := Q } (startE ["codes", "tracks", "many", "deals", "left", "code"] ds) := by
  unfold sp_figures at h
  split at h
  case h_2 => exact h.elim
  obtain ⟨cs, ts, rfl, rfl, hl, ⟨h8, ht⟩, q⟩ := h
  unfold t_figures
  simp [startE, stE, flg, pvOf, ofN, stAll, prLst, prOf]
  refine vFor_img ts (fun n : Nat => D.int n) (srcs := [(ofN ts, .all 1)]) (fun i e => ∃ a b, e = [some (.lck, ofN cs), some (.lck, ofN ts), a, some (.own, .lst ((figs cs (ts.take i)).map ofN)), some (.own, lstN (cs.map (· / prodN (ts.take i)))), b]) ?_ (by omega) (by simp [srcB]) ⟨none, none, by simp [figs, lstN, prodN, ofN]⟩ ?_ ?_
  · intro Q h
    simp [pvOf, ofN]
    exact h
  · rintro i m e1 hm ⟨a, b, rfl⟩
    obtain ⟨m1, m30⟩ := ht m (List.mem_of_getElem? hm)
    have e : ts.take (i + 1) = ts.take i ++ [m] := by rw [List.take_add_one, hm]; rfl
    rw [prodN_take hm, e, figs_snoc]
    generalize hP : prodN (ts.take i) = P
    have hfl : (figs cs (ts.take i)).length ≤ 8 := by rw [figs_len]; simp; omega
    generalize figs cs (ts.take i) = F at hfl
    unfold t_figures_l1
    simp only [vSeq_eq]
    simp [stE, flg]
    unfold t_figures_c1
    refine vLc_map (cs.map (· / P)) (fun n : Nat => D.int n) (srcs := [(lstN (cs.map (· / P)), .all 4)]) (fun c => .int ((c % m : Nat) : Int)) ?_ (by simp; omega) ?_ ?_
    · intro Q h
      simp [pvOf, lstN] at h ⊢
      exact h
    · intro c hc A B h
      simp [wipeE, stE, pvOf, flg]
      exact ⟨by omega, h⟩
    have e1 : (cs.map (· / P)).map (fun c : Nat => D.int ((c % m : Nat) : Int)) = (cs.map fun c => c / P % m).map fun n : Nat => D.int (n : Int) := by simp [Function.comp_def]
    have e2 : cs.map (· / (P * m)) = (cs.map (· / P)).map (· / m) := by simp [Function.comp_def, Nat.div_div_eq_div_mul]
    rw [e1, e2]
    have hLl : (cs.map (· / P)).length ≤ 30 := by simpa using hl
    generalize cs.map (fun c => c / P % m) = G
    generalize cs.map (· / P) = L at hLl
    simp [putE, killE]
    refine ⟨by omega, ?_⟩
    unfold t_figures_c2
    refine vLc_map L (fun n : Nat => D.int n) (srcs := [(lstN L, .all 4)]) (fun c => .int ((c / m : Nat) : Int)) ?_ (by omega) ?_ ?_
    · intro Q h
      simp [pvOf, lstN] at h ⊢
      exact h
    · intro c hc A B h
      have h2 : (m : Int).natAbs.log2 < 9000 := Nat.lt_of_le_of_lt (Nat.log2_le_self _) (by omega)
      simp [wipeE, stE, pvOf, flg]
      exact ⟨⟨by omega, h2⟩, h⟩
    simp [lstN, ofN]
  · rintro e1 ⟨a, b, rfl⟩
    rw [List.take_length]
    simp [pvOf]
    exact q
end K67

namespace K67
open PySem PySem.Spec PyProof.Rows L2 VS
theorem getD_set {l : List Nat} {i j v : Nat} (h : i < l.length) : (l.set i v).getD j 0 = if j = i then v else l.getD j 0 := by
  simp only [List.getD_eq_getElem?_getD]
  by_cases e : j = i
  · subst e; simp [h]
  · rw [List.getElem?_set_ne (Ne.symm e), if_neg e]
theorem setC_get {l code c : Nat} : ∀ {cs cd : List Nat}, (∀ x ∈ cs, x < cd.length) → (setC l code cs cd).getD c 0 = if c ∈ cs then code + (if c + 1 < l then 1 else 0) else cd.getD c 0
  | [], cd, _ => by simp [setC]
  | x :: cs, cd, h => by
    show (setC l code cs (cd.set x (code + if x + 1 < l then 1 else 0))).getD c 0 = _
    rw [setC_get (fun y hy => by rw [List.length_set]; exact h y (by simp [hy])), getD_set (h x (by simp))]
    by_cases e : c ∈ cs
    · simp [e]
    · rw [if_neg e]
      by_cases e2 : c = x
      · subst e2; simp
      · rw [if_neg e2, if_neg (by simp [e, e2])]
theorem lastN_le {l : List Nat} (hp : l.Pairwise (· < ·)) {c : Nat} (h : c ∈ l) : c ≤ lastN l := by
  obtain ⟨i, hi, rfl⟩ := List.mem_iff_getElem.mp h
  have hne : l ≠ [] := List.ne_nil_of_mem h
  have e : lastN l = l[l.length - 1]'(by omega) := by
    unfold lastN
    rw [List.getLastD_eq_getLast?, List.getLast?_eq_getElem?, List.getElem?_eq_getElem (by omega)]
    rfl
  rw [e]
  by_cases hl : i = l.length - 1
  · subst hl; exact Nat.le_refl _
  · exact Nat.le_of_lt (List.pairwise_iff_getElem.mp hp i (l.length - 1) hi (by omega) (by omega))
theorem cars_rising (xs : List Nat) (v : Nat) : (cars xs v).Pairwise (· < ·) := List.Pairwise.filter _ List.pairwise_lt_range
theorem ahead_rising {l : Nat} {cs : List Nat} (h : cs.Pairwise (· < ·)) : (ahead l cs).Pairwise (· < ·) := List.Pairwise.filter _ h
def BarOk (xs : List Nat) (p : Nat × Nat) : Prop := p.2 < p.1 ∧ p.1 < xs.length ∧ xs.getD p.1 0 < xs.getD p.2 0
def LinkOk (xs : List Nat) (q : (Nat × Nat) × (Nat × Nat)) : Prop := q.2.1 = q.1.2 ∨ xs.getD q.1.2 0 < xs.getD q.2.1 0
structure GO (xs : List Nat) (i : Nat) (s : GS) : Prop where
  gi : GI xs i s
  le : ∀ q, q < xs.length → xs.getD q 0 ∈ (vals xs).take i → s.codes.getD q 0 ≤ s.code ∧ (s.codes.getD q 0 = s.code → q + 1 ≤ s.l)
  at_ : s.l ≠ 0 → s.codes.getD (s.l - 1) 0 = s.code
  l0 : i = 0 ∨ s.l ≠ 0
  ord : ∀ p q, p < xs.length → q < xs.length → xs.getD p 0 ∈ (vals xs).take i → xs.getD q 0 ∈ (vals xs).take i → xs.getD p 0 < xs.getD q 0 → s.codes.getD p 0 < s.codes.getD q 0 ∨ (s.codes.getD p 0 = s.codes.getD q 0 ∧ p < q)
  bar : ∀ b ∈ s.bars, BarOk xs b ∧ xs.getD b.2 0 ∈ (vals xs).take i
  link : ∀ q ∈ s.bars.zip (s.bars.drop 1), LinkOk xs q
  lastb : ∀ b, s.bars.getLast? = some b → s.l ≠ 0 ∧ (b.2 = s.l - 1 ∨ xs.getD b.2 0 < xs.getD (s.l - 1) 0)
theorem vals_take_lt {xs : List Nat} {i v w : Nat} (e : (vals xs)[i]? = some v) (h : w ∈ (vals xs).take i) : w < v := by
  have hp := valsB_rising 100 xs
  obtain ⟨j, hj, ej⟩ := List.mem_iff_getElem.mp h
  obtain ⟨hi, ei⟩ := List.getElem?_eq_some_iff.mp e
  rw [List.length_take] at hj
  rw [List.getElem_take] at ej
  have := List.pairwise_iff_getElem.mp hp j i (by show j < (vals xs).length; omega) hi (by omega)
  have e2 : (valsB 100 xs)[j]'(by show j < (vals xs).length; omega) = w := ej
  have e3 : (valsB 100 xs)[i]'hi = v := ei
  omega
theorem zip_snoc {α : Type} (x : α) : ∀ l : List α, (l ++ [x]).zip ((l ++ [x]).drop 1) = l.zip (l.drop 1) ++ (match l.getLast? with | some b => [(b, x)] | none => [])
  | [] => rfl
  | [a] => rfl
  | a :: b :: l => by
    have ih := zip_snoc x (b :: l)
    have e : (a :: b :: l).getLast? = (b :: l).getLast? := by simp [List.getLast?_cons_cons]
    rw [e]
    simp only [List.cons_append, List.drop_succ_cons, List.drop_zero, List.zip_cons_cons, List.cons.injEq, true_and] at ih ⊢
    exact ih
theorem GO.step {xs : List Nat} {i v : Nat} {s : GS} (hx : ∀ x ∈ xs, x < 100) (g : GO xs i s) (h : (vals xs)[i]? = some v) : GO xs (i + 1) (gstep xs s v) := by
  have hc := vals_get hx h
  have gi := g.gi.step h hc
  have hcar : ∀ {c}, c ∈ cars xs v → c < xs.length ∧ xs.getD c 0 = v := fun h => mem_cars.mp h
  have hm : ∀ {q}, q < xs.length → xs.getD q 0 ∈ (vals xs).take (i + 1) → xs.getD q 0 ∈ (vals xs).take i ∨ q ∈ cars xs v := fun {q} hq hm => by
    rw [List.take_add_one, h, List.mem_append] at hm
    rcases hm with hm | hm
    · exact .inl hm
    · exact .inr (mem_cars.mpr ⟨hq, by simpa using hm⟩)
  have hold : ∀ {q}, xs.getD q 0 ∈ (vals xs).take i → q ∉ cars xs v ∧ xs.getD q 0 < v := fun {q} hq => by
    have := vals_take_lt h hq
    exact ⟨fun hc => by have := (hcar hc).2; omega, this⟩
  have up : ∀ {w}, w ∈ (vals xs).take i → w ∈ (vals xs).take (i + 1) := fun hw => by
    rw [List.take_add_one]; exact List.mem_append_left _ hw
  have vin : v ∈ (vals xs).take (i + 1) := by rw [List.take_add_one, h]; simp
  have get : ∀ c, (setC s.l s.code (cars xs v) s.codes).getD c 0 = if c ∈ cars xs v then s.code + (if c + 1 < s.l then 1 else 0) else s.codes.getD c 0 := fun c => setC_get fun x hx => by rw [g.gi.len]; exact (hcar hx).1
  -- a new car is not the last one
  have hnl : ∀ {c}, c ∈ cars xs v → s.l ≠ 0 → c ≠ s.l - 1 := fun {c} hc z e => by
    have := (hold (g.gi.last z).2).1
    rw [← e] at this
    exact this hc
  have ord : ∀ p q, p < xs.length → q < xs.length → xs.getD p 0 ∈ (vals xs).take (i + 1) → xs.getD q 0 ∈ (vals xs).take (i + 1) → xs.getD p 0 < xs.getD q 0 → (setC s.l s.code (cars xs v) s.codes).getD p 0 < (setC s.l s.code (cars xs v) s.codes).getD q 0 ∨ ((setC s.l s.code (cars xs v) s.codes).getD p 0 = (setC s.l s.code (cars xs v) s.codes).getD q 0 ∧ p < q) := by
    intro p q hp hq mp mq hlt
    rcases hm hp mp with kp | kp
    · rcases hm hq mq with kq | kq
      · rw [get, get, if_neg (hold kp).1, if_neg (hold kq).1]
        exact g.ord p q hp hq kp kq hlt
      · rw [get, get, if_neg (hold kp).1, if_pos kq]
        obtain ⟨l1, l2⟩ := g.le p hp kp
        by_cases hl : q + 1 < s.l
        · rw [if_pos hl]; left; omega
        · rw [if_neg hl]
          rcases Nat.lt_or_ge (s.codes.getD p 0) s.code with z | z
          · left; omega
          · right
            have l3 := l2 (by omega)
            have := hnl kq (by omega)
            omega
    · rcases hm hq mq with kq | kq
      · have := (hold kq).2
        have := (hcar kp).2
        omega
      · have := (hcar kp).2
        have := (hcar kq).2
        omega
  rcases gstep_cases xs s v with ⟨ha, e⟩ | ⟨ha, e⟩
  · have hb : ∀ {c}, c ∈ cars xs v → ¬ c + 1 < s.l := fun {c} hc hl => by
      have : c ∈ ahead s.l (cars xs v) := mem_ahead.mpr ⟨hc, hl⟩
      rw [ha] at this; cases this
    have hL := lastN_mem hc
    rw [e] at gi ⊢
    refine ⟨gi, ?_, ?_, .inr (Nat.succ_ne_zero _), ord, fun b hb => ⟨(g.bar b hb).1, up (g.bar b hb).2⟩, g.link, fun b hb => ?_⟩
    · intro q hq mq
      rcases hm hq mq with kq | kq
      · simp only [get, if_neg (hold kq).1]
        obtain ⟨l1, l2⟩ := g.le q hq kq
        refine ⟨l1, fun z => ?_⟩
        have := l2 z
        have := hb hL
        omega
      · simp only [get, if_pos kq, if_neg (hb kq)]
        exact ⟨by omega, fun _ => by have := lastN_le (cars_rising xs v) kq; omega⟩
    · intro _
      simp only [Nat.add_sub_cancel, get, if_pos hL, if_neg (hb hL), Nat.add_zero]
    · refine ⟨Nat.succ_ne_zero _, .inr ?_⟩
      simp only [Nat.add_sub_cancel]
      rw [(hcar hL).2]
      exact (hold (g.bar b (List.mem_of_getLast? hb)).2).2
  · have hA := lastN_mem ha
    obtain ⟨a1, a2⟩ := mem_ahead.mp hA
    have hz : s.l ≠ 0 := by omega
    rw [e] at gi ⊢
    refine ⟨gi, ?_, ?_, .inr (Nat.succ_ne_zero _), ord, ?_, ?_, ?_⟩
    · intro q hq mq
      rcases hm hq mq with kq | kq
      · simp only [get, if_neg (hold kq).1]
        obtain ⟨l1, l2⟩ := g.le q hq kq
        exact ⟨by omega, fun z => by omega⟩
      · simp only [get, if_pos kq]
        by_cases hl : q + 1 < s.l
        · rw [if_pos hl]
          have := lastN_le (ahead_rising (l := s.l) (cars_rising xs v)) (mem_ahead.mpr ⟨kq, hl⟩)
          exact ⟨by omega, fun _ => by omega⟩
        · rw [if_neg hl]; exact ⟨by omega, fun z => by omega⟩
    · intro _
      simp only [Nat.add_sub_cancel, get, if_pos a1, if_pos a2]
    · intro b hb
      rw [List.mem_append] at hb
      rcases hb with hb | hb
      · exact ⟨(g.bar b hb).1, up (g.bar b hb).2⟩
      · obtain rfl : b = _ := by simpa using hb
        obtain ⟨k1, k2⟩ := g.gi.last hz
        refine ⟨⟨by show lastN _ < s.l - 1; omega, k1, ?_⟩, ?_⟩
        · show xs.getD (s.l - 1) 0 < xs.getD (lastN _) 0
          rw [(hcar a1).2]
          exact (hold k2).2
        · show xs.getD (lastN _) 0 ∈ _
          rw [(hcar a1).2]
          exact vin
    · intro q hq
      rw [zip_snoc, List.mem_append] at hq
      rcases hq with hq | hq
      · exact g.link q hq
      · cases hl : s.bars.getLast? with
        | none => rw [hl] at hq; cases hq
        | some b =>
          rw [hl] at hq
          obtain rfl : q = _ := by simpa using hq
          obtain ⟨_, k⟩ := g.lastb b hl
          rcases k with k | k
          · exact .inl k.symm
          · exact .inr k
    · intro b hb
      obtain rfl : _ = b := by simpa using hb
      exact ⟨Nat.succ_ne_zero _, .inl (by simp)⟩
theorem gAt_go {xs : List Nat} (hx : ∀ x ∈ xs, x < 100) : ∀ i, i ≤ (vals xs).length → GO xs i (gAt xs i)
  | 0, h => ⟨gAt_inv hx 0 h, fun q _ m => by simp at m, fun z => absurd rfl z, .inl rfl, fun p q _ _ m => by simp at m, fun b hb => (by cases hb), fun q hq => (by cases hq), fun b hb => (by cases hb)⟩
  | i + 1, hi => by
    have e : (vals xs)[i]? = some ((vals xs)[i]'(by omega)) := List.getElem?_eq_getElem (by omega)
    rw [gAt_succ e]
    exact (gAt_go hx i (by omega)).step hx e
theorem gl_go {xs : List Nat} (h : RowOk xs) : GO xs (vals xs).length (gl xs) := by
  have := gAt_go (vals_lt h) _ (Nat.le_refl _)
  rwa [gAt_all] at this
theorem all_in {xs : List Nat} (h : RowOk xs) {q : Nat} (hq : q < xs.length) : xs.getD q 0 ∈ (vals xs).take (vals xs).length := by
  rw [List.take_length, mem_vals (vals_lt h), List.getD_eq_getElem?_getD, List.getElem?_eq_getElem hq]
  exact List.getElem_mem hq
theorem gl_len {xs : List Nat} (h : RowOk xs) : (gl xs).codes.length = xs.length := (gl_go h).gi.len
theorem gl_barsN {xs : List Nat} (h : RowOk xs) : (gl xs).bars.length = (gl xs).code := (gl_go h).gi.bars
theorem gl_code_le {xs : List Nat} (h : RowOk xs) : (gl xs).code ≤ 100 := Nat.le_trans (gl_go h).gi.code (vals_len xs)
theorem gl_bars {xs : List Nat} (h : RowOk xs) : BarsOk xs (gl xs).bars :=
  ⟨by rw [gl_barsN h]; exact gl_code_le h, fun p hp => ((gl_go h).bar p hp).1, fun q hq => (gl_go h).link q hq⟩
theorem gl_le {xs : List Nat} (h : RowOk xs) : ∀ c ∈ (gl xs).codes, c ≤ (gl xs).code := fun c hc => by
  obtain ⟨q, hq, rfl⟩ := List.mem_iff_getElem.mp hc
  have hq' : q < xs.length := by rw [← gl_len h]; exact hq
  have := ((gl_go h).le q hq' (all_in h hq')).1
  rwa [List.getD_eq_getElem?_getD, List.getElem?_eq_getElem hq] at this
theorem gl_has {xs : List Nat} (h : RowOk xs) (hn : xs ≠ []) : (gl xs).code ∈ (gl xs).codes := by
  have g := gl_go h
  have hv : (vals xs).length ≠ 0 := by
    intro z
    obtain ⟨x, hx⟩ := List.exists_mem_of_ne_nil xs hn
    have := (mem_vals (vals_lt h)).mpr hx
    rw [List.length_eq_zero_iff.mp z] at this
    cases this
  have hl : (gl xs).l ≠ 0 := by
    rcases g.l0 with z | z
    · exact absurd z hv
    · exact z
  have h1 := g.at_ hl
  have h2 := (g.gi.last hl).1
  rw [List.getD_eq_getElem?_getD, List.getElem?_eq_getElem (by rw [gl_len h]; exact h2)] at h1
  exact h1 ▸ List.getElem_mem _
theorem maxN_of {cs : List Nat} {m : Nat} (h1 : ∀ c ∈ cs, c ≤ m) (h2 : m ∈ cs) : maxN cs = m := by
  have aux : ∀ (cs : List Nat) (a : Nat), a ≤ cs.foldl max a ∧ (∀ c ∈ cs, c ≤ cs.foldl max a) ∧ (cs.foldl max a = a ∨ cs.foldl max a ∈ cs) := by
    intro cs
    induction cs with
    | nil => intro a; exact ⟨Nat.le_refl _, fun c h => by (cases h), .inl rfl⟩
    | cons c cs ih =>
      intro a
      obtain ⟨k1, k2, k3⟩ := ih (max a c)
      simp only [List.foldl_cons]
      refine ⟨by omega, fun x hx => ?_, ?_⟩
      · rcases List.mem_cons.mp hx with rfl | hx
        · omega
        · exact k2 x hx
      · rcases k3 with k3 | k3
        · rw [k3]
          rcases Nat.le_total a c with z | z
          · right; rw [Nat.max_eq_right z]; simp
          · left; exact Nat.max_eq_left z
        · right; simp [k3]
  obtain ⟨_, k2, k3⟩ := aux cs 0
  have a1 := k2 m h2
  unfold maxN
  rcases k3 with k3 | k3
  · omega
  · have := h1 _ k3
    omega
theorem gl_max {xs : List Nat} (h : RowOk xs) (hn : xs ≠ []) : maxN (gl xs).codes = (gl xs).code := maxN_of (gl_le h) (gl_has h hn)
/-! ### orders -/
theorem lexB_iff {cs : List Nat} {p q : Nat} : lexB cs p q = true ↔ cs.getD p 0 < cs.getD q 0 ∨ (cs.getD p 0 = cs.getD q 0 ∧ p ≤ q) := by
  unfold lexB; exact decide_eq_true_iff
theorem ordL_sorted (cs : List Nat) : (ordL cs).Pairwise fun p q => lexB cs p q = true := by
  unfold ordL
  refine List.pairwise_mergeSort (fun a b c h1 h2 => ?_) (fun a b => ?_) _
  · rw [lexB_iff] at *; omega
  · simp only [Bool.or_eq_true, lexB_iff]; omega
theorem ordL_uniq {cs L : List Nat} (h1 : L.Perm (List.range cs.length)) (h2 : L.Pairwise fun p q => lexB cs p q = true) : L = ordL cs :=
  List.Perm.eq_of_pairwise (le := fun p q => lexB cs p q = true) (fun a b _ _ h1 h2 => by rw [lexB_iff] at h1 h2; omega) h2 (ordL_sorted cs) (h1.trans (ordL_perm cs).symm)
theorem gl_order {xs : List Nat} (h : RowOk xs) : (ordL (gl xs).codes).Pairwise fun p q => decide (xs.getD p 0 ≤ xs.getD q 0) = true := by
  have g := gl_go h
  have hs := ordL_sorted (gl xs).codes
  refine (List.Pairwise.and_mem.mp hs).imp fun {p q} ⟨hp, hq, k⟩ => ?_
  have hp := ordL_lt p hp
  have hq := ordL_lt q hq
  rw [gl_len h] at hp hq
  rw [decide_eq_true_iff]
  rcases Nat.lt_or_ge (xs.getD q 0) (xs.getD p 0) with z | z
  · have := g.ord q p hq hp (all_in h hq) (all_in h hp) z
    rw [lexB_iff] at k
    omega
  · exact z
theorem gl_inOrd {xs : List Nat} (h : RowOk xs) : inOrd xs (ordL (gl xs).codes) = true := by
  unfold inOrd
  exact zip_all (fun p q => decide (xs.getD p 0 ≤ xs.getD q 0)) _ (gl_order h)
end K67

namespace K67
open PySem PySem.Spec PyProof.Rows L2 VS
/-! ### passes by figures -/
theorem pulls_pw {cs dl : List Nat} {R : Nat → Nat → Prop} (h : cs.Pairwise R) : ∀ {vs : List Nat}, vs.Pairwise (· < ·) → (pulls cs dl vs).Pairwise fun p q => dl.getD p 0 < dl.getD q 0 ∨ (dl.getD p 0 = dl.getD q 0 ∧ R p q)
  | [], _ => by simp [pulls]
  | v :: vs, hv => by
    obtain ⟨h1, h2⟩ := List.pairwise_cons.mp hv
    have ih := pulls_pw (dl := dl) h h2
    show ((cs.filter fun c => dl.getD c 0 == v) ++ pulls cs dl vs).Pairwise _
    rw [List.pairwise_append]
    refine ⟨?_, ih, ?_⟩
    · refine (List.Pairwise.and_mem.mp (h.filter _)).imp fun {p q} ⟨hp, hq, k⟩ => ?_
      have hp := (List.mem_filter.mp hp).2
      have hq := (List.mem_filter.mp hq).2
      simp only [beq_iff_eq] at hp hq
      exact .inr ⟨by omega, k⟩
    · intro p hp q hq
      have hp := (List.mem_filter.mp hp).2
      simp only [beq_iff_eq] at hp
      obtain ⟨t, ht, hq⟩ := List.mem_flatMap.mp hq
      have hq := (List.mem_filter.mp hq).2
      simp only [beq_iff_eq] at hq
      have := h1 t ht
      left; omega
theorem pull_pw {cs dl : List Nat} {R : Nat → Nat → Prop} (h : cs.Pairwise R) : (pull cs dl).Pairwise fun p q => dl.getD p 0 < dl.getD q 0 ∨ (dl.getD p 0 = dl.getD q 0 ∧ R p q) := pulls_pw h (valsB_rising 100 dl)
theorem getD_map {f : Nat → Nat} {l : List Nat} {i : Nat} (h : i < l.length) : (l.map f).getD i 0 = f (l.getD i 0) := by
  simp [List.getD_eq_getElem?_getD, h]
theorem mem_figs : ∀ {cs ts d : List Nat}, d ∈ figs cs ts → d.length = cs.length
  | _, [], _, h => by cases h
  | cs, m :: ts, d, h => by
    rw [figs, List.mem_cons] at h
    rcases h with rfl | h
    · simp
    · have := mem_figs h
      simpa using this
theorem figs_lt : ∀ {cs ts d : List Nat}, (∀ t ∈ ts, 1 ≤ t ∧ t ≤ 30) → d ∈ figs cs ts → ∀ t ∈ d, t < 30
  | _, [], _, _, h => by cases h
  | cs, m :: ts, d, h0, h => by
    obtain ⟨m1, m2⟩ := h0 m (by simp)
    rw [figs, List.mem_cons] at h
    rcases h with rfl | h
    · intro t ht
      obtain ⟨c, _, rfl⟩ := List.mem_map.mp ht
      have : c % m < m := Nat.mod_lt _ m1
      omega
    · exact figs_lt (fun t ht => h0 t (by simp [ht])) h
theorem figs_ok {cs ts : List Nat} (h : TrOk ts) : DealsOk cs.length (figs cs ts) := ⟨by rw [figs_len]; exact h.1, fun d hd => ⟨mem_figs hd, figs_lt h.2 hd⟩⟩
theorem figs_below : ∀ {cs ts : List Nat}, (∀ t ∈ ts, 1 ≤ t ∧ t ≤ 30) → cs.length ≤ 30 → ∀ p ∈ (figs cs ts).zip ts, p.1.length ≤ 30 ∧ ∀ t ∈ p.1, t < p.2
  | _, [], _, _, p, h => by simp at h
  | cs, m :: ts, h0, hl, p, h => by
    rw [figs, List.zip_cons_cons, List.mem_cons] at h
    rcases h with rfl | h
    · refine ⟨by simpa using hl, fun t ht => ?_⟩
      obtain ⟨c, _, rfl⟩ := List.mem_map.mp ht
      exact Nat.mod_lt _ (h0 m (by simp)).1
    · exact figs_below (fun t ht => h0 t (by simp [ht])) (by simpa using hl) p h
theorem snocInd {α : Type} {P : List α → Prop} (h0 : P []) (hs : ∀ l x, P l → P (l ++ [x])) (l : List α) : P l := by
  have : ∀ n, ∀ l : List α, l.length = n → P l := by
    intro n
    induction n with
    | zero => intro l h; rw [List.length_eq_zero_iff.mp h]; exact h0
    | succ n ih =>
      intro l h
      have hne : l ≠ [] := by rintro rfl; cases h
      rw [← List.dropLast_concat_getLast hne]
      exact hs _ _ (ih _ (by rw [List.length_dropLast]; omega))
  exact this _ l rfl
theorem behL_figs (cs : List Nat) (ts : List Nat) : (∀ t ∈ ts, 1 ≤ t ∧ t ≤ 30) → behL cs.length (figs cs ts) = ordL (cs.map (· % prodN ts)) := by
  refine snocInd (P := fun ts => (∀ t ∈ ts, 1 ≤ t ∧ t ≤ 30) → behL cs.length (figs cs ts) = ordL (cs.map (· % prodN ts))) ?_ ?_ ts
  · intro _
    show List.range cs.length = _
    refine ordL_uniq (by simp) ?_
    refine (List.Pairwise.and_mem.mp List.pairwise_lt_range).imp fun {p q} ⟨hp, hq, k⟩ => ?_
    have hp := List.mem_range.mp hp
    have hq := List.mem_range.mp hq
    rw [lexB_iff, getD_map hp, getD_map hq]
    right
    have : prodN [] = 1 := rfl
    rw [this, Nat.mod_one, Nat.mod_one]
    exact ⟨rfl, by omega⟩
  · intro ts m ih h0
    have hts : ∀ t ∈ ts, 1 ≤ t ∧ t ≤ 30 := fun t ht => h0 t (by simp [ht])
    have hm := h0 m (by simp)
    have ih := ih hts
    have hP := prodN_pos hts
    have eP : prodN (ts ++ [m]) = prodN ts * m := by rw [prodN_append]; rfl
    rw [figs_snoc, eP]
    have e : behL cs.length (figs cs ts ++ [cs.map fun c => c / prodN ts % m]) = pull (behL cs.length (figs cs ts)) (cs.map fun c => c / prodN ts % m) := by
      unfold behL; rw [List.foldl_append]; rfl
    rw [e, ih]
    have hlt : ∀ c ∈ ordL (cs.map (· % prodN ts)), c < cs.length := fun c hc => by simpa using ordL_lt c hc
    have hl2 : ∀ t ∈ cs.map (fun c => c / prodN ts % m), t < 100 := fun t ht => by
      obtain ⟨c, _, rfl⟩ := List.mem_map.mp ht
      have := Nat.mod_lt (c / prodN ts) hm.1
      omega
    have hpm := pull_perm (dl := cs.map fun c => c / prodN ts % m) (fun c hc => by rw [List.length_map]; exact hlt c hc) hl2
    refine ordL_uniq ?_ ?_
    · have := hpm.trans (ordL_perm _)
      simpa using this
    · refine (List.Pairwise.and_mem.mp (pull_pw (ordL_sorted _))).imp fun {p q} ⟨hp, hq, k⟩ => ?_
      have hp := hlt p (hpm.mem_iff.mp hp)
      have hq := hlt q (hpm.mem_iff.mp hq)
      rw [getD_map hp, getD_map hq, lexB_iff, getD_map hp, getD_map hq] at k
      rw [lexB_iff, getD_map hp, getD_map hq]
      generalize cs.getD p 0 = a at k ⊢
      generalize cs.getD q 0 = b at k ⊢
      rw [Nat.mod_mul, Nat.mod_mul]
      have ha := Nat.mod_lt a hP
      have hb := Nat.mod_lt b hP
      rcases k with k | ⟨k, k2⟩
      · left
        have : prodN ts * (a / prodN ts % m + 1) ≤ prodN ts * (b / prodN ts % m) := Nat.mul_le_mul_left _ k
        rw [Nat.mul_add] at this
        omega
      · rw [k]
        rcases k2 with k2 | ⟨k2, k3⟩
        · left; omega
        · right; exact ⟨by rw [k2], k3⟩
theorem behL_all {cs ts : List Nat} (h : ∀ t ∈ ts, 1 ≤ t ∧ t ≤ 30) (hc : ∀ c ∈ cs, c < prodN ts) : behL cs.length (figs cs ts) = ordL cs := by
  rw [behL_figs cs ts h]
  congr 1
  conv => rhs; rw [← List.map_id cs]
  exact List.map_congr_left fun c h => Nat.mod_eq_of_lt (hc c h)
end K67

namespace K67
open PySem PySem.Spec PyProof.Rows L2 VS
theorem zipIdx_eq (xs : List Nat) : xs.zipIdx = (List.range xs.length).map fun i => (xs.getD i 0, i) := by
  refine List.ext_getElem (by simp) fun i h1 h2 => ?_
  simp at h1
  simp [h1]
theorem cars_idx (xs : List Nat) (v : Nat) : (xs.zipIdx.filter fun p => p.1 == v).map (fun p : Nat × Nat => D.int (p.2 : Nat)) = (cars xs v).map fun n : Nat => D.int (n : Int) := by
  rw [zipIdx_eq, List.filter_map, List.map_map]
  rfl
theorem foldl_maxI {l : List Nat} (hp : l.Pairwise (· < ·)) : ∀ a : Nat, (∀ c ∈ l, a ≤ c) → (l.map fun n : Nat => (n : Int)).foldl max (a : Int) = ((l.getLastD a : Nat) : Int) := by
  induction l with
  | nil => intro a _; rfl
  | cons x xs ih =>
    intro a h
    obtain ⟨h1, h2⟩ := List.pairwise_cons.mp hp
    have := h x (by simp)
    rw [List.map_cons, List.foldl_cons, show max (a : Int) (x : Int) = (x : Int) by omega, ih h2 x fun c hc => Nat.le_of_lt (h1 c hc)]
    simp [List.getLastD_eq_getLast?, List.getLast?_cons]
theorem oMax1_rise {l : List Nat} (hp : l.Pairwise (· < ·)) (hne : l ≠ []) {d : D} {p : Prov} {Q : D → Prov → Prop} (hd : d.items = some (l.map fun n : Nat => D.int (n : Int))) (q : Q (.int ((lastN l : Nat) : Int)) .fresh) : oMax1 [(d, p)] Q := by
  cases l with
  | nil => exact absurd rfl hne
  | cons x xs =>
    refine ⟨d, p, rfl, x, xs.map fun n : Nat => (n : Int), by rw [hd]; simp [Function.comp_def], ?_⟩
    obtain ⟨h1, h2⟩ := List.pairwise_cons.mp hp
    rw [foldl_maxI h2 x fun c hc => Nat.le_of_lt (h1 c hc)]
    have e : lastN (x :: xs) = xs.getLastD x := by unfold lastN; simp [List.getLastD_eq_getLast?, List.getLast?_cons]
    rw [← e]
    exact q
def lenv (xs : List Nat) (s : GS) (a b c d f : Option (Fl × D)) : VS.Env := [some (.lck, ofN xs), a, some (.own, lstN s.codes), some (.own, .int (s.code : Nat)), some (.own, .int ((s.l : Int) - 1)), b, c, d, f]
theorem l_body {xs : List Nat} (hl : xs.length ≤ 30) (s : GS) (v : Nat) (b c d f : Option (Fl × D)) (k : VS.VK) (hcl : s.codes.length = xs.length) (hcs : cars xs v ≠ [])
    (hk : ∀ b c d f, k.nx (lenv xs (gstep xs s v) (some (.own, .int (v : Nat))) b c d f)) : t__law_codes_l2 k (lenv xs s (some (.own, .int (v : Nat))) b c d f) := by
  have hcar : ∀ c ∈ cars xs v, c < xs.length := fun c h => (mem_cars.mp h).1
  have hlen : (cars xs v).length ≤ 30 := Nat.le_trans (List.length_filter_le _ _) (by simpa using hl)
  unfold t__law_codes_l2 lenv
  simp only [vSeq_eq, vSet_eq]
  refine ⟨by simp, ?_⟩
  unfold t__law_codes_c1
  refine vLc_filter xs.zipIdx (fun p : Nat × Nat => D.tup [.int (p.2 : Nat), .int (p.1 : Nat)]) (srcs := [(ofN xs, .all 0)]) (fun p => p.1 == v) (fun p : Nat × Nat => D.int (p.2 : Nat)) ?_ (by simp; omega) ?_ ?_
  · intro Q h
    simp [pvOf, ofN] at h ⊢
    rw [show enumD 0 (xs.map fun n : Nat => D.int (n : Int)) = xs.zipIdx.map fun p : Nat × Nat => D.tup [.int (p.2 : Nat), .int (p.1 : Nat)] from enumD_map _ _ _]
    exact h
  · rintro ⟨x, i⟩ hi A B h1 h2
    simp [wipeE, stE, pvOf, itPr]
    split
    · exact h1 (beq_iff_eq.mpr (by simp; omega))
    · exact h2 (by rw [beq_eq_false_iff_ne]; simp; omega)
  rw [cars_idx]
  simp only [stE, List.set_cons_succ, List.set_cons_zero, flg]
  refine ⟨by simp, ?_⟩
  unfold t__law_codes_c2
  refine vLc_filter (cars xs v) (fun n : Nat => D.int n) (srcs := [(lstN (cars xs v), .all 5)]) (fun c => decide (c + 1 < s.l)) (fun n : Nat => D.int n) ?_ (by omega) ?_ ?_
  · intro Q h
    simp [pvOf]
    exact h
  · intro i hi A B h1 h2
    simp [wipeE, stE, pvOf, flg]
    split
    · exact h1 (by simpa using by omega)
    · exact h2 (by simpa using by omega)
  have eah : (cars xs v).filter (fun c => decide (c + 1 < s.l)) = ahead s.l (cars xs v) := rfl
  rw [eah]
  simp only [stE, List.set_cons_succ, List.set_cons_zero, flg]
  simp only [vFrz_eq, List.getElem?_cons_succ, List.getElem?_cons_zero]
  refine ⟨by simp, ?_⟩
  simp only [putE, killE, List.map_cons, List.map_nil, List.set_cons_succ, List.set_cons_zero]
  unfold t__law_codes_f1
  simp only [vSeq_eq]
  refine vFor_img (cars xs v) (fun n : Nat => D.int n) (srcs := [(.rol ((cars xs v).map fun n : Nat => D.int n), .all 5)]) (fun i e => ∃ d f, e = [some (.lck, ofN xs), some (.own, .int (v : Nat)), some (.own, lstN (setC s.l s.code ((cars xs v).take i) s.codes)), some (.own, .int (s.code : Nat)), some (.own, .int ((s.l : Int) - 1)), some (.own, .rol ((cars xs v).map fun n : Nat => D.int n)), some (.own, lstN (ahead s.l (cars xs v))), d, f]) ?_ (by omega) ?_ ⟨_, _, rfl⟩ ?_ ?_
  · intro Q h
    simp [pvOf]
    exact h
  · simp [srcB]
  · rintro i c e1 hc ⟨d, f, rfl⟩
    have hm : c ∈ cars xs v := List.mem_of_getElem? hc
    have hlt := hcar c hm
    have hsl : (setC s.l s.code ((cars xs v).take i) s.codes).length = xs.length := by rw [setC_len, hcl]
    rw [setC_take hc]
    unfold t__law_codes_l1
    generalize setC s.l s.code ((cars xs v).take i) s.codes = cd at hsl ⊢
    have fin : (cd.map fun n : Nat => D.int (n : Int)).set c (.int ((s.code : Int) + if c + 1 < s.l then 1 else 0)) = ((cd.set c (s.code + if c + 1 < s.l then 1 else 0)).map fun n : Nat => D.int (n : Int)) := by
      rw [← set_nats]
      congr 2
      split <;> simp
    by_cases h : c + 1 < s.l
    · have h' : (c : Int) < (s.l : Int) - 1 := by omega
      simp [h, h', stE, flg, lstN, putE, killE, ixN_ofNat, hsl, hlt, pvOf, absorb_imm] at fin ⊢
    · have h' : ¬ (c : Int) < (s.l : Int) - 1 := by omega
      simp [h, h', stE, flg, lstN, putE, killE, ixN_ofNat, hsl, hlt, pvOf, absorb_imm] at fin ⊢
  · rintro e1 ⟨d, f, rfl⟩
    rw [List.take_length]
    unfold vAsg vTupF
    simp only [vCons_eq, vNil_eq, vOp_eq, vVar_eq, vC_eq, vIf_eq, vTest_eq, vLst_eq, vB_eq, List.getElem?_cons_succ, List.getElem?_cons_zero, lstN, pvOf]
    refine ⟨by simp, oNeA_nil ?_⟩
    have h0 : ∀ L : List Nat, gvTup (gvCons 3 (gvCons 4 gvNil)) (D.tup [.int ((gstep xs s v).code : Nat), .int (((gstep xs s v).l : Int) - 1)], Prov.fresh) [some (Fl.lck, ofN xs), some (Fl.own, D.int (v : Nat)), some (Fl.own, D.lst ((setC s.l s.code (cars xs v) s.codes).map fun n : Nat => D.int (n : Int))), some (Fl.own, D.int (s.code : Nat)), some (Fl.own, D.int ((s.l : Int) - 1)), some (Fl.own, D.rol ((cars xs v).map fun n : Nat => D.int (n : Int))), some (Fl.own, D.lst (L.map fun n : Nat => D.int (n : Int))), d, f] k.nx := by
      intro L
      have := hk (some (.own, .rol ((cars xs v).map fun n : Nat => D.int (n : Int)))) (some (.own, lstN L)) d f
      have ec : (gstep xs s v).codes = setC s.l s.code (cars xs v) s.codes := by
        rcases gstep_cases xs s v with ⟨_, e⟩ | ⟨_, e⟩ <;> rw [e]
      simp only [lenv, ec, lstN] at this
      simp [stE, flg, itPr]
      exact this
    rcases gstep_cases xs s v with ⟨hah, e⟩ | ⟨hah, e⟩
    · have hd : decide (ahead s.l (cars xs v) ≠ []) = false := by simp [hah]
      simp only [hd, Bool.false_eq_true, if_false, oAdd]
      refine ⟨by simp, oNeA_nil ?_⟩
      simp only [hd, Bool.false_eq_true, if_false]
      refine oMax1_rise (cars_rising xs v) hcs rfl ⟨by simp [SZ], rfl, ?_⟩
      have := h0 (ahead s.l (cars xs v))
      rw [e] at this
      simpa using this
    · have hd : decide (ahead s.l (cars xs v) ≠ []) = true := by simp [hah]
      simp only [hd, if_true, oAdd]
      refine ⟨by simp, oNeA_nil ?_⟩
      simp only [hd, if_true]
      refine oMax1_rise (ahead_rising (cars_rising xs v)) hah rfl ⟨by simp [SZ], rfl, ?_⟩
      have := h0 (ahead s.l (cars xs v))
      rw [e] at this
      simpa using this
theorem p__law_codes (ds : List D) (Q : D → Prop) (h : sp__law_codes ds Q) : t__law_codes { nx := fun _ => Q .non, rt := Q } (startE ["row", "number", "found", "code", "last", "cars", "ahead", "car", "its"] ds) := by
  unfold sp__law_codes at h
  split at h
  case h_2 => exact h.elim
  obtain ⟨xs, rfl, hr, q⟩ := h
  have hlt := vals_lt hr
  have vl := vals_len xs
  unfold t__law_codes
  have e0 : (List.replicate xs.length [D.int 0]).flatten = (List.replicate xs.length 0).map fun n : Nat => D.int (n : Int) := by
    simp [List.flatten_replicate_singleton]
  have h1 := hr.1
  unfold vSeq vAsg vTupF
  simp [startE, ofN, pvOf, e0, itPr, stE, flg, prLst, prOf, oMulB, oMul, SZ, immAll]
  refine ⟨by omega, by omega, ?_⟩
  refine vFor_img (vals xs) (fun n : Nat => D.int n) (srcs := [(.lst ((vals xs).map fun n : Nat => D.int n), .fresh)]) (fun i e => ∃ a b c d f, e = lenv xs (gAt xs i) a b c d f) ?_ (by omega) (by simp [srcB]) ?_ ?_ ?_
  · intro Q h
    exact viSortSet 100 (f := .lck) rfl (by omega) hlt Q h
  · exact ⟨none, none, none, none, none, by simp [lenv, gAt, g0, lstN, ofN]⟩
  · rintro i v e1 hv ⟨a, b, c, d, f, rfl⟩
    have hi : i < (vals xs).length := (List.getElem?_eq_some_iff.mp hv).1
    have g := gAt_inv hlt i (by omega)
    simp only [gvName_eq]
    refine ⟨by simp [lenv], ?_⟩
    have := l_body h1 (gAt xs i) v b c d f { nx := fun e => ∃ a b c d f, e = lenv xs (gAt xs (i + 1)) a b c d f, ct := fun e => ∃ a b c d f, e = lenv xs (gAt xs (i + 1)) a b c d f, bk := vRet (vTup (vCons (vB oInt (vCons (vVar 3) vNil)) (vCons (vB oTuple (vCons (vVar 2) vNil)) vNil))) { nx := fun x => Q D.non, rt := Q }, rt := Q } g.len (vals_get hlt hv) (fun b c d f => ⟨_, b, c, d, f, by rw [gAt_succ hv]⟩)
    simpa [lenv, stE, flg] using this
  · rintro e1 ⟨a, b, c, d, f, rfl⟩
    rw [gAt_all]
    have g := gAt_inv hlt _ (Nat.le_refl (vals xs).length)
    rw [gAt_all] at g
    simp [lenv, pvOf, lstN, prOf]
    exact ⟨by simp [SZ], q⟩
end K67

namespace K67
open PySem PySem.Spec PyProof.Rows L2 VS
theorem foldl_max_int : ∀ (xs : List Nat) (a : Nat), (xs.map fun n : Nat => (n : Int)).foldl max (a : Int) = ((xs.foldl max a : Nat) : Int)
  | [], _ => rfl
  | x :: xs, a => by
    rw [List.map_cons, List.foldl_cons, List.foldl_cons, ← foldl_max_int xs, show max (a : Int) (x : Int) = ((max a x : Nat) : Int) by omega]
theorem oMax1_nats {cs : List Nat} (hn : cs ≠ []) {d : D} {p : Prov} {Q : D → Prov → Prop} (hd : d.items = some (cs.map fun n : Nat => D.int (n : Int))) (q : Q (.int ((maxN cs : Nat) : Int)) .fresh) : oMax1 [(d, p)] Q := by
  cases cs with
  | nil => exact absurd rfl hn
  | cons x xs =>
    refine ⟨d, p, rfl, x, xs.map fun n : Nat => (n : Int), by rw [hd]; simp [Function.comp_def], ?_⟩
    rw [foldl_max_int]
    have : maxN (x :: xs) = xs.foldl max x := by unfold maxN; rw [List.foldl_cons, Nat.zero_max]
    rw [← this]
    exact q
theorem pow30_8 {ts : List Nat} (h : TrOk ts) : prodN ts < 10 ^ 12 := by
  have h1 := prodN_le h.2
  have h2 : 30 ^ ts.length ≤ 30 ^ 8 := Nat.pow_le_pow_right (by omega) h.1
  have : (30 : Nat) ^ 8 < 10 ^ 12 := by decide
  omega
/-! ### there and back -/
theorem figs_get : ∀ {cs ts : List Nat} {i m : Nat}, ts[i]? = some m → (figs cs ts)[i]? = some (cs.map fun c => c / prodN (ts.take i) % m)
  | _, [], _, _, h => by simp at h
  | cs, t :: ts, 0, m, h => by
    obtain rfl : t = m := by simpa using h
    simp [figs, prodN]
  | cs, t :: ts, i + 1, m, h => by
    have h : ts[i]? = some m := by simpa using h
    rw [figs, List.getElem?_cons_succ, figs_get h, List.take_succ_cons, prodN_cons, List.map_map]
    congr 1
    refine List.map_congr_left fun c _ => ?_
    simp [Nat.div_div_eq_div_mul]
theorem zip_same {α β γ : Type} (f : α → β) (g : α → γ) (l : List α) : (l.map f).zip (l.map g) = l.map fun x => (f x, g x) := by
  induction l with
  | nil => rfl
  | cons x l ih => simp [ih]
theorem p_codes_of (ds : List D) (Q : D → Prop) (h : sp_codes_of ds Q) : t_codes_of { nx := fun _ => Q .non, rt := Q } (startE ["row", "deals", "tracks", "codes", "times", "deal", "many", "code", "track"] ds) := by
  unfold sp_codes_of at h
  split at h
  case h_2 => exact h.elim
  obtain ⟨xs, cs, ts, rfl, rfl, rfl, hr, hl, ht, hc, q⟩ := h
  have h1 := hr.1
  have hfo := figs_ok (cs := cs) ht
  rw [hl] at hfo
  have hP := pow30_8 ht
  have e0 : (List.replicate xs.length [D.int 0]).flatten = (List.replicate xs.length 0).map fun n : Nat => D.int (n : Int) := by
    simp [List.flatten_replicate_singleton]
  unfold t_codes_of
  simp [startE, pvOf, sp_check_row, sp_check_deals, sp_check_tracks, sp_are_below]
  refine ⟨xs, rfl, hr, xs, rfl, figs cs ts, rfl, h1, hfo, ts, rfl, ht, figs cs ts, rfl, ts, rfl, by rw [figs_len], ht.1, fun a b hab => figs_below ht.2 (by omega) (a, b) hab, ?_⟩
  unfold vAsg
  simp [pvOf, ofN, e0, itPr, stE, flg, prLst, prOf, oMulB, oMul, SZ, immAll]
  refine ⟨by omega, by omega, ?_⟩
  refine vFor_img ((figs cs ts).zip ts) (fun p : List Nat × Nat => D.tup [ofN p.1, .int (p.2 : Nat)]) (srcs := [(dealsD (figs cs ts), .all 1), (ofN ts, .all 2)]) (fun i e => ∃ a b c d, e = [some (.lck, ofN xs), some (.lck, dealsD (figs cs ts)), some (.lck, ofN ts), some (.own, lstN (cs.map (· % prodN (ts.take i)))), some (.own, .int (prodN (ts.take i) : Nat)), a, b, c, d]) ?_ (by have := ht.1; simp; omega) (by simp [srcB]) ?_ ?_ ?_
  · intro Q h
    have := zipD_map ofN (fun n : Nat => D.int (n : Int)) (figs cs ts) ts
    simp [pvOf, ofN, dealsD] at h this ⊢
    rw [this]
    exact h
  · refine ⟨none, none, none, none, ?_⟩
    have e : cs.map (· % prodN (ts.take 0)) = List.replicate xs.length 0 := by
      rw [← hl]
      simp [prodN, Nat.mod_one, List.map_const']
    rw [e]
    simp [lstN, ofN, prodN]
  · rintro i ⟨d, m⟩ e1 hx ⟨a, b, c, f, rfl⟩
    have hm : ts[i]? = some m := (List.getElem?_zip_eq_some.mp hx).2
    have hd : (figs cs ts)[i]? = some d := (List.getElem?_zip_eq_some.mp hx).1
    rw [figs_get hm] at hd
    obtain rfl : _ = d := Option.some.inj hd
    obtain ⟨m1, m30⟩ := ht.2 m (List.mem_of_getElem? hm)
    rw [prodN_take hm]
    generalize prodN (ts.take i) = P
    unfold t_codes_of_l1
    simp [stE, flg, pvOf, itPr]
    unfold t_codes_of_c1
    refine vLc_map cs (fun c : Nat => D.tup [.int ((c % P : Nat) : Int), .int ((c / P % m : Nat) : Int)]) (srcs := [(lstN (cs.map (· % P)), .all 3), (ofN (cs.map fun c => c / P % m), .all 5)]) (fun c => .int ((c % (P * m) : Nat) : Int)) ?_ (by omega) ?_ ?_
    · intro Q h
      have e2 : zipD ((cs.map (· % P)).map fun n : Nat => D.int (n : Int)) ((cs.map fun c => c / P % m).map fun n : Nat => D.int (n : Int)) = cs.map fun c : Nat => D.tup [.int ((c % P : Nat) : Int), .int ((c / P % m : Nat) : Int)] := by
        rw [zipD_map, zip_same, List.map_map]
        rfl
      simp only [viZip_eq, vCons_eq, vNil_eq, vVar_eq, List.getElem?_cons_succ, List.getElem?_cons_zero, pvOf, lstN, ofN, kZip_two, items_tup, items_lst, e2]
      exact h
    · intro c hc A B h
      rw [Nat.mod_mul] at h
      simp [wipeE, stE, pvOf, flg, itPr] at h ⊢
      have hs : (((c : Int) / P) % m).natAbs < 2 ^ 64 := by
        have : ((c : Int) / P) % m = ((c / P % m : Nat) : Int) := by simp
        rw [this]
        have := Nat.mod_lt (c / P) m1
        omega
      exact ⟨.inr (.inl hs), h⟩
    simp
    exact ⟨.inr (.inl (small (by omega))), by simp [lstN, Function.comp_def]⟩
  · rintro e1 ⟨a, b, c, d, rfl⟩
    have e : ((figs cs ts).zip ts).length = ts.length := by simp [figs_len]
    have e2 : cs.map (· % prodN ts) = cs := by
      conv => rhs; rw [← List.map_id cs]
      exact List.map_congr_left fun c h => Nat.mod_eq_of_lt (hc c h)
    rw [e, List.take_length, e2]
    simp [pvOf, lstN]
    exact q
/-! ### dealt -/
theorem oNeA_tupE {l : List Nat} {p q : Prov} {Q : D → Prov → Prop} (h : Q (.bl (decide (l ≠ []))) .fresh) : oNeA (ofN l, p) (.tup [], q) Q := oNeA_tupnil h
theorem p_dealt (ds : List D) (Q : D → Prop) (E : Str → D → Prop) (h : spx_dealt ds Q E) : t_dealt { nx := fun _ => Q .non, rt := Q, ex := E } (startE ["row", "codes", "tracks"] ds) := by
  unfold spx_dealt at h
  split at h
  case h_2 => exact h.elim
  obtain ⟨xs, cs, ts, rfl, rfl, rfl, hr, hl, ht, q1, q2⟩ := h
  have h1 := hr.1
  have hP := prodN_pos ht.2
  unfold t_dealt
  simp [startE, pvOf, sp_check_row, sp_check_codes, sp_check_tracks, sp_product, sp_figures]
  refine ⟨xs, rfl, hr, xs, rfl, cs, rfl, hl, h1, ts, rfl, ht, oNeA_tupE ?_⟩
  by_cases hn : cs = []
  · simp [hn] at q1 ⊢
    exact ⟨[], rfl, ts, rfl, by simp, ht, q1⟩
  · simp [hn] at q1 q2 ⊢
    refine oMax1_nats hn rfl ⟨ts, rfl, ht, ?_⟩
    by_cases hm : maxN cs < prodN ts
    · have hm' : ¬ prodN ts ≤ maxN cs := by omega
      simp [hm']
      exact ⟨cs, rfl, ts, rfl, by omega, ht, q1 hm⟩
    · simp [show prodN ts ≤ maxN cs by omega]
      unfold vRaise
      simp only [vB_eq, vCons_eq, vNil_eq, vVar_eq, List.getElem?_cons_succ, List.getElem?_cons_zero]
      exact oMax1_nats hn rfl ⟨rfl, q2 (by omega)⟩
theorem p_can_set (ds : List D) (Q : D → Prop) (h : sp_can_set ds Q) : t_can_set { nx := fun _ => Q .non, rt := Q } (startE ["row", "tracks", "number", "codes", "bars"] ds) := by
  unfold sp_can_set at h
  split at h
  case h_2 => exact h.elim
  obtain ⟨xs, ts, rfl, rfl, hr, ht, q⟩ := h
  unfold t_can_set
  simp [startE, pvOf, sp_check_row, sp_check_tracks, sp_greatest_codes, sp_product]
  refine ⟨xs, rfl, hr, ts, rfl, ht, ?_⟩
  unfold vAsg
  simp [startE, pvOf, sp_greatest_codes]
  refine ⟨xs, rfl, hr, ?_⟩
  have hcl := gl_len hr
  have hx := hr.1
  unfold setD at q
  simp [gD, itPr, stE, flg, pvOf, sp_product]
  refine ⟨ts, rfl, ht, ?_⟩
  by_cases hc : (gl xs).code < prodN ts
  · rw [if_pos hc] at q
    simp [hc]
    unfold t_can_set_b1
    simp [pvOf, sp_figures, prOf, SZ]
    exact ⟨_, rfl, ts, rfl, by omega, ht, q⟩
  · rw [if_neg hc] at q
    simp [hc, prOf, SZ, pvOf, sp_product]
    refine ⟨ts, rfl, ht, ?_⟩
    have e2 : cutL ((gl xs).bars.map barD) none (some ((prodN ts : Nat) : Int)) = ((gl xs).bars.take (prodN ts)).map barD := by
      rw [cutL_map]
      exact congrArg _ (cutL_to _ _)
    simp only [barsD, slD_tup, e2] at q ⊢
    generalize (gl xs).bars.take (prodN ts) = B at q ⊢
    simp
    exact q
theorem p_least_passes (ds : List D) (Q : D → Prop) (h : sp_least_passes ds Q) : t_least_passes { nx := fun _ => Q .non, rt := Q } (startE ["row", "many", "number", "found", "reach"] ds) := by
  unfold sp_least_passes at h
  split at h
  case h_2 => exact h.elim
  obtain ⟨xs, k, rfl, rfl, hr, h2, h30, q⟩ := h
  have hcl := gl_code_le hr
  unfold t_least_passes
  simp [startE, pvOf, sp_check_row, sp_is_between, sp_greatest_codes]
  refine ⟨xs, rfl, hr, ⟨by omega, by omega⟩, xs, rfl, hr, ?_⟩
  simp [gD, stAll, stE, flg]
  refine ⟨fun m e => ∃ p, m = 101 - p ∧ (∀ q, q < p → k ^ q ≤ (gl xs).code) ∧ e = [some (.lck, ofN xs), some (.lck, .int k), some (.own, .int ((gl xs).code : Nat)), some (.own, .int p), some (.own, .int ((k ^ p : Nat) : Int))], ⟨101, by decide, 0, rfl, fun q h => by omega, by simp⟩, ?_⟩
  rintro m e1 ⟨p, rfl, hp, rfl⟩
  have hlt : p < k ^ p := Nat.lt_pow_self (by omega)
  have e : (k ^ p : Nat) ≤ (gl xs).code ↔ ((k ^ p : Nat) : Int) ≤ ((gl xs).code : Int) := by omega
  by_cases hc : k ^ p ≤ (gl xs).code
  · have hc' := e.mp hc
    unfold t_least_passes_w1
    simp [pvOf, hc, stAll, stE, flg, -Int.natCast_pow, hc']
    refine ⟨.inr (.inl (small (by omega))), 101 - (p + 1), by omega, p + 1, rfl, fun q hq => ?_, by simp, by rw [Nat.pow_succ]; simp⟩
    rcases Nat.lt_or_ge q p with z | z
    · exact hp q z
    · obtain rfl : q = p := by omega
      exact hc
  · have hc' := mt e.mpr hc
    simp [pvOf, hc, -Int.natCast_pow, hc']
    exact q p (by omega) hp
end K67

namespace K67
open PySem PySem.Spec PyProof.Rows L2 VS
theorem oAny_of {α : Type} {xs : List α} {f : α → Bool} {p : Prov} {Q : D → Prov → Prop} (h : Q (.bl (xs.any f)) .fresh) : oAny [(.lst (xs.map fun x => D.bl (f x)), p)] Q := by
  refine ⟨_, _, rfl, xs.map f, by simp [Function.comp_def], ?_⟩
  rw [List.any_map]
  exact h
theorem p_shows_least_codes (ds : List D) (Q : D → Prop) (h : sp_shows_least_codes ds Q) : t_shows_least_codes { nx := fun _ => Q .non, rt := Q } (startE ["row", "value", "number", "codes", "bars", "code"] ds) := by
  unfold sp_shows_least_codes at h
  split at h
  case h_2 => exact h.elim
  obtain ⟨xs, rfl, hr, rfl, q⟩ := h
  have hcl := gl_len hr
  have hx := hr.1
  unfold t_shows_least_codes
  simp [startE, pvOf, sp_check_row, gD, isaD, sp_is_integer, isIntD, itPr]
  refine ⟨xs, rfl, hr, ?_⟩
  unfold vAsg
  simp [pvOf, itPr, stE, flg, sp_are_codes]
  refine ⟨xs, rfl, _, rfl, hcl, hx, ?_⟩
  unfold t_shows_least_codes_c1
  refine vLc_map (gl xs).codes (fun n : Nat => D.int n) (srcs := [(ofN (gl xs).codes, .all 3)]) (fun c => .bl (decide (c > (gl xs).code))) ?_ (by omega) ?_ ?_
  · intro Q h
    simp [pvOf, ofN]
    exact h
  · intro c hc A B h
    simp [wipeE, stE, pvOf, flg]
    simpa using h
  · refine oAny_of ?_
    have e : (gl xs).codes.any (fun c => decide (c > (gl xs).code)) = false := by
      rw [List.any_eq_false]
      intro c hc
      have := gl_le hr c hc
      simp; omega
    rw [e]
    simp [sp_ordered, sp_is_in_order, pvOf, sp_are_bars]
    refine ⟨_, rfl, by omega, xs, rfl, _, rfl, by rw [ordL_len]; omega, fun c hc => by rw [← hcl]; exact ordL_lt c hc, ?_⟩
    rw [if_pos (gl_inOrd hr)]
    refine ⟨xs, rfl, _, rfl, gl_bars hr, ?_⟩
    simp [barsD, gl_barsN hr]
    exact q
theorem p_shows_can_set (ds : List D) (Q : D → Prop) (h : sp_shows_can_set ds Q) : t_shows_can_set { nx := fun _ => Q .non, rt := Q } (startE ["row", "tracks", "value"] ds) := by
  unfold sp_shows_can_set at h
  split at h
  case h_2 => exact h.elim
  obtain ⟨xs, ts, rfl, rfl, rfl, hr, ht, q⟩ := h
  have hcl := gl_len hr
  have hx := hr.1
  have hP := prodN_pos ht.2
  unfold t_shows_can_set setD
  by_cases hc : (gl xs).code < prodN ts
  · rw [if_pos hc]
    have hlt : ∀ c ∈ (gl xs).codes, c < prodN ts := fun c h => by have := gl_le hr c h; omega
    have hfo := figs_ok (cs := (gl xs).codes) ht
    have hb := behL_all ht.2 hlt
    rw [hcl] at hfo hb
    simp [startE, pvOf, sp_check_row, sp_check_tracks, isaD]
    refine ⟨xs, rfl, hr, ts, rfl, ht, ?_⟩
    unfold t_shows_can_set_b1
    simp [pvOf, sp_are_deals, sp_are_below, sp_behind_all, sp_is_in_order]
    refine ⟨xs, rfl, _, rfl, hx, hfo, _, rfl, ts, rfl, by rw [figs_len], ht.1, fun a b hab => figs_below ht.2 (by omega) (a, b) hab, xs, rfl, _, rfl, hx, hfo, xs, rfl, _, rfl, ?_, ?_, ?_⟩
    · rw [hb, ordL_len]; omega
    · intro c hc
      rw [hb] at hc
      rw [← hcl]
      exact ordL_lt c hc
    · rw [hb, gl_inOrd hr]
      exact q
  · rw [if_neg hc]
    have hb := gl_bars hr
    have hB : BarsOk xs ((gl xs).bars.take (prodN ts)) := by
      refine ⟨by have := hb.1; simp; omega, fun p hp => hb.2.1 p (List.mem_of_mem_take hp), fun q hq => ?_⟩
      refine hb.2.2 q ?_
      obtain ⟨i, hi⟩ := List.mem_iff_getElem?.mp hq
      obtain ⟨i1, i2⟩ := List.getElem?_zip_eq_some.mp hi
      refine List.mem_iff_getElem?.mpr ⟨i, List.getElem?_zip_eq_some.mpr ⟨?_, ?_⟩⟩
      · rw [List.getElem?_take] at i1
        split at i1
        · exact i1
        · cases i1
      · rw [List.getElem?_drop, List.getElem?_take] at i2
        rw [List.getElem?_drop]
        split at i2
        · exact i2
        · cases i2
    have hl : ((gl xs).bars.take (prodN ts)).length = prodN ts := by rw [List.length_take, gl_barsN hr]; omega
    generalize (gl xs).bars.take (prodN ts) = B at hB hl
    simp [startE, pvOf, sp_check_row, sp_check_tracks, isaD]
    refine ⟨xs, rfl, hr, ts, rfl, ht, ?_⟩
    simp [pvOf, sp_are_bars, sp_product]
    rw [if_neg (by decide)]
    refine ⟨xs, rfl, B, rfl, hB, ?_⟩
    simp [barsD]
    exact ⟨ts, rfl, ht, by rw [hl]; simpa using q⟩
end K67

namespace K67
open PySem PySem.Spec PyProof.Rows L2 VS
/-! ### the code number alone -/
def cstep (st : Nat × Nat) (cs : List Nat) : Nat × Nat := if ahead st.2 cs = [] then (st.1, lastN cs + 1) else (st.1 + 1, lastN (ahead st.2 cs) + 1)
def crun (st : Nat × Nat) (css : List (List Nat)) : Nat × Nat := css.foldl cstep st
theorem gstep_c (xs : List Nat) (s : GS) (v : Nat) : ((gstep xs s v).code, (gstep xs s v).l) = cstep (s.code, s.l) (cars xs v) := by
  unfold cstep
  rcases gstep_cases xs s v with ⟨h, e⟩ | ⟨h, e⟩
  · rw [if_pos h, e]
  · rw [if_neg h, e]
theorem fold_c (xs : List Nat) : ∀ (vs : List Nat) (s : GS), ((vs.foldl (gstep xs) s).code, (vs.foldl (gstep xs) s).l) = crun (s.code, s.l) (vs.map (cars xs))
  | [], _ => rfl
  | v :: vs, s => by
    rw [List.foldl_cons, fold_c xs vs, gstep_c]
    rfl
theorem gl_c (xs : List Nat) : ((gl xs).code, (gl xs).l) = crun (0, 0) ((vals xs).map (cars xs)) := fold_c xs (vals xs) (g0 xs)
theorem lastN_map {cs : List Nat} (s : Nat) (h : cs ≠ []) : lastN (cs.map (· + s)) = lastN cs + s := by
  unfold lastN
  rw [List.getLastD_eq_getLast?, List.getLastD_eq_getLast?, List.getLast?_map, List.getLast?_eq_some_getLast h]
  rfl
theorem ahead_map (l s : Nat) (cs : List Nat) : ahead (l + s) (cs.map (· + s)) = (ahead l cs).map (· + s) := by
  unfold ahead
  rw [List.filter_map]
  congr 1
  refine List.filter_congr fun c _ => ?_
  simp only [Function.comp]
  apply decide_eq_decide.mpr
  omega
theorem cstep_shift {c l a s : Nat} {cs : List Nat} (h : cs ≠ []) : cstep (c + a, l + s) (cs.map (· + s)) = ((cstep (c, l) cs).1 + a, (cstep (c, l) cs).2 + s) := by
  unfold cstep
  simp only [ahead_map, List.map_eq_nil_iff]
  split
  · rw [lastN_map s h]; simp; omega
  · rename_i g
    rw [lastN_map s g]; simp; omega
theorem crun_shift (a s : Nat) : ∀ {css : List (List Nat)} {st : Nat × Nat}, (∀ cs ∈ css, cs ≠ []) → crun (st.1 + a, st.2 + s) (css.map fun cs => cs.map (· + s)) = ((crun st css).1 + a, (crun st css).2 + s)
  | [], _, _ => rfl
  | cs :: css, st, h => by
    show crun (cstep (st.1 + a, st.2 + s) (cs.map (· + s))) (css.map fun cs => cs.map (· + s)) = _
    rw [cstep_shift (h cs (by simp)), crun_shift a s fun x hx => h x (by simp [hx])]
    rfl
theorem crun_append (st : Nat × Nat) (a b : List (List Nat)) : crun st (a ++ b) = crun (crun st a) b := List.foldl_append
/-- nothing ahead at the first list: only the code number counts -/
theorem crun_first {c l l' : Nat} {css : List (List Nat)} (h1 : ∀ cs ∈ css, ahead l cs = []) (h2 : ∀ cs ∈ css, ahead l' cs = []) (hne : css ≠ []) : crun (c, l) css = crun (c, l') css := by
  cases css with
  | nil => exact absurd rfl hne
  | cons cs css =>
    show crun (cstep (c, l) cs) css = crun (cstep (c, l') cs) css
    unfold cstep
    rw [if_pos (h1 cs (by simp)), if_pos (h2 cs (by simp))]
theorem cars_append (xs zs : List Nat) (v : Nat) : cars (xs ++ zs) v = cars xs v ++ (cars zs v).map (· + xs.length) := by
  unfold cars
  rw [List.length_append, List.range_add, List.filter_append, List.filter_map]
  congr 1
  · refine List.filter_congr fun i hi => ?_
    have hi := List.mem_range.mp hi
    rw [List.getD_eq_getElem?_getD, List.getD_eq_getElem?_getD, List.getElem?_append_left hi]
  · have e : (List.range zs.length).filter ((fun i => (xs ++ zs).getD i 0 == v) ∘ fun x => xs.length + x) = (List.range zs.length).filter fun i => zs.getD i 0 == v := by
      refine List.filter_congr fun i hi => ?_
      simp only [Function.comp]
      rw [List.getD_eq_getElem?_getD, List.getD_eq_getElem?_getD, List.getElem?_append_right (by omega), Nat.add_sub_cancel_left]
    rw [e]
    exact List.map_congr_left fun i _ => Nat.add_comm _ _
theorem cars_nil {xs : List Nat} {v : Nat} (h : v ∉ xs) : cars xs v = [] := by
  rw [List.eq_nil_iff_forall_not_mem]
  intro c hc
  obtain ⟨h1, h2⟩ := mem_cars.mp hc
  apply h
  rw [← h2, List.getD_eq_getElem?_getD, List.getElem?_eq_getElem h1]
  exact List.getElem_mem h1
theorem cars_add (ys : List Nat) (M w : Nat) : cars (ys.map (· + M)) (w + M) = cars ys w := by
  unfold cars
  rw [List.length_map]
  refine List.filter_congr fun i hi => ?_
  have hi := List.mem_range.mp hi
  rw [getD_map hi]
  rw [Bool.eq_iff_iff]
  simp
theorem risingN_uniq {xs ys : List Nat} (hx : xs.Pairwise (· < ·)) (hy : ys.Pairwise (· < ·)) (h : ∀ k, k ∈ xs ↔ k ∈ ys) : xs = ys := by
  have nx : xs.Nodup := hx.imp fun h => by omega
  have ny : ys.Nodup := hy.imp fun h => by omega
  have hp : xs.Perm ys := (List.perm_ext_iff_of_nodup nx ny).mpr h
  exact List.Perm.eq_of_pairwise (le := fun a b : Nat => a ≤ b) (fun a b _ _ h1 h2 => by omega) (hx.imp fun h => by omega) (hy.imp fun h => by omega) hp
theorem vals_two {lo hi all : List Nat} {M : Nat} (h100 : ∀ x ∈ all, x < 100) (hm : ∀ v, v ∈ all ↔ v ∈ lo ∨ v ∈ hi.map (· + M)) (h1 : ∀ x ∈ lo, x ≤ M) (h2 : ∀ y ∈ hi, 1 ≤ y) : vals all = vals lo ++ (vals hi).map (· + M) := by
  have hlo : ∀ x ∈ lo, x < 100 := fun x hx => h100 x ((hm x).mpr (.inl hx))
  have hhi : ∀ x ∈ hi, x < 100 := fun x hx => by
    have := h100 (x + M) ((hm _).mpr (.inr (List.mem_map.mpr ⟨x, hx, rfl⟩)))
    omega
  refine risingN_uniq (valsB_rising 100 all) ?_ fun k => ?_
  · rw [List.pairwise_append]
    refine ⟨valsB_rising 100 lo, ?_, fun a ha b hb => ?_⟩
    · rw [List.pairwise_map]
      exact (valsB_rising 100 hi).imp fun h => by omega
    · obtain ⟨y, hy, rfl⟩ := List.mem_map.mp hb
      have := h1 a ((mem_vals hlo).mp ha)
      have := h2 y ((mem_vals hhi).mp hy)
      omega
  · rw [mem_vals h100, hm k, List.mem_append, mem_vals hlo, List.mem_map, List.mem_map]
    constructor
    · rintro (h | ⟨y, hy, rfl⟩)
      · exact .inl h
      · exact .inr ⟨y, (mem_vals hhi).mpr hy, rfl⟩
    · rintro (h | ⟨y, hy, rfl⟩)
      · exact .inl h
      · exact .inr ⟨y, (mem_vals hhi).mp hy, rfl⟩
theorem lists_ne {xs : List Nat} (h : ∀ x ∈ xs, x < 100) : ∀ cs ∈ (vals xs).map (cars xs), cs ≠ [] := fun cs hcs => by
  obtain ⟨v, hv, rfl⟩ := List.mem_map.mp hcs
  exact cars_ne ((mem_vals h).mp hv)
theorem gl_l {xs : List Nat} (h : ∀ x ∈ xs, x < 100) : (gl xs).l ≤ xs.length ∧ (xs ≠ [] → (gl xs).l ≠ 0) := by
  have g := gAt_go h _ (Nat.le_refl _)
  rw [gAt_all] at g
  refine ⟨?_, fun hn => ?_⟩
  · rcases Nat.eq_zero_or_pos (gl xs).l with z | z
    · omega
    · have := (g.gi.last (by omega)).1
      omega
  · rcases g.l0 with z | z
    · obtain ⟨x, hx⟩ := List.exists_mem_of_ne_nil xs hn
      have := (mem_vals h).mpr hx
      rw [List.length_eq_zero_iff.mp z] at this
      cases this
    · exact z
theorem vals_nil {xs : List Nat} (h : ∀ x ∈ xs, x < 100) : vals xs = [] ↔ xs = [] := by
  constructor
  · intro z
    rw [List.eq_nil_iff_forall_not_mem]
    intro x hx
    have := (mem_vals h).mpr hx
    rw [z] at this
    cases this
  · rintro rfl
    rw [List.eq_nil_iff_forall_not_mem]
    intro x hx
    have := (mem_vals h).mp hx
    cases this
theorem ahead_shift_nil {l n : Nat} (h : l ≤ n) {css : List (List Nat)} : ∀ cs ∈ css.map (fun cs => cs.map (· + n)), ahead l cs = [] := fun cs hcs => by
  obtain ⟨cs, _, rfl⟩ := List.mem_map.mp hcs
  unfold ahead
  rw [List.filter_eq_nil_iff]
  intro c hc
  obtain ⟨d, _, rfl⟩ := List.mem_map.mp hc
  simp; omega
/-- the lists of one row behind another row -/
theorem crun_behind {ys : List Nat} (h : ∀ x ∈ ys, x < 100) {c l n : Nat} (hl : l ≤ n) : crun (c, l) (((vals ys).map (cars ys)).map fun cs => cs.map (· + n)) = if ys = [] then (c, l) else ((gl ys).code + c, (gl ys).l + n) := by
  by_cases hy : ys = []
  · rw [if_pos hy, (vals_nil h).mpr hy]; rfl
  · rw [if_neg hy, crun_first (l' := n) (ahead_shift_nil hl) (ahead_shift_nil (Nat.le_refl n)) (by simp [vals_nil h, hy])]
    have := crun_shift c n (st := (0, 0)) (lists_ne h)
    simp only [Nat.zero_add] at this
    rw [this, ← gl_c]
theorem code_up {xs ys : List Nat} {M : Nat} (h100 : ∀ x ∈ xs ++ ys.map (· + M), x < 100) (hx : ∀ x ∈ xs, x ≤ M) (hy : ∀ y ∈ ys, 1 ≤ y) : (gl (xs ++ ys.map (· + M))).code = (gl xs).code + (gl ys).code := by
  have hx1 : ∀ x ∈ xs, x < 100 := fun x h => h100 x (by simp [h])
  have hy1 : ∀ x ∈ ys, x < 100 := fun x h => by have := h100 (x + M) (by simp [h]); omega
  have ev := vals_two (lo := xs) (hi := ys) (M := M) h100 (fun v => List.mem_append) hx hy
  have e : (vals (xs ++ ys.map (· + M))).map (cars (xs ++ ys.map (· + M))) = (vals xs).map (cars xs) ++ ((vals ys).map (cars ys)).map fun cs => cs.map (· + xs.length) := by
    rw [ev, List.map_append, List.map_map, List.map_map]
    congr 1
    · refine List.map_congr_left fun v hv => ?_
      have hv := hx v ((mem_vals hx1).mp hv)
      rw [cars_append, cars_nil (xs := ys.map (· + M)) (v := v), List.map_nil, List.append_nil]
      intro hm
      obtain ⟨y, hy', e⟩ := List.mem_map.mp hm
      have := hy y hy'
      omega
    · refine List.map_congr_left fun w hw => ?_
      have hw := hy w ((mem_vals hy1).mp hw)
      simp only [Function.comp]
      rw [cars_append, cars_add, cars_nil, List.nil_append]
      intro hm
      have := hx _ hm
      omega
  have hg := gl_c (xs ++ ys.map (· + M))
  rw [e, crun_append, ← gl_c, crun_behind hy1 (gl_l hx1).1] at hg
  by_cases hn : ys = []
  · rw [if_pos hn] at hg
    have h0 : (gl ys).code = 0 := by subst hn; rfl
    have := congrArg Prod.fst hg
    simp only at this
    omega
  · rw [if_neg hn] at hg
    have := congrArg Prod.fst hg
    simp only at this
    omega
theorem code_down {xs ys : List Nat} {M : Nat} (h100 : ∀ x ∈ xs.map (· + M) ++ ys, x < 100) (hy : ∀ y ∈ ys, y ≤ M) (hx : ∀ x ∈ xs, 1 ≤ x) : (gl (xs.map (· + M) ++ ys)).code = (gl xs).code + (gl ys).code + if xs ≠ [] ∧ ys ≠ [] then 1 else 0 := by
  have hy1 : ∀ x ∈ ys, x < 100 := fun x h => h100 x (by simp [h])
  have hx1 : ∀ x ∈ xs, x < 100 := fun x h => by have := h100 (x + M) (by simp [h]); omega
  have ev := vals_two (lo := ys) (hi := xs) (M := M) h100 (fun v => by rw [List.mem_append]; exact Or.comm) hy hx
  have e : (vals (xs.map (· + M) ++ ys)).map (cars (xs.map (· + M) ++ ys)) = (((vals ys).map (cars ys)).map fun cs => cs.map (· + xs.length)) ++ (vals xs).map (cars xs) := by
    rw [ev, List.map_append, List.map_map, List.map_map]
    congr 1
    · refine List.map_congr_left fun v hv => ?_
      have hv := hy v ((mem_vals hy1).mp hv)
      simp only [Function.comp]
      rw [cars_append, cars_nil (xs := xs.map (· + M)) (v := v), List.nil_append, List.length_map]
      intro hm
      obtain ⟨x, hx', e⟩ := List.mem_map.mp hm
      have := hx x hx'
      omega
    · refine List.map_congr_left fun w hw => ?_
      have hw := hx w ((mem_vals hx1).mp hw)
      simp only [Function.comp]
      rw [cars_append, cars_add, cars_nil (xs := ys), List.map_nil, List.append_nil]
      intro hm
      have := hy _ hm
      omega
  have hg := gl_c (xs.map (· + M) ++ ys)
  rw [e, crun_append, crun_behind hy1 (Nat.zero_le _)] at hg
  by_cases hn : ys = []
  · rw [if_pos hn, ← gl_c] at hg
    have h0 : (gl ys).code = 0 := by subst hn; rfl
    have := congrArg Prod.fst hg
    simp only at this
    rw [if_neg (by simp [hn])]
    omega
  · rw [if_neg hn] at hg
    have hl := (gl_l hy1).2 hn
    by_cases hm : xs = []
    · have h0 : (gl xs).code = 0 := by subst hm; rfl
      rw [(vals_nil hx1).mpr hm] at hg
      have := congrArg Prod.fst hg
      simp only [List.map_nil, crun, List.foldl_nil] at this
      simp [hm]
      rw [hm] at h0 this
      simp at this
      omega
    · have e2 : crun ((gl ys).code + 0, (gl ys).l + xs.length) ((vals xs).map (cars xs)) = crun ((gl ys).code + 1, 0) ((vals xs).map (cars xs)) := by
        have hv : vals xs ≠ [] := by rw [ne_eq, vals_nil hx1]; exact hm
        cases hvv : vals xs with
        | nil => exact absurd hvv hv
        | cons v vs =>
          have hne : cars xs v ≠ [] := cars_ne ((mem_vals hx1).mp (by rw [hvv]; simp))
          have ha : ahead ((gl ys).l + xs.length) (cars xs v) = cars xs v := by
            unfold ahead
            rw [List.filter_eq_self]
            intro c hc
            have := (mem_cars.mp hc).1
            simp; omega
          have hb : ahead 0 (cars xs v) = [] := by simp [ahead]
          show crun (cstep _ (cars xs v)) _ = crun (cstep _ (cars xs v)) _
          congr 1
          unfold cstep
          simp only [ha, hb, if_true, if_neg hne]
      have e3 := crun_shift ((gl ys).code + 1) 0 (st := (0, 0)) (lists_ne hx1)
      simp only [Nat.zero_add, Nat.add_zero, List.map_id', ← gl_c] at e3
      rw [e2] at hg
      have e4 : (((vals xs).map (cars xs)).map fun cs => cs) = (vals xs).map (cars xs) := by simp
      rw [e3] at hg
      have := congrArg Prod.fst hg
      simp only at this
      simp [hm, hn]
      omega
/-! ### unlike rows from behind -/
theorem nodup_inj {l : List Nat} (h : l.Nodup) {i j : Nat} (hi : i < l.length) (hj : j < l.length) (e : l[i] = l[j]) : i = j := by
  rcases Nat.lt_trichotomy i j with z | z | z
  · exact absurd e (List.pairwise_iff_getElem.mp h i j hi hj z)
  · exact z
  · exact absurd e.symm (List.pairwise_iff_getElem.mp h j i hj hi z)
theorem nodup_rev {l : List Nat} (h : l.Nodup) : l.reverse.Nodup := by
  rw [List.Nodup, List.pairwise_reverse]
  exact h.imp fun k => Ne.symm k
theorem crun_two (n : Nat) : ∀ (ps : List Nat) (c c' q : Nat), (∀ p ∈ q :: ps, p < n) → (q :: ps).Nodup →
    (crun (c, q + 1) (ps.map fun p => [p])).1 + (crun (c', n - 1 - q + 1) (ps.map fun p => [n - 1 - p])).1 = c + c' + ps.length
  | [], c, c', q, _, _ => rfl
  | p :: ps, c, c', q, h, hn => by
    have hp := h p (by simp)
    have hq := h q (by simp)
    have hne : p ≠ q := by
      rintro rfl
      simp at hn
    have ih := fun c c' => crun_two n ps c c' p (fun x hx => h x (List.mem_cons_of_mem _ hx)) (List.nodup_cons.mp hn).2
    have s1 : ∀ c l x, cstep (c, l) [x] = (if x + 1 < l then c + 1 else c, x + 1) := by
      intro c l x
      unfold cstep ahead
      by_cases z : x + 1 < l <;> simp [z, lastN]
    show (crun (cstep (c, q + 1) [p]) _).1 + (crun (cstep (c', n - 1 - q + 1) [n - 1 - p]) _).1 = _
    rw [s1, s1]
    by_cases z : p < q
    · rw [if_pos (by omega), if_neg (by omega), ih, List.length_cons]; omega
    · rw [if_neg (by omega), if_pos (by omega), ih, List.length_cons]; omega
theorem cars_one {xs : List Nat} (hn : xs.Nodup) {v : Nat} (h : v ∈ xs) : cars xs v = [xs.idxOf v] := by
  refine risingN_uniq (cars_rising xs v) (List.pairwise_singleton _ _) fun k => ?_
  have hi := List.idxOf_lt_length_of_mem h
  rw [mem_cars, List.mem_singleton]
  constructor
  · rintro ⟨h1, h2⟩
    rw [List.getD_eq_getElem?_getD, List.getElem?_eq_getElem h1] at h2
    exact nodup_inj hn h1 hi (h2.trans (List.getElem_idxOf hi).symm)
  · rintro rfl
    refine ⟨hi, ?_⟩
    rw [List.getD_eq_getElem?_getD, List.getElem?_eq_getElem hi]
    exact List.getElem_idxOf hi
theorem cars_rev {xs : List Nat} (hn : xs.Nodup) {v : Nat} (h : v ∈ xs) : cars xs.reverse v = [xs.length - 1 - xs.idxOf v] := by
  have hi := List.idxOf_lt_length_of_mem h
  rw [cars_one (nodup_rev hn) (List.mem_reverse.mpr h)]
  congr 1
  have hi' := List.idxOf_lt_length_of_mem (List.mem_reverse.mpr h)
  have hk : xs.length - 1 - xs.idxOf v < xs.reverse.length := by simp; omega
  refine nodup_inj (nodup_rev hn) hi' hk ?_
  rw [List.getElem_idxOf hi', List.getElem_reverse]
  have e : xs.length - 1 - (xs.length - 1 - xs.idxOf v) = xs.idxOf v := by omega
  simp only [e]
  exact (List.getElem_idxOf hi).symm
theorem code_rev {xs : List Nat} (hn : xs.Nodup) (h : ∀ x ∈ xs, x < 100) (hne : xs ≠ []) : (gl xs).code + (gl xs.reverse).code = xs.length - 1 := by
  have hv : vals xs.reverse = vals xs := by
    unfold vals valsB
    refine List.filter_congr fun v _ => ?_
    simp
  have hlen : (vals xs).length = xs.length := ((List.perm_ext_iff_of_nodup (vals_nodup xs) hn).mpr fun k => mem_vals h).length_eq
  have e1 : (vals xs).map (cars xs) = ((vals xs).map fun v => xs.idxOf v).map fun p => [p] := by
    rw [List.map_map]
    exact List.map_congr_left fun v hv => cars_one hn ((mem_vals h).mp hv)
  have e2 : (vals xs.reverse).map (cars xs.reverse) = ((vals xs).map fun v => xs.idxOf v).map fun p => [xs.length - 1 - p] := by
    rw [hv, List.map_map]
    exact List.map_congr_left fun v hv => cars_rev hn ((mem_vals h).mp hv)
  have hps : ∀ p ∈ (vals xs).map (fun v => xs.idxOf v), p < xs.length := fun p hp => by
    obtain ⟨v, hv, rfl⟩ := List.mem_map.mp hp
    exact List.idxOf_lt_length_of_mem ((mem_vals h).mp hv)
  have hpn : ((vals xs).map fun v => xs.idxOf v).Nodup := by
    rw [List.Nodup, List.pairwise_map]
    refine (List.Pairwise.and_mem.mp (vals_nodup xs)).imp fun {a b} ⟨ha, hb, k⟩ e => k ?_
    have h1 := List.getElem_idxOf (List.idxOf_lt_length_of_mem ((mem_vals h).mp ha))
    have h2 := List.getElem_idxOf (List.idxOf_lt_length_of_mem ((mem_vals h).mp hb))
    rw [← h1, ← h2]
    simp only [e]
  have g1 := gl_c xs
  have g2 := gl_c xs.reverse
  rw [e1] at g1
  rw [e2] at g2
  have hl2 : ((vals xs).map fun v => xs.idxOf v).length = xs.length := by rw [List.length_map, hlen]
  generalize (vals xs).map (fun v => xs.idxOf v) = ps at g1 g2 hps hpn hl2
  cases ps with
  | nil =>
    have := List.length_eq_zero_iff.mp hl2.symm
    exact absurd this hne
  | cons p ps =>
    have := crun_two xs.length ps 0 0 p hps hpn
    have a1 : crun (0, 0) ((p :: ps).map fun p => [p]) = crun (0, p + 1) (ps.map fun p => [p]) := rfl
    have a2 : crun (0, 0) ((p :: ps).map fun p => [xs.length - 1 - p]) = crun (0, xs.length - 1 - p + 1) (ps.map fun p => [xs.length - 1 - p]) := rfl
    rw [a1] at g1
    rw [a2] at g2
    rw [← g1, ← g2] at this
    simp only at this
    rw [List.length_cons] at hl2
    omega
end K67

namespace K67
open PySem PySem.Spec PyProof.Rows L2 VS
/-- a comprehension over a drawn range, its items drawn -/
theorem vLc_any {u : VIt} {g : VGt} {tt : VB} {te : VT} {vs : List Nat} {env : VS.Env} {Q : D → Prov → Prop} (m : Nat) (P : Nat → Prop) (hu : ∀ Q : List D → List DP → Prop, (∀ k, k ≤ m → Q ((List.range k).map fun i : Nat => D.int i) []) → u env Q) (h1 : m ≤ 16777216)
    (hs : ∀ i, i < m → ∀ (A : D → Prop) (B : Prop), (∀ n : Nat, P n → A (.int n)) → g (.int (i : Nat), .any) (wipeE env vs) fun e2 => tt e2 fun b => if b = true then te e2 fun y p => okIn y p = true ∧ A y else B)
    (hq : ∀ ns : List Nat, ns.length ≤ m → (∀ n ∈ ns, P n) → Q (.lst (ns.map fun n : Nat => D.int n)) .fresh) : vLc u g tt te vs env Q := by
  refine hu _ fun k hk => ⟨by rw [List.length_map, List.length_range]; exact Nat.le_trans hk h1, fun i acc => ∃ ns : List Nat, acc = ns.map (fun n : Nat => D.int n) ∧ ns.length = i ∧ ∀ n ∈ ns, P n, ⟨[], rfl, rfl, fun n h => by cases h⟩, fun i d acc hd ⟨ns, e1, e2, e3⟩ => ?_, fun acc ⟨ns, e1, e2, e3⟩ _ => ?_⟩
  · rw [List.getElem?_map] at hd
    cases q : (List.range k)[i]? with
    | none => rw [q] at hd; cases hd
    | some x =>
      rw [q] at hd
      cases hd
      obtain ⟨hlt, e⟩ := List.getElem?_eq_some_iff.mp q
      simp at hlt e
      subst e
      refine hs i (by omega) _ _ fun n hn => ⟨ns ++ [n], by rw [e1, List.map_append]; rfl, by simp [e2], fun y hy => ?_⟩
      rcases List.mem_append.mp hy with hy | hy
      · exact e3 y hy
      · rw [List.mem_singleton.mp hy]; exact hn
  · subst e1
    simp only [List.length_map, List.length_range] at e2
    exact hq ns (by omega) e3
theorem p__law_row (ds : List D) (Q : D → Prop) (h : sp__law_row ds Q) : t__law_row { nx := fun _ => Q .non, rt := Q } (startE ["pot", "most", "numbers", "car"] ds) := by
  unfold sp__law_row at h
  split at h
  case h_2 => exact h.elim
  obtain ⟨h0, h30, q⟩ := h
  rename_i m
  obtain ⟨m, rfl⟩ := Int.eq_ofNat_of_zero_le h0
  unfold t__law_row
  simp [startE, stE, flg, pvOf, sp__law_take]
  intro x hx0 hx1
  obtain ⟨x, rfl⟩ := Int.eq_ofNat_of_zero_le hx0
  unfold t__law_row_c1
  refine vLc_any m (fun n => 1 ≤ n ∧ n ≤ 40) ?_ (by omega) ?_ ?_
  · intro Q h
    simp [pvOf, sp__law_take]
    refine ⟨by omega, fun k hk0 hk1 => ?_⟩
    obtain ⟨k, rfl⟩ := Int.eq_ofNat_of_zero_le hk0
    have := h k (by omega)
    exact ⟨by omega, by omega, by simpa [rngD_map] using this⟩
  · intro i hi A B h
    simp [wipeE, stE, pvOf, flg, sp__law_take]
    refine ⟨by omega, by omega, fun k hk0 hk1 => ?_⟩
    obtain ⟨k, rfl⟩ := Int.eq_ofNat_of_zero_le hk0
    have := h (1 + k) (by omega)
    simpa using this
  · intro ns h1 h2
    simp
    exact q ns (by omega) h2
/-! ### reprs -/
theorem shows_nat {n : Nat} (h : n < 10 ^ 18) : (D.int (n : Int)).shows = true := by
  simp only [D.shows, Int.natAbs_natCast, decide_eq_true_eq]
  by_cases z : n = 0
  · subst z; decide
  · have h1 : n < 2 ^ 1920 := Nat.lt_of_lt_of_le h (by decide)
    exact (Nat.log2_lt z).mpr h1
theorem shows_nats : ∀ {l : List Nat}, (∀ x ∈ l, x < 10 ^ 18) → showsAll (l.map fun n : Nat => D.int n) = true
  | [], _ => rfl
  | x :: l, h => by
    simp only [List.map_cons, showsAll, Bool.and_eq_true]
    exact ⟨shows_nat (h x (by simp)), shows_nats fun y hy => h y (by simp [hy])⟩
theorem rsz_nats : ∀ {l : List Nat}, (∀ x ∈ l, x < 10 ^ 18) → rszs (l.map fun n : Nat => D.int n) = 21 * l.length
  | [], _ => rfl
  | x :: l, h => by
    simp only [List.map_cons, rszs, rsz_nats fun y hy => h y (List.mem_cons_of_mem _ hy), List.length_cons, D.rsz]
    have := h x (by simp)
    rw [if_pos (by omega)]
    omega
theorem shows_tab : ∀ {T : List (List Nat)}, (∀ l ∈ T, ∀ x ∈ l, x < 10 ^ 18) → showsAll (T.map ofN) = true
  | [], _ => rfl
  | l :: T, h => by
    simp only [List.map_cons, showsAll, Bool.and_eq_true]
    exact ⟨shows_nats (h l (by simp)), shows_tab fun m hm => h m (by simp [hm])⟩
theorem rsz_tab : ∀ {T : List (List Nat)}, (∀ l ∈ T, l.length ≤ 30 ∧ ∀ x ∈ l, x < 10 ^ 18) → rszs (T.map ofN) ≤ 640 * T.length
  | [], _ => by simp [rszs]
  | l :: T, h => by
    have ih := rsz_tab (T := T) fun m hm => h m (by simp [hm])
    obtain ⟨h1, h2⟩ := h l (by simp)
    simp only [List.map_cons, rszs, List.length_cons, ofN, D.rsz, rsz_nats h2] at ih ⊢
    omega
theorem dep_nats : ∀ (l : List Nat), PyData.depthAll (toPys (l.map fun n : Nat => D.int n)) ≤ 1
  | [] => by simp [toPys, PyData.depthAll]
  | x :: l => by
    have := dep_nats l
    simp only [List.map_cons, toPys, PyData.depthAll, D.toPy, PyData.depth] at this ⊢
    omega
theorem dep_tab : ∀ (T : List (List Nat)), PyData.depthAll (toPys (T.map ofN)) ≤ 2
  | [] => by simp [toPys, PyData.depthAll]
  | l :: T => by
    have := dep_tab T
    have h2 := dep_nats l
    simp only [List.map_cons, toPys, PyData.depthAll, ofN, D.toPy, PyData.depth] at this h2 ⊢
    omega
theorem repr_deals {T : List (List Nat)} (hT : T.length ≤ 30) (hx : ∀ l ∈ T, l.length ≤ 30 ∧ ∀ x ∈ l, x < 10 ^ 18) {p : Prov} {Q : D → Prov → Prop} (q : Q (.str (dealsD T).toPy.shown) .fresh) : oRepr [(dealsD T, p)] Q := by
  refine oRepr_of ?_ ?_ ?_ q
  · unfold dealsD
    simp only [D.shows]
    exact shows_tab fun l hl => (hx l hl).2
  · unfold dealsD
    simp only [D.rsz]
    have := rsz_tab hx
    omega
  · have := dep_tab T
    unfold dealsD
    simp only [D.toPy, PyData.depth]
    omega
theorem repr_int {n : Nat} (h : n < 10 ^ 18) {p : Prov} {Q : D → Prov → Prop} (q : Q (.str (D.int (n : Int)).toPy.shown) .fresh) : oRepr [(.int (n : Int), p)] Q := by
  refine oRepr_of (shows_nat h) ?_ ?_ q
  · simp only [D.rsz]
    split <;> omega
  · simp [D.toPy, PyData.depth]
/-! ### the law of a row, from its end -/
theorem pass_uniq {c k p p' : Nat} (h1 : c < k ^ p) (h2 : ∀ q, q < p → k ^ q ≤ c) (h3 : c < k ^ p') (h4 : ∀ q, q < p' → k ^ q ≤ c) : p = p' := by
  rcases Nat.lt_trichotomy p p' with z | z | z
  · have := h4 p z; omega
  · exact z
  · have := h2 p' z; omega
theorem row_tail {xs : List Nat} (hr : RowOk xs) {Q : D → Prop} (q : Q (.bl true)) (b2 b3 b4 b5 b6 b7 b9 b10 b11 b12 b13 b14 b15 b16 b17 b18 b19 : Option (Fl × D)) :
    t__law_is_row_right_s8 { nx := fun _ => Q .non, rt := Q } [some (.lck, .pot), some (.lck, ofN xs), b2, b3, b4, b5, b6, b7, some (.own, .int ((gl xs).code : Nat)), b9, b10, b11, b12, b13, b14, b15, b16, b17, b18, b19] := by
  have hcl := gl_code_le hr
  unfold t__law_is_row_right_s8
  simp [pvOf, sp__law_take]
  unfold vAsg
  simp [pvOf, sp__law_take, prOf, itPr, stE, flg, SZ]
  intro x hx0 hx1
  obtain ⟨x, rfl⟩ := Int.eq_ofNat_of_zero_le hx0
  unfold t__law_is_row_right_s7
  simp only [vSeq_eq]
  refine ⟨fun m e => ∃ p, m = 101 - p ∧ (∀ q, q < p → (2 + x) ^ q ≤ (gl xs).code) ∧ e = [some (.lck, .pot), some (.lck, ofN xs), b2, b3, b4, b5, some (.own, .int ((2 : Int) + x)), b7, some (.own, .int ((gl xs).code : Nat)), b9, b10, b11, some (.own, .int p), some (.own, .int (((2 + x) ^ p : Nat) : Int)), b14, b15, b16, b17, b18, b19], ⟨101, by decide, 0, rfl, fun q h => by omega, by simp⟩, ?_⟩
  rintro m e1 ⟨p, rfl, hp, rfl⟩
  have hlt : p < (2 + x) ^ p := Nat.lt_pow_self (by omega)
  have e : ((2 + x) ^ p : Nat) ≤ (gl xs).code ↔ (((2 + x) ^ p : Nat) : Int) ≤ ((gl xs).code : Int) := by omega
  by_cases hc : (2 + x) ^ p ≤ (gl xs).code
  · have hc' := e.mp hc
    unfold t__law_is_row_right_w1
    simp [pvOf, hc, stAll, stE, flg, -Int.natCast_pow, hc']
    refine ⟨.inr (.inl (small (by omega))), 101 - (p + 1), by omega, p + 1, rfl, fun q hq => ?_, by simp, by rw [Nat.pow_succ]; simp⟩
    rcases Nat.lt_or_ge q p with z | z
    · exact hp q z
    · obtain rfl : q = p := by omega
      exact hc
  · have hc' := mt e.mpr hc
    have hp100 : p ≤ 101 := by
      rcases Nat.eq_zero_or_pos p with z | z
      · omega
      · have h1 := hp (p - 1) (by omega)
        have h2 : p - 1 < (2 + x) ^ (p - 1) := Nat.lt_pow_self (by omega)
        omega
    simp [pvOf, hc, -Int.natCast_pow, hc']
    unfold t__law_is_row_right_s6
    simp [pvOf, sp_least_passes]
    refine ⟨xs, rfl, 2 + x, by simp, hr, by omega, by omega, fun p' h1 h2 => ?_⟩
    obtain rfl := pass_uniq (by omega) hp h1 h2
    refine repr_int (by omega) ?_
    refine repr_int (by omega) ?_
    simp
    exact q
end K67

set_option maxHeartbeats 1000000
namespace K67
open PySem PySem.Spec PyProof.Rows L2 VS
theorem smpN (l : List Nat) : (ofN l).smp = true := smp_ofN l
theorem neOfN {a b : List Nat} {p q : Prov} {Q : D → Prov → Prop} (e : a = b) (h : Q (.bl false) .fresh) : oNeA (ofN a, p) (ofN b, q) Q := by
  subst e
  exact oNeA_smp (smp_ofN a) (smp_ofN a) (by have := dep_ofN a; omega) (by have := dep_ofN a; omega) false (by simp) h
/-- the order: no number falls -/
theorem any_order {xs cs : List Nat} (h : inOrd xs cs = true) : (cs.zip (cs.drop 1)).any (fun p => decide (xs.getD p.1 0 > xs.getD p.2 0)) = false := by
  rw [List.any_eq_false]
  intro p hp
  have := List.all_eq_true.mp h p hp
  simp only [decide_eq_true_eq] at this ⊢
  omega
theorem lc_falls {xs cs : List Nat} {f1 f2 : Fl} {i : Nat} {e0 e2 e3 e4 e5 e6 e7 e8 e9 e10 e11 e12 e13 e14 e15 e16 e17 e18 e19 : Option (Fl × D)} (hf : f2 ≠ .bor) (hi : ([e0, some (f1, ofN xs), e2, e3, e4, e5, e6, e7, e8, e9, e10, e11, e12, e13, e14, e15, e16, e17, e18, e19] : VS.Env)[i]? = some (some (f2, ofN cs))) (hl : cs.length ≤ 30) (hc : ∀ c ∈ cs, c < xs.length) (ho : inOrd xs cs = true) {Q : D → Prov → Prop} (q : Q (.bl false) .fresh) :
    vB oAny (vCons (vLc (viZip (vCons (vVar i) (vCons (vSl (vVar i) (vPart (vC (.int 1))) vNo) vNil))) (gvTup (gvCons 17 (gvCons 18 gvNil))) vYes (vOp oGt (vOp oIx (vVar 1) (vVar 17)) (vOp oIx (vVar 1) (vVar 18))) [17, 18]) vNil) [e0, some (f1, ofN xs), e2, e3, e4, e5, e6, e7, e8, e9, e10, e11, e12, e13, e14, e15, e16, e17, e18, e19] Q := by
  simp only [vB_eq, vCons_eq, vNil_eq]
  refine vLc_map (cs.zip (cs.drop 1)) (fun p : Nat × Nat => D.tup [.int p.1, .int p.2]) (srcs := [(ofN cs, .all i), (ofN (cs.drop 1), .sub i)]) (fun p => D.bl (decide (xs.getD p.1 0 > xs.getD p.2 0))) ?_ (by simp; omega) ?_ ?_
  · intro Q h
    exact viZip_tail (f := f2) hf hi _ h
  · intro p hp A B h
    obtain ⟨a, b⟩ := p
    have ha : a < xs.length := hc a (List.of_mem_zip hp).1
    have hb : b < xs.length := hc b (List.mem_of_mem_drop (List.of_mem_zip hp).2)
    simp [wipeE, stE, pvOf, itPr, ofN, -List.getD_eq_getElem?_getD, atI_nats ha, atI_nats hb] at h ⊢
    exact h
  · refine oAny_of ?_
    rw [any_order ho]
    exact q
theorem figs_repr {cs ts : List Nat} (ht : TrOk ts) (hl : cs.length ≤ 30) {p : Prov} {Q : D → Prov → Prop} (q : Q (.str (dealsD (figs cs ts)).toPy.shown) .fresh) : oRepr [(dealsD (figs cs ts), p)] Q := by
  have h := figs_ok (cs := cs) ht
  exact repr_deals (by have := h.1; omega) (fun l hl' => ⟨by have := (h.2 l hl').1; omega, fun x hx => by have := (h.2 l hl').2 x hx; omega⟩) q
theorem row_deals {xs : List Nat} (hr : RowOk xs) {ts : List Nat} (ht : TrOk ts) (hlt : (gl xs).code < prodN ts) {Q : D → Prop} (q : Q (.bl true)) (b2 b6 b10 b11 b12 b13 b14 b15 b16 b17 b18 b19 : Option (Fl × D)) :
    t__law_is_row_right_b1 { nx := t__law_is_row_right_s8 { nx := fun _ => Q .non, rt := Q }, rt := Q } [some (.lck, .pot), some (.lck, ofN xs), b2, some (.own, ofN (ordL (gl xs).codes)), some (.own, ofN ts), some (.own, .int (prodN ts : Nat)), b6, some (.own, setD xs ts), some (.own, .int ((gl xs).code : Nat)), some (.own, ofN (gl xs).codes), b10, b11, b12, b13, b14, b15, b16, b17, b18, b19] := by
  have hcl := gl_len hr
  have hx := hr.1
  have hsd : setD xs ts = .tup [.str (Str.ofString "deals"), dealsD (figs (gl xs).codes ts)] := by unfold setD; rw [if_pos hlt]
  have hcp : ∀ c ∈ (gl xs).codes, c < prodN ts := fun c h => by have := gl_le hr c h; omega
  have hb := behL_all ht.2 hcp
  have hfo := figs_ok (cs := (gl xs).codes) ht
  have hord := gl_inOrd hr
  have hmx : (gl xs).codes = [] ∨ maxN (gl xs).codes < prodN ts := by
    by_cases hn : xs = []
    · left; rw [← List.length_eq_zero_iff, hcl, hn]; rfl
    · right; rw [gl_max hr hn]; exact hlt
  rw [hsd]
  have hrl : ∀ {p : Prov} {Q : D → Prov → Prop}, Q (.str (dealsD (figs (gl xs).codes ts)).toPy.shown) .fresh → oRepr [(dealsD (figs (gl xs).codes ts), p)] Q := fun h => figs_repr ht (by omega) h
  generalize hcd : (gl xs).code = cd at *
  generalize hcs : (gl xs).codes = cs at *
  rw [hcl] at hb hfo
  unfold t__law_is_row_right_b1
  simp only [vSeq_eq]
  unfold vAsg
  simp [pvOf, prOf, prLst, itPr, stE, flg, SZ]
  unfold t__law_is_row_right_s4
  simp only [vSeq_eq]
  refine vFor_img ts (fun n : Nat => D.int n) (srcs := [(ofN ts, .all 4)]) (fun i e => ∃ b2 b6 b10 b11 b12 b13 b16 b17 b18 b19, e = [some (.lck, .pot), some (.lck, ofN xs), b2, some (.own, ofN (ordL cs)), some (.own, ofN ts), some (.own, .int (prodN ts : Nat)), b6, some (.own, .tup [.str (Str.ofString "deals"), dealsD (figs cs ts)]), some (.own, .int (cd : Nat)), some (.own, ofN cs), b10, b11, b12, b13, some (.own, .lst ((figs cs (ts.take i)).map ofN)), some (.own, .int (prodN (ts.take i) : Nat)), b16, b17, b18, b19]) ?_ (by have := ht.1; omega) (by simp [srcB]) ?_ ?_ ?_
  · intro Q h
    simp [pvOf, ofN]
    exact h
  · exact ⟨b2, b6, b10, b11, b12, b13, b16, b17, b18, b19, by simp [figs, prodN]⟩
  · rintro i m e1 hm ⟨b2, b6, b10, b11, b12, b13, b16, b17, b18, b19, rfl⟩
    obtain ⟨m1, m30⟩ := ht.2 m (List.mem_of_getElem? hm)
    have e : ts.take (i + 1) = ts.take i ++ [m] := by rw [List.take_add_one, hm]; rfl
    have hP1 := prodN_pos (ts := ts.take i) fun t h => ht.2 t (List.mem_of_mem_take h)
    have hPl : prodN (ts.take i) < 10 ^ 12 := pow30_8 ⟨by have := ht.1; simp; omega, fun t h => ht.2 t (List.mem_of_mem_take h)⟩
    rw [prodN_take hm, e, figs_snoc]
    have hfl : (figs cs (ts.take i)).length ≤ 8 := by rw [figs_len]; have := ht.1; simp; omega
    generalize figs cs (ts.take i) = F at hfl
    generalize prodN (ts.take i) = P at hP1 hPl
    unfold t__law_is_row_right_l2
    simp [stE, flg]
    unfold t__law_is_row_right_c3
    refine vLc_map cs (fun n : Nat => D.int n) (srcs := [(ofN cs, .all 9)]) (fun c => .int ((c / P % m : Nat) : Int)) ?_ (by omega) ?_ ?_
    · intro Q h
      simp [pvOf, ofN] at h ⊢
      exact h
    · intro c hc A B h
      have h2 : P.log2 < 9000 := Nat.lt_trans ((Nat.log2_lt (by omega)).mpr (show P < 2 ^ 64 by omega)) (by decide)
      simp [wipeE, stE, pvOf, flg]
      exact ⟨⟨by omega, h2⟩, by omega, h⟩
    have e2 : (cs.map fun c : Nat => D.int ((c / P % m : Nat) : Int)) = (cs.map fun c => c / P % m).map fun n : Nat => D.int (n : Int) := by simp [Function.comp_def]
    rw [e2]
    generalize cs.map (fun c => c / P % m) = G
    simp [putE, killE]
    exact ⟨by omega, .inr (.inl (small (by omega))), rfl⟩
  · rintro e1 ⟨b2, b6, b10, b11, b12, b13, b16, b17, b18, b19, rfl⟩
    rw [List.take_length]
    unfold t__law_is_row_right_s3
    simp [pvOf, sp_dealt]
    refine ⟨xs, rfl, cs, rfl, ts, rfl, hr, hcl, ht, hmx, hrl (hrl ?_)⟩
    simp [sp_codes_of, pvOf]
    refine ⟨xs, rfl, cs, ts, rfl, rfl, hr, hcl, ht, hcp, neOfN rfl ?_⟩
    simp [sp_behind, pvOf]
    refine ⟨xs, rfl, figs cs ts, rfl, hr, hfo, neOfN hb ?_⟩
    simp
    unfold t__law_is_row_right_s2
    simp [pvOf, stE, flg, sp_behind]
    refine ⟨xs, rfl, figs cs ts, rfl, hr, hfo, ?_⟩
    rw [hb]
    unfold t__law_is_row_right_s1 t__law_is_row_right_c4
    simp only [vIfS_eq, vTest_eq]
    refine lc_falls (f2 := .own) (by decide) rfl (by rw [ordL_len]; omega) (fun c hc => by rw [← hcl]; exact ordL_lt c hc) hord ?_
    simp
    have := row_tail hr q b2 (some (.own, ofN (ordL cs))) (some (.own, ofN ts)) (some (.own, .int (prodN ts : Nat))) b6 (some (Fl.own, .tup [.str (Str.ofString "deals"), dealsD (figs cs ts)])) (some (.own, ofN cs)) (some (.own, ofN (ordL cs))) b11 b12 b13 (some (.own, .lst ((figs cs ts).map ofN))) (some (.own, .int (prodN ts : Nat))) b16 b17 b18 b19
    rw [hcd] at this
    exact this
end K67

namespace K67
open PySem PySem.Spec PyProof.Rows L2 VS
theorem row_great {xs : List Nat} (hr : RowOk xs) {ts : List Nat} (ht : TrOk ts) (hge : ¬ (gl xs).code < prodN ts) {Q : D → Prop} (q : Q (.bl true)) (b2 b3 b6 b7 b10 b11 b12 b13 b14 b15 b16 b17 b18 b19 : Option (Fl × D)) :
    t__law_is_row_right_b2 { nx := t__law_is_row_right_s8 { nx := fun _ => Q .non, rt := Q }, rt := Q } [some (.lck, .pot), some (.lck, ofN xs), b2, b3, some (.own, ofN ts), some (.own, .int (prodN ts : Nat)), b6, b7, some (.own, .int ((gl xs).code : Nat)), some (.own, ofN (gl xs).codes), b10, b11, b12, b13, b14, b15, b16, b17, b18, b19] := by
  have hcl := gl_len hr
  have hx := hr.1
  have hP := prodN_pos ht.2
  have hc1 := gl_code_le hr
  have hn : xs ≠ [] := by
    intro z
    have := (gl_go hr).gi.code
    have hv : vals xs = [] := (vals_nil (vals_lt hr)).mpr z
    rw [hv] at this
    simp at this
    omega
  have hm := gl_max hr hn
  have hcn : (gl xs).codes ≠ [] := by
    intro z
    rw [z] at hcl
    exact hn (List.length_eq_zero_iff.mp hcl.symm)
  unfold t__law_is_row_right_b2
  simp [pvOf, vCaught, spx_dealt]
  refine ⟨xs, rfl, _, rfl, ts, rfl, hr, hcl, ht, fun z => ?_, fun z1 z2 => ?_⟩
  · exfalso
    rcases z with z | z
    · exact hcn z
    · omega
  · rw [hm]
    simp [stE, flg_imm]
    unfold t__law_is_row_right_s5
    simp [pvOf, vIsaE, vValue]
    refine oNeA_tupE ?_
    simp [hn]
    refine ⟨_, _, ⟨rfl, rfl⟩, rfl, ?_⟩
    refine repr_int (by omega) ?_
    refine repr_int (by omega) ?_
    simp
    exact row_tail hr q _ _ _ _ _ _ _ _ _ _ _ _ _ _ _ _ _
theorem oIsNot_t {p q : Prov} {Q : D → Prov → Prop} (h : Q (.bl false) .fresh) : oIsNot (.bl true, p) (.bl true, q) Q := ⟨true, rfl, h⟩
theorem vals_prod {ts : List Nat} (h : ∀ t ∈ ts, 1 ≤ t ∧ t ≤ 6) (hl : ts.length ≤ 4) : TrOk ts := ⟨by omega, fun t ht => by have := h t ht; omega⟩
theorem neBl {a : Bool} {p q : Prov} {Q : D → Prov → Prop} (h : Q (.bl false) .fresh) : oNeA (.bl a, p) (.bl a, q) Q := by
  have e : (D.bl a).eqd (D.bl a) = true := by cases a <;> decide
  have pl : (D.bl a).plain = true := by cases a <;> decide
  refine ⟨pl, pl, ?_⟩
  show Q (.bl (!(D.bl a).eqd (D.bl a))) .fresh
  rw [e]
  exact h
theorem row_top {xs : List Nat} (hr : RowOk xs) {ts : List Nat} (ht : TrOk ts) {Q : D → Prop} (q : Q (.bl true)) (b2 b6 b7 b10 b11 b12 b13 b14 b15 b16 b17 b18 b19 : Option (Fl × D)) :
    t__law_is_row_right_s11 { nx := fun _ => Q .non, rt := Q } [some (.lck, .pot), some (.lck, ofN xs), b2, some (.own, ofN (ordL (gl xs).codes)), some (.own, ofN ts), some (.own, .int (prodN ts : Nat)), b6, b7, some (.own, .int ((gl xs).code : Nat)), some (.own, ofN (gl xs).codes), b10, b11, b12, b13, b14, b15, b16, b17, b18, b19] := by
  unfold t__law_is_row_right_s11
  simp [pvOf, sp_can_set, stE]
  refine ⟨xs, rfl, ts, rfl, hr, ht, ?_⟩
  unfold t__law_is_row_right_s10
  by_cases hc : (gl xs).code < prodN ts
  · have hge : ¬ prodN ts ≤ (gl xs).code := by omega
    have e : setD xs ts = .tup [.str (Str.ofString "deals"), dealsD (figs (gl xs).codes ts)] := by unfold setD; rw [if_pos hc]
    have := row_deals hr ht hc q b2 b6 b10 b11 b12 b13 b14 b15 b16 b17 b18 b19
    simp [e, pvOf, hc]
    refine neBl ?_
    simp
    refine ⟨xs, ts, rfl, rfl, e.symm, hr, ht, oIsNot_t ?_⟩
    simp
    unfold t__law_is_row_right_s9
    simp [pvOf, hc]
    rw [e] at this
    exact this
  · have e : setD xs ts = .tup [.str (Str.ofString "bars"), barsD ((gl xs).bars.take (prodN ts))] := by unfold setD; rw [if_neg hc]
    have hs : ¬ Str.ofString "bars" = Str.ofString "deals" := by decide
    have := row_great hr ht hc q b2 (some (.own, ofN (ordL (gl xs).codes))) b6 (some (.own, setD xs ts)) b10 b11 b12 b13 b14 b15 b16 b17 b18 b19
    simp only [e] at this ⊢
    generalize hB : (gl xs).bars.take (prodN ts) = B at e this ⊢
    simp [pvOf, hc, hs]
    refine neBl ?_
    simp
    refine ⟨xs, ts, rfl, rfl, e.symm, hr, ht, oIsNot_t ?_⟩
    simp
    unfold t__law_is_row_right_s9
    simp [pvOf, hc]
    exact this
theorem row_mid {xs : List Nat} (hr : RowOk xs) {Q : D → Prop} (q : Q (.bl true)) (b2 b4 b5 b6 b7 b10 b11 b12 b13 b14 b15 b16 b17 b18 b19 : Option (Fl × D)) :
    t__law_is_row_right_s14 { nx := fun _ => Q .non, rt := Q } [some (.lck, .pot), some (.lck, ofN xs), b2, some (.own, ofN (ordL (gl xs).codes)), b4, b5, b6, b7, some (.own, .int ((gl xs).code : Nat)), some (.own, ofN (gl xs).codes), b10, b11, b12, b13, b14, b15, b16, b17, b18, b19] := by
  have hcl := gl_len hr
  have hx := hr.1
  have hord := gl_inOrd hr
  unfold t__law_is_row_right_s14 t__law_is_row_right_c1
  simp [pvOf, sp_by_codes, -vB_eq]
  refine ⟨xs, rfl, _, rfl, hr, hcl, neOfN rfl ?_⟩
  simp only [Bool.false_eq_true, if_false]
  refine lc_falls (f2 := .own) (by decide) rfl (by rw [ordL_len]; omega) (fun c hc => by rw [← hcl]; exact ordL_lt c hc) hord ?_
  simp
  unfold t__law_is_row_right_s13
  simp [stE]
  unfold t__law_is_row_right_c2
  refine vLc_any 4 (fun n => 1 ≤ n ∧ n ≤ 6) ?_ (by omega) ?_ ?_
  · intro Q h
    simp [pvOf, sp__law_take]
    intro k hk0 hk1
    obtain ⟨k, rfl⟩ := Int.eq_ofNat_of_zero_le hk0
    have := h k (by omega)
    exact ⟨by omega, by omega, by simpa [rngD_map] using this⟩
  · intro i hi A B h
    simp [wipeE, stE, pvOf, flg, sp__law_take]
    intro k hk0 hk1
    obtain ⟨k, rfl⟩ := Int.eq_ofNat_of_zero_le hk0
    have := h (1 + k) (by omega)
    simpa using this
  · intro ts h1 h2
    have ht := vals_prod h2 h1
    simp [flg]
    unfold t__law_is_row_right_s12
    simp only [vSeq_eq]
    refine vFor_img ts (fun n : Nat => D.int n) (srcs := [(ofN ts, .all 4)]) (fun i e => ∃ b6, e = [some (.lck, .pot), some (.lck, ofN xs), b2, some (.own, ofN (ordL (gl xs).codes)), some (.own, ofN ts), some (.own, .int (prodN (ts.take i) : Nat)), b6, b7, some (.own, .int ((gl xs).code : Nat)), some (.own, ofN (gl xs).codes), b10, b11, b12, b13, b14, b15, b16, b17, b18, b19]) ?_ (by omega) (by simp [srcB]) ⟨b6, by simp [prodN, ofN]⟩ ?_ ?_
    · intro Q h
      simp [pvOf, ofN]
      exact h
    · rintro i m e1 hm ⟨b6, rfl⟩
      have := ht.2 m (List.mem_of_getElem? hm)
      unfold t__law_is_row_right_l1
      simp [stE, flg, pvOf, prodN_take hm]
      exact .inr (.inl (by omega))
    · rintro e1 ⟨b6, rfl⟩
      rw [List.take_length]
      exact row_top hr ht q _ _ _ _ _ _ _ _ _ _ _ _ _
theorem p__law_is_row_right (ds : List D) (Q : D → Prop) (h : sp__law_is_row_right ds Q) : t__law_is_row_right { nx := fun _ => Q .non, rt := Q } (startE ["pot", "row", "told", "order", "tracks", "whole", "many", "paper", "number", "codes", "cars", "caught", "passes", "reach", "deals", "before", "lap", "here", "there", "code"] ds) := by
  unfold sp__law_is_row_right at h
  split at h
  case h_2 => exact h.elim
  obtain ⟨xs, rfl, hr, q⟩ := h
  have hcl := gl_len hr
  have hx := hr.1
  have hc1 := gl_code_le hr
  have hord := gl_inOrd hr
  unfold t__law_is_row_right
  simp [startE, pvOf]
  unfold vAsg
  simp [pvOf, sp__law_codes]
  refine ⟨xs, rfl, hr, ?_⟩
  simp [itPr, stE, flg]
  unfold t__law_is_row_right_s18
  simp [stE, flg, pvOf, sp_least_codes, sp_greatest_codes]
  refine ⟨xs, rfl, hr, ?_⟩
  unfold t__law_is_row_right_s17
  have i0 : atI [D.int ((gl xs).code : Nat), ofN (gl xs).codes, barsD (gl xs).bars] 0 = some (.int ((gl xs).code : Nat)) := rfl
  have i2 : atI [D.int ((gl xs).code : Nat), ofN (gl xs).codes, barsD (gl xs).bars] 2 = some (barsD (gl xs).bars) := rfl
  simp [gD, i0, pvOf]
  refine repr_int (by omega) ?_
  refine repr_int (by omega) ?_
  simp [sp_shows_least_codes]
  refine ⟨xs, rfl, hr, rfl, oIsNot_t ?_⟩
  simp [sp_do_set, pvOf]
  refine ⟨xs, rfl, _, rfl, hr, hcl, ?_⟩
  rw [hord]
  refine oIsNot_t ?_
  simp
  unfold t__law_is_row_right_s16
  simp [pvOf, i2, SZ, sp_shows_least_codes]
  refine ⟨xs, rfl, hr, rfl, oIsNot_t ?_⟩
  simp
  unfold t__law_is_row_right_s15
  simp only [vSeq_eq, vSet_eq, vB_eq, vCons_eq, vNil_eq]
  refine ⟨by simp, ?_⟩
  unfold vSortRng
  simp [pvOf, ofN]
  refine ⟨xs.length, rfl, by omega, .inr ⟨fun i => (((gl xs).codes.getD i.toNat 0 : Nat) : Int), fun i => i, fun n hn => ?_, ?_⟩⟩
  · obtain ⟨k, hk, rfl⟩ : ∃ k : Nat, k < xs.length ∧ n = (k : Int) := by
      simp [intsTo] at hn
      obtain ⟨a, h1, h2⟩ := hn
      exact ⟨a, h1, h2.symm⟩
    simp only [wipeE]
    exact key_codes (i := 9) (j := 20) (f := .own) (g := .lck) rfl rfl (by omega) _ rfl
  rw [← hcl, ord_sortP]
  simp [Function.comp_def, stE, flg]
  exact row_mid hr q _ _ _ _ _ _ _ _ _ _ _ _ _ _ _
end K67

namespace K67
open PySem PySem.Spec PyProof.Rows L2 VS
/-- rows that the law draws -/
def Drawn (m : Nat) (xs : List Nat) : Prop := xs.length ≤ m ∧ ∀ x ∈ xs, 1 ≤ x ∧ x ≤ 40
theorem Drawn.row {m : Nat} {xs : List Nat} (h : Drawn m xs) (hm : m ≤ 30) : RowOk xs := ⟨Nat.le_trans h.1 hm, fun x hx => by have := h.2 x hx; omega⟩
theorem maxN_ge {cs : List Nat} {c : Nat} (h : c ∈ cs) : c ≤ maxN cs := by
  have aux : ∀ (cs : List Nat) (a : Nat), a ≤ cs.foldl max a ∧ ∀ c ∈ cs, c ≤ cs.foldl max a := by
    intro cs
    induction cs with
    | nil => intro a; exact ⟨Nat.le_refl _, fun c h => by cases h⟩
    | cons c cs ih =>
      intro a
      obtain ⟨k1, k2⟩ := ih (max a c)
      refine ⟨by simp only [List.foldl_cons]; omega, fun x hx => ?_⟩
      simp only [List.foldl_cons]
      rcases List.mem_cons.mp hx with rfl | hx
      · omega
      · exact k2 x hx
  exact (aux cs 0).2 c h
theorem maxN_le {cs : List Nat} {m : Nat} (h : ∀ c ∈ cs, c ≤ m) : maxN cs ≤ m := by
  have aux : ∀ (cs : List Nat) (a : Nat), a ≤ m → (∀ c ∈ cs, c ≤ m) → cs.foldl max a ≤ m := by
    intro cs
    induction cs with
    | nil => intro a h _; exact h
    | cons c cs ih =>
      intro a h1 h2
      have := h2 c (by simp)
      exact ih _ (by omega) fun x hx => h2 x (by simp [hx])
  exact aux cs 0 (Nat.zero_le _) h
theorem oMax1_zero {cs : List Nat} {d : D} {p : Prov} {Q : D → Prov → Prop} (hd : d.items = some (D.int 0 :: cs.map fun n : Nat => D.int (n : Int))) (q : Q (.int ((maxN cs : Nat) : Int)) .fresh) : oMax1 [(d, p)] Q := by
  refine ⟨d, p, rfl, 0, cs.map fun n : Nat => (n : Int), by rw [hd]; simp [Function.comp_def], ?_⟩
  have := foldl_max_int cs 0
  rw [show ((0 : Int)) = ((0 : Nat) : Int) from rfl, this]
  exact q
def upL (xs ys : List Nat) : List Nat := xs ++ ys.map (· + maxN xs)
def downL (xs ys : List Nat) : List Nat := xs.map (· + maxN ys) ++ ys
theorem up_row {xs ys : List Nat} (h1 : Drawn 15 xs) (h2 : Drawn 15 ys) : RowOk (upL xs ys) := by
  have hm := maxN_le fun c hc => (h1.2 c hc).2
  have l1 := h1.1
  have l2 := h2.1
  refine ⟨by simp [upL]; omega, fun x hx => ?_⟩
  rcases List.mem_append.mp hx with hx | hx
  · have := h1.2 x hx; omega
  · obtain ⟨y, hy, rfl⟩ := List.mem_map.mp hx
    have := h2.2 y hy; omega
theorem down_row {xs ys : List Nat} (h1 : Drawn 15 xs) (h2 : Drawn 15 ys) : RowOk (downL xs ys) := by
  have hm := maxN_le fun c hc => (h2.2 c hc).2
  have l1 := h1.1
  have l2 := h2.1
  refine ⟨by simp [downL]; omega, fun x hx => ?_⟩
  rcases List.mem_append.mp hx with hx | hx
  · obtain ⟨y, hy, rfl⟩ := List.mem_map.mp hx
    have := h1.2 y hy; omega
  · have := h2.2 x hx; omega
theorem up_code {xs ys : List Nat} (h1 : Drawn 15 xs) (h2 : Drawn 15 ys) : (gl (upL xs ys)).code = (gl xs).code + (gl ys).code :=
  code_up (vals_lt (up_row h1 h2)) (fun x hx => maxN_ge hx) fun y hy => (h2.2 y hy).1
theorem down_code {xs ys : List Nat} (h1 : Drawn 15 xs) (h2 : Drawn 15 ys) : (gl (downL xs ys)).code = (gl xs).code + (gl ys).code + if xs ≠ [] ∧ ys ≠ [] then 1 else 0 :=
  code_down (vals_lt (down_row h1 h2)) (fun x hx => maxN_ge hx) fun y hy => (h1.2 y hy).1
/-- a row of unlike numbers, laid car by car -/
def Unlike (n : Nat) (xs : List Nat) : Prop := xs.length = n ∧ xs.Nodup ∧ ∀ x ∈ xs, 1 ≤ x ∧ x < 3 * n
theorem Unlike.ins {n k : Nat} {xs : List Nat} (h : Unlike n xs) (hk : k ≤ n) : Unlike (n + 1) (xs.take k ++ [3 * n + 1] ++ xs.drop k) := by
  obtain ⟨h1, h2, h3⟩ := h
  have hp : (xs.take k ++ [3 * n + 1] ++ xs.drop k).Perm ((3 * n + 1) :: xs) := by
    rw [List.append_assoc]
    refine (List.perm_middle (a := 3 * n + 1) (l₁ := xs.take k) (l₂ := xs.drop k)).trans ?_
    rw [List.take_append_drop]
  refine ⟨by rw [hp.length_eq]; simp [h1], ?_, fun x hx => ?_⟩
  · rw [hp.nodup_iff, List.nodup_cons]
    exact ⟨fun hm => by have := h3 _ hm; omega, h2⟩
  · rcases List.mem_cons.mp (hp.mem_iff.mp hx) with rfl | hx
    · omega
    · have := h3 x hx; omega
theorem Unlike.row {n : Nat} {xs : List Nat} (h : Unlike n xs) (hn : n ≤ 30) : RowOk xs := ⟨by rw [h.1]; exact hn, fun x hx => by have := h.2.2 x hx; omega⟩
theorem rev_row {xs : List Nat} (h : RowOk xs) : RowOk xs.reverse := ⟨by rw [List.length_reverse]; exact h.1, fun x hx => h.2 x (List.mem_reverse.mp hx)⟩
theorem eul_fit : (List.range 31).all (fun k => ((eulRow k).drop (k + 1)).all (fun x => decide (x = 0)) && (eulRow k).all fun x => decide (x.natAbs < 2 ^ 200)) = true := by decide +kernel
theorem bars_zero {k j : Nat} (hk : k ≤ 30) (h : ¬ j ≤ k) : (eulRow k).getD j 0 = 0 := by
  have := List.all_eq_true.mp eul_fit k (List.mem_range.mpr (by omega))
  simp only [Bool.and_eq_true, List.all_eq_true, decide_eq_true_eq] at this
  rw [List.getD_eq_getElem?_getD]
  cases e : (eulRow k)[j]? with
  | none => rfl
  | some x =>
    refine this.1 x (List.mem_iff_getElem?.mpr ⟨j - (k + 1), ?_⟩)
    rw [List.getElem?_drop, show k + 1 + (j - (k + 1)) = j by omega]
    exact e
theorem bars_fit {k : Nat} (hk : k ≤ 30) (j : Nat) : ((eulRow k).getD j 0).natAbs.log2 < 1920 := by
  have := List.all_eq_true.mp eul_fit k (List.mem_range.mpr (by omega))
  simp only [Bool.and_eq_true, List.all_eq_true, decide_eq_true_eq] at this
  have h2 : ((eulRow k).getD j 0).natAbs < 2 ^ 200 := by
    rw [List.getD_eq_getElem?_getD]
    cases e : (eulRow k)[j]? with
    | none => decide
    | some x => exact this.2 x (List.mem_of_getElem? e)
  by_cases z : ((eulRow k).getD j 0).natAbs = 0
  · rw [z]; decide
  · exact (Nat.log2_lt z).mpr (Nat.lt_trans h2 (by decide))
theorem right_tail {Q : D → Prop} (q : Q (.bl true)) (b1 b2 b3 b4 b5 b6 b7 b8 b9 b10 b11 b12 : Option (Fl × D)) :
    t__law_right_s2 { nx := fun _ => Q .non, rt := Q } [some (.lck, .pot), b1, b2, b3, b4, b5, b6, b7, b8, b9, b10, b11, b12] := by
  unfold t__law_right_s2
  simp [pvOf, sp__law_take]
  intro k hk0 hk1 j hj0 hj1
  obtain ⟨k, rfl⟩ := Int.eq_ofNat_of_zero_le hk0
  obtain ⟨j, rfl⟩ := Int.eq_ofNat_of_zero_le hj0
  simp [stAll, stE, flg]
  unfold t__law_right_s1
  simp [pvOf, sp_bar_count, sp__law_bars]
  refine ⟨k, rfl, j, rfl, by omega, by omega, ?_⟩
  refine VS.repr_int (by have := bars_fit (k := k) (by omega) j; simpa using this) ?_
  by_cases h : j ≤ k
  · simp [h]
    refine ⟨k, rfl, j, rfl, by omega, h, ?_⟩
    refine VS.repr_int (by have := bars_fit (k := k) (by omega) j; simpa using this) ?_
    simp
    exact q
  · have h0 := bars_zero (k := k) (by omega) h
    rw [List.getD_eq_getElem?_getD] at h0
    simp [h, h0]
    refine VS.repr_int (by decide) ?_
    simp
    exact q
theorem seq3 {env : VS.Env} {F : List D → List DP → Prop} {a b : List Nat} {f g h : Fl} (h0 : env[0]? = some (some (f, .pot))) (h4 : env[4]? = some (some (g, ofN a))) (h2 : env[2]? = some (some (h, ofN b))) (k : ∀ ws, RowOk ws → ∀ srcs, F [ofN ws, ofN a, ofN b] srcs) :
    viSeq (vTup (vCons (vCall sp__law_row (vCons (vVar 0) (vCons (vC (.int 30)) vNil))) (vCons (vVar 4) (vCons (vVar 2) vNil)))) env F := by
  simp [h0, h4, h2, sp__law_row, SZ]
  exact fun ws h1 h2 => k ws (Drawn.row (m := 30) ⟨by omega, h2⟩ (Nat.le_refl _)) _
theorem vLc_seq3 {env : VS.Env} {a b : List Nat} {f g h : Fl} {gt : VGt} {tt : VB} {te : VT} {vs : List Nat} {Q : D → Prov → Prop} (h0 : env[0]? = some (some (f, .pot))) (h4 : env[4]? = some (some (g, ofN a))) (h2 : env[2]? = some (some (h, ofN b))) (k : ∀ ws, RowOk ws → vLc (fun _ Q => Q [ofN ws, ofN a, ofN b] []) gt tt te vs env Q) :
    vLc (viSeq (vTup (vCons (vCall sp__law_row (vCons (vVar 0) (vCons (vC (.int 30)) vNil))) (vCons (vVar 4) (vCons (vVar 2) vNil))))) gt tt te vs env Q := by
  unfold vLc at k ⊢
  exact seq3 h0 h4 h2 fun ws hw srcs => k ws hw
theorem right_rows {xs ys : List Nat} (h1 : Drawn 15 xs) (h2 : Drawn 15 ys) {n : Nat} (hn : 1 ≤ n ∧ n ≤ 30) {zs : List Nat} (hz : Unlike n zs) {Q : D → Prop} (q : Q (.bl true)) (b1 b5 b6 b7 b8 b9 b10 b11 b12 : Option (Fl × D)) :
    t__law_right_s4 { nx := fun _ => Q .non, rt := Q } [some (.lck, .pot), b1, some (.own, ofN (downL xs ys)), some (.own, .int (n : Nat)), some (.own, lstN zs), b5, b6, b7, b8, b9, b10, b11, b12] := by
  have hr := hz.row hn.2
  have hrr := rev_row hr
  have hne : zs ≠ [] := by
    intro z
    have := hz.1
    rw [z] at this
    simp at this
    omega
  have hc := code_rev hz.2.1 (vals_lt hr) hne
  rw [hz.1] at hc
  unfold t__law_right_s4
  simp [pvOf, lstN, stE, flg]
  unfold t__law_right_s3
  have i0 : ∀ g : GS, atI [D.int (g.code : Nat), ofN g.codes, barsD g.bars] 0 = some (.int (g.code : Nat)) := fun _ => rfl
  simp [pvOf, sp_least_codes, sp_greatest_codes]
  refine ⟨zs, rfl, hr, ?_⟩
  simp [gD, i0]
  unfold vBack
  simp only [vVar_eq, List.getElem?_cons_succ, List.getElem?_cons_zero, pvOf]
  refine ⟨_, immAll_natsN zs, .inr ⟨rfl, zs.reverse, by simp [ofN], hrr, ?_⟩⟩
  rw [if_pos (by omega)]
  unfold t__law_right_c3
  have hd := down_row h1 h2
  refine vLc_seq3 rfl rfl rfl fun ws hw => ?_
  refine vLc_map [ws, zs, downL xs ys] ofN (srcs := []) (fun _ => .bl true) (fun Q h => h) (by simp) ?_ ?_
  · intro l hl A B h
    have hl : RowOk l := by
      simp at hl
      rcases hl with rfl | rfl | rfl
      · exact hw
      · exact hr
      · exact hd
    simp [wipeE, stE, pvOf, flg, sp__law_is_row_right]
    exact ⟨l, rfl, hl, h⟩
  refine ⟨_, _, rfl, [true, true, true], rfl, ?_⟩
  simp
  exact right_tail q _ _ _ _ _ _ _ _ _ _ _ _
theorem up_lc {xs ys : List Nat} (hy : ys.length ≤ 30) (hx : xs.length ≤ 30) {i j : Nat} {b0 b1 b2 b3 b4 b5 b8 b9 b10 b11 b12 : Option (Fl × D)} {Q : D → Prov → Prop} (q : Q (.lst ((ys.map (· + maxN xs)).map fun n : Nat => D.int (n : Int))) .fresh)
    (h : (i = 6 ∧ j = 7) ∨ (i = 7 ∧ j = 6)) : vLc (viSeq (vVar j)) (gvName 10) vYes (vB oInt (vCons (vOp oAdd (vVar 10) (vB oMax1 (vCons (vOp oAdd (vTup (vCons (vC (.int 0)) vNil)) (vVar i)) vNil))) vNil)) [10]
      [b0, b1, b2, b3, b4, b5, some (.own, if i = 6 then ofN xs else ofN ys), some (.own, if i = 6 then ofN ys else ofN xs), b8, b9, b10, b11, b12] Q := by
  refine vLc_map ys (fun n : Nat => D.int n) (srcs := [(ofN ys, .all j)]) (fun n => .int ((n + maxN xs : Nat) : Int)) ?_ (by omega) ?_ ?_
  · intro Q h'
    rcases h with ⟨rfl, rfl⟩ | ⟨rfl, rfl⟩ <;> simpa [pvOf, ofN] using h'
  · intro n hn A B h'
    have hm : ∀ {p : Prov} {Q : D → Prov → Prop}, Q (.int ((maxN xs : Nat) : Int)) .fresh → oMax1 [(.tup (D.int 0 :: xs.map fun n : Nat => D.int (n : Int)), p)] Q := fun q => oMax1_zero rfl q
    rcases h with ⟨rfl, rfl⟩ | ⟨rfl, rfl⟩
    · simp [wipeE, stE, pvOf, flg, ofN, SZ, oAdd]
      exact ⟨by omega, hm (by simpa using h')⟩
    · simp [wipeE, stE, pvOf, flg, ofN, SZ, oAdd]
      exact ⟨by omega, hm (by simpa using h')⟩
  · simpa [Function.comp_def] using q
theorem right_laid {xs ys : List Nat} (h1 : Drawn 15 xs) (h2 : Drawn 15 ys) {Q : D → Prop} (q : Q (.bl true)) (b3 b4 b5 b10 b11 b12 : Option (Fl × D)) (c1 c2 : Nat) :
    t__law_right_s6 { nx := fun _ => Q .non, rt := Q } [some (.lck, .pot), some (.own, ofN (upL xs ys)), some (.own, ofN (downL xs ys)), b3, b4, b5, some (.own, ofN xs), some (.own, ofN ys), some (.own, .int (c1 : Nat)), some (.own, .int (c2 : Nat)), b10, b11, b12] := by
  unfold t__law_right_s6
  simp [pvOf, sp__law_take, stE, flg, prLst, prOf, SZ]
  intro x hx0 hx1
  obtain ⟨x, rfl⟩ := Int.eq_ofNat_of_zero_le hx0
  unfold t__law_right_s5
  simp only [vSeq_eq]
  refine vFor_img (List.range (1 + x)) (fun i : Nat => D.int i) (srcs := []) (fun i e => ∃ zs b5 b10 b11 b12, Unlike i zs ∧ e = [some (.lck, .pot), some (.own, ofN (upL xs ys)), some (.own, ofN (downL xs ys)), some (.own, .int ((1 : Int) + x)), some (.own, lstN zs), b5, some (.own, ofN xs), some (.own, ofN ys), some (.own, .int (c1 : Nat)), some (.own, .int (c2 : Nat)), b10, b11, b12]) ?_ (by simp; omega) (by simp) ?_ ?_ ?_
  · intro Q h
    have e : ((1 : Int) + (x : Int)).toNat = 1 + x := by omega
    simp [pvOf, rngD_map, e] at h ⊢
    exact ⟨by omega, by omega, h⟩
  · exact ⟨[], b5, b10, b11, b12, ⟨rfl, List.nodup_nil, fun x h => by cases h⟩, by simp [lstN]⟩
  · rintro i m e1 hm ⟨zs, b5, b10, b11, b12, hz, rfl⟩
    obtain ⟨hi, rfl⟩ : i < 1 + x ∧ m = i := by
      obtain ⟨h1, h2⟩ := List.getElem?_eq_some_iff.mp hm
      simp at h1 h2
      exact ⟨h1, h2.symm⟩
    have hzl := hz.1
    unfold t__law_right_l1
    simp [stE, flg, pvOf, lstN, sp__law_take, fIns]
    refine ⟨by omega, fun p hp0 hp1 => ⟨.inl (by decide), _, _, _, _, ⟨⟨rfl, rfl⟩, rfl, rfl⟩, by show _ < 16777216; omega, hp0, by omega, ?_⟩⟩
    obtain ⟨p, rfl⟩ := Int.eq_ofNat_of_zero_le hp0
    rw [absorb_imm rfl]
    have e : (zs.map fun n : Nat => D.int (n : Int)).take p ++ D.int (3 * (m : Int) + 1) :: (zs.map fun n : Nat => D.int (n : Int)).drop p = (zs.take p ++ [3 * m + 1] ++ zs.drop p).map fun n : Nat => D.int (n : Int) := by simp
    simp only [Int.toNat_natCast, e, putE, killE, List.map_cons, List.map_nil, List.set_cons_succ, List.set_cons_zero]
    exact ⟨_, hz.ins (k := p) (by omega), _, _, _, _, rfl⟩
  · rintro e1 ⟨zs, b5, b10, b11, b12, hz, rfl⟩
    have hz : Unlike (1 + x) zs := by simpa using hz
    have := right_rows h1 h2 (n := 1 + x) ⟨by omega, by omega⟩ hz q (some (.own, ofN (upL xs ys))) b5 (some (.own, ofN xs)) (some (.own, ofN ys)) (some (.own, .int (c1 : Nat))) (some (.own, .int (c2 : Nat))) b10 b11 b12
    simpa using this
theorem right_mid {xs ys : List Nat} (h1 : Drawn 15 xs) (h2 : Drawn 15 ys) {Q : D → Prop} (q : Q (.bl true)) (b3 b4 b5 b10 b11 b12 : Option (Fl × D)) :
    t__law_right_s7 { nx := fun _ => Q .non, rt := Q } [some (.lck, .pot), some (.own, ofN (upL xs ys)), some (.own, ofN (downL xs ys)), b3, b4, b5, some (.own, ofN xs), some (.own, ofN ys), some (.own, .int ((gl xs).code : Nat)), some (.own, .int ((gl ys).code : Nat)), b10, b11, b12] := by
  have hu := up_row h1 h2
  have hd := down_row h1 h2
  have eu := up_code h1 h2
  have ed := down_code h1 h2
  have i0 : ∀ g : GS, atI [D.int (g.code : Nat), ofN g.codes, barsD g.bars] 0 = some (.int (g.code : Nat)) := fun _ => rfl
  unfold t__law_right_s7
  simp [pvOf, sp_least_codes, sp_greatest_codes]
  refine ⟨_, rfl, hu, ?_⟩
  simp [gD, i0, eu]
  refine ⟨_, rfl, hd, ?_⟩
  have fin := right_laid h1 h2 q b3 b4 b5 b10 b11 b12 (gl xs).code (gl ys).code
  refine oNeA_tupE ?_
  by_cases hx : xs = []
  · rw [if_neg (by simp [hx])] at ed
    simp only [hx, ne_eq, not_true_eq_false, decide_false, Bool.false_eq_true, if_false]
    rw [← hx, if_pos (by omega)]
    exact fin
  · by_cases hy : ys = []
    · rw [if_neg (by simp [hy])] at ed
      simp only [hx, ne_eq, not_false_eq_true, decide_true, if_true]
      refine oNeA_tupE ?_
      have e : decide (ys ≠ []) = false := by simp [hy]
      rw [e]
      simp
      rw [if_pos (by omega)]
      exact fin
    · rw [if_pos ⟨hx, hy⟩] at ed
      simp only [hx, ne_eq, not_false_eq_true, decide_true, if_true]
      refine oNeA_tupE ?_
      have e : decide (ys ≠ []) = true := by simp [hy]
      rw [e]
      simp
      rw [if_pos (by omega)]
      exact fin
theorem lcA {xs ys : List Nat} (hy : ys.length ≤ 30) (hx : xs.length ≤ 30) {b0 b1 b2 b3 b4 b5 b8 b9 b10 b11 b12 : Option (Fl × D)} {Q : D → Prov → Prop} (q : Q (.lst ((ys.map (· + maxN xs)).map fun n : Nat => D.int (n : Int))) .fresh) :
    t__law_right_c1 [b0, b1, b2, b3, b4, b5, some (.own, ofN xs), some (.own, ofN ys), b8, b9, b10, b11, b12] Q := by
  have := up_lc (b0 := b0) (b1 := b1) (b2 := b2) (b3 := b3) (b4 := b4) (b5 := b5) (b8 := b8) (b9 := b9) (b10 := b10) (b11 := b11) (b12 := b12) hy hx q (.inl ⟨rfl, rfl⟩)
  rw [if_pos rfl, if_pos rfl] at this
  exact this
theorem lcB {xs ys : List Nat} (hy : ys.length ≤ 30) (hx : xs.length ≤ 30) {b0 b1 b2 b3 b4 b5 b8 b9 b10 b11 b12 : Option (Fl × D)} {Q : D → Prov → Prop} (q : Q (.lst ((xs.map (· + maxN ys)).map fun n : Nat => D.int (n : Int))) .fresh) :
    t__law_right_c2 [b0, b1, b2, b3, b4, b5, some (.own, ofN xs), some (.own, ofN ys), b8, b9, b10, b11, b12] Q := by
  have := up_lc (xs := ys) (ys := xs) (b0 := b0) (b1 := b1) (b2 := b2) (b3 := b3) (b4 := b4) (b5 := b5) (b8 := b8) (b9 := b9) (b10 := b10) (b11 := b11) (b12 := b12) hx hy q (.inr ⟨rfl, rfl⟩)
  rw [if_neg (by decide), if_neg (by decide)] at this
  exact this
theorem oAdd_ofN {a b : List Nat} (h : a.length + b.length ≤ 1000) {p q : Prov} {Q : D → Prov → Prop} (k : Q (ofN (a ++ b)) .fresh) : oAdd (ofN a, p) (ofN b, q) Q := by
  unfold ofN
  simp [oAdd, SZ]
  refine ⟨by omega, ?_⟩
  simpa [ofN] using k
theorem p__law_right (ds : List D) (Q : D → Prop) (h : sp__law_right ds Q) : t__law_right { nx := fun _ => Q .non, rt := Q } (startE ["pot", "up", "down", "many", "row", "lap", "one", "other", "first", "second", "number", "bars", "its"] ds) := by
  unfold sp__law_right at h
  split at h
  case h_2 => exact h.elim
  rename_i q
  unfold t__law_right
  simp [startE, pvOf]
  unfold vAsg
  simp [pvOf, sp__law_row, SZ]
  intro xs hx1 hx2 ys hy1 hy2
  have h1 : Drawn 15 xs := ⟨by omega, hx2⟩
  have h2 : Drawn 15 ys := ⟨by omega, hy2⟩
  have r1 := h1.row (by omega)
  have r2 := h2.row (by omega)
  simp [itPr, stE, flg, prOf]
  unfold t__law_right_s10
  simp [pvOf, sp__law_codes]
  refine ⟨xs, rfl, r1, ?_⟩
  refine ⟨ys, rfl, r2, ?_⟩
  simp [stAll, stE, flg]
  unfold t__law_right_s9
  simp only [vSeq_eq, vSet_eq, vOp_eq, vB_eq, vCons_eq, vNil_eq, vVar_eq, List.getElem?_cons_succ, List.getElem?_cons_zero]
  refine ⟨by simp, ?_⟩
  refine lcA (by omega) (by omega) ⟨_, _, rfl, _, rfl, immAll_natsN _, ?_⟩
  refine oAdd_ofN (by simp; omega) ?_
  simp only [stE, flg, List.set_cons_succ, List.set_cons_zero]
  unfold t__law_right_s8
  simp only [vSeq_eq, vSet_eq, vOp_eq, vB_eq, vCons_eq, vNil_eq, vVar_eq, List.getElem?_cons_succ, List.getElem?_cons_zero]
  refine ⟨by simp, ?_⟩
  refine lcB (by omega) (by omega) ⟨_, _, rfl, _, rfl, immAll_natsN _, ?_⟩
  refine oAdd_ofN (by simp; omega) ?_
  simp only [stE, flg, List.set_cons_succ, List.set_cons_zero]
  exact right_mid h1 h2 h _ _ _ _ _ _
end K67

set_option maxHeartbeats 400000
namespace K67
open PySem PySem.Spec PyProof.Rows L2 VS
theorem p_law (ds : List D) (Q : D → Prop) (h : sp_law ds Q) : t_law { nx := fun _ => Q .non, rt := Q } (startE ["script", "place"] ds) := by
  unfold sp_law at h
  split at h
  case h_2 => exact h.elim
  obtain ⟨xs, rfl, hl, hb, q⟩ := h
  unfold t_law
  simp [startE, stE, pvOf]
  unfold vFor
  simp [pvOf, sp__law_cells]
  refine ⟨hl, fun k hk1 hk2 => ⟨by simp [rngL, rngD_map, SZ]; omega, rfl, ?_⟩⟩
  refine ⟨fun i e => ∃ a, e = [some (.lck, .rol (xs.map D.int)), a], ⟨_, rfl⟩, ?_, ?_⟩
  · rintro i d e1 hd ⟨a, rfl⟩
    have ed : d = .int i ∧ i < k := by
      simp only [rngL, rngD_map, List.getElem?_map] at hd
      cases e : (List.range ((k : Int) - 0).toNat)[i]? with
      | none => rw [e] at hd; cases hd
      | some x =>
        obtain ⟨h1, h2⟩ := List.getElem?_eq_some_iff.mp e
        simp at h1 h2
        rw [e] at hd
        cases hd
        subst h2
        exact ⟨by simp, by omega⟩
    obtain ⟨rfl, hi⟩ := ed
    unfold t_law_l1
    simp [stE, pvOf, sp__law_pot, flg, sp__law_right]
    exact ⟨xs, rfl, by omega, hb⟩
  · rintro e1 ⟨a, rfl⟩
    exact q
theorem pot_of (ds : List D) (Q : D → Prop) (q : sp__law_pot ds Q) : sp__law_pot0 ds fun d => ∃ x y, d = .lst [.int x, .int y, .int 0] ∧ potB 0 x ∧ potB 1 y ∧ Q .pot := by
  unfold sp__law_pot at q
  split at q
  · obtain ⟨xs, e, h0, h1, h2, q⟩ := q
    exact ⟨xs, e, h0, h1, h2, fun x y hx hy => ⟨x, y, rfl, hx, hy, q⟩⟩
  · exact q.elim
theorem dealt_of (ds : List D) (Q : D → Prop) (q : sp_dealt ds Q) : spx_dealt ds Q fun _ _ => False := by
  unfold sp_dealt at q
  split at q
  · obtain ⟨xs, cs, ts, e1, e2, e3, h1, h2, h3, h4, q⟩ := q
    exact ⟨xs, cs, ts, e1, e2, e3, h1, h2, h3, fun _ => q, fun z => z h4⟩
  · exact q.elim
end K67

set_option maxHeartbeats 4000000
namespace K67
open PySem PySem.Spec PyProof.Rows L2 VS
def top (i : Nat) : Stmt := PySem.Challenge.pw_tracksenough_k67_whole_codes_value_by_va.main.body.getD i (.Pass ⟨0, 0, 0, 0⟩)
theorem S_is_integer : FnScope ["value"] ["value"] (defScope (top 9)) := ⟨rfl, rfl, rfl, by decide +kernel, rfl, by decide +kernel, by decide +kernel⟩
theorem b_is_integer {P : Program} {w : World} {K : PySem.W.Frag} {mg : Str → Option Value} {base : Heap} {k : Nat}  (f : Addr) (cdv : Value) (A : Around) (outer : List PySem.Env) (s : Shared) (H : Hp) (E : XK) (R : RC) (B : Blt mg)    
     (hG : A.guards = some []) (hr : Room k (A.deeper (envOfC "is_integer" (defScope (top 9)) s.heap.objs.size f cdv))) :
    VSs (cxOf (L2.CX P w) P w K mg base ["value"] "is_integer" (defScope (top 9)) f cdv A outer s H E).nox R 0 (defBody (top 9)) t_is_integer := by
  have S := S_is_integer
  have hu : (A.deeper (envOfC "is_integer" (defScope (top 9)) s.heap.objs.size f cdv)).units + 64 < cLine := by have := hr.un; omega
  exact VSs.cost (c' := 0) (vs_one (vs_ret (ve_and (ve_isa (T := "int") (by simp) (ve_var 0) B.isinstance B.int bt_int) (ve_and1 (ve_not (ve_isa (T := "bool") (by simp) (ve_var 0) B.isinstance B.bool bt_bool)))))) (by decide +kernel)

theorem S_is_between : FnScope ["value", "low", "high"] ["value", "low", "high"] (defScope (top 10)) := ⟨rfl, rfl, rfl, by decide +kernel, rfl, by decide +kernel, by decide +kernel⟩
theorem b_is_between {P : Program} {w : World} {K : PySem.W.Frag} {mg : Str → Option Value} {base : Heap} {k : Nat}  (f : Addr) (cdv : Value) (A : Around) (outer : List PySem.Env) (s : Shared) (H : Hp) (E : XK) (R : RC) (B : Blt mg)  (F_is_integer : Cal R.T P w K mg base k "is_integer" ["value"] 0 sp_is_integer)  
     (hG : A.guards = some []) (hr : Room k (A.deeper (envOfC "is_between" (defScope (top 10)) s.heap.objs.size f cdv))) :
    VSs (cxOf (L2.CX P w) P w K mg base ["value", "low", "high"] "is_between" (defScope (top 10)) f cdv A outer s H E).nox R 0 (defBody (top 10)) t_is_between := by
  have S := S_is_between
  have hu : (A.deeper (envOfC "is_between" (defScope (top 10)) s.heap.objs.size f cdv)).units + 64 < cLine := by have := hr.un; omega
  exact VSs.cost (c' := 0) (vs_one (vs_ret (ve_and (ve_fn F_is_integer hG hr (vl_cons (ve_var 0) vl_nil)) (ve_and1 (ve_chain op_le op_le l_cmp l_cmp (ve_var 1) (ve_var 0) (ve_var 2)))))) (by decide +kernel)

theorem S_is_row : FnScope ["value", "number"] ["value"] (defScope (top 14)) := ⟨rfl, rfl, rfl, by decide +kernel, rfl, by decide +kernel, by decide +kernel⟩
theorem b_is_row {P : Program} {w : World} {K : PySem.W.Frag} {mg : Str → Option Value} {base : Heap} {k : Nat}  (f : Addr) (cdv : Value) (A : Around) (outer : List PySem.Env) (s : Shared) (H : Hp) (E : XK) (R : RC) (B : Blt mg)  (F_is_between : Cal R.T P w K mg base k "is_between" ["value", "low", "high"] 0 sp_is_between) (hI_MOST_CARS : ∃ t, mg "MOST_CARS" = some (.int 30 t)) (hI_MOST_NUMBER : ∃ t, mg "MOST_NUMBER" = some (.int 99 t)) 
     (hG : A.guards = some []) (hr : Room k (A.deeper (envOfC "is_row" (defScope (top 14)) s.heap.objs.size f cdv))) :
    VSs (cxOf (L2.CX P w) P w K mg base ["value", "number"] "is_row" (defScope (top 14)) f cdv A outer s H E).nox R 0 (defBody (top 14)) t_is_row := by
  have S := S_is_row
  have hu : (A.deeper (envOfC "is_row" (defScope (top 14)) s.heap.objs.size f cdv)).units + 64 < cLine := by have := hr.un; omega
  exact VSs.cost (c' := 0) (vs_cons (vs_if (vc_w (vw_or (vc_not (vc_val (ve_isa (T := "tuple") (by simp) (ve_var 0) B.isinstance B.tuple bt_tuple))) (vw_or1 (vc_gt (ve_callB call_len_seq l_len B.len bt_len (vl_cons (ve_var 0) vl_nil)) (ve_globI hI_MOST_CARS.choose_spec))))) (vs_one (vs_ret ve_bl)) vs_nil)
  (vs_one (vs_ret (ve_callB (cr_all rfl) l_all B.all bt_all (vl_cons (ve_lc (own := [("number", 1)]) rfl S.nd (vi_seq (ve_var 0)) (blkOk_by (by rfl)) (fun s H C cl fp => (vg_name (i := 1) S.nd)) (fun s H C cl fp => vts_nil) (fun s H C cl fp => (ve_fn F_is_between hG hr (vl_cons (ve_var 1) (vl_cons ve_int (vl_cons (ve_globI hI_MOST_NUMBER.choose_spec) vl_nil)))))) vl_nil))))) (by decide +kernel)

theorem S_check_row : FnScope ["value"] ["value"] (defScope (top 15)) := ⟨rfl, rfl, rfl, by decide +kernel, rfl, by decide +kernel, by decide +kernel⟩
theorem b_check_row {P : Program} {w : World} {K : PySem.W.Frag} {mg : Str → Option Value} {base : Heap} {k : Nat}  (f : Addr) (cdv : Value) (A : Around) (outer : List PySem.Env) (s : Shared) (H : Hp) (E : XK) (R : RC) (B : Blt mg)  (F_is_row : Cal R.T P w K mg base k "is_row" ["value"] 0 sp_is_row)  
     (hG : A.guards = some []) (hr : Room k (A.deeper (envOfC "check_row" (defScope (top 15)) s.heap.objs.size f cdv))) :
    VSs (cxOf (L2.CX P w) P w K mg base ["value"] "check_row" (defScope (top 15)) f cdv A outer s H E).nox R 0 (defBody (top 15)) t_check_row := by
  have S := S_check_row
  have hu : (A.deeper (envOfC "check_row" (defScope (top 15)) s.heap.objs.size f cdv)).units + 64 < cLine := by have := hr.un; omega
  exact VSs.cost (c' := 0) (vs_one (vs_if (vc_not (vc_val (ve_fn F_is_row hG hr (vl_cons (ve_var 0) vl_nil)))) vss_never vs_nil)) (by decide +kernel)

theorem S_check_upto : FnScope ["value", "most"] ["value", "most"] (defScope (top 17)) := ⟨rfl, rfl, rfl, by decide +kernel, rfl, by decide +kernel, by decide +kernel⟩
theorem b_check_upto {P : Program} {w : World} {K : PySem.W.Frag} {mg : Str → Option Value} {base : Heap} {k : Nat}  (f : Addr) (cdv : Value) (A : Around) (outer : List PySem.Env) (s : Shared) (H : Hp) (E : XK) (R : RC) (B : Blt mg)  (F_is_between : Cal R.T P w K mg base k "is_between" ["value", "low", "high"] 0 sp_is_between)  
     (hG : A.guards = some []) (hr : Room k (A.deeper (envOfC "check_upto" (defScope (top 17)) s.heap.objs.size f cdv))) :
    VSs (cxOf (L2.CX P w) P w K mg base ["value", "most"] "check_upto" (defScope (top 17)) f cdv A outer s H E).nox R 0 (defBody (top 17)) t_check_upto := by
  have S := S_check_upto
  have hu : (A.deeper (envOfC "check_upto" (defScope (top 17)) s.heap.objs.size f cdv)).units + 64 < cLine := by have := hr.un; omega
  exact VSs.cost (c' := 0) (vs_one (vs_if (vc_not (vc_val (ve_fn F_is_between hG hr (vl_cons (ve_var 0) (vl_cons ve_int (vl_cons (ve_var 1) vl_nil)))))) vss_never vs_nil)) (by decide +kernel)

theorem S_product : FnScope ["numbers", "found", "number"] ["numbers"] (defScope (top 18)) := ⟨rfl, rfl, rfl, by decide +kernel, rfl, by decide +kernel, by decide +kernel⟩
theorem b_product {P : Program} {w : World} {K : PySem.W.Frag} {mg : Str → Option Value} {base : Heap} {k : Nat}  (f : Addr) (cdv : Value) (A : Around) (outer : List PySem.Env) (s : Shared) (H : Hp) (E : XK) (R : RC) (B : Blt mg)    
     (hG : A.guards = some []) (hr : Room k (A.deeper (envOfC "product" (defScope (top 18)) s.heap.objs.size f cdv))) :
    VSs (cxOf (L2.CX P w) P w K mg base ["numbers", "found", "number"] "product" (defScope (top 18)) f cdv A outer s H E).nox R 0 (defBody (top 18)) t_product := by
  have S := S_product
  have hu : (A.deeper (envOfC "product" (defScope (top 18)) s.heap.objs.size f cdv)).units + 64 < cLine := by have := hr.un; omega
  exact VSs.cost (c' := 0) (vs_cons (vs_set (i := 1) S.nd ve_int)
  (vs_cons (vs_for PassesOwn.never rfl (vi_seq (ve_var 0)) (vg_name (i := 2) S.nd) (vs_one (vs_set (i := 1) S.nd (ve_mulB (ve_var 1) (ve_var 2)))))
  (vs_one (vs_ret (ve_var 1))))) (by decide +kernel)

theorem S_are_codes : FnScope ["row", "value", "code"] ["row", "value"] (defScope (top 22)) := ⟨rfl, rfl, rfl, by decide +kernel, rfl, by decide +kernel, by decide +kernel⟩
theorem b_are_codes {P : Program} {w : World} {K : PySem.W.Frag} {mg : Str → Option Value} {base : Heap} {k : Nat}  (f : Addr) (cdv : Value) (A : Around) (outer : List PySem.Env) (s : Shared) (H : Hp) (E : XK) (R : RC) (B : Blt mg)  (F_is_integer : Cal R.T P w K mg base k "is_integer" ["value"] 0 sp_is_integer)  
     (hG : A.guards = some []) (hr : Room k (A.deeper (envOfC "are_codes" (defScope (top 22)) s.heap.objs.size f cdv))) :
    VSs (cxOf (L2.CX P w) P w K mg base ["row", "value", "code"] "are_codes" (defScope (top 22)) f cdv A outer s H E).nox R 0 (defBody (top 22)) t_are_codes := by
  have S := S_are_codes
  have hu : (A.deeper (envOfC "are_codes" (defScope (top 22)) s.heap.objs.size f cdv)).units + 64 < cLine := by have := hr.un; omega
  exact VSs.cost (c' := 0) (vs_cons (vs_if (vc_w (vw_or (vc_not (vc_val (ve_isa (T := "tuple") (by simp) (ve_var 1) B.isinstance B.tuple bt_tuple))) (vw_or1 (vc_neA hu (ve_callB call_len_seq l_len B.len bt_len (vl_cons (ve_var 1) vl_nil)) (ve_callB call_len_seq l_len B.len bt_len (vl_cons (ve_var 0) vl_nil)))))) (vs_one (vs_ret ve_bl)) vs_nil)
  (vs_one (vs_ret (ve_callB (cr_all rfl) l_all B.all bt_all (vl_cons (ve_lc (own := [("code", 2)]) rfl S.nd (vi_seq (ve_var 1)) (blkOk_by (by rfl)) (fun s H C cl fp => (vg_name (i := 2) S.nd)) (fun s H C cl fp => vts_nil) (fun s H C cl fp => (ve_and (ve_fn F_is_integer hG hr (vl_cons (ve_var 2) vl_nil)) (ve_and1 (ve_ge (ve_var 2) ve_int))))) vl_nil))))) (by decide +kernel)

theorem S_check_codes : FnScope ["row", "value"] ["row", "value"] (defScope (top 23)) := ⟨rfl, rfl, rfl, by decide +kernel, rfl, by decide +kernel, by decide +kernel⟩
theorem b_check_codes {P : Program} {w : World} {K : PySem.W.Frag} {mg : Str → Option Value} {base : Heap} {k : Nat}  (f : Addr) (cdv : Value) (A : Around) (outer : List PySem.Env) (s : Shared) (H : Hp) (E : XK) (R : RC) (B : Blt mg)  (F_are_codes : Cal R.T P w K mg base k "are_codes" ["row", "value"] 0 sp_are_codes)  
     (hG : A.guards = some []) (hr : Room k (A.deeper (envOfC "check_codes" (defScope (top 23)) s.heap.objs.size f cdv))) :
    VSs (cxOf (L2.CX P w) P w K mg base ["row", "value"] "check_codes" (defScope (top 23)) f cdv A outer s H E).nox R 0 (defBody (top 23)) t_check_codes := by
  have S := S_check_codes
  have hu : (A.deeper (envOfC "check_codes" (defScope (top 23)) s.heap.objs.size f cdv)).units + 64 < cLine := by have := hr.un; omega
  exact VSs.cost (c' := 0) (vs_one (vs_if (vc_not (vc_val (ve_fn F_are_codes hG hr (vl_cons (ve_var 0) (vl_cons (ve_var 1) vl_nil))))) vss_never vs_nil)) (by decide +kernel)

theorem S_ordered : FnScope ["codes"] ["codes"] (defScope (top 24)) := ⟨rfl, rfl, rfl, by decide +kernel, rfl, by decide +kernel, by decide +kernel⟩
theorem b_ordered {P : Program} {w : World} {K : PySem.W.Frag} {mg : Str → Option Value} {base : Heap} {k : Nat}  (f : Addr) (cdv : Value) (A : Around) (outer : List PySem.Env) (s : Shared) (H : Hp) (E : XK) (R : RC) (B : Blt mg) (h1 : 1 ≤ k) (Tf : TabF R.T K mg base "ordered") (hz : mg "ordered" = some (.ref f)) (hcd : CodeAt K f cdv)   
     (hG : A.guards = some []) (hr : Room k (A.deeper (envOfC "ordered" (defScope (top 24)) s.heap.objs.size f cdv))) :
    VSs (cxOf (L2.CX P w) P w K mg base ["codes"] "ordered" (defScope (top 24)) f cdv A outer s H E).nox R 0 (defBody (top 24)) t_ordered := by
  have S := S_ordered
  have hu : (A.deeper (envOfC "ordered" (defScope (top 24)) s.heap.objs.size f cdv)).units + 64 < cLine := by have := hr.un; omega
  exact VSs.cost (c' := 0) (vs_one (vs_ret (ve_callT call_tuple_of l_tuple B.tuple bt_tuple (vl_cons (ve_sortRng (a := "car") [] Tf hz hcd rfl rfl (lamP_by (by rfl)) (hvs_by (by rfl)) rfl (hr.mono h1) (ve_callB call_len_seq l_len B.len bt_len (vl_cons (ve_var 0) vl_nil)) (fun A L0 f c => (vek_pair (vek_ix (vek_var 0) (vek_var 1)) (vek_var 1))) B.sorted B.range) vl_nil)))) (by decide +kernel)

theorem S_is_in_order : FnScope ["row", "cars", "one", "other"] ["row", "cars"] (defScope (top 25)) := ⟨rfl, rfl, rfl, by decide +kernel, rfl, by decide +kernel, by decide +kernel⟩
theorem b_is_in_order {P : Program} {w : World} {K : PySem.W.Frag} {mg : Str → Option Value} {base : Heap} {k : Nat}  (f : Addr) (cdv : Value) (A : Around) (outer : List PySem.Env) (s : Shared) (H : Hp) (E : XK) (R : RC) (B : Blt mg)    
     (hG : A.guards = some []) (hr : Room k (A.deeper (envOfC "is_in_order" (defScope (top 25)) s.heap.objs.size f cdv))) :
    VSs (cxOf (L2.CX P w) P w K mg base ["row", "cars", "one", "other"] "is_in_order" (defScope (top 25)) f cdv A outer s H E).nox R 0 (defBody (top 25)) t_is_in_order := by
  have S := S_is_in_order
  have hu : (A.deeper (envOfC "is_in_order" (defScope (top 25)) s.heap.objs.size f cdv)).units + 64 < cLine := by have := hr.un; omega
  exact VSs.cost (c' := 0) (vs_one (vs_ret (ve_callB (cr_all rfl) l_all B.all bt_all (vl_cons (ve_lc (own := [("one", 2), ("other", 3)]) rfl S.nd (vi_zip (vl_cons (ve_var 1) (vl_cons (ve_slice (ve_var 1) (vp_some ve_int) vp_no) vl_nil)) B.zip) (blkOk_by (by rfl)) (fun s H C cl fp => (vg_tup rfl (vgs_cons (i := 2) S.nd (vgs_cons (i := 3) S.nd vgs_nil)) (len_cons (len_cons len_nil)))) (fun s H C cl fp => vts_nil) (fun s H C cl fp => (ve_le (ve_ix (ve_var 0) (ve_var 2)) (ve_ix (ve_var 0) (ve_var 3))))) vl_nil)))) (by decide +kernel)

theorem S_are_bars : FnScope ["row", "value", "links", "one", "other", "pair", "later"] ["row", "value"] (defScope (top 26)) := ⟨rfl, rfl, rfl, by decide +kernel, rfl, by decide +kernel, by decide +kernel⟩
theorem b_are_bars {P : Program} {w : World} {K : PySem.W.Frag} {mg : Str → Option Value} {base : Heap} {k : Nat}  (f : Addr) (cdv : Value) (A : Around) (outer : List PySem.Env) (s : Shared) (H : Hp) (E : XK) (R : RC) (B : Blt mg)  (F_is_between : Cal R.T P w K mg base k "is_between" ["value", "low", "high"] 0 sp_is_between)  
     (hG : A.guards = some []) (hr : Room k (A.deeper (envOfC "are_bars" (defScope (top 26)) s.heap.objs.size f cdv))) :
    VSs (cxOf (L2.CX P w) P w K mg base ["row", "value", "links", "one", "other", "pair", "later"] "are_bars" (defScope (top 26)) f cdv A outer s H E).nox R 0 (defBody (top 26)) t_are_bars := by
  have S := S_are_bars
  have hu : (A.deeper (envOfC "are_bars" (defScope (top 26)) s.heap.objs.size f cdv)).units + 64 < cLine := by have := hr.un; omega
  exact VSs.cost (c' := 0) (vs_cons (vs_if (vc_w (vw_or (vc_not (vc_val (ve_isa (T := "tuple") (by simp) (ve_var 1) B.isinstance B.tuple bt_tuple))) (vw_or1 (vc_not (vc_val (ve_callB (cr_all rfl) l_all B.all bt_all (vl_cons (ve_lc (own := [("pair", 5)]) rfl S.nd (vi_seq (ve_var 1)) (blkOk_by (by rfl)) (fun s H C cl fp => (vg_name (i := 5) S.nd)) (fun s H C cl fp => vts_nil) (fun s H C cl fp => (ve_and (ve_isa (T := "tuple") (by simp) (ve_var 5) B.isinstance B.tuple bt_tuple) (ve_and1 (ve_eqA hu (ve_callB call_len_seq l_len B.len bt_len (vl_cons (ve_var 5) vl_nil)) ve_int))))) vl_nil))))))) (vs_one (vs_ret ve_bl)) vs_nil)
  (vs_cons (vs_for PassesOwn.never rfl (vi_seq (ve_var 1)) (vg_tup rfl (vgs_cons (i := 3) S.nd (vgs_cons (i := 4) S.nd vgs_nil)) (len_cons (len_cons len_nil))) (vs_one (vs_if (vc_w (vw_or (vc_not (vc_val (ve_fn F_is_between hG hr (vl_cons (ve_var 3) (vl_cons ve_int (vl_cons (ve_sub (ve_callB call_len_seq l_len B.len bt_len (vl_cons (ve_var 0) vl_nil)) ve_int) vl_nil)))))) (vw_or (vc_not (vc_val (ve_fn F_is_between hG hr (vl_cons (ve_var 4) (vl_cons ve_int (vl_cons (ve_sub (ve_var 3) ve_int) vl_nil)))))) (vw_or1 (vc_le (ve_ix (ve_var 0) (ve_var 4)) (ve_ix (ve_var 0) (ve_var 3))))))) (vs_one (vs_ret ve_bl)) vs_nil)))
  (vss_zipAll (own := [("pair", 5), ("later", 6)]) 2 rfl S.nd (vl_cons (ve_var 1) (vl_cons (ve_slice (ve_var 1) (vp_some ve_int) vp_no) vl_nil)) (blkOk_by (by rfl)) (fun s H C cl fp => (vg_tup rfl (vgs_cons (i := 5) S.nd (vgs_cons (i := 6) S.nd vgs_nil)) (len_cons (len_cons len_nil)))) (fun s H C cl fp => vts_nil) (fun s H C cl fp => (ve_or (ve_eqA hu (ve_ix (ve_var 6) ve_int) (ve_ix (ve_var 5) ve_int)) (ve_or1 (ve_gt (ve_ix (ve_var 0) (ve_ix (ve_var 6) ve_int)) (ve_ix (ve_var 0) (ve_ix (ve_var 5) ve_int)))))) B.zip B.all))) (by decide +kernel)

theorem S_greatest_codes : FnScope ["row", "number", "codes", "bars", "code", "last", "cars", "behind", "ahead", "car"] ["row"] (defScope (top 27)) := ⟨rfl, rfl, rfl, by decide +kernel, rfl, by decide +kernel, by decide +kernel⟩
theorem b_greatest_codes {P : Program} {w : World} {K : PySem.W.Frag} {mg : Str → Option Value} {base : Heap} {k : Nat}  (f : Addr) (cdv : Value) (A : Around) (outer : List PySem.Env) (s : Shared) (H : Hp) (E : XK) (R : RC) (B : Blt mg)    
     (hG : A.guards = some []) (hr : Room k (A.deeper (envOfC "greatest_codes" (defScope (top 27)) s.heap.objs.size f cdv))) :
    VSs (cxOf (L2.CX P w) P w K mg base ["row", "number", "codes", "bars", "code", "last", "cars", "behind", "ahead", "car"] "greatest_codes" (defScope (top 27)) f cdv A outer s H E).nox R 0 (defBody (top 27)) t_greatest_codes := by
  have S := S_greatest_codes
  have hu : (A.deeper (envOfC "greatest_codes" (defScope (top 27)) s.heap.objs.size f cdv)).units + 64 < cLine := by have := hr.un; omega
  exact VSs.cost (c' := 0) (vs_cons (vs_asg (ve_tupF (vl_cons (ve_mulB (ve_lst (vl_cons ve_int vl_nil)) (ve_callB call_len_seq l_len B.len bt_len (vl_cons (ve_var 0) vl_nil))) (vl_cons (ve_lst vl_nil) (vl_cons ve_int (vl_cons ve_non vl_nil))))) (vg_tup rfl (vgs_cons (i := 2) S.nd (vgs_cons (i := 3) S.nd (vgs_cons (i := 4) S.nd (vgs_cons (i := 5) S.nd vgs_nil)))) (len_cons (len_cons (len_cons (len_cons len_nil))))))
  (vs_cons (vs_for PassesOwn.never rfl (vi_seq (ve_sortSet rfl (ve_var 0) B.sorted B.set)) (vg_name (i := 1) S.nd) (vs_cons (vs_setLc (i := 6) (own := [("car", 9)]) rfl S.nd (vi_rng1 (vl_cons (ve_callB call_len_seq l_len B.len bt_len (vl_cons (ve_var 0) vl_nil)) vl_nil) B.range) (blkOk_by (by rfl)) (fun s H C cl fp => (vg_name (i := 9) S.nd)) (fun s H C cl fp => (vts_one (vc_eqA hu (ve_ix (ve_var 0) (ve_var 9)) (ve_var 1)))) (fun s H C cl fp => (ve_var 9)))
  (vs_cons (vs_set (i := 7) S.nd (ve_lc (own := [("car", 9)]) rfl S.nd (vi_seq (ve_var 6)) (blkOk_by (by rfl)) (fun s H C cl fp => (vg_name (i := 9) S.nd)) (fun s H C cl fp => (vts_one (vc_w (vw_or (vc_is (ve_var 5) ve_non) (vw_or1 (vc_gt (ve_var 9) (ve_var 5))))))) (fun s H C cl fp => (ve_var 9))))
  (vs_cons (vs_setLc (i := 8) (own := [("car", 9)]) rfl S.nd (vi_seq (ve_var 6)) (blkOk_by (by rfl)) (fun s H C cl fp => (vg_name (i := 9) S.nd)) (fun s H C cl fp => (vts_one (vc_notin (ve_var 9) (ve_var 7)))) (fun s H C cl fp => (ve_var 9)))
  (vss_frz 6 (vs_cons (vs_for PassesOwn.never rfl (vi_seq (ve_var 6)) (vg_name (i := 9) S.nd) (vs_one (vs_setIx (ve_if (vc_in (ve_var 9) (ve_var 7)) (ve_var 4) (ve_add (ve_var 4) ve_int)) (vp_var 2) (ve_var 9))))
  (vs_one (vs_if (vc_neA hu (ve_var 8) (ve_lst vl_nil)) (vs_cons (vs_append (vp_var 3) (vl_cons (ve_tup (vl_cons (ve_var 5) (vl_cons (ve_ix (ve_var 8) (ve_neg ve_int)) vl_nil))) vl_nil))
  (vs_one (vs_asg (ve_tupF (vl_cons (ve_add (ve_var 4) ve_int) (vl_cons (ve_ix (ve_var 8) (ve_neg ve_int)) vl_nil))) (vg_tup rfl (vgs_cons (i := 4) S.nd (vgs_cons (i := 5) S.nd vgs_nil)) (len_cons (len_cons len_nil)))))) (vs_one (vs_set (i := 5) S.nd (ve_ix (ve_var 7) (ve_neg ve_int))))))))))))
  (vs_one (vs_ret (ve_tup (vl_cons (ve_var 4) (vl_cons (ve_callT call_tuple_of l_tuple B.tuple bt_tuple (vl_cons (ve_var 2) vl_nil)) (vl_cons (ve_callT call_tuple_of l_tuple B.tuple bt_tuple (vl_cons (ve_var 3) vl_nil)) vl_nil)))))))) (by decide +kernel)

theorem S_least_codes : FnScope ["row"] ["row"] (defScope (top 28)) := ⟨rfl, rfl, rfl, by decide +kernel, rfl, by decide +kernel, by decide +kernel⟩
theorem b_least_codes {P : Program} {w : World} {K : PySem.W.Frag} {mg : Str → Option Value} {base : Heap} {k : Nat}  (f : Addr) (cdv : Value) (A : Around) (outer : List PySem.Env) (s : Shared) (H : Hp) (E : XK) (R : RC) (B : Blt mg)  (F_check_row : Cal R.T P w K mg base k "check_row" ["value"] 0 sp_check_row) (F_greatest_codes : Cal R.T P w K mg base k "greatest_codes" ["row"] 0 sp_greatest_codes)  
     (hG : A.guards = some []) (hr : Room k (A.deeper (envOfC "least_codes" (defScope (top 28)) s.heap.objs.size f cdv))) :
    VSs (cxOf (L2.CX P w) P w K mg base ["row"] "least_codes" (defScope (top 28)) f cdv A outer s H E).nox R 0 (defBody (top 28)) t_least_codes := by
  have S := S_least_codes
  have hu : (A.deeper (envOfC "least_codes" (defScope (top 28)) s.heap.objs.size f cdv)).units + 64 < cLine := by have := hr.un; omega
  exact VSs.cost (c' := 0) (vs_cons (vs_expr (ve_fn F_check_row hG hr (vl_cons (ve_var 0) vl_nil)))
  (vs_one (vs_ret (ve_fn F_greatest_codes hG hr (vl_cons (ve_var 0) vl_nil))))) (by decide +kernel)

theorem S_shows_least_codes : FnScope ["row", "value", "number", "codes", "bars", "code"] ["row", "value"] (defScope (top 29)) := ⟨rfl, rfl, rfl, by decide +kernel, rfl, by decide +kernel, by decide +kernel⟩
theorem b_shows_least_codes {P : Program} {w : World} {K : PySem.W.Frag} {mg : Str → Option Value} {base : Heap} {k : Nat}  (f : Addr) (cdv : Value) (A : Around) (outer : List PySem.Env) (s : Shared) (H : Hp) (E : XK) (R : RC) (B : Blt mg)  (F_are_bars : Cal R.T P w K mg base k "are_bars" ["row", "value"] 0 sp_are_bars) (F_are_codes : Cal R.T P w K mg base k "are_codes" ["row", "value"] 0 sp_are_codes) (F_check_row : Cal R.T P w K mg base k "check_row" ["value"] 0 sp_check_row) (F_is_in_order : Cal R.T P w K mg base k "is_in_order" ["row", "cars"] 0 sp_is_in_order) (F_is_integer : Cal R.T P w K mg base k "is_integer" ["value"] 0 sp_is_integer) (F_ordered : Cal R.T P w K mg base k "ordered" ["codes"] 0 sp_ordered) (hI_THREE : ∃ t, mg "THREE" = some (.int 3 t)) 
     (hG : A.guards = some []) (hr : Room k (A.deeper (envOfC "shows_least_codes" (defScope (top 29)) s.heap.objs.size f cdv))) :
    VSs (cxOf (L2.CX P w) P w K mg base ["row", "value", "number", "codes", "bars", "code"] "shows_least_codes" (defScope (top 29)) f cdv A outer s H E).nox R 0 (defBody (top 29)) t_shows_least_codes := by
  have S := S_shows_least_codes
  have hu : (A.deeper (envOfC "shows_least_codes" (defScope (top 29)) s.heap.objs.size f cdv)).units + 64 < cLine := by have := hr.un; omega
  exact VSs.cost (c' := 0) (vs_cons (vs_expr (ve_fn F_check_row hG hr (vl_cons (ve_var 0) vl_nil)))
  (vs_cons (vs_if (vc_w (vw_or (vc_not (vc_val (ve_isa (T := "tuple") (by simp) (ve_var 1) B.isinstance B.tuple bt_tuple))) (vw_or (vc_neA hu (ve_callB call_len_seq l_len B.len bt_len (vl_cons (ve_var 1) vl_nil)) (ve_globI hI_THREE.choose_spec)) (vw_or1 (vc_not (vc_val (ve_fn F_is_integer hG hr (vl_cons (ve_ix (ve_var 1) ve_int) vl_nil)))))))) (vs_one (vs_ret ve_bl)) vs_nil)
  (vs_cons (vs_asg (ve_var 1) (vg_tup rfl (vgs_cons (i := 2) S.nd (vgs_cons (i := 3) S.nd (vgs_cons (i := 4) S.nd vgs_nil))) (len_cons (len_cons (len_cons len_nil)))))
  (vs_cons (vs_if (vc_w (vw_or (vc_not (vc_val (ve_fn F_are_codes hG hr (vl_cons (ve_var 0) (vl_cons (ve_var 3) vl_nil))))) (vw_or (vc_val (ve_callB (cr_any rfl) l_any B.any bt_any (vl_cons (ve_lc (own := [("code", 5)]) rfl S.nd (vi_seq (ve_var 3)) (blkOk_by (by rfl)) (fun s H C cl fp => (vg_name (i := 5) S.nd)) (fun s H C cl fp => vts_nil) (fun s H C cl fp => (ve_gt (ve_var 5) (ve_var 2)))) vl_nil))) (vw_or1 (vc_not (vc_val (ve_fn F_is_in_order hG hr (vl_cons (ve_var 0) (vl_cons (ve_fn F_ordered hG hr (vl_cons (ve_var 3) vl_nil)) vl_nil))))))))) (vs_one (vs_ret ve_bl)) vs_nil)
  (vs_one (vs_ret (ve_and (ve_fn F_are_bars hG hr (vl_cons (ve_var 0) (vl_cons (ve_var 4) vl_nil))) (ve_and1 (ve_eqA hu (ve_callB call_len_seq l_len B.len bt_len (vl_cons (ve_var 4) vl_nil)) (ve_var 2)))))))))) (by decide +kernel)

theorem S_bar_count : FnScope ["number", "bars", "found", "many", "later", "at", "ahead"] ["number", "bars"] (defScope (top 30)) := ⟨rfl, rfl, rfl, by decide +kernel, rfl, by decide +kernel, by decide +kernel⟩
theorem b_bar_count {P : Program} {w : World} {K : PySem.W.Frag} {mg : Str → Option Value} {base : Heap} {k : Nat}  (f : Addr) (cdv : Value) (A : Around) (outer : List PySem.Env) (s : Shared) (H : Hp) (E : XK) (R : RC) (B : Blt mg)  (F_check_upto : Cal R.T P w K mg base k "check_upto" ["value", "most"] 0 sp_check_upto) (hI_MOST_CARS : ∃ t, mg "MOST_CARS" = some (.int 30 t)) 
     (hG : A.guards = some []) (hr : Room k (A.deeper (envOfC "bar_count" (defScope (top 30)) s.heap.objs.size f cdv))) :
    VSs (cxOf (L2.CX P w) P w K mg base ["number", "bars", "found", "many", "later", "at", "ahead"] "bar_count" (defScope (top 30)) f cdv A outer s H E).nox R 0 (defBody (top 30)) t_bar_count := by
  have S := S_bar_count
  have hu : (A.deeper (envOfC "bar_count" (defScope (top 30)) s.heap.objs.size f cdv)).units + 64 < cLine := by have := hr.un; omega
  exact VSs.cost (c' := 0) (vs_cons (vs_expr (ve_fn F_check_upto hG hr (vl_cons (ve_var 0) (vl_cons (ve_globI hI_MOST_CARS.choose_spec) vl_nil))))
  (vs_cons (vs_expr (ve_fn F_check_upto hG hr (vl_cons (ve_var 1) (vl_cons (ve_globI hI_MOST_CARS.choose_spec) vl_nil))))
  (vs_cons (vs_set (i := 2) S.nd (ve_add (ve_lst (vl_cons ve_int vl_nil)) (ve_mulB (ve_lst (vl_cons ve_int vl_nil)) (ve_globI hI_MOST_CARS.choose_spec))))
  (vs_cons (vs_for PassesOwn.never rfl (vi_rng2 (vl_cons ve_int (vl_cons (ve_add (ve_var 0) ve_int) vl_nil)) B.range) (vg_name (i := 3) S.nd) (vs_cons (vs_set (i := 4) S.nd (ve_lst vl_nil))
  (vs_cons (vs_for PassesOwn.never rfl (vi_rng1 (vl_cons (ve_add (ve_globI hI_MOST_CARS.choose_spec) ve_int) vl_nil) B.range) (vg_name (i := 5) S.nd) (vs_cons (vs_set (i := 6) S.nd (ve_if (vc_gt (ve_var 5) ve_int) (ve_ix (ve_var 2) (ve_sub (ve_var 5) ve_int)) ve_int))
  (vs_one (vs_append (vp_var 4) (vl_cons (ve_add (ve_mulB (ve_add (ve_var 5) ve_int) (ve_ix (ve_var 2) (ve_var 5))) (ve_mulB (ve_sub (ve_var 3) (ve_var 5)) (ve_var 6))) vl_nil)))))
  (vs_one (vs_mv 2 4 S.nd)))))
  (vs_one (vs_ret (ve_ix (ve_var 2) (ve_var 1)))))))) (by decide +kernel)

theorem S_are_deals : FnScope ["row", "value", "deal", "track"] ["row", "value"] (defScope (top 35)) := ⟨rfl, rfl, rfl, by decide +kernel, rfl, by decide +kernel, by decide +kernel⟩
theorem b_are_deals {P : Program} {w : World} {K : PySem.W.Frag} {mg : Str → Option Value} {base : Heap} {k : Nat}  (f : Addr) (cdv : Value) (A : Around) (outer : List PySem.Env) (s : Shared) (H : Hp) (E : XK) (R : RC) (B : Blt mg)  (F_is_between : Cal R.T P w K mg base k "is_between" ["value", "low", "high"] 0 sp_is_between) (hI_MOST_TRACKS : ∃ t, mg "MOST_TRACKS" = some (.int 30 t)) (hI_MOST_PASSES : ∃ t, mg "MOST_PASSES" = some (.int 8 t)) 
     (hG : A.guards = some []) (hr : Room k (A.deeper (envOfC "are_deals" (defScope (top 35)) s.heap.objs.size f cdv))) :
    VSs (cxOf (L2.CX P w) P w K mg base ["row", "value", "deal", "track"] "are_deals" (defScope (top 35)) f cdv A outer s H E).nox R 0 (defBody (top 35)) t_are_deals := by
  have S := S_are_deals
  have hu : (A.deeper (envOfC "are_deals" (defScope (top 35)) s.heap.objs.size f cdv)).units + 64 < cLine := by have := hr.un; omega
  exact VSs.cost (c' := 0) (vs_cons (vs_if (vc_w (vw_or (vc_not (vc_val (ve_isa (T := "tuple") (by simp) (ve_var 1) B.isinstance B.tuple bt_tuple))) (vw_or1 (vc_gt (ve_callB call_len_seq l_len B.len bt_len (vl_cons (ve_var 1) vl_nil)) (ve_globI hI_MOST_PASSES.choose_spec))))) (vs_one (vs_ret ve_bl)) vs_nil)
  (vs_cons (vs_if (vc_not (vc_val (ve_callB (cr_all rfl) l_all B.all bt_all (vl_cons (ve_lc (own := [("deal", 2)]) rfl S.nd (vi_seq (ve_var 1)) (blkOk_by (by rfl)) (fun s H C cl fp => (vg_name (i := 2) S.nd)) (fun s H C cl fp => vts_nil) (fun s H C cl fp => (ve_and (ve_isa (T := "tuple") (by simp) (ve_var 2) B.isinstance B.tuple bt_tuple) (ve_and1 (ve_eqA hu (ve_callB call_len_seq l_len B.len bt_len (vl_cons (ve_var 2) vl_nil)) (ve_callB call_len_seq l_len B.len bt_len (vl_cons (ve_var 0) vl_nil))))))) vl_nil)))) (vs_one (vs_ret ve_bl)) vs_nil)
  (vs_one (vs_ret (ve_callB (cr_all rfl) l_all B.all bt_all (vl_cons (ve_lc (own := [("deal", 2)]) rfl S.nd (vi_seq (ve_var 1)) (blkOk_by (by rfl)) (fun s H C cl fp => (vg_name (i := 2) S.nd)) (fun s H C cl fp => vts_nil) (fun s H C cl fp => (ve_callB (cr_all rfl) l_all B.all bt_all (vl_cons (ve_lc (own := [("track", 3)]) rfl S.nd (vi_seq (ve_var 2)) (blkOk_by (by rfl)) (fun s H C cl fp => (vg_name (i := 3) S.nd)) (fun s H C cl fp => vts_nil) (fun s H C cl fp => (ve_fn F_is_between hG hr (vl_cons (ve_var 3) (vl_cons ve_int (vl_cons (ve_sub (ve_globI hI_MOST_TRACKS.choose_spec) ve_int) vl_nil)))))) vl_nil)))) vl_nil)))))) (by decide +kernel)

theorem S_check_deals : FnScope ["row", "value"] ["row", "value"] (defScope (top 36)) := ⟨rfl, rfl, rfl, by decide +kernel, rfl, by decide +kernel, by decide +kernel⟩
theorem b_check_deals {P : Program} {w : World} {K : PySem.W.Frag} {mg : Str → Option Value} {base : Heap} {k : Nat}  (f : Addr) (cdv : Value) (A : Around) (outer : List PySem.Env) (s : Shared) (H : Hp) (E : XK) (R : RC) (B : Blt mg)  (F_are_deals : Cal R.T P w K mg base k "are_deals" ["row", "value"] 0 sp_are_deals)  
     (hG : A.guards = some []) (hr : Room k (A.deeper (envOfC "check_deals" (defScope (top 36)) s.heap.objs.size f cdv))) :
    VSs (cxOf (L2.CX P w) P w K mg base ["row", "value"] "check_deals" (defScope (top 36)) f cdv A outer s H E).nox R 0 (defBody (top 36)) t_check_deals := by
  have S := S_check_deals
  have hu : (A.deeper (envOfC "check_deals" (defScope (top 36)) s.heap.objs.size f cdv)).units + 64 < cLine := by have := hr.un; omega
  exact VSs.cost (c' := 0) (vs_one (vs_if (vc_not (vc_val (ve_fn F_are_deals hG hr (vl_cons (ve_var 0) (vl_cons (ve_var 1) vl_nil))))) vss_never vs_nil)) (by decide +kernel)

theorem S_check_tracks : FnScope ["value", "many"] ["value"] (defScope (top 37)) := ⟨rfl, rfl, rfl, by decide +kernel, rfl, by decide +kernel, by decide +kernel⟩
theorem b_check_tracks {P : Program} {w : World} {K : PySem.W.Frag} {mg : Str → Option Value} {base : Heap} {k : Nat}  (f : Addr) (cdv : Value) (A : Around) (outer : List PySem.Env) (s : Shared) (H : Hp) (E : XK) (R : RC) (B : Blt mg)  (F_is_between : Cal R.T P w K mg base k "is_between" ["value", "low", "high"] 0 sp_is_between) (hI_MOST_TRACKS : ∃ t, mg "MOST_TRACKS" = some (.int 30 t)) (hI_MOST_PASSES : ∃ t, mg "MOST_PASSES" = some (.int 8 t)) 
     (hG : A.guards = some []) (hr : Room k (A.deeper (envOfC "check_tracks" (defScope (top 37)) s.heap.objs.size f cdv))) :
    VSs (cxOf (L2.CX P w) P w K mg base ["value", "many"] "check_tracks" (defScope (top 37)) f cdv A outer s H E).nox R 0 (defBody (top 37)) t_check_tracks := by
  have S := S_check_tracks
  have hu : (A.deeper (envOfC "check_tracks" (defScope (top 37)) s.heap.objs.size f cdv)).units + 64 < cLine := by have := hr.un; omega
  exact VSs.cost (c' := 0) (vs_cons (vs_if (vc_w (vw_or (vc_not (vc_val (ve_isa (T := "tuple") (by simp) (ve_var 0) B.isinstance B.tuple bt_tuple))) (vw_or1 (vc_gt (ve_callB call_len_seq l_len B.len bt_len (vl_cons (ve_var 0) vl_nil)) (ve_globI hI_MOST_PASSES.choose_spec))))) vss_never vs_nil)
  (vs_one (vs_if (vc_not (vc_val (ve_callB (cr_all rfl) l_all B.all bt_all (vl_cons (ve_lc (own := [("many", 1)]) rfl S.nd (vi_seq (ve_var 0)) (blkOk_by (by rfl)) (fun s H C cl fp => (vg_name (i := 1) S.nd)) (fun s H C cl fp => vts_nil) (fun s H C cl fp => (ve_fn F_is_between hG hr (vl_cons (ve_var 1) (vl_cons ve_int (vl_cons (ve_globI hI_MOST_TRACKS.choose_spec) vl_nil)))))) vl_nil)))) vss_never vs_nil))) (by decide +kernel)

theorem S_are_below : FnScope ["deals", "tracks", "deal", "many", "track"] ["deals", "tracks"] (defScope (top 38)) := ⟨rfl, rfl, rfl, by decide +kernel, rfl, by decide +kernel, by decide +kernel⟩
theorem b_are_below {P : Program} {w : World} {K : PySem.W.Frag} {mg : Str → Option Value} {base : Heap} {k : Nat}  (f : Addr) (cdv : Value) (A : Around) (outer : List PySem.Env) (s : Shared) (H : Hp) (E : XK) (R : RC) (B : Blt mg)    
     (hG : A.guards = some []) (hr : Room k (A.deeper (envOfC "are_below" (defScope (top 38)) s.heap.objs.size f cdv))) :
    VSs (cxOf (L2.CX P w) P w K mg base ["deals", "tracks", "deal", "many", "track"] "are_below" (defScope (top 38)) f cdv A outer s H E).nox R 0 (defBody (top 38)) t_are_below := by
  have S := S_are_below
  have hu : (A.deeper (envOfC "are_below" (defScope (top 38)) s.heap.objs.size f cdv)).units + 64 < cLine := by have := hr.un; omega
  exact VSs.cost (c' := 0) (vs_cons (vs_if (vc_neA hu (ve_callB call_len_seq l_len B.len bt_len (vl_cons (ve_var 0) vl_nil)) (ve_callB call_len_seq l_len B.len bt_len (vl_cons (ve_var 1) vl_nil))) (vs_one (vs_ret ve_bl)) vs_nil)
  (vs_one (vs_ret (ve_callB (cr_all rfl) l_all B.all bt_all (vl_cons (ve_lc (own := [("deal", 2), ("many", 3)]) rfl S.nd (vi_zip (vl_cons (ve_var 0) (vl_cons (ve_var 1) vl_nil)) B.zip) (blkOk_by (by rfl)) (fun s H C cl fp => (vg_tup rfl (vgs_cons (i := 2) S.nd (vgs_cons (i := 3) S.nd vgs_nil)) (len_cons (len_cons len_nil)))) (fun s H C cl fp => vts_nil) (fun s H C cl fp => (ve_callB (cr_all rfl) l_all B.all bt_all (vl_cons (ve_lc (own := [("track", 4)]) rfl S.nd (vi_seq (ve_var 2)) (blkOk_by (by rfl)) (fun s H C cl fp => (vg_name (i := 4) S.nd)) (fun s H C cl fp => vts_nil) (fun s H C cl fp => (ve_lt (ve_var 4) (ve_var 3)))) vl_nil)))) vl_nil))))) (by decide +kernel)

theorem S_pulled : FnScope ["cars", "deal", "found", "track", "car"] ["cars", "deal"] (defScope (top 39)) := ⟨rfl, rfl, rfl, by decide +kernel, rfl, by decide +kernel, by decide +kernel⟩
theorem b_pulled {P : Program} {w : World} {K : PySem.W.Frag} {mg : Str → Option Value} {base : Heap} {k : Nat}  (f : Addr) (cdv : Value) (A : Around) (outer : List PySem.Env) (s : Shared) (H : Hp) (E : XK) (R : RC) (B : Blt mg)    
     (hG : A.guards = some []) (hr : Room k (A.deeper (envOfC "pulled" (defScope (top 39)) s.heap.objs.size f cdv))) :
    VSs (cxOf (L2.CX P w) P w K mg base ["cars", "deal", "found", "track", "car"] "pulled" (defScope (top 39)) f cdv A outer s H E).nox R 0 (defBody (top 39)) t_pulled := by
  have S := S_pulled
  have hu : (A.deeper (envOfC "pulled" (defScope (top 39)) s.heap.objs.size f cdv)).units + 64 < cLine := by have := hr.un; omega
  exact VSs.cost (c' := 0) (vs_cons (vs_set (i := 2) S.nd (ve_lst vl_nil))
  (vs_cons (vs_for PassesOwn.never rfl (vi_seq (ve_sortSet rfl (ve_var 1) B.sorted B.set)) (vg_name (i := 3) S.nd) (vs_one (vs_extend (vp_var 2) (vl_cons (ve_lc (own := [("car", 4)]) rfl S.nd (vi_seq (ve_var 0)) (blkOk_by (by rfl)) (fun s H C cl fp => (vg_name (i := 4) S.nd)) (fun s H C cl fp => (vts_one (vc_eqA hu (ve_ix (ve_var 1) (ve_var 4)) (ve_var 3)))) (fun s H C cl fp => (ve_var 4))) vl_nil))))
  (vs_one (vs_ret (ve_var 2))))) (by decide +kernel)

theorem S_behind_all : FnScope ["row", "deals", "cars", "deal"] ["row", "deals"] (defScope (top 40)) := ⟨rfl, rfl, rfl, by decide +kernel, rfl, by decide +kernel, by decide +kernel⟩
theorem b_behind_all {P : Program} {w : World} {K : PySem.W.Frag} {mg : Str → Option Value} {base : Heap} {k : Nat}  (f : Addr) (cdv : Value) (A : Around) (outer : List PySem.Env) (s : Shared) (H : Hp) (E : XK) (R : RC) (B : Blt mg)  (F_pulled : Cal R.T P w K mg base k "pulled" ["cars", "deal"] 0 sp_pulled)  
     (hG : A.guards = some []) (hr : Room k (A.deeper (envOfC "behind_all" (defScope (top 40)) s.heap.objs.size f cdv))) :
    VSs (cxOf (L2.CX P w) P w K mg base ["row", "deals", "cars", "deal"] "behind_all" (defScope (top 40)) f cdv A outer s H E).nox R 0 (defBody (top 40)) t_behind_all := by
  have S := S_behind_all
  have hu : (A.deeper (envOfC "behind_all" (defScope (top 40)) s.heap.objs.size f cdv)).units + 64 < cLine := by have := hr.un; omega
  exact VSs.cost (c' := 0) (vs_cons (vs_set (i := 2) S.nd (ve_listRng (vr_1 (ve_callB call_len_seq l_len B.len bt_len (vl_cons (ve_var 0) vl_nil)) B.range) rfl B.list))
  (vs_cons (vs_for PassesOwn.never rfl (vi_seq (ve_var 1)) (vg_name (i := 3) S.nd) (vs_one (vs_set (i := 2) S.nd (ve_fn F_pulled hG hr (vl_cons (ve_var 2) (vl_cons (ve_var 3) vl_nil))))))
  (vs_one (vs_ret (ve_callT call_tuple_of l_tuple B.tuple bt_tuple (vl_cons (ve_var 2) vl_nil)))))) (by decide +kernel)

theorem S_behind : FnScope ["row", "deals"] ["row", "deals"] (defScope (top 41)) := ⟨rfl, rfl, rfl, by decide +kernel, rfl, by decide +kernel, by decide +kernel⟩
theorem b_behind {P : Program} {w : World} {K : PySem.W.Frag} {mg : Str → Option Value} {base : Heap} {k : Nat}  (f : Addr) (cdv : Value) (A : Around) (outer : List PySem.Env) (s : Shared) (H : Hp) (E : XK) (R : RC) (B : Blt mg)  (F_behind_all : Cal R.T P w K mg base k "behind_all" ["row", "deals"] 0 sp_behind_all) (F_check_deals : Cal R.T P w K mg base k "check_deals" ["row", "value"] 0 sp_check_deals) (F_check_row : Cal R.T P w K mg base k "check_row" ["value"] 0 sp_check_row)  
     (hG : A.guards = some []) (hr : Room k (A.deeper (envOfC "behind" (defScope (top 41)) s.heap.objs.size f cdv))) :
    VSs (cxOf (L2.CX P w) P w K mg base ["row", "deals"] "behind" (defScope (top 41)) f cdv A outer s H E).nox R 0 (defBody (top 41)) t_behind := by
  have S := S_behind
  have hu : (A.deeper (envOfC "behind" (defScope (top 41)) s.heap.objs.size f cdv)).units + 64 < cLine := by have := hr.un; omega
  exact VSs.cost (c' := 0) (vs_cons (vs_expr (ve_fn F_check_row hG hr (vl_cons (ve_var 0) vl_nil)))
  (vs_cons (vs_expr (ve_fn F_check_deals hG hr (vl_cons (ve_var 0) (vl_cons (ve_var 1) vl_nil))))
  (vs_one (vs_ret (ve_fn F_behind_all hG hr (vl_cons (ve_var 0) (vl_cons (ve_var 1) vl_nil))))))) (by decide +kernel)

theorem S_by_codes : FnScope ["row", "codes"] ["row", "codes"] (defScope (top 42)) := ⟨rfl, rfl, rfl, by decide +kernel, rfl, by decide +kernel, by decide +kernel⟩
theorem b_by_codes {P : Program} {w : World} {K : PySem.W.Frag} {mg : Str → Option Value} {base : Heap} {k : Nat}  (f : Addr) (cdv : Value) (A : Around) (outer : List PySem.Env) (s : Shared) (H : Hp) (E : XK) (R : RC) (B : Blt mg)  (F_check_codes : Cal R.T P w K mg base k "check_codes" ["row", "value"] 0 sp_check_codes) (F_check_row : Cal R.T P w K mg base k "check_row" ["value"] 0 sp_check_row) (F_ordered : Cal R.T P w K mg base k "ordered" ["codes"] 0 sp_ordered)  
     (hG : A.guards = some []) (hr : Room k (A.deeper (envOfC "by_codes" (defScope (top 42)) s.heap.objs.size f cdv))) :
    VSs (cxOf (L2.CX P w) P w K mg base ["row", "codes"] "by_codes" (defScope (top 42)) f cdv A outer s H E).nox R 0 (defBody (top 42)) t_by_codes := by
  have S := S_by_codes
  have hu : (A.deeper (envOfC "by_codes" (defScope (top 42)) s.heap.objs.size f cdv)).units + 64 < cLine := by have := hr.un; omega
  exact VSs.cost (c' := 0) (vs_cons (vs_expr (ve_fn F_check_row hG hr (vl_cons (ve_var 0) vl_nil)))
  (vs_cons (vs_expr (ve_fn F_check_codes hG hr (vl_cons (ve_var 0) (vl_cons (ve_var 1) vl_nil))))
  (vs_one (vs_ret (ve_fn F_ordered hG hr (vl_cons (ve_var 1) vl_nil)))))) (by decide +kernel)

theorem S_do_set : FnScope ["row", "codes"] ["row", "codes"] (defScope (top 43)) := ⟨rfl, rfl, rfl, by decide +kernel, rfl, by decide +kernel, by decide +kernel⟩
theorem b_do_set {P : Program} {w : World} {K : PySem.W.Frag} {mg : Str → Option Value} {base : Heap} {k : Nat}  (f : Addr) (cdv : Value) (A : Around) (outer : List PySem.Env) (s : Shared) (H : Hp) (E : XK) (R : RC) (B : Blt mg)  (F_check_codes : Cal R.T P w K mg base k "check_codes" ["row", "value"] 0 sp_check_codes) (F_check_row : Cal R.T P w K mg base k "check_row" ["value"] 0 sp_check_row) (F_is_in_order : Cal R.T P w K mg base k "is_in_order" ["row", "cars"] 0 sp_is_in_order) (F_ordered : Cal R.T P w K mg base k "ordered" ["codes"] 0 sp_ordered)  
     (hG : A.guards = some []) (hr : Room k (A.deeper (envOfC "do_set" (defScope (top 43)) s.heap.objs.size f cdv))) :
    VSs (cxOf (L2.CX P w) P w K mg base ["row", "codes"] "do_set" (defScope (top 43)) f cdv A outer s H E).nox R 0 (defBody (top 43)) t_do_set := by
  have S := S_do_set
  have hu : (A.deeper (envOfC "do_set" (defScope (top 43)) s.heap.objs.size f cdv)).units + 64 < cLine := by have := hr.un; omega
  exact VSs.cost (c' := 0) (vs_cons (vs_expr (ve_fn F_check_row hG hr (vl_cons (ve_var 0) vl_nil)))
  (vs_cons (vs_expr (ve_fn F_check_codes hG hr (vl_cons (ve_var 0) (vl_cons (ve_var 1) vl_nil))))
  (vs_one (vs_ret (ve_fn F_is_in_order hG hr (vl_cons (ve_var 0) (vl_cons (ve_fn F_ordered hG hr (vl_cons (ve_var 1) vl_nil)) vl_nil))))))) (by decide +kernel)

theorem S_figures : FnScope ["codes", "tracks", "many", "deals", "left", "code"] ["codes", "tracks"] (defScope (top 44)) := ⟨rfl, rfl, rfl, by decide +kernel, rfl, by decide +kernel, by decide +kernel⟩
theorem b_figures {P : Program} {w : World} {K : PySem.W.Frag} {mg : Str → Option Value} {base : Heap} {k : Nat}  (f : Addr) (cdv : Value) (A : Around) (outer : List PySem.Env) (s : Shared) (H : Hp) (E : XK) (R : RC) (B : Blt mg)    
     (hG : A.guards = some []) (hr : Room k (A.deeper (envOfC "figures" (defScope (top 44)) s.heap.objs.size f cdv))) :
    VSs (cxOf (L2.CX P w) P w K mg base ["codes", "tracks", "many", "deals", "left", "code"] "figures" (defScope (top 44)) f cdv A outer s H E).nox R 0 (defBody (top 44)) t_figures := by
  have S := S_figures
  have hu : (A.deeper (envOfC "figures" (defScope (top 44)) s.heap.objs.size f cdv)).units + 64 < cLine := by have := hr.un; omega
  exact VSs.cost (c' := 0) (vs_cons (vs_par2 (i := 3) (j := 4) rfl S.nd (vl_cons (ve_lst vl_nil) (vl_cons (ve_callT call_list_of l_list B.list bt_list (vl_cons (ve_var 0) vl_nil)) vl_nil)) (by decide))
  (vs_cons (vs_for PassesOwn.never rfl (vi_seq (ve_var 1)) (vg_name (i := 2) S.nd) (vs_cons (vs_append (vp_var 3) (vl_cons (ve_callT call_tuple_of l_tuple B.tuple bt_tuple (vl_cons (ve_lc (own := [("code", 5)]) rfl S.nd (vi_seq (ve_var 4)) (blkOk_by (by rfl)) (fun s H C cl fp => (vg_name (i := 5) S.nd)) (fun s H C cl fp => vts_nil) (fun s H C cl fp => (ve_mod (ve_var 5) (ve_var 2)))) vl_nil)) vl_nil))
  (vs_one (vs_setLc (i := 4) (own := [("code", 5)]) rfl S.nd (vi_seq (ve_var 4)) (blkOk_by (by rfl)) (fun s H C cl fp => (vg_name (i := 5) S.nd)) (fun s H C cl fp => vts_nil) (fun s H C cl fp => (ve_div (ve_var 5) (ve_var 2)))))))
  (vs_one (vs_ret (ve_callT call_tuple_of l_tuple B.tuple bt_tuple (vl_cons (ve_var 3) vl_nil)))))) (by decide +kernel)

theorem S_dealt : FnScope ["row", "codes", "tracks"] ["row", "codes", "tracks"] (defScope (top 45)) := ⟨rfl, rfl, rfl, by decide +kernel, rfl, by decide +kernel, by decide +kernel⟩
theorem b_dealt {P : Program} {w : World} {K : PySem.W.Frag} {mg : Str → Option Value} {base : Heap} {k : Nat}  (f : Addr) (cdv : Value) (A : Around) (outer : List PySem.Env) (s : Shared) (H : Hp) (E : XK) (R : RC) (B : Blt mg) (EF : ∀ x ∈ (["TooGreat"] : List Str), ErrF P w K mg base x) (h2 : 2 ≤ k) (F_check_codes : Cal R.T P w K mg base k "check_codes" ["row", "value"] 0 sp_check_codes) (F_check_row : Cal R.T P w K mg base k "check_row" ["value"] 0 sp_check_row) (F_check_tracks : Cal R.T P w K mg base k "check_tracks" ["value"] 0 sp_check_tracks) (F_figures : Cal R.T P w K mg base k "figures" ["codes", "tracks"] 0 sp_figures) (F_product : Cal R.T P w K mg base k "product" ["numbers"] 0 sp_product)  
    (tk : Takes (cxOf (L2.CX P w) P w K mg base ["row", "codes", "tracks"] "dealt" (defScope (top 45)) f cdv A outer s H E) R.W) (hG : A.guards = some []) (hr : Room k (A.deeper (envOfC "dealt" (defScope (top 45)) s.heap.objs.size f cdv))) :
    VSs (cxOf (L2.CX P w) P w K mg base ["row", "codes", "tracks"] "dealt" (defScope (top 45)) f cdv A outer s H E) R 0 (defBody (top 45)) t_dealt := by
  have S := S_dealt
  have hu : (A.deeper (envOfC "dealt" (defScope (top 45)) s.heap.objs.size f cdv)).units + 64 < cLine := by have := hr.un; omega
  exact VSs.cost (c' := 0) (vs_cons (vs_expr (ve_fn F_check_row hG hr (vl_cons (ve_var 0) vl_nil)))
  (vs_cons (vs_expr (ve_fn F_check_codes hG hr (vl_cons (ve_var 0) (vl_cons (ve_var 1) vl_nil))))
  (vs_cons (vs_expr (ve_fn F_check_tracks hG hr (vl_cons (ve_var 2) vl_nil)))
  (vs_cons (vs_if (vc_w (vw_and (vc_neA hu (ve_var 1) (ve_tup vl_nil)) (vw_and1 (vc_ge (ve_callB (cr_maxK rfl hu) l_max1 B.max bt_max (vl_cons (ve_var 1) vl_nil)) (ve_fn F_product hG hr (vl_cons (ve_var 2) vl_nil)))))) (vs_one (vs_raise (EF "TooGreat" (by decide)) rfl tk (hr.mono h2) (ve_callB (cr_maxK rfl hu) l_max1 B.max bt_max (vl_cons (ve_var 1) vl_nil)))) vs_nil)
  (vs_one (vs_ret (ve_fn F_figures hG hr (vl_cons (ve_var 1) (vl_cons (ve_var 2) vl_nil))))))))) (by decide +kernel)

theorem S_codes_of : FnScope ["row", "deals", "tracks", "codes", "times", "deal", "many", "code", "track"] ["row", "deals", "tracks"] (defScope (top 46)) := ⟨rfl, rfl, rfl, by decide +kernel, rfl, by decide +kernel, by decide +kernel⟩
theorem b_codes_of {P : Program} {w : World} {K : PySem.W.Frag} {mg : Str → Option Value} {base : Heap} {k : Nat}  (f : Addr) (cdv : Value) (A : Around) (outer : List PySem.Env) (s : Shared) (H : Hp) (E : XK) (R : RC) (B : Blt mg)  (F_are_below : Cal R.T P w K mg base k "are_below" ["deals", "tracks"] 0 sp_are_below) (F_check_deals : Cal R.T P w K mg base k "check_deals" ["row", "value"] 0 sp_check_deals) (F_check_row : Cal R.T P w K mg base k "check_row" ["value"] 0 sp_check_row) (F_check_tracks : Cal R.T P w K mg base k "check_tracks" ["value"] 0 sp_check_tracks)  
     (hG : A.guards = some []) (hr : Room k (A.deeper (envOfC "codes_of" (defScope (top 46)) s.heap.objs.size f cdv))) :
    VSs (cxOf (L2.CX P w) P w K mg base ["row", "deals", "tracks", "codes", "times", "deal", "many", "code", "track"] "codes_of" (defScope (top 46)) f cdv A outer s H E).nox R 0 (defBody (top 46)) t_codes_of := by
  have S := S_codes_of
  have hu : (A.deeper (envOfC "codes_of" (defScope (top 46)) s.heap.objs.size f cdv)).units + 64 < cLine := by have := hr.un; omega
  exact VSs.cost (c' := 0) (vs_cons (vs_expr (ve_fn F_check_row hG hr (vl_cons (ve_var 0) vl_nil)))
  (vs_cons (vs_expr (ve_fn F_check_deals hG hr (vl_cons (ve_var 0) (vl_cons (ve_var 1) vl_nil))))
  (vs_cons (vs_expr (ve_fn F_check_tracks hG hr (vl_cons (ve_var 2) vl_nil)))
  (vs_cons (vs_if (vc_not (vc_val (ve_fn F_are_below hG hr (vl_cons (ve_var 1) (vl_cons (ve_var 2) vl_nil))))) vss_never vs_nil)
  (vs_cons (vs_asg (ve_tup (vl_cons (ve_mulB (ve_lst (vl_cons ve_int vl_nil)) (ve_callB call_len_seq l_len B.len bt_len (vl_cons (ve_var 0) vl_nil))) (vl_cons ve_int vl_nil))) (vg_tup rfl (vgs_cons (i := 3) S.nd (vgs_cons (i := 4) S.nd vgs_nil)) (len_cons (len_cons len_nil))))
  (vs_cons (vs_for PassesOwn.never rfl (vi_zip (vl_cons (ve_var 1) (vl_cons (ve_var 2) vl_nil)) B.zip) (vg_tup rfl (vgs_cons (i := 5) S.nd (vgs_cons (i := 6) S.nd vgs_nil)) (len_cons (len_cons len_nil))) (vs_cons (vs_setLc (i := 3) (own := [("code", 7), ("track", 8)]) rfl S.nd (vi_zip (vl_cons (ve_var 3) (vl_cons (ve_var 5) vl_nil)) B.zip) (blkOk_by (by rfl)) (fun s H C cl fp => (vg_tup rfl (vgs_cons (i := 7) S.nd (vgs_cons (i := 8) S.nd vgs_nil)) (len_cons (len_cons len_nil)))) (fun s H C cl fp => vts_nil) (fun s H C cl fp => (ve_add (ve_var 7) (ve_mulB (ve_var 4) (ve_var 8)))))
  (vs_one (vs_set (i := 4) S.nd (ve_mulB (ve_var 4) (ve_var 6))))))
  (vs_one (vs_ret (ve_callT call_tuple_of l_tuple B.tuple bt_tuple (vl_cons (ve_var 3) vl_nil)))))))))) (by decide +kernel)

theorem S_can_set : FnScope ["row", "tracks", "number", "codes", "bars"] ["row", "tracks"] (defScope (top 47)) := ⟨rfl, rfl, rfl, by decide +kernel, rfl, by decide +kernel, by decide +kernel⟩
theorem b_can_set {P : Program} {w : World} {K : PySem.W.Frag} {mg : Str → Option Value} {base : Heap} {k : Nat}  (f : Addr) (cdv : Value) (A : Around) (outer : List PySem.Env) (s : Shared) (H : Hp) (E : XK) (R : RC) (B : Blt mg)  (F_check_row : Cal R.T P w K mg base k "check_row" ["value"] 0 sp_check_row) (F_check_tracks : Cal R.T P w K mg base k "check_tracks" ["value"] 0 sp_check_tracks) (F_figures : Cal R.T P w K mg base k "figures" ["codes", "tracks"] 0 sp_figures) (F_greatest_codes : Cal R.T P w K mg base k "greatest_codes" ["row"] 0 sp_greatest_codes) (F_product : Cal R.T P w K mg base k "product" ["numbers"] 0 sp_product)  (hS_BARS : ∃ t, mg "BARS" = some (.str "bars" t)) (hS_DEALS : ∃ t, mg "DEALS" = some (.str "deals" t))
     (hG : A.guards = some []) (hr : Room k (A.deeper (envOfC "can_set" (defScope (top 47)) s.heap.objs.size f cdv))) :
    VSs (cxOf (L2.CX P w) P w K mg base ["row", "tracks", "number", "codes", "bars"] "can_set" (defScope (top 47)) f cdv A outer s H E).nox R 0 (defBody (top 47)) t_can_set := by
  have S := S_can_set
  have hu : (A.deeper (envOfC "can_set" (defScope (top 47)) s.heap.objs.size f cdv)).units + 64 < cLine := by have := hr.un; omega
  exact VSs.cost (c' := 0) (vs_cons (vs_expr (ve_fn F_check_row hG hr (vl_cons (ve_var 0) vl_nil)))
  (vs_cons (vs_expr (ve_fn F_check_tracks hG hr (vl_cons (ve_var 1) vl_nil)))
  (vs_cons (vs_asg (ve_fn F_greatest_codes hG hr (vl_cons (ve_var 0) vl_nil)) (vg_tup rfl (vgs_cons (i := 2) S.nd (vgs_cons (i := 3) S.nd (vgs_cons (i := 4) S.nd vgs_nil))) (len_cons (len_cons (len_cons len_nil)))))
  (vs_cons (vs_if (vc_lt (ve_var 2) (ve_fn F_product hG hr (vl_cons (ve_var 1) vl_nil))) (vs_one (vs_ret (ve_tup (vl_cons (ve_globS hS_DEALS.choose_spec) (vl_cons (ve_fn F_figures hG hr (vl_cons (ve_var 3) (vl_cons (ve_var 1) vl_nil))) vl_nil))))) vs_nil)
  (vs_one (vs_ret (ve_tup (vl_cons (ve_globS hS_BARS.choose_spec) (vl_cons (ve_slice (ve_var 4) vp_no (vp_some (ve_fn F_product hG hr (vl_cons (ve_var 1) vl_nil)))) vl_nil))))))))) (by decide +kernel)

theorem S_shows_can_set : FnScope ["row", "tracks", "value"] ["row", "tracks", "value"] (defScope (top 48)) := ⟨rfl, rfl, rfl, by decide +kernel, rfl, by decide +kernel, by decide +kernel⟩
theorem b_shows_can_set {P : Program} {w : World} {K : PySem.W.Frag} {mg : Str → Option Value} {base : Heap} {k : Nat}  (f : Addr) (cdv : Value) (A : Around) (outer : List PySem.Env) (s : Shared) (H : Hp) (E : XK) (R : RC) (B : Blt mg)  (F_are_bars : Cal R.T P w K mg base k "are_bars" ["row", "value"] 0 sp_are_bars) (F_are_below : Cal R.T P w K mg base k "are_below" ["deals", "tracks"] 0 sp_are_below) (F_are_deals : Cal R.T P w K mg base k "are_deals" ["row", "value"] 0 sp_are_deals) (F_behind_all : Cal R.T P w K mg base k "behind_all" ["row", "deals"] 0 sp_behind_all) (F_check_row : Cal R.T P w K mg base k "check_row" ["value"] 0 sp_check_row) (F_check_tracks : Cal R.T P w K mg base k "check_tracks" ["value"] 0 sp_check_tracks) (F_is_in_order : Cal R.T P w K mg base k "is_in_order" ["row", "cars"] 0 sp_is_in_order) (F_product : Cal R.T P w K mg base k "product" ["numbers"] 0 sp_product)  (hS_BARS : ∃ t, mg "BARS" = some (.str "bars" t)) (hS_DEALS : ∃ t, mg "DEALS" = some (.str "deals" t))
     (hG : A.guards = some []) (hr : Room k (A.deeper (envOfC "shows_can_set" (defScope (top 48)) s.heap.objs.size f cdv))) :
    VSs (cxOf (L2.CX P w) P w K mg base ["row", "tracks", "value"] "shows_can_set" (defScope (top 48)) f cdv A outer s H E).nox R 0 (defBody (top 48)) t_shows_can_set := by
  have S := S_shows_can_set
  have hu : (A.deeper (envOfC "shows_can_set" (defScope (top 48)) s.heap.objs.size f cdv)).units + 64 < cLine := by have := hr.un; omega
  exact VSs.cost (c' := 0) (vs_cons (vs_expr (ve_fn F_check_row hG hr (vl_cons (ve_var 0) vl_nil)))
  (vs_cons (vs_expr (ve_fn F_check_tracks hG hr (vl_cons (ve_var 1) vl_nil)))
  (vs_cons (vs_if (vc_w (vw_or (vc_not (vc_val (ve_isa (T := "tuple") (by simp) (ve_var 2) B.isinstance B.tuple bt_tuple))) (vw_or (vc_neA hu (ve_callB call_len_seq l_len B.len bt_len (vl_cons (ve_var 2) vl_nil)) ve_int) (vw_or1 (vc_not (vc_val (ve_isa (T := "str") (by simp) (ve_ix (ve_var 2) ve_int) B.isinstance B.str bt_str))))))) (vs_one (vs_ret ve_bl)) vs_nil)
  (vs_cons (vs_if (vc_eqA hu (ve_ix (ve_var 2) ve_int) (ve_globS hS_DEALS.choose_spec)) (vs_cons (vs_if (vc_w (vw_or (vc_not (vc_val (ve_fn F_are_deals hG hr (vl_cons (ve_var 0) (vl_cons (ve_ix (ve_var 2) ve_int) vl_nil))))) (vw_or1 (vc_not (vc_val (ve_fn F_are_below hG hr (vl_cons (ve_ix (ve_var 2) ve_int) (vl_cons (ve_var 1) vl_nil)))))))) (vs_one (vs_ret ve_bl)) vs_nil)
  (vs_one (vs_ret (ve_fn F_is_in_order hG hr (vl_cons (ve_var 0) (vl_cons (ve_fn F_behind_all hG hr (vl_cons (ve_var 0) (vl_cons (ve_ix (ve_var 2) ve_int) vl_nil))) vl_nil)))))) vs_nil)
  (vs_one (vs_ret (ve_and (ve_eqA hu (ve_ix (ve_var 2) ve_int) (ve_globS hS_BARS.choose_spec)) (ve_and (ve_fn F_are_bars hG hr (vl_cons (ve_var 0) (vl_cons (ve_ix (ve_var 2) ve_int) vl_nil))) (ve_and1 (ve_eqA hu (ve_callB call_len_seq l_len B.len bt_len (vl_cons (ve_ix (ve_var 2) ve_int) vl_nil)) (ve_fn F_product hG hr (vl_cons (ve_var 1) vl_nil)))))))))))) (by decide +kernel)

theorem S_least_passes : FnScope ["row", "many", "number", "found", "reach"] ["row", "many"] (defScope (top 49)) := ⟨rfl, rfl, rfl, by decide +kernel, rfl, by decide +kernel, by decide +kernel⟩
theorem b_least_passes {P : Program} {w : World} {K : PySem.W.Frag} {mg : Str → Option Value} {base : Heap} {k : Nat}  (f : Addr) (cdv : Value) (A : Around) (outer : List PySem.Env) (s : Shared) (H : Hp) (E : XK) (R : RC) (B : Blt mg)  (F_check_row : Cal R.T P w K mg base k "check_row" ["value"] 0 sp_check_row) (F_greatest_codes : Cal R.T P w K mg base k "greatest_codes" ["row"] 0 sp_greatest_codes) (F_is_between : Cal R.T P w K mg base k "is_between" ["value", "low", "high"] 0 sp_is_between) (hI_MOST_TRACKS : ∃ t, mg "MOST_TRACKS" = some (.int 30 t)) 
     (hG : A.guards = some []) (hr : Room k (A.deeper (envOfC "least_passes" (defScope (top 49)) s.heap.objs.size f cdv))) :
    VSs (cxOf (L2.CX P w) P w K mg base ["row", "many", "number", "found", "reach"] "least_passes" (defScope (top 49)) f cdv A outer s H E).nox R 0 (defBody (top 49)) t_least_passes := by
  have S := S_least_passes
  have hu : (A.deeper (envOfC "least_passes" (defScope (top 49)) s.heap.objs.size f cdv)).units + 64 < cLine := by have := hr.un; omega
  exact VSs.cost (c' := 0) (vs_cons (vs_expr (ve_fn F_check_row hG hr (vl_cons (ve_var 0) vl_nil)))
  (vs_cons (vs_if (vc_not (vc_val (ve_fn F_is_between hG hr (vl_cons (ve_var 1) (vl_cons ve_int (vl_cons (ve_globI hI_MOST_TRACKS.choose_spec) vl_nil)))))) vss_never vs_nil)
  (vs_cons (vs_par3 (i := 2) (j := 3) (l := 4) rfl S.nd (vl_cons (ve_ix (ve_fn F_greatest_codes hG hr (vl_cons (ve_var 0) vl_nil)) ve_int) (vl_cons ve_int (vl_cons ve_int vl_nil))) (by decide) (by decide) (by decide))
  (vs_cons (vs_while PassesOwn.never (vc_le (ve_var 4) (ve_var 2)) (vs_one (vs_par2 (i := 3) (j := 4) rfl S.nd (vl_cons (ve_add (ve_var 3) ve_int) (vl_cons (ve_mulB (ve_var 4) (ve_var 1)) vl_nil)) (by decide))))
  (vs_one (vs_ret (ve_var 3))))))) (by decide +kernel)

theorem S__law_pot : FnScope ["script", "place", "cell", "own", "small"] ["script", "place"] (defScope (top 51)) := ⟨rfl, rfl, rfl, by decide +kernel, rfl, by decide +kernel, by decide +kernel⟩
theorem b__law_pot {P : Program} {w : World} {K : PySem.W.Frag} {mg : Str → Option Value} {base : Heap} {k : Nat}  (f : Addr) (cdv : Value) (A : Around) (outer : List PySem.Env) (s : Shared) (H : Hp) (E : XK) (R : RC) (B : Blt mg)    
     (hG : A.guards = some []) (hr : Room k (A.deeper (envOfC "_law_pot" (defScope (top 51)) s.heap.objs.size f cdv))) :
    VSs (cxOf (L2.CX P w) P w K mg base ["script", "place", "cell", "own", "small"] "_law_pot" (defScope (top 51)) f cdv A outer s H E).nox R 0 (defBody (top 51)) t__law_pot := by
  have S := S__law_pot
  have hu : (A.deeper (envOfC "_law_pot" (defScope (top 51)) s.heap.objs.size f cdv)).units + 64 < cLine := by have := hr.un; omega
  exact VSs.cost (c' := 0) (vs_cons (vs_set (i := 2) S.nd (ve_if (vc_lt (ve_var 1) (ve_callB call_len_seq l_len B.len bt_len (vl_cons (ve_var 0) vl_nil))) (ve_ix (ve_var 0) (ve_var 1)) (ve_add (ve_add (ve_mod (ve_callB (cr_sumK rfl) l_sum B.sum bt_sum (vl_cons (ve_slice (ve_var 0) vp_no (vp_some ve_int)) vl_nil)) ve_int) (ve_mulB ve_int (ve_var 1))) ve_int)))
  (vs_cons (vs_set (i := 3) S.nd (ve_mulB (ve_mod (ve_callT call_int1 l_int1 B.int bt_int (vl_cons (ve_callB call_abs l_abs B.abs bt_abs (vl_cons (ve_var 2) vl_nil)) vl_nil)) (ve_pow (ve_pow ve_int ve_int) ve_int)) (ve_callT call_int1 l_int1 B.int bt_int (vl_cons (ve_ge (ve_callB call_abs l_abs B.abs bt_abs (vl_cons (ve_var 2) vl_nil)) (ve_pow ve_int ve_int)) vl_nil))))
  (vs_cons (vs_set (i := 4) S.nd (ve_mod (ve_callT call_int1 l_int1 B.int bt_int (vl_cons (ve_var 2) vl_nil)) ve_int))
  (vs_one (vs_ret (ve_lst (vl_cons (ve_var 3) (vl_cons (ve_mod (ve_callT call_int1 l_int1 B.int bt_int (vl_cons (ve_add (ve_add (ve_mulB (ve_var 4) ve_int) (ve_mulB (ve_mulB ve_int (ve_var 1)) (ve_var 1))) ve_int) vl_nil)) ve_int) (vl_cons ve_int vl_nil))))))))) (by decide +kernel)

theorem S__law_take : FnScope ["pot", "upto", "prime", "blend", "digit"] ["pot", "upto"] (defScope (top 52)) := ⟨rfl, rfl, rfl, by decide +kernel, rfl, by decide +kernel, by decide +kernel⟩
theorem b__law_take {P : Program} {w : World} {K : PySem.W.Frag} {mg : Str → Option Value} {base : Heap} {k : Nat}  (f : Addr) (cdv : Value) (A : Around) (outer : List PySem.Env) (s : Shared) (H : Hp) (E : XK) (R : RC) (B : Blt mg)    
     (hG : A.guards = some []) (hr : Room k (A.deeper (envOfC "_law_take" (defScope (top 52)) s.heap.objs.size f cdv))) :
    VSs (cxOf (L2.CX P w) P w K mg base ["pot", "upto", "prime", "blend", "digit"] "_law_take" (defScope (top 52)) f cdv A outer s H E).nox R 1 (defBody (top 52)) t__law_take := by
  have S := S__law_take
  have hu : (A.deeper (envOfC "_law_take" (defScope (top 52)) s.heap.objs.size f cdv)).units + 64 < cLine := by have := hr.un; omega
  exact VSs.cost (c' := 1) (vs_cons (vs_if (vc_gt (ve_potIx 0) ve_int) (vs_cons (vs_set (i := 4) S.nd (ve_mod (ve_callT call_int1 l_int1 B.int bt_int (vl_cons (ve_potIx 0) vl_nil)) (ve_var 1)))
  (vs_cons (vs_potDiv 0 1)
  (vs_one (vs_ret (ve_var 4))))) vs_nil)
  (vs_cons (vs_potInc 0)
  (vs_cons (vs_set (i := 2) S.nd (ve_ix (ve_lst (vl_cons ve_int (vl_cons ve_int (vl_cons ve_int (vl_cons ve_int (vl_cons ve_int vl_nil)))))) (ve_mod (ve_callT call_int1 l_int1 B.int bt_int (vl_cons (ve_potIx 0) vl_nil)) ve_int)))
  (vs_cons (vs_set (i := 3) S.nd (ve_mod (ve_callT call_int1 l_int1 B.int bt_int (vl_cons (ve_pow (ve_callT call_int1 l_int1 B.int bt_int (vl_cons (ve_add (ve_add (ve_potIx 0) (ve_mulB (ve_mulB ve_int (ve_potIx 0)) (ve_potIx 0))) ve_int) vl_nil)) ve_int) vl_nil)) (ve_var 2)))
  (vs_cons (vs_set (i := 3) S.nd (ve_mod (ve_callT call_int1 l_int1 B.int bt_int (vl_cons (ve_mulB (ve_var 3) (ve_add (ve_mod (ve_callT call_int1 l_int1 B.int bt_int (vl_cons (ve_var 3) vl_nil)) ve_int) (ve_mulB ve_int (ve_potIx 0)))) vl_nil)) ve_int))
  (vs_one (vs_ret (ve_mod (ve_callT call_int1 l_int1 B.int bt_int (vl_cons (ve_div (ve_var 3) ve_int) vl_nil)) (ve_var 1))))))))) (by decide +kernel)

theorem S__law_cells : FnScope ["script", "most"] ["script", "most"] (defScope (top 53)) := ⟨rfl, rfl, rfl, by decide +kernel, rfl, by decide +kernel, by decide +kernel⟩
theorem b__law_cells {P : Program} {w : World} {K : PySem.W.Frag} {mg : Str → Option Value} {base : Heap} {k : Nat}  (f : Addr) (cdv : Value) (A : Around) (outer : List PySem.Env) (s : Shared) (H : Hp) (E : XK) (R : RC) (B : Blt mg)    
     (hG : A.guards = some []) (hr : Room k (A.deeper (envOfC "_law_cells" (defScope (top 53)) s.heap.objs.size f cdv))) :
    VSs (cxOf (L2.CX P w) P w K mg base ["script", "most"] "_law_cells" (defScope (top 53)) f cdv A outer s H E).nox R 0 (defBody (top 53)) t__law_cells := by
  have S := S__law_cells
  have hu : (A.deeper (envOfC "_law_cells" (defScope (top 53)) s.heap.objs.size f cdv)).units + 64 < cLine := by have := hr.un; omega
  exact VSs.cost (c' := 0) (vs_one (vs_ret (ve_listRng (vr_1 (ve_callB (call_max2 rfl) l_max2 B.max bt_max (vl_cons ve_int (vl_cons (ve_callB (call_min2 rfl) l_min2 B.min bt_min (vl_cons (ve_var 1) (vl_cons (ve_callB call_len_seq l_len B.len bt_len (vl_cons (ve_var 0) vl_nil)) vl_nil))) vl_nil))) B.range) rfl B.list))) (by decide +kernel)

theorem S__law_codes : FnScope ["row", "number", "found", "code", "last", "cars", "ahead", "car", "its"] ["row"] (defScope (top 55)) := ⟨rfl, rfl, rfl, by decide +kernel, rfl, by decide +kernel, by decide +kernel⟩
theorem b__law_codes {P : Program} {w : World} {K : PySem.W.Frag} {mg : Str → Option Value} {base : Heap} {k : Nat}  (f : Addr) (cdv : Value) (A : Around) (outer : List PySem.Env) (s : Shared) (H : Hp) (E : XK) (R : RC) (B : Blt mg)    
     (hG : A.guards = some []) (hr : Room k (A.deeper (envOfC "_law_codes" (defScope (top 55)) s.heap.objs.size f cdv))) :
    VSs (cxOf (L2.CX P w) P w K mg base ["row", "number", "found", "code", "last", "cars", "ahead", "car", "its"] "_law_codes" (defScope (top 55)) f cdv A outer s H E).nox R 0 (defBody (top 55)) t__law_codes := by
  have S := S__law_codes
  have hu : (A.deeper (envOfC "_law_codes" (defScope (top 55)) s.heap.objs.size f cdv)).units + 64 < cLine := by have := hr.un; omega
  exact VSs.cost (c' := 0) (vs_cons (vs_asg (ve_tupF (vl_cons (ve_mulB (ve_lst (vl_cons ve_int vl_nil)) (ve_callB call_len_seq l_len B.len bt_len (vl_cons (ve_var 0) vl_nil))) (vl_cons ve_int (vl_cons (ve_neg ve_int) vl_nil)))) (vg_tup rfl (vgs_cons (i := 2) S.nd (vgs_cons (i := 3) S.nd (vgs_cons (i := 4) S.nd vgs_nil))) (len_cons (len_cons (len_cons len_nil)))))
  (vs_cons (vs_for PassesOwn.never rfl (vi_seq (ve_sortSet rfl (ve_var 0) B.sorted B.set)) (vg_name (i := 1) S.nd) (vs_cons (vs_setLc (i := 5) (own := [("car", 7), ("its", 8)]) rfl S.nd (vi_enum (vl_cons (ve_var 0) vl_nil) B.enumerate) (blkOk_by (by rfl)) (fun s H C cl fp => (vg_tup rfl (vgs_cons (i := 7) S.nd (vgs_cons (i := 8) S.nd vgs_nil)) (len_cons (len_cons len_nil)))) (fun s H C cl fp => (vts_one (vc_eqA hu (ve_var 8) (ve_var 1)))) (fun s H C cl fp => (ve_var 7)))
  (vs_cons (vs_setLc (i := 6) (own := [("car", 7)]) rfl S.nd (vi_seq (ve_var 5)) (blkOk_by (by rfl)) (fun s H C cl fp => (vg_name (i := 7) S.nd)) (fun s H C cl fp => (vts_one (vc_lt (ve_var 7) (ve_var 4)))) (fun s H C cl fp => (ve_var 7)))
  (vss_frz 5 (vs_cons (vs_for PassesOwn.never rfl (vi_seq (ve_var 5)) (vg_name (i := 7) S.nd) (vs_one (vs_setIx (ve_callT call_int1 l_int1 B.int bt_int (vl_cons (ve_add (ve_var 3) (ve_if (vc_lt (ve_var 7) (ve_var 4)) ve_int ve_int)) vl_nil)) (vp_var 2) (ve_var 7))))
  (vs_one (vs_asg (ve_tupF (vl_cons (ve_add (ve_var 3) (ve_if (vc_neA hu (ve_var 6) (ve_lst vl_nil)) ve_int ve_int)) (vl_cons (ve_callB (cr_maxK rfl hu) l_max1 B.max bt_max (vl_cons (ve_if (vc_neA hu (ve_var 6) (ve_lst vl_nil)) (ve_var 6) (ve_var 5)) vl_nil)) vl_nil))) (vg_tup rfl (vgs_cons (i := 3) S.nd (vgs_cons (i := 4) S.nd vgs_nil)) (len_cons (len_cons len_nil))))))))))
  (vs_one (vs_ret (ve_tup (vl_cons (ve_callT call_int1 l_int1 B.int bt_int (vl_cons (ve_var 3) vl_nil)) (vl_cons (ve_callT call_tuple_of l_tuple B.tuple bt_tuple (vl_cons (ve_var 2) vl_nil)) vl_nil))))))) (by decide +kernel)

theorem S__law_row : FnScope ["pot", "most", "numbers", "car"] ["pot", "most"] (defScope (top 56)) := ⟨rfl, rfl, rfl, by decide +kernel, rfl, by decide +kernel, by decide +kernel⟩
theorem b__law_row {P : Program} {w : World} {K : PySem.W.Frag} {mg : Str → Option Value} {base : Heap} {k : Nat}  (f : Addr) (cdv : Value) (A : Around) (outer : List PySem.Env) (s : Shared) (H : Hp) (E : XK) (R : RC) (B : Blt mg)  (F__law_take : Cal R.T P w K mg base k "_law_take" ["pot", "upto"] 1 sp__law_take)  
     (hG : A.guards = some []) (hr : Room k (A.deeper (envOfC "_law_row" (defScope (top 56)) s.heap.objs.size f cdv))) :
    VSs (cxOf (L2.CX P w) P w K mg base ["pot", "most", "numbers", "car"] "_law_row" (defScope (top 56)) f cdv A outer s H E).nox R 16777218 (defBody (top 56)) t__law_row := by
  have S := S__law_row
  have hu : (A.deeper (envOfC "_law_row" (defScope (top 56)) s.heap.objs.size f cdv)).units + 64 < cLine := by have := hr.un; omega
  exact VSs.cost (c' := 16777218) (vs_cons (vs_set (i := 2) S.nd (ve_add ve_int (ve_fn F__law_take hG hr (vl_cons (ve_var 0) (vl_cons ve_int vl_nil)))))
  (vs_one (vs_ret (ve_callT call_tuple_of l_tuple B.tuple bt_tuple (vl_cons (ve_lc (own := [("car", 3)]) rfl S.nd (vi_rng1 (vl_cons (ve_fn F__law_take hG hr (vl_cons (ve_var 0) (vl_cons (ve_add (ve_var 1) ve_int) vl_nil))) vl_nil) B.range) (blkOk_by (by rfl)) (fun s H C cl fp => (vg_name (i := 3) S.nd)) (fun s H C cl fp => vts_nil) (fun s H C cl fp => (ve_callT call_int1 l_int1 B.int bt_int (vl_cons (ve_add ve_int (ve_fn F__law_take hG hr (vl_cons (ve_var 0) (vl_cons (ve_var 2) vl_nil)))) vl_nil)))) vl_nil))))) (by decide +kernel)

theorem S__law_choose : FnScope ["number", "many", "found", "at"] ["number", "many"] (defScope (top 57)) := ⟨rfl, rfl, rfl, by decide +kernel, rfl, by decide +kernel, by decide +kernel⟩
theorem b__law_choose {P : Program} {w : World} {K : PySem.W.Frag} {mg : Str → Option Value} {base : Heap} {k : Nat}  (f : Addr) (cdv : Value) (A : Around) (outer : List PySem.Env) (s : Shared) (H : Hp) (E : XK) (R : RC) (B : Blt mg)    
     (hG : A.guards = some []) (hr : Room k (A.deeper (envOfC "_law_choose" (defScope (top 57)) s.heap.objs.size f cdv))) :
    VSs (cxOf (L2.CX P w) P w K mg base ["number", "many", "found", "at"] "_law_choose" (defScope (top 57)) f cdv A outer s H E).nox R 0 (defBody (top 57)) t__law_choose := by
  have S := S__law_choose
  have hu : (A.deeper (envOfC "_law_choose" (defScope (top 57)) s.heap.objs.size f cdv)).units + 64 < cLine := by have := hr.un; omega
  exact VSs.cost (c' := 0) (vs_cons (vs_set (i := 2) S.nd ve_int)
  (vs_cons (vs_for PassesOwn.never rfl (vi_rng1 (vl_cons (ve_var 1) vl_nil) B.range) (vg_name (i := 3) S.nd) (vs_one (vs_set (i := 2) S.nd (ve_div (ve_mulB (ve_var 2) (ve_sub (ve_var 0) (ve_var 3))) (ve_add (ve_var 3) ve_int)))))
  (vs_one (vs_ret (ve_var 2))))) (by decide +kernel)

theorem S__law_power : FnScope ["base", "number", "found", "lap"] ["base", "number"] (defScope (top 58)) := ⟨rfl, rfl, rfl, by decide +kernel, rfl, by decide +kernel, by decide +kernel⟩
theorem b__law_power {P : Program} {w : World} {K : PySem.W.Frag} {mg : Str → Option Value} {base : Heap} {k : Nat}  (f : Addr) (cdv : Value) (A : Around) (outer : List PySem.Env) (s : Shared) (H : Hp) (E : XK) (R : RC) (B : Blt mg)    
     (hG : A.guards = some []) (hr : Room k (A.deeper (envOfC "_law_power" (defScope (top 58)) s.heap.objs.size f cdv))) :
    VSs (cxOf (L2.CX P w) P w K mg base ["base", "number", "found", "lap"] "_law_power" (defScope (top 58)) f cdv A outer s H E).nox R 0 (defBody (top 58)) t__law_power := by
  have S := S__law_power
  have hu : (A.deeper (envOfC "_law_power" (defScope (top 58)) s.heap.objs.size f cdv)).units + 64 < cLine := by have := hr.un; omega
  exact VSs.cost (c' := 0) (vs_cons (vs_set (i := 2) S.nd ve_int)
  (vs_cons (vs_for PassesOwn.never rfl (vi_rng1 (vl_cons (ve_var 1) vl_nil) B.range) (vg_name (i := 3) S.nd) (vs_one (vs_set (i := 2) S.nd (ve_mulB (ve_var 2) (ve_var 0)))))
  (vs_one (vs_ret (ve_var 2))))) (by decide +kernel)

theorem S__law_bars : FnScope ["number", "bars", "at"] ["number", "bars"] (defScope (top 59)) := ⟨rfl, rfl, rfl, by decide +kernel, rfl, by decide +kernel, by decide +kernel⟩
theorem b__law_bars {P : Program} {w : World} {K : PySem.W.Frag} {mg : Str → Option Value} {base : Heap} {k : Nat}  (f : Addr) (cdv : Value) (A : Around) (outer : List PySem.Env) (s : Shared) (H : Hp) (E : XK) (R : RC) (B : Blt mg)  (F__law_choose : Cal R.T P w K mg base k "_law_choose" ["number", "many"] 0 sp__law_choose) (F__law_power : Cal R.T P w K mg base k "_law_power" ["base", "number"] 0 sp__law_power)  
     (hG : A.guards = some []) (hr : Room k (A.deeper (envOfC "_law_bars" (defScope (top 59)) s.heap.objs.size f cdv))) :
    VSs (cxOf (L2.CX P w) P w K mg base ["number", "bars", "at"] "_law_bars" (defScope (top 59)) f cdv A outer s H E).nox R 0 (defBody (top 59)) t__law_bars := by
  have S := S__law_bars
  have hu : (A.deeper (envOfC "_law_bars" (defScope (top 59)) s.heap.objs.size f cdv)).units + 64 < cLine := by have := hr.un; omega
  exact VSs.cost (c' := 0) (vs_cons (vs_if (vc_eqA hu (ve_var 0) ve_int) (vs_one (vs_ret (ve_callT call_int1 l_int1 B.int bt_int (vl_cons (ve_eqA hu (ve_var 1) ve_int) vl_nil)))) vs_nil)
  (vs_one (vs_ret (ve_callB (cr_sumK rfl) l_sum B.sum bt_sum (vl_cons (ve_lc (own := [("at", 2)]) rfl S.nd (vi_rng1 (vl_cons (ve_add (ve_var 1) ve_int) vl_nil) B.range) (blkOk_by (by rfl)) (fun s H C cl fp => (vg_name (i := 2) S.nd)) (fun s H C cl fp => vts_nil) (fun s H C cl fp => (ve_mulB (ve_mulB (ve_sub ve_int (ve_mulB ve_int (ve_mod (ve_var 2) ve_int))) (ve_fn F__law_choose hG hr (vl_cons (ve_add (ve_var 0) ve_int) (vl_cons (ve_var 2) vl_nil)))) (ve_fn F__law_power hG hr (vl_cons (ve_sub (ve_add (ve_var 1) ve_int) (ve_var 2)) (vl_cons (ve_var 0) vl_nil)))))) vl_nil))))) (by decide +kernel)

theorem S__law_is_row_right : FnScope ["pot", "row", "told", "order", "tracks", "whole", "many", "paper", "number", "codes", "cars", "caught", "passes", "reach", "deals", "before", "lap", "here", "there", "code"] ["pot", "row"] (defScope (top 60)) := ⟨rfl, rfl, rfl, by decide +kernel, rfl, by decide +kernel, by decide +kernel⟩
theorem b__law_is_row_right {P : Program} {w : World} {K : PySem.W.Frag} {mg : Str → Option Value} {base : Heap} {k : Nat}  (f : Addr) (cdv : Value) (A : Around) (outer : List PySem.Env) (s : Shared) (H : Hp) (E : XK) (R : RC) (B : Blt mg) {j : Nat} (hj : j + 2 ≤ k) (h1 : 1 ≤ k) (UE : ∀ x ∈ (["TooGreat"] : List Str), ExcUse K x) (EG : ∀ x ∈ (["TooGreat"] : List Str), mg x = some (.ref (He.ga K x))) (EM : ∀ x ∈ (["TooGreat"] : List Str), PySem.W.exmOne K (.ref (He.ga K x)) (.ref (He.ga K "TrackError")) = some true) (Ct : CatchD K mg "_law_caught" "TrackError" (top 54) "look" "caught") (Tf : TabF R.T K mg base "_law_is_row_right") (hz : mg "_law_is_row_right" = some (.ref f)) (hcd : CodeAt K f cdv) (F__law_codes : Cal R.T P w K mg base k "_law_codes" ["row"] 0 sp__law_codes) (F__law_take : Cal R.T P w K mg base k "_law_take" ["pot", "upto"] 1 sp__law_take) (F_behind : Cal R.T P w K mg base k "behind" ["row", "deals"] 0 sp_behind) (F_by_codes : Cal R.T P w K mg base k "by_codes" ["row", "codes"] 0 sp_by_codes) (F_can_set : Cal R.T P w K mg base k "can_set" ["row", "tracks"] 0 sp_can_set) (F_codes_of : Cal R.T P w K mg base k "codes_of" ["row", "deals", "tracks"] 0 sp_codes_of) (F_dealt : Cal R.T P w K mg base k "dealt" ["row", "codes", "tracks"] 0 sp_dealt) (F_do_set : Cal R.T P w K mg base k "do_set" ["row", "codes"] 0 sp_do_set) (F_least_codes : Cal R.T P w K mg base k "least_codes" ["row"] 0 sp_least_codes) (F_least_passes : Cal R.T P w K mg base k "least_passes" ["row", "many"] 0 sp_least_passes) (F_shows_can_set : Cal R.T P w K mg base k "shows_can_set" ["row", "tracks", "value"] 0 sp_shows_can_set) (F_shows_least_codes : Cal R.T P w K mg base k "shows_least_codes" ["row", "value"] 0 sp_shows_least_codes) (FX_dealt : CalX R.T P w K mg base j "dealt" ["row", "codes", "tracks"] 0 spx_dealt)  
     (hG : A.guards = some []) (hr : Room k (A.deeper (envOfC "_law_is_row_right" (defScope (top 60)) s.heap.objs.size f cdv))) :
    VSs (cxOf (L2.CX P w) P w K mg base ["pot", "row", "told", "order", "tracks", "whole", "many", "paper", "number", "codes", "cars", "caught", "passes", "reach", "deals", "before", "lap", "here", "there", "code"] "_law_is_row_right" (defScope (top 60)) f cdv A outer s H E).nox R 16777218 (defBody (top 60)) t__law_is_row_right := by
  have S := S__law_is_row_right
  have hu : (A.deeper (envOfC "_law_is_row_right" (defScope (top 60)) s.heap.objs.size f cdv)).units + 64 < cLine := by have := hr.un; omega
  exact VSs.cost (c' := 16777218) (vs_cons (vs_asg (ve_fn F__law_codes hG hr (vl_cons (ve_var 1) vl_nil)) (vg_tup rfl (vgs_cons (i := 8) S.nd (vgs_cons (i := 9) S.nd vgs_nil)) (len_cons (len_cons len_nil))))
  (vs_cons (vs_set (i := 2) S.nd (ve_fn F_least_codes hG hr (vl_cons (ve_var 1) vl_nil)))
  (vs_cons (vs_if (vc_w (vw_or (vc_neA hu (ve_callB (cr_repr hG hu) l_repr B.repr bt_repr (vl_cons (ve_ix (ve_var 2) ve_int) vl_nil)) (ve_callB (cr_repr hG hu) l_repr B.repr bt_repr (vl_cons (ve_var 8) vl_nil))) (vw_or (vc_isnot (ve_fn F_shows_least_codes hG hr (vl_cons (ve_var 1) (vl_cons (ve_var 2) vl_nil))) ve_bl) (vw_or1 (vc_isnot (ve_fn F_do_set hG hr (vl_cons (ve_var 1) (vl_cons (ve_var 9) vl_nil))) ve_bl))))) (vs_one (vs_ret ve_bl)) vs_nil)
  (vs_cons (vs_if (vc_isnot (ve_fn F_shows_least_codes hG hr (vl_cons (ve_var 1) (vl_cons (ve_tup (vl_cons (ve_var 8) (vl_cons (ve_var 9) (vl_cons (ve_ix (ve_var 2) ve_int) vl_nil)))) vl_nil))) ve_bl) (vs_one (vs_ret ve_bl)) vs_nil)
  (vs_cons (vs_set (i := 3) S.nd (ve_callT call_tuple_of l_tuple B.tuple bt_tuple (vl_cons (ve_sortRng (a := "car") [] Tf hz hcd rfl rfl (lamP_by (by rfl)) (hvs_by (by rfl)) rfl (hr.mono h1) (ve_callB call_len_seq l_len B.len bt_len (vl_cons (ve_var 1) vl_nil)) (fun A L0 f c => (vek_pair (vek_ix (vek_var 9) (vek_var 20)) (vek_var 20))) B.sorted B.range) vl_nil)))
  (vs_cons (vs_if (vc_w (vw_or (vc_neA hu (ve_fn F_by_codes hG hr (vl_cons (ve_var 1) (vl_cons (ve_var 9) vl_nil))) (ve_var 3)) (vw_or1 (vc_val (ve_callB (cr_any rfl) l_any B.any bt_any (vl_cons (ve_lc (own := [("here", 17), ("there", 18)]) rfl S.nd (vi_zip (vl_cons (ve_var 3) (vl_cons (ve_slice (ve_var 3) (vp_some ve_int) vp_no) vl_nil)) B.zip) (blkOk_by (by rfl)) (fun s H C cl fp => (vg_tup rfl (vgs_cons (i := 17) S.nd (vgs_cons (i := 18) S.nd vgs_nil)) (len_cons (len_cons len_nil)))) (fun s H C cl fp => vts_nil) (fun s H C cl fp => (ve_gt (ve_ix (ve_var 1) (ve_var 17)) (ve_ix (ve_var 1) (ve_var 18))))) vl_nil)))))) (vs_one (vs_ret ve_bl)) vs_nil)
  (vs_cons (vs_set (i := 4) S.nd (ve_callT call_tuple_of l_tuple B.tuple bt_tuple (vl_cons (ve_lc (own := [("lap", 16)]) rfl S.nd (vi_rng1 (vl_cons (ve_fn F__law_take hG hr (vl_cons (ve_var 0) (vl_cons ve_int vl_nil))) vl_nil) B.range) (blkOk_by (by rfl)) (fun s H C cl fp => (vg_name (i := 16) S.nd)) (fun s H C cl fp => vts_nil) (fun s H C cl fp => (ve_callT call_int1 l_int1 B.int bt_int (vl_cons (ve_add ve_int (ve_fn F__law_take hG hr (vl_cons (ve_var 0) (vl_cons ve_int vl_nil)))) vl_nil)))) vl_nil)))
  (vs_cons (vs_set (i := 5) S.nd ve_int)
  (vs_cons (vs_for PassesOwn.never rfl (vi_seq (ve_var 4)) (vg_name (i := 6) S.nd) (vs_one (vs_set (i := 5) S.nd (ve_mulB (ve_var 5) (ve_var 6)))))
  (vs_cons (vs_set (i := 7) S.nd (ve_fn F_can_set hG hr (vl_cons (ve_var 1) (vl_cons (ve_var 4) vl_nil))))
  (vs_cons (vs_if (vc_w (vw_or (vc_neA hu (ve_eqA hu (ve_ix (ve_var 7) ve_int) ve_str) (ve_gt (ve_var 5) (ve_var 8))) (vw_or1 (vc_isnot (ve_fn F_shows_can_set hG hr (vl_cons (ve_var 1) (vl_cons (ve_var 4) (vl_cons (ve_var 7) vl_nil)))) ve_bl)))) (vs_one (vs_ret ve_bl)) vs_nil)
  (vs_cons (vs_if (vc_gt (ve_var 5) (ve_var 8)) (vs_cons (vs_asg (ve_tup (vl_cons (ve_lst vl_nil) (vl_cons ve_int vl_nil))) (vg_tup rfl (vgs_cons (i := 14) S.nd (vgs_cons (i := 15) S.nd vgs_nil)) (len_cons (len_cons len_nil))))
  (vs_cons (vs_for PassesOwn.never rfl (vi_seq (ve_var 4)) (vg_name (i := 6) S.nd) (vs_cons (vs_append (vp_var 14) (vl_cons (ve_callT call_tuple_of l_tuple B.tuple bt_tuple (vl_cons (ve_lc (own := [("code", 19)]) rfl S.nd (vi_seq (ve_var 9)) (blkOk_by (by rfl)) (fun s H C cl fp => (vg_name (i := 19) S.nd)) (fun s H C cl fp => vts_nil) (fun s H C cl fp => (ve_callT call_int1 l_int1 B.int bt_int (vl_cons (ve_mod (ve_div (ve_var 19) (ve_var 15)) (ve_var 6)) vl_nil)))) vl_nil)) vl_nil))
  (vs_one (vs_set (i := 15) S.nd (ve_mulB (ve_var 15) (ve_var 6))))))
  (vs_cons (vs_if (vc_w (vw_or (vc_neA hu (ve_callB (cr_repr hG hu) l_repr B.repr bt_repr (vl_cons (ve_fn F_dealt hG hr (vl_cons (ve_var 1) (vl_cons (ve_var 9) (vl_cons (ve_var 4) vl_nil)))) vl_nil)) (ve_callB (cr_repr hG hu) l_repr B.repr bt_repr (vl_cons (ve_callT call_tuple_of l_tuple B.tuple bt_tuple (vl_cons (ve_var 14) vl_nil)) vl_nil))) (vw_or (vc_neA hu (ve_fn F_codes_of hG hr (vl_cons (ve_var 1) (vl_cons (ve_callT call_tuple_of l_tuple B.tuple bt_tuple (vl_cons (ve_var 14) vl_nil)) (vl_cons (ve_var 4) vl_nil)))) (ve_var 9)) (vw_or1 (vc_neA hu (ve_fn F_behind hG hr (vl_cons (ve_var 1) (vl_cons (ve_callT call_tuple_of l_tuple B.tuple bt_tuple (vl_cons (ve_var 14) vl_nil)) vl_nil))) (ve_var 3)))))) (vs_one (vs_ret ve_bl)) vs_nil)
  (vs_cons (vs_set (i := 10) S.nd (ve_fn F_behind hG hr (vl_cons (ve_var 1) (vl_cons (ve_ix (ve_var 7) ve_int) vl_nil))))
  (vs_one (vs_if (vc_val (ve_callB (cr_any rfl) l_any B.any bt_any (vl_cons (ve_lc (own := [("here", 17), ("there", 18)]) rfl S.nd (vi_zip (vl_cons (ve_var 10) (vl_cons (ve_slice (ve_var 10) (vp_some ve_int) vp_no) vl_nil)) B.zip) (blkOk_by (by rfl)) (fun s H C cl fp => (vg_tup rfl (vgs_cons (i := 17) S.nd (vgs_cons (i := 18) S.nd vgs_nil)) (len_cons (len_cons len_nil)))) (fun s H C cl fp => vts_nil) (fun s H C cl fp => (ve_gt (ve_ix (ve_var 1) (ve_var 17)) (ve_ix (ve_var 1) (ve_var 18))))) vl_nil))) (vs_one (vs_ret ve_bl)) vs_nil)))))) (vs_cons (vs_set (i := 11) S.nd (ve_caught (names := ["TooGreat"]) Ct Tf hz hcd rfl rfl EM hG (hr.mono hj) FX_dealt (fun A outer s H E f c hgd hr2 => (vl_cons (ve_var 1) (vl_cons (ve_var 9) (vl_cons (ve_var 4) vl_nil)))) (LamX.lamS_by (by rfl)) (by rfl)))
  (vs_one (vs_if (vc_w (vw_and (vc_neA hu (ve_var 1) (ve_tup vl_nil)) (vw_and1 (vc_w (vw_or (vc_not (vc_val (ve_isaE (UE "TooGreat" (by decide)) (EG "TooGreat" (by decide)) (ve_var 11) B.isinstance))) (vw_or1 (vc_neA hu (ve_callB (cr_repr hG hu) l_repr B.repr bt_repr (vl_cons (ve_value (names := ["TooGreat"]) UE (ve_var 11)) vl_nil)) (ve_callB (cr_repr hG hu) l_repr B.repr bt_repr (vl_cons (ve_var 8) vl_nil))))))))) (vs_one (vs_ret ve_bl)) vs_nil))))
  (vs_cons (vs_asg (ve_tup (vl_cons (ve_callT call_int1 l_int1 B.int bt_int (vl_cons (ve_add ve_int (ve_fn F__law_take hG hr (vl_cons (ve_var 0) (vl_cons ve_int vl_nil)))) vl_nil)) (vl_cons ve_int (vl_cons ve_int vl_nil)))) (vg_tup rfl (vgs_cons (i := 6) S.nd (vgs_cons (i := 12) S.nd (vgs_cons (i := 13) S.nd vgs_nil))) (len_cons (len_cons (len_cons len_nil)))))
  (vs_cons (vs_while PassesOwn.never (vc_le (ve_var 13) (ve_var 8)) (vs_one (vs_par2 (i := 12) (j := 13) rfl S.nd (vl_cons (ve_add (ve_var 12) ve_int) (vl_cons (ve_mulB (ve_var 13) (ve_var 6)) vl_nil)) (by decide))))
  (vs_one (vs_ret (ve_eqA hu (ve_callB (cr_repr hG hu) l_repr B.repr bt_repr (vl_cons (ve_fn F_least_passes hG hr (vl_cons (ve_var 1) (vl_cons (ve_var 6) vl_nil))) vl_nil)) (ve_callB (cr_repr hG hu) l_repr B.repr bt_repr (vl_cons (ve_callT call_int1 l_int1 B.int bt_int (vl_cons (ve_var 12) vl_nil)) vl_nil))))))))))))))))))) (by decide +kernel)

theorem S__law_right : FnScope ["pot", "up", "down", "many", "row", "lap", "one", "other", "first", "second", "number", "bars", "its"] ["pot"] (defScope (top 61)) := ⟨rfl, rfl, rfl, by decide +kernel, rfl, by decide +kernel, by decide +kernel⟩
theorem b__law_right {P : Program} {w : World} {K : PySem.W.Frag} {mg : Str → Option Value} {base : Heap} {k : Nat}  (f : Addr) (cdv : Value) (A : Around) (outer : List PySem.Env) (s : Shared) (H : Hp) (E : XK) (R : RC) (B : Blt mg)  (F__law_bars : Cal R.T P w K mg base k "_law_bars" ["number", "bars"] 0 sp__law_bars) (F__law_codes : Cal R.T P w K mg base k "_law_codes" ["row"] 0 sp__law_codes) (F__law_is_row_right : Cal R.T P w K mg base k "_law_is_row_right" ["pot", "row"] 16777218 sp__law_is_row_right) (F__law_row : Cal R.T P w K mg base k "_law_row" ["pot", "most"] 16777218 sp__law_row) (F__law_take : Cal R.T P w K mg base k "_law_take" ["pot", "upto"] 1 sp__law_take) (F_bar_count : Cal R.T P w K mg base k "bar_count" ["number", "bars"] 0 sp_bar_count) (F_least_codes : Cal R.T P w K mg base k "least_codes" ["row"] 0 sp_least_codes)  
     (hG : A.guards = some []) (hr : Room k (A.deeper (envOfC "_law_right" (defScope (top 61)) s.heap.objs.size f cdv))) :
    VSs (cxOf (L2.CX P w) P w K mg base ["pot", "up", "down", "many", "row", "lap", "one", "other", "first", "second", "number", "bars", "its"] "_law_right" (defScope (top 61)) f cdv A outer s H E).nox R 281475077373961 (defBody (top 61)) t__law_right := by
  have S := S__law_right
  have hu : (A.deeper (envOfC "_law_right" (defScope (top 61)) s.heap.objs.size f cdv)).units + 64 < cLine := by have := hr.un; omega
  exact VSs.cost (c' := 281475077373961) (vs_cons (vs_asg (ve_tup (vl_cons (ve_fn F__law_row hG hr (vl_cons (ve_var 0) (vl_cons ve_int vl_nil))) (vl_cons (ve_fn F__law_row hG hr (vl_cons (ve_var 0) (vl_cons ve_int vl_nil))) vl_nil))) (vg_tup rfl (vgs_cons (i := 6) S.nd (vgs_cons (i := 7) S.nd vgs_nil)) (len_cons (len_cons len_nil))))
  (vs_cons (vs_par2 (i := 8) (j := 9) rfl S.nd (vl_cons (ve_ix (ve_fn F__law_codes hG hr (vl_cons (ve_var 6) vl_nil)) ve_int) (vl_cons (ve_ix (ve_fn F__law_codes hG hr (vl_cons (ve_var 7) vl_nil)) ve_int) vl_nil)) (by decide))
  (vs_cons (vs_set (i := 1) S.nd (ve_add (ve_var 6) (ve_callT call_tuple_of l_tuple B.tuple bt_tuple (vl_cons (ve_lc (own := [("number", 10)]) rfl S.nd (vi_seq (ve_var 7)) (blkOk_by (by rfl)) (fun s H C cl fp => (vg_name (i := 10) S.nd)) (fun s H C cl fp => vts_nil) (fun s H C cl fp => (ve_callT call_int1 l_int1 B.int bt_int (vl_cons (ve_add (ve_var 10) (ve_callB (cr_maxK rfl hu) l_max1 B.max bt_max (vl_cons (ve_add (ve_tup (vl_cons ve_int vl_nil)) (ve_var 6)) vl_nil))) vl_nil)))) vl_nil))))
  (vs_cons (vs_set (i := 2) S.nd (ve_add (ve_callT call_tuple_of l_tuple B.tuple bt_tuple (vl_cons (ve_lc (own := [("number", 10)]) rfl S.nd (vi_seq (ve_var 6)) (blkOk_by (by rfl)) (fun s H C cl fp => (vg_name (i := 10) S.nd)) (fun s H C cl fp => vts_nil) (fun s H C cl fp => (ve_callT call_int1 l_int1 B.int bt_int (vl_cons (ve_add (ve_var 10) (ve_callB (cr_maxK rfl hu) l_max1 B.max bt_max (vl_cons (ve_add (ve_tup (vl_cons ve_int vl_nil)) (ve_var 7)) vl_nil))) vl_nil)))) vl_nil)) (ve_var 7)))
  (vs_cons (vs_if (vc_w (vw_or (vc_neA hu (ve_ix (ve_fn F_least_codes hG hr (vl_cons (ve_var 1) vl_nil)) ve_int) (ve_add (ve_var 8) (ve_var 9))) (vw_or1 (vc_neA hu (ve_ix (ve_fn F_least_codes hG hr (vl_cons (ve_var 2) vl_nil)) ve_int) (ve_add (ve_add (ve_var 8) (ve_var 9)) (ve_callT call_int1 l_int1 B.int bt_int (vl_cons (ve_and (ve_neA hu (ve_var 6) (ve_tup vl_nil)) (ve_and1 (ve_neA hu (ve_var 7) (ve_tup vl_nil)))) vl_nil))))))) (vs_one (vs_ret ve_bl)) vs_nil)
  (vs_cons (vs_set (i := 3) S.nd (ve_add ve_int (ve_fn F__law_take hG hr (vl_cons (ve_var 0) (vl_cons ve_int vl_nil)))))
  (vs_cons (vs_set (i := 4) S.nd (ve_lst vl_nil))
  (vs_cons (vs_for PassesOwn.never rfl (vi_rng1 (vl_cons (ve_var 3) vl_nil) B.range) (vg_name (i := 5) S.nd) (vs_one (vs_insert (vp_var 4) (vl_cons (ve_fn F__law_take hG hr (vl_cons (ve_var 0) (vl_cons (ve_add (ve_var 5) ve_int) vl_nil))) (vl_cons (ve_callT call_int1 l_int1 B.int bt_int (vl_cons (ve_add (ve_mulB ve_int (ve_var 5)) ve_int) vl_nil)) vl_nil)))))
  (vs_cons (vs_set (i := 4) S.nd (ve_callT call_tuple_of l_tuple B.tuple bt_tuple (vl_cons (ve_var 4) vl_nil)))
  (vs_cons (vs_if (vc_w (vw_or (vc_neA hu (ve_add (ve_ix (ve_fn F_least_codes hG hr (vl_cons (ve_var 4) vl_nil)) ve_int) (ve_ix (ve_fn F_least_codes hG hr (vl_cons (ve_back (ve_var 4)) vl_nil)) ve_int)) (ve_sub (ve_var 3) ve_int)) (vw_or1 (vc_not (vc_val (ve_callB (cr_all rfl) l_all B.all bt_all (vl_cons (ve_lc (own := [("its", 12)]) rfl S.nd (vi_seq (ve_tup (vl_cons (ve_fn F__law_row hG hr (vl_cons (ve_var 0) (vl_cons ve_int vl_nil))) (vl_cons (ve_var 4) (vl_cons (ve_var 2) vl_nil))))) (blkOk_by (by rfl)) (fun s H C cl fp => (vg_name (i := 12) S.nd)) (fun s H C cl fp => vts_nil) (fun s H C cl fp => (ve_fn F__law_is_row_right hG hr (vl_cons (ve_var 0) (vl_cons (ve_var 12) vl_nil))))) vl_nil))))))) (vs_one (vs_ret ve_bl)) vs_nil)
  (vs_cons (vs_par2 (i := 10) (j := 11) rfl S.nd (vl_cons (ve_callT call_int1 l_int1 B.int bt_int (vl_cons (ve_fn F__law_take hG hr (vl_cons (ve_var 0) (vl_cons ve_int vl_nil))) vl_nil)) (vl_cons (ve_callT call_int1 l_int1 B.int bt_int (vl_cons (ve_fn F__law_take hG hr (vl_cons (ve_var 0) (vl_cons ve_int vl_nil))) vl_nil)) vl_nil)) (by decide))
  (vs_one (vs_ret (ve_eqA hu (ve_callB (cr_repr hG hu) l_repr B.repr bt_repr (vl_cons (ve_fn F_bar_count hG hr (vl_cons (ve_var 10) (vl_cons (ve_var 11) vl_nil))) vl_nil)) (ve_callB (cr_repr hG hu) l_repr B.repr bt_repr (vl_cons (ve_if (vc_le (ve_var 11) (ve_var 10)) (ve_fn F__law_bars hG hr (vl_cons (ve_var 10) (vl_cons (ve_var 11) vl_nil))) ve_int) vl_nil)))))))))))))))) (by decide +kernel)

theorem S_law : FnScope ["script", "place"] ["script"] (defScope (top 62)) := ⟨rfl, rfl, rfl, by decide +kernel, rfl, by decide +kernel, by decide +kernel⟩
theorem b_law {P : Program} {w : World} {K : PySem.W.Frag} {mg : Str → Option Value} {base : Heap} {k : Nat}  (f : Addr) (cdv : Value) (A : Around) (outer : List PySem.Env) (s : Shared) (H : Hp) (E : XK) (R : RC) (B : Blt mg)  (F__law_cells : Cal R.T P w K mg base k "_law_cells" ["script", "most"] 0 sp__law_cells) (F__law_pot : Cal R.T P w K mg base k "_law_pot" ["script", "place"] 0 sp__law_pot) (F__law_right : Cal R.T P w K mg base k "_law_right" ["pot"] 281475077373961 sp__law_right)  
     (hG : A.guards = some []) (hr : Room k (A.deeper (envOfC "law" (defScope (top 62)) s.heap.objs.size f cdv))) :
    VSs (cxOf (L2.CX P w) P w K mg base ["script", "place"] "law" (defScope (top 62)) f cdv A outer s H E).nox R 4722368171719656472576 (defBody (top 62)) t_law := by
  have S := S_law
  have hu : (A.deeper (envOfC "law" (defScope (top 62)) s.heap.objs.size f cdv)).units + 64 < cLine := by have := hr.un; omega
  exact VSs.cost (c' := 4722368171719656472576) (vs_cons (vs_for PassesOwn.never rfl (vi_seq (ve_fn F__law_cells hG hr (vl_cons (ve_var 0) (vl_cons ve_int vl_nil)))) (vg_name (i := 1) S.nd) (vs_one (vs_if (vc_not (vc_val (ve_fn F__law_right hG hr (vl_cons (ve_fn F__law_pot hG hr (vl_cons (ve_var 0) (vl_cons (ve_var 1) vl_nil))) vl_nil)))) (vs_one (vs_ret ve_bl)) vs_nil)))
  (vs_one (vs_ret ve_bl))) (by decide +kernel)
end K67

set_option maxHeartbeats 400000
/-! the end of a law's proof, with tables of code objects -/
namespace VS
open PySem PySem.Spec PyProof.Rows L2
/-- the script is tracked unless the module knows it; the tables are tracked -/
def startH (ts : List Addr) (own : Option (Addr × Obj × List V)) : Hp := fun b => match own with
  | some (a, o, xs) => if b = a then some (.frz o (.lst xs)) else if b ∈ ts then some (.tbl #[]) else none
  | none => if b ∈ ts then some (.tbl #[]) else none
/-- what is known of the law's promise at the head's heap h; cs: code objects and their tables -/
def LawT (l : PySem.W.OpenLaw) (w : World) (K : PySem.W.Frag) (CX : CXT) (k n : Nat) (x : Str) (mg : Str → Option Value) (fa : Addr) (h : Heap) : Prop :=
  ∃ cs : List (Addr × Addr), (∀ p ∈ cs, h.get? p.2 = some { cls := .none, data := .fields #[] }) ∧ (∀ p ∈ cs, K.lookup p.2 = none) ∧ (∀ p ∈ cs, PySem.W.CodeHd h p.1 p.2) ∧
    ∀ base : Heap, K.In base → base.Ns mainGlobals mg → (∀ p ∈ cs, LamX.TabB base mg p.1 p.2) → ∃ (fd : FuncData) (sp : Sp), Binds K fd [x] [] ∧
      (∀ (H : Hp) (a : Addr) (ns : List Int), ns.length ≤ n → (∀ z ∈ ns, Builtin.Int.intBits z ≤ 1048576) → (∀ p ∈ cs, H p.2 = some (.tbl #[])) → RoL K H a (ns.map V.int) → sp [.ref a] H (fun v _ => v = .bl true) fun _ _ _ => False) ∧
      FnG l.prog w K mg base CX k fa fd [x] sp
theorem law_atT {P : Program} {w : World} {K : PySem.W.Frag} {mg mb : Str → Option Value} {CX : CXT} {k : Nat} {fa a : Addr} {cs : List (Addr × Addr)} {x : Str} {st : Shared} {vs : List Value} {ns : List Int}
    (kin : K.In st.heap) (glob : st.heap.Ns mainGlobals mg) (blt : st.heap.Ns builtinsNs mb) (std : ∀ y : Str, y ≠ "__name__" → mb y = bootBuiltins y) (lim : st.heap.NoLimit) (gens : st.gens = #[])
    (hT : ∀ p ∈ cs, st.heap.get? p.2 = some { cls := .none, data := .fields #[] }) (nT : ∀ p ∈ cs, K.lookup p.2 = none) (hC : ∀ p ∈ cs, PySem.W.CodeHd st.heap p.1 p.2)
    (hbm : ∃ (bm : Addr) (ob : Obj), mg "__builtins__" = some (.ref bm) ∧ bm ≠ builtinsNs ∧ st.heap.get? bm = some ob ∧ ob.cls = .type "module" ∧ ob.dict = some builtinsNs ∧ ob.data = .plain)
    (script : st.heap.get? a = some { cls := .type "list", data := .seq vs.toArray }) (nums : IntsAre vs ns) (few : ns.length ≤ sizeLine) (room : Room k callerA)
    (F : ∀ base : Heap, K.In base → base.Ns mainGlobals mg → (∀ p ∈ cs, LamX.TabB base mg p.1 p.2) → ∃ (fd : FuncData) (sp : Sp), Binds K fd [x] [] ∧
      (∀ H : Hp, (∀ p ∈ cs, H p.2 = some (.tbl #[])) → RoL K H a (ns.map V.int) → sp [.ref a] H (fun v _ => v = .bl true) fun _ _ _ => False) ∧ FnG P w K mg base CX k fa fd [x] sp)
    (noexc : ∀ H e s', ¬ CX [] H st (fun _ _ _ => False) e s') :
    codeAny (model P w) callerA (.call (.ref fa) ⟨[.ref a], []⟩) (fun r s' => r = .ok (.ret (.bool true)) ∧ OldK st.heap s'.heap ∧ s'.os = st.os ∧ AllBare s'.gens) st := by
  have rel := vals_ints nums
  have hlen : (ns.map V.int).length ≤ sizeLine := by rw [List.length_map]; exact few
  have tabAt : ∀ b, b ∈ cs.map (·.2) → st.heap.get? b = some { cls := .none, data := .fields #[] } := fun b hb => by
    obtain ⟨p, hp, rfl⟩ := List.mem_map.mp hb
    exact hT p hp
  have inT : ∀ p ∈ cs, p.2 ∈ cs.map (·.2) := fun p hp => List.mem_map.mpr ⟨p, hp, rfl⟩
  have notT : a ∉ cs.map (·.2) := fun z => by
    have q := tabAt a z
    rw [script] at q
    cases (congrArg Obj.data (Option.some.inj q) : Data.seq vs.toArray _ = Data.fields #[])
  have go : ∀ own, (∀ b o xs, own = some (b, o, xs) → b = a ∧ o = { cls := .type "list", data := .seq vs.toArray } ∧ xs = ns.map V.int ∧ K.lookup a = none) → RoL K (startH (cs.map (·.2)) own) a (ns.map V.int) →
      codeAny (model P w) callerA (.call (.ref fa) ⟨[.ref a], []⟩) (fun r s' => r = .ok (.ret (.bool true)) ∧ OldK st.heap s'.heap ∧ s'.os = st.os ∧ AllBare s'.gens) st := by
    intro own hown seq
    obtain ⟨H, hH⟩ : ∃ H, H = startH (cs.map (·.2)) own := ⟨_, rfl⟩
    rw [← hH] at seq
    -- what H holds
    have look : ∀ b u, H b = some u → (b = a ∧ K.lookup a = none ∧ u = .frz { cls := .type "list", data := .seq vs.toArray } (.lst (ns.map V.int))) ∨ (b ∈ cs.map (·.2) ∧ u = .tbl #[]) := fun b u e => by
      rw [hH] at e
      cases own with
      | none =>
        have e' : (if b ∈ cs.map (·.2) then some (HO.tbl #[]) else none) = some u := e
        split at e'
        · cases e'; exact .inr ⟨by assumption, rfl⟩
        · cases e'
      | some o =>
        obtain ⟨c, ob, xs⟩ := o
        obtain ⟨rfl, rfl, rfl, hk⟩ := hown c ob xs rfl
        have e' : (if b = c then some (HO.frz { cls := .type "list", data := .seq vs.toArray } (.lst (ns.map V.int))) else if b ∈ cs.map (·.2) then some (HO.tbl #[]) else none) = some u := e
        split at e'
        · cases e'; exact .inl ⟨by assumption, hk, rfl⟩
        · split at e'
          · cases e'; exact .inr ⟨by assumption, rfl⟩
          · cases e'
    have tabs : ∀ p ∈ cs, H p.2 = some (.tbl #[]) := fun p hp => by
      rw [hH]
      cases own with
      | none => exact if_pos (inT p hp)
      | some o =>
        obtain ⟨c, ob, xs⟩ := o
        obtain ⟨rfl, _, _, _⟩ := hown c ob xs rfl
        exact (if_neg (show ¬ p.2 = c from fun z => notT (by rw [← z]; exact inT p hp))).trans (if_pos (inT p hp))
    have ok : HOk P w H st.heap := fun b u e => by
      rcases look b u e with ⟨rfl, _, rfl⟩ | ⟨hb, rfl⟩
      · exact ⟨script, hlen, vs, 0, rel, script⟩
      · exact tabAt b hb
    -- an object of another make is not tracked
    have other : ∀ {b : Addr} {o : Obj}, st.heap.get? b = some o → (∀ ws n, o.data ≠ .seq ws n) → o.data ≠ .fields #[] → H b = none := fun {b o} e h1 h2 => by
      cases q : H b with
      | none => rfl
      | some u =>
        rcases look b u q with ⟨rfl, _, _⟩ | ⟨hb, _⟩
        · rw [script] at e; cases e; exact (h1 _ _ rfl).elim
        · rw [tabAt b hb] at e; cases e; exact (h2 rfl).elim
    have spaces : ∀ b m, st.heap.Ns b m → (hidT st.heap H).Ns b m := fun b m ⟨o, es, n, e, d, z⟩ => ⟨o, es, n, hidT_get e (other e (fun ws n y => by rw [d] at y; cases y) fun y => by rw [d] at y; cases y), d, z⟩
    have kin2 : K.In (hidT st.heap H) := fun b o e => hidT_get (kin b o e) (by
      cases q : H b with
      | none => rfl
      | some u =>
        rcases look b u q with ⟨rfl, n, _⟩ | ⟨hb, _⟩
        · rw [n] at e; cases e
        · obtain ⟨p, hp, rfl⟩ := List.mem_map.mp hb
          rw [nT p hp] at e; cases e)
    obtain ⟨lm, l1, l2⟩ := lim
    have codes : ∀ p ∈ cs, LamX.TabB (hidT st.heap H) mg p.1 p.2 := fun p hp => by
      have hTp := hT p hp
      refine ⟨?_, ?_, fun z => ?_⟩
      · obtain ⟨o, us, file, tf, flags, tg, inF, text, tt, e1, r1, r2, r3, rest⟩ := hC p hp
        exact ⟨o, us, file, tf, flags, tg, inF, text, tt, hidT_get e1 (other e1 (fun ws n y => by rw [r2] at y; cases y) fun y => by rw [r2] at y; cases y; simp at r3), r1, r2, r3, rest⟩
      · obtain ⟨bm, ob, b1, b2, b3, b4, b5, b6⟩ := hbm
        refine ⟨bm, ob, b1, b2, fun q => ?_, fun q => ?_, hidT_get b3 (other b3 (fun ws n y => by rw [b6] at y; cases y) fun y => by rw [b6] at y; cases y), b4, b5, b6⟩
        · obtain ⟨o, es, ep, e, hd, _⟩ := glob
          rw [q, e] at b3; cases b3
          rw [hd] at b6; cases b6
        · rw [q, hTp] at b3; cases b3; cases b6
      · obtain ⟨o, es, ep, e, hd, _⟩ := glob
        rw [z, hTp] at e; cases e; cases hd
    have env : Env0 P w K mg (hidT st.heap H) callerA [] st H := ⟨rfl, ⟨kin2, spaces _ _ glob, ⟨mb, spaces _ _ blt, std⟩, ⟨lm, spaces _ _ l1, l2⟩⟩, fun _ _ e => of_hidT e, Nat.le_of_eq (hidT_size _ _), trivial, (fun _ z => nomatch z), ok, .of_eq gens⟩
    obtain ⟨fd, sp, bnd, pre, F1⟩ := F _ kin2 (spaces _ _ glob) codes
    have run := F1.gives callerA [] st H ⟨[.ref a], []⟩ [.ref a] [.ref a] _ _ rfl room env (.cons rfl .nil) (bnd st [.ref a] kin rfl) (pre H tabs seq)
    refine codeAny_mono run fun res s' z => ?_
    match res, z with
    | .error e, z => exact (noexc H e s' z).elim
    | .ok .next, z => exact z.elim
    | .ok .brk, z => exact z.elim
    | .ok .cont, z => exact z.elim
    | .ok (.ret u), ⟨v, H', os, bare, un, ok', rv, q⟩ =>
      have q' : v = .bl true := q
      subst q'
      obtain rfl : u = Value.bool true := rv
      have grown : ∀ p ∈ cs, ∃ more : Array Value, s'.heap.get? p.2 = some { cls := .none, data := .fields more } := fun p hp => by
        obtain ⟨more, z⟩ := un.tbls p.2 #[] (tabs p hp)
        exact ⟨_, ok' p.2 _ z⟩
      have stays : ∀ b o, b ∉ cs.map (·.2) → st.heap.get? b = some o → s'.heap.get? b = some o := fun b o nb e => by
        cases hb : H b with
        | none => exact un.keep b o e hb (fun z => nomatch z) (fun z => nomatch z)
        | some u =>
          rcases look b u hb with ⟨rfl, _, rfl⟩ | ⟨hm, _⟩
          · have e1 := (ok b _ hb).1
            rw [e] at e1; cases e1
            exact (ok' b _ (un.frzs b _ _ hb)).1
          · exact absurd hm nb
      refine ⟨rfl, ⟨fun b o e => ?_, fun b o e => ?_⟩, os, bare⟩
      · by_cases hb : b ∈ cs.map (·.2)
        · obtain ⟨p, hp, rfl⟩ := List.mem_map.mp hb
          obtain ⟨more, hm⟩ := grown p hp
          rw [hT p hp] at e
          cases e
          exact .inr (.inl ⟨((hC p hp).tab (hT p hp)).isCodeTable, rfl, #[], more, rfl, by rw [Array.empty_append]; exact hm⟩)
        · exact .inl (stays b o hb e)
      · by_cases hb : b ∈ cs.map (·.2)
        · obtain ⟨p, hp, rfl⟩ := List.mem_map.mp hb
          obtain ⟨more, hm⟩ := grown p hp
          exact ⟨_, hm⟩
        · exact ⟨o, stays b o hb e⟩
  cases hk : K.lookup a with
  | some o =>
    have e := kin a o hk
    rw [script] at e
    cases e
    exact go none (fun _ _ _ z => nomatch z) (.inr ⟨_, _, _, hk, rfl, rfl, rfl, by rw [List.size_toArray, nums.length]; exact few, by simpa using rel⟩)
  | none => exact go (some (a, _, _)) (fun b o xs z => by cases z; exact ⟨rfl, rfl, rfl, hk⟩) (.inl ⟨_, if_pos rfl⟩)
theorem walk_T {l : PySem.W.OpenLaw} {n k : Nat} {q : Program} {loose : List Str} {XP : (Str → Option Value) → Heap → Prop} {YP : World → Heap → Prop} {d : DefRec} {CX : World → CXT} {x : Str}
    (hn : l.most = some n) (hn2 : n ≤ sizeLine) (hdf : d.params.defaults = []) (room : Room k callerA)
    (F : ∀ (w : World) (mg : Str → Option Value) (fa : Addr) (h : Heap), YP w h → h.Ns mainGlobals mg → mg d.name = some (.ref fa) → ∃ K : PySem.W.Frag, K.In h ∧ LawT l w K (CX w) k n x mg fa h)
    (noexc : ∀ (w : World) (H : Hp) (s : Shared) (e : Value) (s' : Shared), ¬ CX w [] H s (fun _ _ _ => False) e s') : PySem.W.WalkO q loose XP YP l.row.toRowW d [] (fun f vs => PySem.call f vs) := by
  refine Att.attach_callB hn hdf fun w s₀ s₁ mg mb fa o pm cd doc a vs ns G Y ho hd hcd hmg hobj hints hlen hbits hg => ?_
  obtain ⟨K, kin, cs, hT, nT, hC, F⟩ := F w mg fa _ Y G.T.g hmg
  exact law_atT kin G.T.g G.T.b G.T.builtins G.T.nolimit hg hT nT hC G.T.bmain hobj hints (Nat.le_trans hlen hn2) room (fun base hk hb hc => let ⟨fd, sp, bnd, pre, F1⟩ := F base hk hb hc; ⟨fd, sp, bnd, fun H hh hS => pre H a ns hlen hbits hh hS, F1⟩) (noexc w · s₁ · ·)
end VS

set_option maxHeartbeats 4000000
/-! the end of a law's proof -/
namespace VS
open PySem PySem.Spec PyProof.Rows L2
theorem dvs_of_ints {K : PySem.W.Frag} {P : List Addr} {H : Hp} : ∀ ns : List Int, DVs K P H (ns.map D.int) (ns.map V.int) []
  | [] => .nil
  | n :: ns => .cons (F := []) (.int n) (dvs_of_ints ns)
/-- cs: by table, the code object and the name that its lambdas bear -/
theorem lawT_of {l : PySem.W.OpenLaw} {w : World} {K : PySem.W.Frag} {mg : Str → Option Value} {k c n : Nat} {x y : Str} {fl : Addr} {sp : Spec} {h : Heap} (ts : List (Addr × Addr × Str))
    (hT : ∀ p ∈ ts, h.get? p.1 = some { cls := .none, data := .fields #[] }) (nT : ∀ p ∈ ts, K.lookup p.1 = none) (hC : ∀ p ∈ ts, PySem.W.CodeHd h p.2.1 p.1)
    (C : ∀ base : Heap, K.In base → base.Ns mainGlobals mg → (∀ p ∈ ts, LamX.TabB base mg p.2.1 p.1) → Cal (ts.map fun p => (p.1, p.2.2)) l.prog w K mg base k x [y] c sp) (hfa : mg x = some (.ref fl)) (hc : c ≤ 2 ^ 99999)
    (hsp : ∀ ns : List Int, ns.length ≤ n → (∀ z ∈ ns, Builtin.Int.intBits z ≤ 1048576) → sp [.rol (ns.map D.int)] fun d => d = .bl true) :
    LawT l w K (L2.CX l.prog w) k n y mg fl h := by
  refine ⟨ts.map fun p => (p.2.1, p.1), fun p hp => ?_, fun p hp => ?_, fun p hp => ?_, fun base hk hb hc2 => ?_⟩
  · obtain ⟨q, hq, rfl⟩ := List.mem_map.mp hp; exact hT q hq
  · obtain ⟨q, hq, rfl⟩ := List.mem_map.mp hp; exact nT q hq
  · obtain ⟨q, hq, rfl⟩ := List.mem_map.mp hp; exact hC q hq
  · obtain ⟨f, fd, F, hm, hkp, hbd⟩ := C base hk hb fun p hp => hc2 _ (List.mem_map.mpr ⟨p, hp, rfl⟩)
    rw [hfa] at hm
    cases hm
    refine ⟨fd, _, hbd, fun H a ns hl hbits hH hS => ?_, F.ok⟩
    refine ⟨[.rol (ns.map D.int)], [], 0, [] ++ [], .cons (.rol (hS.imp (fun h => ⟨h, by simp⟩) id) (dvs_of_ints ns)) .nil, ⟨?_, fun _ z => by cases z⟩, fun p hp => ?_, ?_⟩
    · unfold CAP
      exact Nat.le_trans (show c + 0 ≤ 2 ^ 99999 from hc) (Nat.pow_le_pow_right (by decide) (by decide))
    · obtain ⟨q, hq, rfl⟩ := List.mem_map.mp hp
      exact .nil (hH (q.2.1, q.1) (List.mem_map.mpr ⟨q, hq, rfl⟩))
    · refine F.mono _ _ _ (fun d e => ?_) (hsp ns hl hbits)
      subst e
      rintro v H' P' _ _ ⟨G, dv, _⟩
      cases dv; rfl
end VS

/-! what the head says of the program's own errors -/
namespace VS
open PySem PySem.Spec PyProof.Rows L2
abbrev FnI : Type := Option (Str × Str × Arguments × FuncBody × Scope × Addr × Addr)
def fnI (K : PySem.W.Frag) (p : Str × Option Str) : FnI := match K.lookup (He.fAd K p) with
  | some ⟨_, _, .func fd, _⟩ => some (fd.name, fd.qualname, fd.params, fd.body, fd.scope, fd.globals, fd.builtins)
  | _ => none
def oexB (K : PySem.W.Frag) (C : Addr) : Bool := match K.lookup C with
  | some ⟨.type "type", _, .cls cd, sl⟩ => (match cd.mro, sl.toList with
    | .ref C' :: bm, [_, _, _, _, some (.builtin n), _] => C' == C && (n == "ValueError.__new__" && (!cd.hasDel && (cd.hasDict && PySem.HandSPX.refsVE bm)))
    | _, _ => false)
  | _ => false
theorem oexB_ok {K : PySem.W.Frag} {C : Addr} (q : oexB K C = true) : ∃ nm qn N bs bm sn sub ab col dd k0 k1 k2 k3 k5, K.lookup C = some (excClassObj nm qn C N bs bm true sn sub ab col dd k0 k1 k2 k3 k5 "ValueError.__new__") ∧ PySem.HandSPX.refsVE bm = true := by
  unfold oexB at q
  split at q
  · rename_i dd cd sl ho
    split at q
    · rename_i C' bm k0 k1 k2 k3 n k5 hm hs
      simp only [Bool.and_eq_true, beq_iff_eq, Bool.not_eq_true'] at q
      obtain ⟨rfl, rfl, hdel, hdict, ht⟩ := q
      obtain ⟨nm, bs, mro, ns, qn, hd, sn, sub, ab, col, del⟩ := cd
      dsimp only at hm hdel hdict
      subst hm hdel hdict
      have hsl : sl = #[k0, k1, k2, k3, some (.builtin "ValueError.__new__"), k5] := by
        obtain ⟨l⟩ := sl
        simp only at hs
        rw [hs]
      subst hsl
      exact ⟨nm, qn, ns, bs, bm, sn, sub, ab, col, dd, k0, k1, k2, k3, k5, ho, ht⟩
    · cases q
  · cases q
/-- the def with a cell for its class -/
def iniB (K : PySem.W.Frag) (root : Str) (q : Str) (file : Str) : Bool := match K.lookup (He.fAd K (root, some "__init__")) with
  | some ⟨_, _, .func fd, _⟩ => (match fd.defaults with | .none => true | _ => false) && (PySem.W.codeIn K fd.code q && ((match fd.closure with
      | [(x, cc)] => x == "__class__" && (match K.lookup cc with
        | some ⟨_, _, .cell (some (.ref D)), _⟩ => D == He.ga K root
        | _ => false)
      | _ => false) && (match fd.code with
      | .ref ca => (match K.lookup ca with
        | some ⟨_, _, .fields vs, _⟩ => (match (vs[2]? : Option Value) with
          | some (.str f _) => file == f
          | _ => false)
        | _ => false)
      | _ => false)))
  | _ => false
def errB (K : PySem.W.Frag) (root x : Str) : Bool :=
  oexB K (He.ga K x) && (xfB K (He.ga K x) && (decide (PySem.W.findIn K (.ref (He.ga K x)) "__setattr__" = some (some (.builtin "object.__setattr__"))) &&
  (decide (PySem.W.typeIn K (.ref (He.ga K x)) = some (.type "type")) && (PySem.W.keepIn K (.ref (He.ga K x)) &&
  (decide (PySem.W.ks_superIn K (He.ga K x) (He.ga K root) "__init__" = some (some (.builtin "ValueError.__init__"))) &&
  (decide (PySem.W.subIn K (.ref (He.ga K x)) (.type "ValueError") = some true) && (decide (PySem.W.mroIn K (He.ga K x) (.ref (He.ga K root)) = some true) &&
  (decide (PySem.W.findIn K (.ref (He.ga K x)) "__init__" = some (some (.ref (He.fAd K (root, some "__init__"))))) &&
  (decide (PySem.W.findIn K (.ref (He.ga K x)) "value" = some none) && ((PySem.W.clsIn K (He.ga K x)).isSome &&
  (decide (PySem.W.findIn K (.ref (He.ga K x)) "__class__" = some (some (.builtin "object.__class__"))) && (decide (PySem.W.mroIn K (He.ga K x) (.type "object") = some true) &&
  decide (PySem.W.exmOne K (.ref (He.ga K x)) (.ref (He.ga K root)) = some true)))))))))))))
def excB (K : PySem.W.Frag) (root q file : Str) (names : List Str) : Bool :=
  iniB K root q file && (decide (PySem.W.typeIn K (.ref (He.fAd K (root, some "__init__"))) = some (.type "function")) && ((PySem.W.clsIn K (He.ga K root)).isSome && (decide (PySem.W.nsIn K mainGlobals "super" = some none) && (decide (PySem.W.nsIn K cStatics "thirdparty.any" = some none) &&
  (decide (PySem.W.specialIn K (.builtin "object.__class__") "__get__" = some (some (.builtin "getset_descriptor.__get__"))) && (decide (PySem.W.takesIn K (.builtin "object.__class__") = some true) && names.all (errB K root)))))))
/-- the text of such an __init__ -/
structure IniT (P : Program) (params : Arguments) (scope : Scope) : Prop where
  par : ∃ ar : Arg, (params.posonlyargs ++ params.args).head? = some ar ∧ ar.arg = "self"
  top : (P.main.scope.names.lookup ("super" : Str)).isSome = false
  ks : scope.names.lookup ("super" : Str) = some .globalImplicit
  kc : scope.names.lookup ("__class__" : Str) = some .free
  ka : scope.names.lookup ("self" : Str) = some .local
  kv : scope.names.lookup ("value" : Str) = some .local
  nc : ∀ x ∈ scope.names, x.2 ≠ .cell
  fr : ∀ x : Str, scope.names.lookup x = some .free → x = "__class__"
  co : scope.isCoroutine = false
  gn : scope.isGenerator = false
  kd : scope.kind = .function
theorem excB_ok {P : Program} {w : World} {K : PySem.W.Frag} {mg : Str → Option Value} {base : Heap} {root q : Str} {names : List Str} {params : Arguments} {scope : Scope} {p0 p1 p2 p3 p4 p5 q1 q2 q3 q4 : Pos}
    (h : excB K root q P.main.file names = true) (hf : fnI K (root, some "__init__") = (some (("__init__" : Str), q, params, .stmts [.Expr (.Call (.Attribute (.Call (.Name "super" p0) [] [] p1) "__init__" p2) [.Name "value" p3] [] p4) p5, .Assign [.Attribute (.Name "self" q1) "value" q2] (.Name "value" q3) q4], scope, mainGlobals, builtinsNs) : FnI))
    (T : IniT P params scope)
    (he : ∀ env : PySem.Env, ∃ pl : Sem Bool, eval (.Call (.Attribute (.Call (.Name "super" p0) [] [] p1) "__init__" p2) [.Name "value" p3] [] p4) env = (do
      let ov ← attributeBase (.Call (.Name "super" p0) [] [] p1) "__init__" env (eval (.Call (.Name "super" p0) [] [] p1) env)
      standAt p2.atName
      let (fx, first) ← holding [ov] (getMethod ov "__init__" pl)
      callWith p4 fx first (backTo p4 (starEach [.Name "value" p3] env)) []))
    (hb : ∀ fd : FuncData, fd.name = "__init__" → fd.params = params → fd.defaults = .none → ∀ us : List Value, us.length = 2 → bindArgs fd ⟨us, []⟩ = pure ((["self", "value"] : List Str).zip us))
    (hm : ∀ x ∈ names, mg x = some (.ref (He.ga K x))) :
    (∀ x ∈ names, ErrF P w K mg base x) ∧ (∀ x ∈ names, ExcUse K x) ∧ ∀ x ∈ names, PySem.W.exmOne K (.ref (He.ga K x)) (.ref (He.ga K root)) = some true := by
  simp only [excB, Bool.and_eq_true, decide_eq_true_eq, List.all_eq_true] at h
  obtain ⟨hini, htf, hcl, hsup, hthr, hgt, htk, hall⟩ := h
  have per : ∀ x ∈ names, OexC K (He.ga K x) ∧ ExcF K (He.ga K x) (He.ga K root) ∧ PySem.W.findIn K (.ref (He.ga K x)) "__init__" = some (some (.ref (He.fAd K (root, some "__init__")))) ∧ PySem.W.findIn K (.ref (He.ga K x)) "value" = some none ∧ ExcUse K x ∧ PySem.W.exmOne K (.ref (He.ga K x)) (.ref (He.ga K root)) = some true := fun x hx => by
    have e := hall x hx
    simp only [errB, Bool.and_eq_true, decide_eq_true_eq] at e
    obtain ⟨e1, e2, e3, e4, e5, e6, e7, e8, e9, e10, e11, e12, e13, e14⟩ := e
    have xf := xfB_ok e2
    obtain ⟨nm, qn, N, bs, bm, sn, sub, ab, col, dd, k0, k1, k2, k3, k5, lk, ve⟩ := oexB_ok e1
    have ox : OexC K (He.ga K x) := ⟨⟨nm, qn, N, bs, bm, sn, sub, ab, col, dd, k0, k1, k2, k3, k5, lk, ve⟩, e3, xf.exC, e4, e5⟩
    exact ⟨ox, ⟨ox, e6, e7, e8⟩, e9, e10, ⟨xf, e10, e11, e12, hgt, htk, e13⟩, e14⟩
  obtain ⟨cd, hcd⟩ := Option.isSome_iff_exists.mp hcl
  have init : ∃ fd, FnOk P w K mg base C8.CX0 1 (He.fAd K (root, some "__init__")) fd ["self", "value"] (spInit K (He.ga K root)) ∧ Binds K fd ["self", "value"] [] := by
    unfold iniB at hini
    unfold fnI at hf
    split at hini
    · rename_i oc od fd osl hlk
      rw [hlk] at hf
      simp only [Option.some.injEq, Prod.mk.injEq] at hf
      obtain ⟨f1, f2, f3, f4, f5, f6, f7⟩ := hf
      simp only [Bool.and_eq_true] at hini
      obtain ⟨c0, c1, c2, c3⟩ := hini
      have c0 : fd.defaults = .none := by
        cases e : fd.defaults <;> rw [e] at c0 <;> first | rfl | cases c0
      split at c2
      · rename_i x cc hclo
        simp only [Bool.and_eq_true, beq_iff_eq] at c2
        obtain ⟨rfl, c2⟩ := c2
        split at c2
        · rename_i cl cld D csl hcell
          have c2 : D = He.ga K root := by simpa using c2
          subst c2
          split at c3
          · rename_i ca hca
            split at c3
            · rename_i ccl cdd vs ccs hcode
              split at c3
              · rename_i fl tf hvs
                refine ⟨fd, init_ok (p5 := p5) (q1 := q1) (q2 := q2) (q3 := q3) (q4 := q4) (q := q) (cc := cc) (params := params) (scope := scope) he ⟨?_, fun _ _ _ _ _ _ _ => trivial, ⟨cl, cld, csl, hcell⟩, ⟨cd, hcd⟩, hsup, T.par, T.top, hthr, T.ks, T.kc, T.ka, T.kv, T.nc, T.fr, T.co, T.gn, T.kd⟩, Binds.all (hb fd f1 f3 c0)⟩
                obtain ⟨n1, n2, n3, n4, n5, n6, n7, n8, n9, n10, n11, n12, n13, n14, n15⟩ := fd
                dsimp only at f1 f2 f3 f4 f5 f6 f7 hclo hca c1
                subst f1 f2 f3 f4 f5 f6 f7 hclo
                exact ⟨oc, od, n8, n9, n10, n11, n12, n13, n14, osl, rfl, hlk, c1, ca, ccl, cdd, vs, ccs, fl, tf, hca, hcode, hvs, c3⟩
              · cases c3
            · cases c3
          · cases c3
        · cases c2
      · cases c2
    · cases hini
  obtain ⟨fd, F, B⟩ := init
  exact ⟨fun x hx => ⟨He.ga K root, He.fAd K (root, some "__init__"), fd, (per x hx).2.1, (per x hx).2.2.1, htf, (per x hx).2.2.2.1, F, B, hm x hx⟩, fun x hx => (per x hx).2.2.2.2.1, fun x hx => (per x hx).2.2.2.2.2⟩
/-! ### the Hook: HE4's, the statics looked at too, and the __init__ of the errors -/
section
open He
theorem saysX_at {as : List Addr} {fa : List Fa} {fn : List DefD} {ts : List Tab} {tf : List Defn} {ex : PySem.W.Frag → Bool} {w : World} {h : Heap} (e1 : obsT fa fn ts (frT h.get? as) = valT fn ts w) (e2 : (ex (frT h.get? as) && tabsB h.get? tf (frT h.get? as)) = true) : SaysX fa fn ts tf ex w h (frT h.get? as) := by
  obtain ⟨h1, h2⟩ := ba e2
  have key : ∀ p ∈ tf, PySem.W.codeHdIn (frT h.get? as) (cT (frT h.get? as) p).1 (cT (frT h.get? as) p).2 = true ∧ ∃ o, h.get? (cT (frT h.get? as) p).2 = some o ∧ emptyTab o = true := fun p hp => by
    obtain ⟨h3, h4⟩ := ba (List.all_eq_true.mp h2 p hp)
    refine ⟨h3, ?_⟩
    cases q : h.get? (cT (frT h.get? as) p).2 with
    | none => rw [q] at h4; cases h4
    | some o => rw [q] at h4; exact ⟨o, rfl, h4⟩
  exact ⟨e1, h1, fun p hp => (key p hp).1, fun p hp => by
    obtain ⟨_, o, q, z⟩ := key p hp
    exact frT_none q z, fun p hp => by
    obtain ⟨_, o, q, z⟩ := key p hp
    rw [q, emptyTab_eq z]⟩
def asI (g : Addr → Option Obj) (n : Nat) : List Addr := cStatics :: asD g n
abbrev AlI : Type := AlX × FnI
def obsI (n : Nat) (fa : List Fa) (fn : List DefD) (ts : List Tab) (tf : List Defn) (ex : PySem.W.Frag → Bool) (d : Defn) (g : Addr → Option Obj) : AlI :=
  ((obsT fa fn ts (frT g (asI g n)), ex (frT g (asI g n)) && tabsB g tf (frT g (asI g n))), fnI (frT g (asI g n)) d)
def hookI (n : Nat) (fa : List Fa) (fn : List DefD) (ts : List Tab) (tf : List Defn) (ex : PySem.W.Frag → Bool) (d : Defn) (v : FnI) : PySem.W.Hook where
  α := AlI
  obs := fun s => obsI n fa fn ts tf ex d s.heap.get?
  val := fun w => ((valT fn ts w, true), v)
  says := fun w h => ∃ K : PySem.W.Frag, K.In h ∧ SaysX fa fn ts tf ex w h K ∧ fnI K d = v
  of := fun _ _ e => ⟨_, frT_in, saysX_at (congrArg (fun z : AlI => z.1.1) e) (congrArg (fun z : AlI => z.1.2) e), congrArg (fun z : AlI => z.2) e⟩
  keeps := fun _ _ _ ⟨K, hK, c, e⟩ k => ⟨K, PySem.W.Frag.In.keeps hK k, ⟨c.t, c.more, c.hd, c.out, fun p hp => k _ _ (c.empty p hp)⟩, e⟩
theorem obsI_eq {n : Nat} {fa : List Fa} {fn : List DefD} {ts : List Tab} {tf : List Defn} {ex : PySem.W.Frag → Bool} {d : Defn} {v : FnI} {g : Addr → Option Obj} {s : Shared} (h : ∀ a, g a = s.heap.get? a) : obsI n fa fn ts tf ex d g = (hookI n fa fn ts tf ex d v).obs s := by
  have e : g = s.heap.get? := funext h
  rw [e] <;> rfl
end
end VS

namespace K67
open PySem PySem.Spec PyProof.Rows L2 VS
theorem mono_is_integer : MonoF sp_is_integer := by
  intro ds Q Q' h q
  unfold sp_is_integer at *
  split at q
  all_goals first
    | exact q.elim
    | (revert q; repeat first
        | exact h _
        | exact fun q => q
        | refine Exists.imp fun _ => ?_
        | refine And.imp_right ?_
        | refine forall_imp fun _ => ?_)
theorem len_is_integer (ds : List D) (Q : D → Prop) (q : sp_is_integer ds Q) : ds.length = 1 := by
  unfold sp_is_integer at q
  split at q
  · rfl
  · exact q.elim
theorem mono_is_between : MonoF sp_is_between := by
  intro ds Q Q' h q
  unfold sp_is_between at *
  split at q
  all_goals first
    | exact q.elim
    | (revert q; repeat first
        | exact h _
        | exact fun q => q
        | refine Exists.imp fun _ => ?_
        | refine And.imp_right ?_
        | refine forall_imp fun _ => ?_)
theorem len_is_between (ds : List D) (Q : D → Prop) (q : sp_is_between ds Q) : ds.length = 3 := by
  unfold sp_is_between at q
  split at q
  · rfl
  · exact q.elim
theorem mono_is_row : MonoF sp_is_row := by
  intro ds Q Q' h q
  unfold sp_is_row at *
  split at q
  all_goals first
    | exact q.elim
    | (revert q; repeat first
        | exact h _
        | exact fun q => q
        | refine Exists.imp fun _ => ?_
        | refine And.imp_right ?_
        | refine forall_imp fun _ => ?_)
theorem len_is_row (ds : List D) (Q : D → Prop) (q : sp_is_row ds Q) : ds.length = 1 := by
  unfold sp_is_row at q
  split at q
  · rfl
  · exact q.elim
theorem mono_check_row : MonoF sp_check_row := by
  intro ds Q Q' h q
  unfold sp_check_row at *
  split at q
  all_goals first
    | exact q.elim
    | (revert q; repeat first
        | exact h _
        | exact fun q => q
        | refine Exists.imp fun _ => ?_
        | refine And.imp_right ?_
        | refine forall_imp fun _ => ?_)
theorem len_check_row (ds : List D) (Q : D → Prop) (q : sp_check_row ds Q) : ds.length = 1 := by
  unfold sp_check_row at q
  split at q
  · rfl
  · exact q.elim
theorem mono_check_upto : MonoF sp_check_upto := by
  intro ds Q Q' h q
  unfold sp_check_upto at *
  split at q
  all_goals first
    | exact q.elim
    | (revert q; repeat first
        | exact h _
        | exact fun q => q
        | refine Exists.imp fun _ => ?_
        | refine And.imp_right ?_
        | refine forall_imp fun _ => ?_)
theorem len_check_upto (ds : List D) (Q : D → Prop) (q : sp_check_upto ds Q) : ds.length = 2 := by
  unfold sp_check_upto at q
  split at q
  · rfl
  · exact q.elim
theorem mono_product : MonoF sp_product := by
  intro ds Q Q' h q
  unfold sp_product at *
  split at q
  all_goals first
    | exact q.elim
    | (revert q; repeat first
        | exact h _
        | exact fun q => q
        | refine Exists.imp fun _ => ?_
        | refine And.imp_right ?_
        | refine forall_imp fun _ => ?_)
theorem len_product (ds : List D) (Q : D → Prop) (q : sp_product ds Q) : ds.length = 1 := by
  unfold sp_product at q
  split at q
  · rfl
  · exact q.elim
theorem mono_are_codes : MonoF sp_are_codes := by
  intro ds Q Q' h q
  unfold sp_are_codes at *
  split at q
  all_goals first
    | exact q.elim
    | (revert q; repeat first
        | exact h _
        | exact fun q => q
        | refine Exists.imp fun _ => ?_
        | refine And.imp_right ?_
        | refine forall_imp fun _ => ?_)
theorem len_are_codes (ds : List D) (Q : D → Prop) (q : sp_are_codes ds Q) : ds.length = 2 := by
  unfold sp_are_codes at q
  split at q
  · rfl
  · exact q.elim
theorem mono_check_codes : MonoF sp_check_codes := by
  intro ds Q Q' h q
  unfold sp_check_codes at *
  split at q
  all_goals first
    | exact q.elim
    | (revert q; repeat first
        | exact h _
        | exact fun q => q
        | refine Exists.imp fun _ => ?_
        | refine And.imp_right ?_
        | refine forall_imp fun _ => ?_)
theorem len_check_codes (ds : List D) (Q : D → Prop) (q : sp_check_codes ds Q) : ds.length = 2 := by
  unfold sp_check_codes at q
  split at q
  · rfl
  · exact q.elim
theorem mono_ordered : MonoF sp_ordered := by
  intro ds Q Q' h q
  unfold sp_ordered at *
  split at q
  all_goals first
    | exact q.elim
    | (revert q; repeat first
        | exact h _
        | exact fun q => q
        | refine Exists.imp fun _ => ?_
        | refine And.imp_right ?_
        | refine forall_imp fun _ => ?_)
theorem len_ordered (ds : List D) (Q : D → Prop) (q : sp_ordered ds Q) : ds.length = 1 := by
  unfold sp_ordered at q
  split at q
  · rfl
  · exact q.elim
theorem mono_is_in_order : MonoF sp_is_in_order := by
  intro ds Q Q' h q
  unfold sp_is_in_order at *
  split at q
  all_goals first
    | exact q.elim
    | (revert q; repeat first
        | exact h _
        | exact fun q => q
        | refine Exists.imp fun _ => ?_
        | refine And.imp_right ?_
        | refine forall_imp fun _ => ?_)
theorem len_is_in_order (ds : List D) (Q : D → Prop) (q : sp_is_in_order ds Q) : ds.length = 2 := by
  unfold sp_is_in_order at q
  split at q
  · rfl
  · exact q.elim
theorem mono_are_bars : MonoF sp_are_bars := by
  intro ds Q Q' h q
  unfold sp_are_bars at *
  split at q
  all_goals first
    | exact q.elim
    | (revert q; repeat first
        | exact h _
        | exact fun q => q
        | refine Exists.imp fun _ => ?_
        | refine And.imp_right ?_
        | refine forall_imp fun _ => ?_)
theorem len_are_bars (ds : List D) (Q : D → Prop) (q : sp_are_bars ds Q) : ds.length = 2 := by
  unfold sp_are_bars at q
  split at q
  · rfl
  · exact q.elim
theorem mono_greatest_codes : MonoF sp_greatest_codes := by
  intro ds Q Q' h q
  unfold sp_greatest_codes at *
  split at q
  all_goals first
    | exact q.elim
    | (revert q; repeat first
        | exact h _
        | exact fun q => q
        | refine Exists.imp fun _ => ?_
        | refine And.imp_right ?_
        | refine forall_imp fun _ => ?_)
theorem len_greatest_codes (ds : List D) (Q : D → Prop) (q : sp_greatest_codes ds Q) : ds.length = 1 := by
  unfold sp_greatest_codes at q
  split at q
  · rfl
  · exact q.elim
theorem mono_least_codes : MonoF sp_least_codes := by
  intro ds Q Q' h q
  unfold sp_least_codes sp_greatest_codes at *
  split at q
  all_goals first
    | exact q.elim
    | (revert q; repeat first
        | exact h _
        | exact fun q => q
        | refine Exists.imp fun _ => ?_
        | refine And.imp_right ?_
        | refine forall_imp fun _ => ?_)
theorem len_least_codes (ds : List D) (Q : D → Prop) (q : sp_least_codes ds Q) : ds.length = 1 := by
  unfold sp_least_codes sp_greatest_codes at q
  split at q
  · rfl
  · exact q.elim
theorem mono_shows_least_codes : MonoF sp_shows_least_codes := by
  intro ds Q Q' h q
  unfold sp_shows_least_codes at *
  split at q
  all_goals first
    | exact q.elim
    | (revert q; repeat first
        | exact h _
        | exact fun q => q
        | refine Exists.imp fun _ => ?_
        | refine And.imp_right ?_
        | refine forall_imp fun _ => ?_)
theorem len_shows_least_codes (ds : List D) (Q : D → Prop) (q : sp_shows_least_codes ds Q) : ds.length = 2 := by
  unfold sp_shows_least_codes at q
  split at q
  · rfl
  · exact q.elim
theorem mono_bar_count : MonoF sp_bar_count := by
  intro ds Q Q' h q
  unfold sp_bar_count at *
  split at q
  all_goals first
    | exact q.elim
    | (revert q; repeat first
        | exact h _
        | exact fun q => q
        | refine Exists.imp fun _ => ?_
        | refine And.imp_right ?_
        | refine forall_imp fun _ => ?_)
theorem len_bar_count (ds : List D) (Q : D → Prop) (q : sp_bar_count ds Q) : ds.length = 2 := by
  unfold sp_bar_count at q
  split at q
  · rfl
  · exact q.elim
theorem mono_are_deals : MonoF sp_are_deals := by
  intro ds Q Q' h q
  unfold sp_are_deals at *
  split at q
  all_goals first
    | exact q.elim
    | (revert q; repeat first
        | exact h _
        | exact fun q => q
        | refine Exists.imp fun _ => ?_
        | refine And.imp_right ?_
        | refine forall_imp fun _ => ?_)
theorem len_are_deals (ds : List D) (Q : D → Prop) (q : sp_are_deals ds Q) : ds.length = 2 := by
  unfold sp_are_deals at q
  split at q
  · rfl
  · exact q.elim
theorem mono_check_deals : MonoF sp_check_deals := by
  intro ds Q Q' h q
  unfold sp_check_deals at *
  split at q
  all_goals first
    | exact q.elim
    | (revert q; repeat first
        | exact h _
        | exact fun q => q
        | refine Exists.imp fun _ => ?_
        | refine And.imp_right ?_
        | refine forall_imp fun _ => ?_)
theorem len_check_deals (ds : List D) (Q : D → Prop) (q : sp_check_deals ds Q) : ds.length = 2 := by
  unfold sp_check_deals at q
  split at q
  · rfl
  · exact q.elim
theorem mono_check_tracks : MonoF sp_check_tracks := by
  intro ds Q Q' h q
  unfold sp_check_tracks at *
  split at q
  all_goals first
    | exact q.elim
    | (revert q; repeat first
        | exact h _
        | exact fun q => q
        | refine Exists.imp fun _ => ?_
        | refine And.imp_right ?_
        | refine forall_imp fun _ => ?_)
theorem len_check_tracks (ds : List D) (Q : D → Prop) (q : sp_check_tracks ds Q) : ds.length = 1 := by
  unfold sp_check_tracks at q
  split at q
  · rfl
  · exact q.elim
theorem mono_are_below : MonoF sp_are_below := by
  intro ds Q Q' h q
  unfold sp_are_below at *
  split at q
  all_goals first
    | exact q.elim
    | (revert q; repeat first
        | exact h _
        | exact fun q => q
        | refine Exists.imp fun _ => ?_
        | refine And.imp_right ?_
        | refine forall_imp fun _ => ?_)
theorem len_are_below (ds : List D) (Q : D → Prop) (q : sp_are_below ds Q) : ds.length = 2 := by
  unfold sp_are_below at q
  split at q
  · rfl
  · exact q.elim
theorem mono_pulled : MonoF sp_pulled := by
  intro ds Q Q' h q
  unfold sp_pulled at *
  split at q
  all_goals first
    | exact q.elim
    | (revert q; repeat first
        | exact h _
        | exact fun q => q
        | refine Exists.imp fun _ => ?_
        | refine And.imp_right ?_
        | refine forall_imp fun _ => ?_)
theorem len_pulled (ds : List D) (Q : D → Prop) (q : sp_pulled ds Q) : ds.length = 2 := by
  unfold sp_pulled at q
  split at q
  · rfl
  · exact q.elim
theorem mono_behind_all : MonoF sp_behind_all := by
  intro ds Q Q' h q
  unfold sp_behind_all at *
  split at q
  all_goals first
    | exact q.elim
    | (revert q; repeat first
        | exact h _
        | exact fun q => q
        | refine Exists.imp fun _ => ?_
        | refine And.imp_right ?_
        | refine forall_imp fun _ => ?_)
theorem len_behind_all (ds : List D) (Q : D → Prop) (q : sp_behind_all ds Q) : ds.length = 2 := by
  unfold sp_behind_all at q
  split at q
  · rfl
  · exact q.elim
theorem mono_behind : MonoF sp_behind := by
  intro ds Q Q' h q
  unfold sp_behind at *
  split at q
  all_goals first
    | exact q.elim
    | (revert q; repeat first
        | exact h _
        | exact fun q => q
        | refine Exists.imp fun _ => ?_
        | refine And.imp_right ?_
        | refine forall_imp fun _ => ?_)
theorem len_behind (ds : List D) (Q : D → Prop) (q : sp_behind ds Q) : ds.length = 2 := by
  unfold sp_behind at q
  split at q
  · rfl
  · exact q.elim
theorem mono_by_codes : MonoF sp_by_codes := by
  intro ds Q Q' h q
  unfold sp_by_codes at *
  split at q
  all_goals first
    | exact q.elim
    | (revert q; repeat first
        | exact h _
        | exact fun q => q
        | refine Exists.imp fun _ => ?_
        | refine And.imp_right ?_
        | refine forall_imp fun _ => ?_)
theorem len_by_codes (ds : List D) (Q : D → Prop) (q : sp_by_codes ds Q) : ds.length = 2 := by
  unfold sp_by_codes at q
  split at q
  · rfl
  · exact q.elim
theorem mono_do_set : MonoF sp_do_set := by
  intro ds Q Q' h q
  unfold sp_do_set at *
  split at q
  all_goals first
    | exact q.elim
    | (revert q; repeat first
        | exact h _
        | exact fun q => q
        | refine Exists.imp fun _ => ?_
        | refine And.imp_right ?_
        | refine forall_imp fun _ => ?_)
theorem len_do_set (ds : List D) (Q : D → Prop) (q : sp_do_set ds Q) : ds.length = 2 := by
  unfold sp_do_set at q
  split at q
  · rfl
  · exact q.elim
theorem mono_figures : MonoF sp_figures := by
  intro ds Q Q' h q
  unfold sp_figures at *
  split at q
  all_goals first
    | exact q.elim
    | (revert q; repeat first
        | exact h _
        | exact fun q => q
        | refine Exists.imp fun _ => ?_
        | refine And.imp_right ?_
        | refine forall_imp fun _ => ?_)
theorem len_figures (ds : List D) (Q : D → Prop) (q : sp_figures ds Q) : ds.length = 2 := by
  unfold sp_figures at q
  split at q
  · rfl
  · exact q.elim
theorem monoX_dealt : MonoX spx_dealt := by
  intro ds Q Q' E E' h hE q
  unfold spx_dealt at *
  split at q
  all_goals first
    | exact q.elim
    | (revert q; repeat' first
        | exact fun q => q
        | exact h _
        | exact hE _ _
        | refine Exists.imp fun _ => ?_
        | refine And.imp ?_ ?_
        | refine Or.imp ?_ ?_
        | refine forall_imp fun _ => ?_)
theorem lenX_dealt (ds : List D) (Q : D → Prop) (E : Str → D → Prop) (q : spx_dealt ds Q E) : ds.length = 3 := by
  unfold spx_dealt at q
  split at q
  · rfl
  · exact q.elim
theorem mono_dealt : MonoF sp_dealt := by
  intro ds Q Q' h q
  unfold sp_dealt at *
  split at q
  all_goals first
    | exact q.elim
    | (revert q; repeat first
        | exact h _
        | exact fun q => q
        | refine Exists.imp fun _ => ?_
        | refine And.imp_right ?_
        | refine forall_imp fun _ => ?_)
theorem len_dealt (ds : List D) (Q : D → Prop) (q : sp_dealt ds Q) : ds.length = 3 := by
  unfold sp_dealt at q
  split at q
  · rfl
  · exact q.elim
theorem mono_codes_of : MonoF sp_codes_of := by
  intro ds Q Q' h q
  unfold sp_codes_of at *
  split at q
  all_goals first
    | exact q.elim
    | (revert q; repeat first
        | exact h _
        | exact fun q => q
        | refine Exists.imp fun _ => ?_
        | refine And.imp_right ?_
        | refine forall_imp fun _ => ?_)
theorem len_codes_of (ds : List D) (Q : D → Prop) (q : sp_codes_of ds Q) : ds.length = 3 := by
  unfold sp_codes_of at q
  split at q
  · rfl
  · exact q.elim
theorem mono_can_set : MonoF sp_can_set := by
  intro ds Q Q' h q
  unfold sp_can_set at *
  split at q
  all_goals first
    | exact q.elim
    | (revert q; repeat first
        | exact h _
        | exact fun q => q
        | refine Exists.imp fun _ => ?_
        | refine And.imp_right ?_
        | refine forall_imp fun _ => ?_)
theorem len_can_set (ds : List D) (Q : D → Prop) (q : sp_can_set ds Q) : ds.length = 2 := by
  unfold sp_can_set at q
  split at q
  · rfl
  · exact q.elim
theorem mono_shows_can_set : MonoF sp_shows_can_set := by
  intro ds Q Q' h q
  unfold sp_shows_can_set at *
  split at q
  all_goals first
    | exact q.elim
    | (revert q; repeat first
        | exact h _
        | exact fun q => q
        | refine Exists.imp fun _ => ?_
        | refine And.imp_right ?_
        | refine forall_imp fun _ => ?_)
theorem len_shows_can_set (ds : List D) (Q : D → Prop) (q : sp_shows_can_set ds Q) : ds.length = 3 := by
  unfold sp_shows_can_set at q
  split at q
  · rfl
  · exact q.elim
theorem mono_least_passes : MonoF sp_least_passes := by
  intro ds Q Q' h q
  unfold sp_least_passes at *
  split at q
  all_goals first
    | exact q.elim
    | (revert q; repeat first
        | exact h _
        | exact fun q => q
        | refine Exists.imp fun _ => ?_
        | refine And.imp_right ?_
        | refine forall_imp fun _ => ?_)
theorem len_least_passes (ds : List D) (Q : D → Prop) (q : sp_least_passes ds Q) : ds.length = 2 := by
  unfold sp_least_passes at q
  split at q
  · rfl
  · exact q.elim
theorem mono__law_pot0 : MonoF sp__law_pot0 := by
  intro ds Q Q' h q
  unfold sp__law_pot0 at *
  split at q
  all_goals first
    | exact q.elim
    | (revert q; repeat first
        | exact h _
        | exact fun q => q
        | refine Exists.imp fun _ => ?_
        | refine And.imp_right ?_
        | refine forall_imp fun _ => ?_)
theorem len__law_pot0 (ds : List D) (Q : D → Prop) (q : sp__law_pot0 ds Q) : ds.length = 2 := by
  unfold sp__law_pot0 at q
  split at q
  · rfl
  · exact q.elim
theorem mono__law_pot : MonoF sp__law_pot := by
  intro ds Q Q' h q
  unfold sp__law_pot at *
  split at q
  all_goals first
    | exact q.elim
    | (revert q; repeat first
        | exact h _
        | exact fun q => q
        | refine Exists.imp fun _ => ?_
        | refine And.imp_right ?_
        | refine forall_imp fun _ => ?_)
theorem len__law_pot (ds : List D) (Q : D → Prop) (q : sp__law_pot ds Q) : ds.length = 2 := by
  unfold sp__law_pot at q
  split at q
  · rfl
  · exact q.elim
theorem mono__law_take : MonoF sp__law_take := by
  intro ds Q Q' h q
  unfold sp__law_take at *
  split at q
  all_goals first
    | exact q.elim
    | (revert q; repeat first
        | exact h _
        | exact fun q => q
        | refine Exists.imp fun _ => ?_
        | refine And.imp_right ?_
        | refine forall_imp fun _ => ?_)
theorem len__law_take (ds : List D) (Q : D → Prop) (q : sp__law_take ds Q) : ds.length = 2 := by
  unfold sp__law_take at q
  split at q
  · rfl
  · exact q.elim
theorem mono__law_cells : MonoF sp__law_cells := by
  intro ds Q Q' h q
  unfold sp__law_cells at *
  split at q
  all_goals first
    | exact q.elim
    | (revert q; repeat first
        | exact h _
        | exact fun q => q
        | refine Exists.imp fun _ => ?_
        | refine And.imp_right ?_
        | refine forall_imp fun _ => ?_)
theorem len__law_cells (ds : List D) (Q : D → Prop) (q : sp__law_cells ds Q) : ds.length = 2 := by
  unfold sp__law_cells at q
  split at q
  · rfl
  · exact q.elim
theorem mono__law_codes : MonoF sp__law_codes := by
  intro ds Q Q' h q
  unfold sp__law_codes at *
  split at q
  all_goals first
    | exact q.elim
    | (revert q; repeat first
        | exact h _
        | exact fun q => q
        | refine Exists.imp fun _ => ?_
        | refine And.imp_right ?_
        | refine forall_imp fun _ => ?_)
theorem len__law_codes (ds : List D) (Q : D → Prop) (q : sp__law_codes ds Q) : ds.length = 1 := by
  unfold sp__law_codes at q
  split at q
  · rfl
  · exact q.elim
theorem mono__law_row : MonoF sp__law_row := by
  intro ds Q Q' h q
  unfold sp__law_row at *
  split at q
  all_goals first
    | exact q.elim
    | (revert q; repeat first
        | exact h _
        | exact fun q => q
        | refine Exists.imp fun _ => ?_
        | refine And.imp_right ?_
        | refine forall_imp fun _ => ?_)
theorem len__law_row (ds : List D) (Q : D → Prop) (q : sp__law_row ds Q) : ds.length = 2 := by
  unfold sp__law_row at q
  split at q
  · rfl
  · exact q.elim
theorem mono__law_choose : MonoF sp__law_choose := by
  intro ds Q Q' h q
  unfold sp__law_choose at *
  split at q
  all_goals first
    | exact q.elim
    | (revert q; repeat first
        | exact h _
        | exact fun q => q
        | refine Exists.imp fun _ => ?_
        | refine And.imp_right ?_
        | refine forall_imp fun _ => ?_)
theorem len__law_choose (ds : List D) (Q : D → Prop) (q : sp__law_choose ds Q) : ds.length = 2 := by
  unfold sp__law_choose at q
  split at q
  · rfl
  · exact q.elim
theorem mono__law_power : MonoF sp__law_power := by
  intro ds Q Q' h q
  unfold sp__law_power at *
  split at q
  all_goals first
    | exact q.elim
    | (revert q; repeat first
        | exact h _
        | exact fun q => q
        | refine Exists.imp fun _ => ?_
        | refine And.imp_right ?_
        | refine forall_imp fun _ => ?_)
theorem len__law_power (ds : List D) (Q : D → Prop) (q : sp__law_power ds Q) : ds.length = 2 := by
  unfold sp__law_power at q
  split at q
  · rfl
  · exact q.elim
theorem mono__law_bars : MonoF sp__law_bars := by
  intro ds Q Q' h q
  unfold sp__law_bars at *
  split at q
  all_goals first
    | exact q.elim
    | (revert q; repeat first
        | exact h _
        | exact fun q => q
        | refine Exists.imp fun _ => ?_
        | refine And.imp_right ?_
        | refine forall_imp fun _ => ?_)
theorem len__law_bars (ds : List D) (Q : D → Prop) (q : sp__law_bars ds Q) : ds.length = 2 := by
  unfold sp__law_bars at q
  split at q
  · rfl
  · exact q.elim
theorem mono__law_is_row_right : MonoF sp__law_is_row_right := by
  intro ds Q Q' h q
  unfold sp__law_is_row_right at *
  split at q
  all_goals first
    | exact q.elim
    | (revert q; repeat first
        | exact h _
        | exact fun q => q
        | refine Exists.imp fun _ => ?_
        | refine And.imp_right ?_
        | refine forall_imp fun _ => ?_)
theorem len__law_is_row_right (ds : List D) (Q : D → Prop) (q : sp__law_is_row_right ds Q) : ds.length = 2 := by
  unfold sp__law_is_row_right at q
  split at q
  · rfl
  · exact q.elim
theorem mono__law_right : MonoF sp__law_right := by
  intro ds Q Q' h q
  unfold sp__law_right at *
  split at q
  all_goals first
    | exact q.elim
    | (revert q; repeat first
        | exact h _
        | exact fun q => q
        | refine Exists.imp fun _ => ?_
        | refine And.imp_right ?_
        | refine forall_imp fun _ => ?_)
theorem len__law_right (ds : List D) (Q : D → Prop) (q : sp__law_right ds Q) : ds.length = 1 := by
  unfold sp__law_right at q
  split at q
  · rfl
  · exact q.elim
theorem mono_law : MonoF sp_law := by
  intro ds Q Q' h q
  unfold sp_law at *
  split at q
  all_goals first
    | exact q.elim
    | (revert q; repeat first
        | exact h _
        | exact fun q => q
        | refine Exists.imp fun _ => ?_
        | refine And.imp_right ?_
        | refine forall_imp fun _ => ?_)
theorem len_law (ds : List D) (Q : D → Prop) (q : sp_law ds Q) : ds.length = 1 := by
  unfold sp_law at q
  split at q
  · rfl
  · exact q.elim
theorem cast_cal {T T' : List (Addr × Str)} {P : Program} {w : World} {K : PySem.W.Frag} {mg : Str → Option Value} {base : Heap} {k : Nat} {x : Str} {ps : List Str} {C : Nat} {sp : VS.Spec} (c : Cal T P w K mg base k x ps C sp) (h : T' = T) : Cal T' P w K mg base k x ps C sp := by subst h; exact c
theorem cast_calX {T T' : List (Addr × Str)} {P : Program} {w : World} {K : PySem.W.Frag} {mg : Str → Option Value} {base : Heap} {k : Nat} {x : Str} {ps : List Str} {C : Nat} {sp : VS.SpecX} (c : CalX T P w K mg base k x ps C sp) (h : T' = T) : CalX T' P w K mg base k x ps C sp := by subst h; exact c
theorem cast_tab {T T' : List (Addr × Str)} {K : PySem.W.Frag} {mg : Str → Option Value} {base : Heap} {x : Str} (c : TabF T K mg base x) (h : T' = T) : TabF T' K mg base x := by subst h; exact c
theorem bind_is_integer (oc kV doc pm : Value) (an : Option Addr) (cdv ct : Value) (fd : FuncData) (e : fd = PySem.W.fnOf "is_integer" "is_integer" (defArgs (top 9)) (defBody (top 9)) (defScope (top 9)) .none kV doc pm an cdv ct) (us : List Value) (hl : us.length = (["value"] : List Str).length) : bindArgs fd ⟨us, []⟩ = pure ((["value"] : List Str).zip us) := by
  subst e
  match us, hl with
  | [u0], _ => rfl
theorem bind_is_between (oc kV doc pm : Value) (an : Option Addr) (cdv ct : Value) (fd : FuncData) (e : fd = PySem.W.fnOf "is_between" "is_between" (defArgs (top 10)) (defBody (top 10)) (defScope (top 10)) .none kV doc pm an cdv ct) (us : List Value) (hl : us.length = (["value", "low", "high"] : List Str).length) : bindArgs fd ⟨us, []⟩ = pure ((["value", "low", "high"] : List Str).zip us) := by
  subst e
  match us, hl with
  | [u0, u1, u2], _ => rfl
theorem bind_is_row (oc kV doc pm : Value) (an : Option Addr) (cdv ct : Value) (fd : FuncData) (e : fd = PySem.W.fnOf "is_row" "is_row" (defArgs (top 14)) (defBody (top 14)) (defScope (top 14)) .none kV doc pm an cdv ct) (us : List Value) (hl : us.length = (["value"] : List Str).length) : bindArgs fd ⟨us, []⟩ = pure ((["value"] : List Str).zip us) := by
  subst e
  match us, hl with
  | [u0], _ => rfl
theorem bind_check_row (oc kV doc pm : Value) (an : Option Addr) (cdv ct : Value) (fd : FuncData) (e : fd = PySem.W.fnOf "check_row" "check_row" (defArgs (top 15)) (defBody (top 15)) (defScope (top 15)) .none kV doc pm an cdv ct) (us : List Value) (hl : us.length = (["value"] : List Str).length) : bindArgs fd ⟨us, []⟩ = pure ((["value"] : List Str).zip us) := by
  subst e
  match us, hl with
  | [u0], _ => rfl
theorem bind_check_upto (oc kV doc pm : Value) (an : Option Addr) (cdv ct : Value) (fd : FuncData) (e : fd = PySem.W.fnOf "check_upto" "check_upto" (defArgs (top 17)) (defBody (top 17)) (defScope (top 17)) .none kV doc pm an cdv ct) (us : List Value) (hl : us.length = (["value", "most"] : List Str).length) : bindArgs fd ⟨us, []⟩ = pure ((["value", "most"] : List Str).zip us) := by
  subst e
  match us, hl with
  | [u0, u1], _ => rfl
theorem bind_product (oc kV doc pm : Value) (an : Option Addr) (cdv ct : Value) (fd : FuncData) (e : fd = PySem.W.fnOf "product" "product" (defArgs (top 18)) (defBody (top 18)) (defScope (top 18)) .none kV doc pm an cdv ct) (us : List Value) (hl : us.length = (["numbers"] : List Str).length) : bindArgs fd ⟨us, []⟩ = pure ((["numbers"] : List Str).zip us) := by
  subst e
  match us, hl with
  | [u0], _ => rfl
theorem bind_are_codes (oc kV doc pm : Value) (an : Option Addr) (cdv ct : Value) (fd : FuncData) (e : fd = PySem.W.fnOf "are_codes" "are_codes" (defArgs (top 22)) (defBody (top 22)) (defScope (top 22)) .none kV doc pm an cdv ct) (us : List Value) (hl : us.length = (["row", "value"] : List Str).length) : bindArgs fd ⟨us, []⟩ = pure ((["row", "value"] : List Str).zip us) := by
  subst e
  match us, hl with
  | [u0, u1], _ => rfl
theorem bind_check_codes (oc kV doc pm : Value) (an : Option Addr) (cdv ct : Value) (fd : FuncData) (e : fd = PySem.W.fnOf "check_codes" "check_codes" (defArgs (top 23)) (defBody (top 23)) (defScope (top 23)) .none kV doc pm an cdv ct) (us : List Value) (hl : us.length = (["row", "value"] : List Str).length) : bindArgs fd ⟨us, []⟩ = pure ((["row", "value"] : List Str).zip us) := by
  subst e
  match us, hl with
  | [u0, u1], _ => rfl
theorem bind_ordered (oc kV doc pm : Value) (an : Option Addr) (cdv ct : Value) (fd : FuncData) (e : fd = PySem.W.fnOf "ordered" "ordered" (defArgs (top 24)) (defBody (top 24)) (defScope (top 24)) .none kV doc pm an cdv ct) (us : List Value) (hl : us.length = (["codes"] : List Str).length) : bindArgs fd ⟨us, []⟩ = pure ((["codes"] : List Str).zip us) := by
  subst e
  match us, hl with
  | [u0], _ => rfl
theorem bind_is_in_order (oc kV doc pm : Value) (an : Option Addr) (cdv ct : Value) (fd : FuncData) (e : fd = PySem.W.fnOf "is_in_order" "is_in_order" (defArgs (top 25)) (defBody (top 25)) (defScope (top 25)) .none kV doc pm an cdv ct) (us : List Value) (hl : us.length = (["row", "cars"] : List Str).length) : bindArgs fd ⟨us, []⟩ = pure ((["row", "cars"] : List Str).zip us) := by
  subst e
  match us, hl with
  | [u0, u1], _ => rfl
theorem bind_are_bars (oc kV doc pm : Value) (an : Option Addr) (cdv ct : Value) (fd : FuncData) (e : fd = PySem.W.fnOf "are_bars" "are_bars" (defArgs (top 26)) (defBody (top 26)) (defScope (top 26)) .none kV doc pm an cdv ct) (us : List Value) (hl : us.length = (["row", "value"] : List Str).length) : bindArgs fd ⟨us, []⟩ = pure ((["row", "value"] : List Str).zip us) := by
  subst e
  match us, hl with
  | [u0, u1], _ => rfl
theorem bind_greatest_codes (oc kV doc pm : Value) (an : Option Addr) (cdv ct : Value) (fd : FuncData) (e : fd = PySem.W.fnOf "greatest_codes" "greatest_codes" (defArgs (top 27)) (defBody (top 27)) (defScope (top 27)) .none kV doc pm an cdv ct) (us : List Value) (hl : us.length = (["row"] : List Str).length) : bindArgs fd ⟨us, []⟩ = pure ((["row"] : List Str).zip us) := by
  subst e
  match us, hl with
  | [u0], _ => rfl
theorem bind_least_codes (oc kV doc pm : Value) (an : Option Addr) (cdv ct : Value) (fd : FuncData) (e : fd = PySem.W.fnOf "least_codes" "least_codes" (defArgs (top 28)) (defBody (top 28)) (defScope (top 28)) .none kV doc pm an cdv ct) (us : List Value) (hl : us.length = (["row"] : List Str).length) : bindArgs fd ⟨us, []⟩ = pure ((["row"] : List Str).zip us) := by
  subst e
  match us, hl with
  | [u0], _ => rfl
theorem bind_shows_least_codes (oc kV doc pm : Value) (an : Option Addr) (cdv ct : Value) (fd : FuncData) (e : fd = PySem.W.fnOf "shows_least_codes" "shows_least_codes" (defArgs (top 29)) (defBody (top 29)) (defScope (top 29)) .none kV doc pm an cdv ct) (us : List Value) (hl : us.length = (["row", "value"] : List Str).length) : bindArgs fd ⟨us, []⟩ = pure ((["row", "value"] : List Str).zip us) := by
  subst e
  match us, hl with
  | [u0, u1], _ => rfl
theorem bind_bar_count (oc kV doc pm : Value) (an : Option Addr) (cdv ct : Value) (fd : FuncData) (e : fd = PySem.W.fnOf "bar_count" "bar_count" (defArgs (top 30)) (defBody (top 30)) (defScope (top 30)) .none kV doc pm an cdv ct) (us : List Value) (hl : us.length = (["number", "bars"] : List Str).length) : bindArgs fd ⟨us, []⟩ = pure ((["number", "bars"] : List Str).zip us) := by
  subst e
  match us, hl with
  | [u0, u1], _ => rfl
theorem bind_are_deals (oc kV doc pm : Value) (an : Option Addr) (cdv ct : Value) (fd : FuncData) (e : fd = PySem.W.fnOf "are_deals" "are_deals" (defArgs (top 35)) (defBody (top 35)) (defScope (top 35)) .none kV doc pm an cdv ct) (us : List Value) (hl : us.length = (["row", "value"] : List Str).length) : bindArgs fd ⟨us, []⟩ = pure ((["row", "value"] : List Str).zip us) := by
  subst e
  match us, hl with
  | [u0, u1], _ => rfl
theorem bind_check_deals (oc kV doc pm : Value) (an : Option Addr) (cdv ct : Value) (fd : FuncData) (e : fd = PySem.W.fnOf "check_deals" "check_deals" (defArgs (top 36)) (defBody (top 36)) (defScope (top 36)) .none kV doc pm an cdv ct) (us : List Value) (hl : us.length = (["row", "value"] : List Str).length) : bindArgs fd ⟨us, []⟩ = pure ((["row", "value"] : List Str).zip us) := by
  subst e
  match us, hl with
  | [u0, u1], _ => rfl
theorem bind_check_tracks (oc kV doc pm : Value) (an : Option Addr) (cdv ct : Value) (fd : FuncData) (e : fd = PySem.W.fnOf "check_tracks" "check_tracks" (defArgs (top 37)) (defBody (top 37)) (defScope (top 37)) .none kV doc pm an cdv ct) (us : List Value) (hl : us.length = (["value"] : List Str).length) : bindArgs fd ⟨us, []⟩ = pure ((["value"] : List Str).zip us) := by
  subst e
  match us, hl with
  | [u0], _ => rfl
theorem bind_are_below (oc kV doc pm : Value) (an : Option Addr) (cdv ct : Value) (fd : FuncData) (e : fd = PySem.W.fnOf "are_below" "are_below" (defArgs (top 38)) (defBody (top 38)) (defScope (top 38)) .none kV doc pm an cdv ct) (us : List Value) (hl : us.length = (["deals", "tracks"] : List Str).length) : bindArgs fd ⟨us, []⟩ = pure ((["deals", "tracks"] : List Str).zip us) := by
  subst e
  match us, hl with
  | [u0, u1], _ => rfl
theorem bind_pulled (oc kV doc pm : Value) (an : Option Addr) (cdv ct : Value) (fd : FuncData) (e : fd = PySem.W.fnOf "pulled" "pulled" (defArgs (top 39)) (defBody (top 39)) (defScope (top 39)) .none kV doc pm an cdv ct) (us : List Value) (hl : us.length = (["cars", "deal"] : List Str).length) : bindArgs fd ⟨us, []⟩ = pure ((["cars", "deal"] : List Str).zip us) := by
  subst e
  match us, hl with
  | [u0, u1], _ => rfl
theorem bind_behind_all (oc kV doc pm : Value) (an : Option Addr) (cdv ct : Value) (fd : FuncData) (e : fd = PySem.W.fnOf "behind_all" "behind_all" (defArgs (top 40)) (defBody (top 40)) (defScope (top 40)) .none kV doc pm an cdv ct) (us : List Value) (hl : us.length = (["row", "deals"] : List Str).length) : bindArgs fd ⟨us, []⟩ = pure ((["row", "deals"] : List Str).zip us) := by
  subst e
  match us, hl with
  | [u0, u1], _ => rfl
theorem bind_behind (oc kV doc pm : Value) (an : Option Addr) (cdv ct : Value) (fd : FuncData) (e : fd = PySem.W.fnOf "behind" "behind" (defArgs (top 41)) (defBody (top 41)) (defScope (top 41)) .none kV doc pm an cdv ct) (us : List Value) (hl : us.length = (["row", "deals"] : List Str).length) : bindArgs fd ⟨us, []⟩ = pure ((["row", "deals"] : List Str).zip us) := by
  subst e
  match us, hl with
  | [u0, u1], _ => rfl
theorem bind_by_codes (oc kV doc pm : Value) (an : Option Addr) (cdv ct : Value) (fd : FuncData) (e : fd = PySem.W.fnOf "by_codes" "by_codes" (defArgs (top 42)) (defBody (top 42)) (defScope (top 42)) .none kV doc pm an cdv ct) (us : List Value) (hl : us.length = (["row", "codes"] : List Str).length) : bindArgs fd ⟨us, []⟩ = pure ((["row", "codes"] : List Str).zip us) := by
  subst e
  match us, hl with
  | [u0, u1], _ => rfl
theorem bind_do_set (oc kV doc pm : Value) (an : Option Addr) (cdv ct : Value) (fd : FuncData) (e : fd = PySem.W.fnOf "do_set" "do_set" (defArgs (top 43)) (defBody (top 43)) (defScope (top 43)) .none kV doc pm an cdv ct) (us : List Value) (hl : us.length = (["row", "codes"] : List Str).length) : bindArgs fd ⟨us, []⟩ = pure ((["row", "codes"] : List Str).zip us) := by
  subst e
  match us, hl with
  | [u0, u1], _ => rfl
theorem bind_figures (oc kV doc pm : Value) (an : Option Addr) (cdv ct : Value) (fd : FuncData) (e : fd = PySem.W.fnOf "figures" "figures" (defArgs (top 44)) (defBody (top 44)) (defScope (top 44)) .none kV doc pm an cdv ct) (us : List Value) (hl : us.length = (["codes", "tracks"] : List Str).length) : bindArgs fd ⟨us, []⟩ = pure ((["codes", "tracks"] : List Str).zip us) := by
  subst e
  match us, hl with
  | [u0, u1], _ => rfl
theorem bind_dealt (oc kV doc pm : Value) (an : Option Addr) (cdv ct : Value) (fd : FuncData) (e : fd = PySem.W.fnOf "dealt" "dealt" (defArgs (top 45)) (defBody (top 45)) (defScope (top 45)) .none kV doc pm an cdv ct) (us : List Value) (hl : us.length = (["row", "codes", "tracks"] : List Str).length) : bindArgs fd ⟨us, []⟩ = pure ((["row", "codes", "tracks"] : List Str).zip us) := by
  subst e
  match us, hl with
  | [u0, u1, u2], _ => rfl
theorem bind_codes_of (oc kV doc pm : Value) (an : Option Addr) (cdv ct : Value) (fd : FuncData) (e : fd = PySem.W.fnOf "codes_of" "codes_of" (defArgs (top 46)) (defBody (top 46)) (defScope (top 46)) .none kV doc pm an cdv ct) (us : List Value) (hl : us.length = (["row", "deals", "tracks"] : List Str).length) : bindArgs fd ⟨us, []⟩ = pure ((["row", "deals", "tracks"] : List Str).zip us) := by
  subst e
  match us, hl with
  | [u0, u1, u2], _ => rfl
theorem bind_can_set (oc kV doc pm : Value) (an : Option Addr) (cdv ct : Value) (fd : FuncData) (e : fd = PySem.W.fnOf "can_set" "can_set" (defArgs (top 47)) (defBody (top 47)) (defScope (top 47)) .none kV doc pm an cdv ct) (us : List Value) (hl : us.length = (["row", "tracks"] : List Str).length) : bindArgs fd ⟨us, []⟩ = pure ((["row", "tracks"] : List Str).zip us) := by
  subst e
  match us, hl with
  | [u0, u1], _ => rfl
theorem bind_shows_can_set (oc kV doc pm : Value) (an : Option Addr) (cdv ct : Value) (fd : FuncData) (e : fd = PySem.W.fnOf "shows_can_set" "shows_can_set" (defArgs (top 48)) (defBody (top 48)) (defScope (top 48)) .none kV doc pm an cdv ct) (us : List Value) (hl : us.length = (["row", "tracks", "value"] : List Str).length) : bindArgs fd ⟨us, []⟩ = pure ((["row", "tracks", "value"] : List Str).zip us) := by
  subst e
  match us, hl with
  | [u0, u1, u2], _ => rfl
theorem bind_least_passes (oc kV doc pm : Value) (an : Option Addr) (cdv ct : Value) (fd : FuncData) (e : fd = PySem.W.fnOf "least_passes" "least_passes" (defArgs (top 49)) (defBody (top 49)) (defScope (top 49)) .none kV doc pm an cdv ct) (us : List Value) (hl : us.length = (["row", "many"] : List Str).length) : bindArgs fd ⟨us, []⟩ = pure ((["row", "many"] : List Str).zip us) := by
  subst e
  match us, hl with
  | [u0, u1], _ => rfl
theorem bind__law_pot (oc kV doc pm : Value) (an : Option Addr) (cdv ct : Value) (fd : FuncData) (e : fd = PySem.W.fnOf "_law_pot" "_law_pot" (defArgs (top 51)) (defBody (top 51)) (defScope (top 51)) .none kV doc pm an cdv ct) (us : List Value) (hl : us.length = (["script", "place"] : List Str).length) : bindArgs fd ⟨us, []⟩ = pure ((["script", "place"] : List Str).zip us) := by
  subst e
  match us, hl with
  | [u0, u1], _ => rfl
theorem bind__law_take (oc kV doc pm : Value) (an : Option Addr) (cdv ct : Value) (fd : FuncData) (e : fd = PySem.W.fnOf "_law_take" "_law_take" (defArgs (top 52)) (defBody (top 52)) (defScope (top 52)) .none kV doc pm an cdv ct) (us : List Value) (hl : us.length = (["pot", "upto"] : List Str).length) : bindArgs fd ⟨us, []⟩ = pure ((["pot", "upto"] : List Str).zip us) := by
  subst e
  match us, hl with
  | [u0, u1], _ => rfl
theorem bind__law_cells (oc kV doc pm : Value) (an : Option Addr) (cdv ct : Value) (fd : FuncData) (e : fd = PySem.W.fnOf "_law_cells" "_law_cells" (defArgs (top 53)) (defBody (top 53)) (defScope (top 53)) .none kV doc pm an cdv ct) (us : List Value) (hl : us.length = (["script", "most"] : List Str).length) : bindArgs fd ⟨us, []⟩ = pure ((["script", "most"] : List Str).zip us) := by
  subst e
  match us, hl with
  | [u0, u1], _ => rfl
theorem bind__law_codes (oc kV doc pm : Value) (an : Option Addr) (cdv ct : Value) (fd : FuncData) (e : fd = PySem.W.fnOf "_law_codes" "_law_codes" (defArgs (top 55)) (defBody (top 55)) (defScope (top 55)) .none kV doc pm an cdv ct) (us : List Value) (hl : us.length = (["row"] : List Str).length) : bindArgs fd ⟨us, []⟩ = pure ((["row"] : List Str).zip us) := by
  subst e
  match us, hl with
  | [u0], _ => rfl
theorem bind__law_row (oc kV doc pm : Value) (an : Option Addr) (cdv ct : Value) (fd : FuncData) (e : fd = PySem.W.fnOf "_law_row" "_law_row" (defArgs (top 56)) (defBody (top 56)) (defScope (top 56)) .none kV doc pm an cdv ct) (us : List Value) (hl : us.length = (["pot", "most"] : List Str).length) : bindArgs fd ⟨us, []⟩ = pure ((["pot", "most"] : List Str).zip us) := by
  subst e
  match us, hl with
  | [u0, u1], _ => rfl
theorem bind__law_choose (oc kV doc pm : Value) (an : Option Addr) (cdv ct : Value) (fd : FuncData) (e : fd = PySem.W.fnOf "_law_choose" "_law_choose" (defArgs (top 57)) (defBody (top 57)) (defScope (top 57)) .none kV doc pm an cdv ct) (us : List Value) (hl : us.length = (["number", "many"] : List Str).length) : bindArgs fd ⟨us, []⟩ = pure ((["number", "many"] : List Str).zip us) := by
  subst e
  match us, hl with
  | [u0, u1], _ => rfl
theorem bind__law_power (oc kV doc pm : Value) (an : Option Addr) (cdv ct : Value) (fd : FuncData) (e : fd = PySem.W.fnOf "_law_power" "_law_power" (defArgs (top 58)) (defBody (top 58)) (defScope (top 58)) .none kV doc pm an cdv ct) (us : List Value) (hl : us.length = (["base", "number"] : List Str).length) : bindArgs fd ⟨us, []⟩ = pure ((["base", "number"] : List Str).zip us) := by
  subst e
  match us, hl with
  | [u0, u1], _ => rfl
theorem bind__law_bars (oc kV doc pm : Value) (an : Option Addr) (cdv ct : Value) (fd : FuncData) (e : fd = PySem.W.fnOf "_law_bars" "_law_bars" (defArgs (top 59)) (defBody (top 59)) (defScope (top 59)) .none kV doc pm an cdv ct) (us : List Value) (hl : us.length = (["number", "bars"] : List Str).length) : bindArgs fd ⟨us, []⟩ = pure ((["number", "bars"] : List Str).zip us) := by
  subst e
  match us, hl with
  | [u0, u1], _ => rfl
theorem bind__law_is_row_right (oc kV doc pm : Value) (an : Option Addr) (cdv ct : Value) (fd : FuncData) (e : fd = PySem.W.fnOf "_law_is_row_right" "_law_is_row_right" (defArgs (top 60)) (defBody (top 60)) (defScope (top 60)) .none kV doc pm an cdv ct) (us : List Value) (hl : us.length = (["pot", "row"] : List Str).length) : bindArgs fd ⟨us, []⟩ = pure ((["pot", "row"] : List Str).zip us) := by
  subst e
  match us, hl with
  | [u0, u1], _ => rfl
theorem bind__law_right (oc kV doc pm : Value) (an : Option Addr) (cdv ct : Value) (fd : FuncData) (e : fd = PySem.W.fnOf "_law_right" "_law_right" (defArgs (top 61)) (defBody (top 61)) (defScope (top 61)) .none kV doc pm an cdv ct) (us : List Value) (hl : us.length = (["pot"] : List Str).length) : bindArgs fd ⟨us, []⟩ = pure ((["pot"] : List Str).zip us) := by
  subst e
  match us, hl with
  | [u0], _ => rfl
theorem bind_law (oc kV doc pm : Value) (an : Option Addr) (cdv ct : Value) (fd : FuncData) (e : fd = PySem.W.fnOf "law" "law" (defArgs (top 62)) (defBody (top 62)) (defScope (top 62)) .none kV doc pm an cdv ct) (us : List Value) (hl : us.length = (["script"] : List Str).length) : bindArgs fd ⟨us, []⟩ = pure ((["script"] : List Str).zip us) := by
  subst e
  match us, hl with
  | [u0], _ => rfl
theorem catchD {K : PySem.W.Frag} {mg : Str → Option Value} (D : Def K mg "_law_caught" (top 54)) (hm : mg "TrackError" = some (.ref (He.ga K "TrackError"))) : CatchD K mg "_law_caught" "TrackError" (top 54) "look" "caught" := by
  refine ⟨D, ⟨_, _, _, _, _, _, _, _, _, _, _, rfl⟩, ⟨rfl, rfl, rfl, by decide +kernel, rfl, by decide +kernel, by decide +kernel⟩, .inl rfl, rfl, rfl, hm, ?_⟩
  intro oc kV doc pm an cdv ct fd e us hl
  subst e
  match us, hl with
  | [u0], _ => rfl
theorem calls {T : List (Addr × Str)} {P : Program} {w : World} {K : PySem.W.Frag} {mg : Str → Option Value} {base : Heap} (B : Blt mg)
    (D_is_integer : Def K mg "is_integer" (top 9))
    (D_is_between : Def K mg "is_between" (top 10))
    (D_is_row : Def K mg "is_row" (top 14))
    (D_check_row : Def K mg "check_row" (top 15))
    (D_check_upto : Def K mg "check_upto" (top 17))
    (D_product : Def K mg "product" (top 18))
    (D_are_codes : Def K mg "are_codes" (top 22))
    (D_check_codes : Def K mg "check_codes" (top 23))
    (D_ordered : Def K mg "ordered" (top 24))
    (D_is_in_order : Def K mg "is_in_order" (top 25))
    (D_are_bars : Def K mg "are_bars" (top 26))
    (D_greatest_codes : Def K mg "greatest_codes" (top 27))
    (D_least_codes : Def K mg "least_codes" (top 28))
    (D_shows_least_codes : Def K mg "shows_least_codes" (top 29))
    (D_bar_count : Def K mg "bar_count" (top 30))
    (D_are_deals : Def K mg "are_deals" (top 35))
    (D_check_deals : Def K mg "check_deals" (top 36))
    (D_check_tracks : Def K mg "check_tracks" (top 37))
    (D_are_below : Def K mg "are_below" (top 38))
    (D_pulled : Def K mg "pulled" (top 39))
    (D_behind_all : Def K mg "behind_all" (top 40))
    (D_behind : Def K mg "behind" (top 41))
    (D_by_codes : Def K mg "by_codes" (top 42))
    (D_do_set : Def K mg "do_set" (top 43))
    (D_figures : Def K mg "figures" (top 44))
    (D_dealt : Def K mg "dealt" (top 45))
    (D_codes_of : Def K mg "codes_of" (top 46))
    (D_can_set : Def K mg "can_set" (top 47))
    (D_shows_can_set : Def K mg "shows_can_set" (top 48))
    (D_least_passes : Def K mg "least_passes" (top 49))
    (D__law_pot : Def K mg "_law_pot" (top 51))
    (D__law_take : Def K mg "_law_take" (top 52))
    (D__law_cells : Def K mg "_law_cells" (top 53))
    (D__law_codes : Def K mg "_law_codes" (top 55))
    (D__law_row : Def K mg "_law_row" (top 56))
    (D__law_choose : Def K mg "_law_choose" (top 57))
    (D__law_power : Def K mg "_law_power" (top 58))
    (D__law_bars : Def K mg "_law_bars" (top 59))
    (D__law_is_row_right : Def K mg "_law_is_row_right" (top 60))
    (D__law_right : Def K mg "_law_right" (top 61))
    (D_law : Def K mg "law" (top 62))
    (hS_BARS : ∃ t, mg "BARS" = some (.str "bars" t))
    (hS_DEALS : ∃ t, mg "DEALS" = some (.str "deals" t))
    (hI_MOST_CARS : ∃ t, mg "MOST_CARS" = some (.int 30 t))
    (hI_MOST_NUMBER : ∃ t, mg "MOST_NUMBER" = some (.int 99 t))
    (hI_MOST_PASSES : ∃ t, mg "MOST_PASSES" = some (.int 8 t))
    (hI_MOST_TRACKS : ∃ t, mg "MOST_TRACKS" = some (.int 30 t))
    (hI_THREE : ∃ t, mg "THREE" = some (.int 3 t))
    (EF : ∀ x ∈ (["TooGreat"] : List Str), ErrF P w K mg base x) (UE : ∀ x ∈ (["TooGreat"] : List Str), ExcUse K x) (EG : ∀ x ∈ (["TooGreat"] : List Str), mg x = some (.ref (He.ga K x)))
    (EM : ∀ x ∈ (["TooGreat"] : List Str), PySem.W.exmOne K (.ref (He.ga K x)) (.ref (He.ga K "TrackError")) = some true)
    (Ct : CatchD K mg "_law_caught" "TrackError" (top 54) "look" "caught")
    (Tf_ordered : TabF T K mg base "ordered")
    (Tf__law_is_row_right : TabF T K mg base "_law_is_row_right")
    : Cal T P w K mg base 10 "law" ["script"] 4722368171719656472576 sp_law := by
  have C_is_integer : Cal T P w K mg base 1 "is_integer" ["value"] 0 sp_is_integer := Cal.make (k := 0) D_is_integer S_is_integer bind_is_integer mono_is_integer len_is_integer p_is_integer (fun f cdv A outer s H E R hmg hcd hT hG hr => b_is_integer f cdv A outer s H E R B     hG hr) (by decide)
  have C_is_between : Cal T P w K mg base 2 "is_between" ["value", "low", "high"] 0 sp_is_between := Cal.make (k := 1) D_is_between S_is_between bind_is_between mono_is_between len_is_between p_is_between (fun f cdv A outer s H E R hmg hcd hT hG hr => b_is_between f cdv A outer s H E R B  (cast_cal (C_is_integer.level (by decide)) hT)   hG hr) (by decide)
  have C_is_row : Cal T P w K mg base 3 "is_row" ["value"] 0 sp_is_row := Cal.make (k := 2) D_is_row S_is_row bind_is_row mono_is_row len_is_row p_is_row (fun f cdv A outer s H E R hmg hcd hT hG hr => b_is_row f cdv A outer s H E R B  (cast_cal (C_is_between.level (by decide)) hT) hI_MOST_CARS hI_MOST_NUMBER  hG hr) (by decide)
  have C_check_row : Cal T P w K mg base 4 "check_row" ["value"] 0 sp_check_row := Cal.make (k := 3) D_check_row S_check_row bind_check_row mono_check_row len_check_row p_check_row (fun f cdv A outer s H E R hmg hcd hT hG hr => b_check_row f cdv A outer s H E R B  (cast_cal (C_is_row.level (by decide)) hT)   hG hr) (by decide)
  have C_check_upto : Cal T P w K mg base 3 "check_upto" ["value", "most"] 0 sp_check_upto := Cal.make (k := 2) D_check_upto S_check_upto bind_check_upto mono_check_upto len_check_upto p_check_upto (fun f cdv A outer s H E R hmg hcd hT hG hr => b_check_upto f cdv A outer s H E R B  (cast_cal (C_is_between.level (by decide)) hT)   hG hr) (by decide)
  have C_product : Cal T P w K mg base 1 "product" ["numbers"] 0 sp_product := Cal.make (k := 0) D_product S_product bind_product mono_product len_product p_product (fun f cdv A outer s H E R hmg hcd hT hG hr => b_product f cdv A outer s H E R B     hG hr) (by decide)
  have C_are_codes : Cal T P w K mg base 2 "are_codes" ["row", "value"] 0 sp_are_codes := Cal.make (k := 1) D_are_codes S_are_codes bind_are_codes mono_are_codes len_are_codes p_are_codes (fun f cdv A outer s H E R hmg hcd hT hG hr => b_are_codes f cdv A outer s H E R B  (cast_cal (C_is_integer.level (by decide)) hT)   hG hr) (by decide)
  have C_check_codes : Cal T P w K mg base 3 "check_codes" ["row", "value"] 0 sp_check_codes := Cal.make (k := 2) D_check_codes S_check_codes bind_check_codes mono_check_codes len_check_codes p_check_codes (fun f cdv A outer s H E R hmg hcd hT hG hr => b_check_codes f cdv A outer s H E R B  (cast_cal (C_are_codes.level (by decide)) hT)   hG hr) (by decide)
  have C_ordered : Cal T P w K mg base 2 "ordered" ["codes"] 0 sp_ordered := Cal.make (k := 1) D_ordered S_ordered bind_ordered mono_ordered len_ordered p_ordered (fun f cdv A outer s H E R hmg hcd hT hG hr => b_ordered f cdv A outer s H E R B (by decide) (cast_tab Tf_ordered hT) hmg hcd    hG hr) (by decide)
  have C_is_in_order : Cal T P w K mg base 1 "is_in_order" ["row", "cars"] 0 sp_is_in_order := Cal.make (k := 0) D_is_in_order S_is_in_order bind_is_in_order mono_is_in_order len_is_in_order p_is_in_order (fun f cdv A outer s H E R hmg hcd hT hG hr => b_is_in_order f cdv A outer s H E R B     hG hr) (by decide)
  have C_are_bars : Cal T P w K mg base 3 "are_bars" ["row", "value"] 0 sp_are_bars := Cal.make (k := 2) D_are_bars S_are_bars bind_are_bars mono_are_bars len_are_bars p_are_bars (fun f cdv A outer s H E R hmg hcd hT hG hr => b_are_bars f cdv A outer s H E R B  (cast_cal (C_is_between.level (by decide)) hT)   hG hr) (by decide)
  have C_greatest_codes : Cal T P w K mg base 1 "greatest_codes" ["row"] 0 sp_greatest_codes := Cal.make (k := 0) D_greatest_codes S_greatest_codes bind_greatest_codes mono_greatest_codes len_greatest_codes p_greatest_codes (fun f cdv A outer s H E R hmg hcd hT hG hr => b_greatest_codes f cdv A outer s H E R B     hG hr) (by decide)
  have C_least_codes : Cal T P w K mg base 5 "least_codes" ["row"] 0 sp_least_codes := Cal.make (k := 4) D_least_codes S_least_codes bind_least_codes mono_least_codes len_least_codes p_least_codes (fun f cdv A outer s H E R hmg hcd hT hG hr => b_least_codes f cdv A outer s H E R B  (cast_cal (C_check_row.level (by decide)) hT) (cast_cal (C_greatest_codes.level (by decide)) hT)   hG hr) (by decide)
  have C_shows_least_codes : Cal T P w K mg base 5 "shows_least_codes" ["row", "value"] 0 sp_shows_least_codes := Cal.make (k := 4) D_shows_least_codes S_shows_least_codes bind_shows_least_codes mono_shows_least_codes len_shows_least_codes p_shows_least_codes (fun f cdv A outer s H E R hmg hcd hT hG hr => b_shows_least_codes f cdv A outer s H E R B  (cast_cal (C_are_bars.level (by decide)) hT) (cast_cal (C_are_codes.level (by decide)) hT) (cast_cal (C_check_row.level (by decide)) hT) (cast_cal (C_is_in_order.level (by decide)) hT) (cast_cal (C_is_integer.level (by decide)) hT) (cast_cal (C_ordered.level (by decide)) hT) hI_THREE  hG hr) (by decide)
  have C_bar_count : Cal T P w K mg base 4 "bar_count" ["number", "bars"] 0 sp_bar_count := Cal.make (k := 3) D_bar_count S_bar_count bind_bar_count mono_bar_count len_bar_count p_bar_count (fun f cdv A outer s H E R hmg hcd hT hG hr => b_bar_count f cdv A outer s H E R B  (cast_cal (C_check_upto.level (by decide)) hT) hI_MOST_CARS  hG hr) (by decide)
  have C_are_deals : Cal T P w K mg base 3 "are_deals" ["row", "value"] 0 sp_are_deals := Cal.make (k := 2) D_are_deals S_are_deals bind_are_deals mono_are_deals len_are_deals p_are_deals (fun f cdv A outer s H E R hmg hcd hT hG hr => b_are_deals f cdv A outer s H E R B  (cast_cal (C_is_between.level (by decide)) hT) hI_MOST_TRACKS hI_MOST_PASSES  hG hr) (by decide)
  have C_check_deals : Cal T P w K mg base 4 "check_deals" ["row", "value"] 0 sp_check_deals := Cal.make (k := 3) D_check_deals S_check_deals bind_check_deals mono_check_deals len_check_deals p_check_deals (fun f cdv A outer s H E R hmg hcd hT hG hr => b_check_deals f cdv A outer s H E R B  (cast_cal (C_are_deals.level (by decide)) hT)   hG hr) (by decide)
  have C_check_tracks : Cal T P w K mg base 3 "check_tracks" ["value"] 0 sp_check_tracks := Cal.make (k := 2) D_check_tracks S_check_tracks bind_check_tracks mono_check_tracks len_check_tracks p_check_tracks (fun f cdv A outer s H E R hmg hcd hT hG hr => b_check_tracks f cdv A outer s H E R B  (cast_cal (C_is_between.level (by decide)) hT) hI_MOST_TRACKS hI_MOST_PASSES  hG hr) (by decide)
  have C_are_below : Cal T P w K mg base 1 "are_below" ["deals", "tracks"] 0 sp_are_below := Cal.make (k := 0) D_are_below S_are_below bind_are_below mono_are_below len_are_below p_are_below (fun f cdv A outer s H E R hmg hcd hT hG hr => b_are_below f cdv A outer s H E R B     hG hr) (by decide)
  have C_pulled : Cal T P w K mg base 1 "pulled" ["cars", "deal"] 0 sp_pulled := Cal.make (k := 0) D_pulled S_pulled bind_pulled mono_pulled len_pulled p_pulled (fun f cdv A outer s H E R hmg hcd hT hG hr => b_pulled f cdv A outer s H E R B     hG hr) (by decide)
  have C_behind_all : Cal T P w K mg base 2 "behind_all" ["row", "deals"] 0 sp_behind_all := Cal.make (k := 1) D_behind_all S_behind_all bind_behind_all mono_behind_all len_behind_all p_behind_all (fun f cdv A outer s H E R hmg hcd hT hG hr => b_behind_all f cdv A outer s H E R B  (cast_cal (C_pulled.level (by decide)) hT)   hG hr) (by decide)
  have C_behind : Cal T P w K mg base 5 "behind" ["row", "deals"] 0 sp_behind := Cal.make (k := 4) D_behind S_behind bind_behind mono_behind len_behind p_behind (fun f cdv A outer s H E R hmg hcd hT hG hr => b_behind f cdv A outer s H E R B  (cast_cal (C_behind_all.level (by decide)) hT) (cast_cal (C_check_deals.level (by decide)) hT) (cast_cal (C_check_row.level (by decide)) hT)   hG hr) (by decide)
  have C_by_codes : Cal T P w K mg base 5 "by_codes" ["row", "codes"] 0 sp_by_codes := Cal.make (k := 4) D_by_codes S_by_codes bind_by_codes mono_by_codes len_by_codes p_by_codes (fun f cdv A outer s H E R hmg hcd hT hG hr => b_by_codes f cdv A outer s H E R B  (cast_cal (C_check_codes.level (by decide)) hT) (cast_cal (C_check_row.level (by decide)) hT) (cast_cal (C_ordered.level (by decide)) hT)   hG hr) (by decide)
  have C_do_set : Cal T P w K mg base 5 "do_set" ["row", "codes"] 0 sp_do_set := Cal.make (k := 4) D_do_set S_do_set bind_do_set mono_do_set len_do_set p_do_set (fun f cdv A outer s H E R hmg hcd hT hG hr => b_do_set f cdv A outer s H E R B  (cast_cal (C_check_codes.level (by decide)) hT) (cast_cal (C_check_row.level (by decide)) hT) (cast_cal (C_is_in_order.level (by decide)) hT) (cast_cal (C_ordered.level (by decide)) hT)   hG hr) (by decide)
  have C_figures : Cal T P w K mg base 1 "figures" ["codes", "tracks"] 0 sp_figures := Cal.make (k := 0) D_figures S_figures bind_figures mono_figures len_figures p_figures (fun f cdv A outer s H E R hmg hcd hT hG hr => b_figures f cdv A outer s H E R B     hG hr) (by decide)
  have CX_dealt : CalX T P w K mg base 5 "dealt" ["row", "codes", "tracks"] 0 spx_dealt := CalX.make (k := 4) D_dealt S_dealt bind_dealt monoX_dealt lenX_dealt p_dealt (fun f cdv A outer s H E R hmg hcd hT tk hG hr => b_dealt f cdv A outer s H E R B EF (by decide) (cast_cal (C_check_codes.level (by decide)) hT) (cast_cal (C_check_row.level (by decide)) hT) (cast_cal (C_check_tracks.level (by decide)) hT) (cast_cal (C_figures.level (by decide)) hT) (cast_cal (C_product.level (by decide)) hT)   tk hG hr) (by decide)
  have C_dealt : Cal T P w K mg base 5 "dealt" ["row", "codes", "tracks"] 0 sp_dealt := CX_dealt.cal mono_dealt dealt_of
  have C_codes_of : Cal T P w K mg base 5 "codes_of" ["row", "deals", "tracks"] 0 sp_codes_of := Cal.make (k := 4) D_codes_of S_codes_of bind_codes_of mono_codes_of len_codes_of p_codes_of (fun f cdv A outer s H E R hmg hcd hT hG hr => b_codes_of f cdv A outer s H E R B  (cast_cal (C_are_below.level (by decide)) hT) (cast_cal (C_check_deals.level (by decide)) hT) (cast_cal (C_check_row.level (by decide)) hT) (cast_cal (C_check_tracks.level (by decide)) hT)   hG hr) (by decide)
  have C_can_set : Cal T P w K mg base 5 "can_set" ["row", "tracks"] 0 sp_can_set := Cal.make (k := 4) D_can_set S_can_set bind_can_set mono_can_set len_can_set p_can_set (fun f cdv A outer s H E R hmg hcd hT hG hr => b_can_set f cdv A outer s H E R B  (cast_cal (C_check_row.level (by decide)) hT) (cast_cal (C_check_tracks.level (by decide)) hT) (cast_cal (C_figures.level (by decide)) hT) (cast_cal (C_greatest_codes.level (by decide)) hT) (cast_cal (C_product.level (by decide)) hT)  hS_BARS hS_DEALS hG hr) (by decide)
  have C_shows_can_set : Cal T P w K mg base 5 "shows_can_set" ["row", "tracks", "value"] 0 sp_shows_can_set := Cal.make (k := 4) D_shows_can_set S_shows_can_set bind_shows_can_set mono_shows_can_set len_shows_can_set p_shows_can_set (fun f cdv A outer s H E R hmg hcd hT hG hr => b_shows_can_set f cdv A outer s H E R B  (cast_cal (C_are_bars.level (by decide)) hT) (cast_cal (C_are_below.level (by decide)) hT) (cast_cal (C_are_deals.level (by decide)) hT) (cast_cal (C_behind_all.level (by decide)) hT) (cast_cal (C_check_row.level (by decide)) hT) (cast_cal (C_check_tracks.level (by decide)) hT) (cast_cal (C_is_in_order.level (by decide)) hT) (cast_cal (C_product.level (by decide)) hT)  hS_BARS hS_DEALS hG hr) (by decide)
  have C_least_passes : Cal T P w K mg base 5 "least_passes" ["row", "many"] 0 sp_least_passes := Cal.make (k := 4) D_least_passes S_least_passes bind_least_passes mono_least_passes len_least_passes p_least_passes (fun f cdv A outer s H E R hmg hcd hT hG hr => b_least_passes f cdv A outer s H E R B  (cast_cal (C_check_row.level (by decide)) hT) (cast_cal (C_greatest_codes.level (by decide)) hT) (cast_cal (C_is_between.level (by decide)) hT) hI_MOST_TRACKS  hG hr) (by decide)
  have C0__law_pot : Cal T P w K mg base 1 "_law_pot" ["script", "place"] 0 sp__law_pot0 := Cal.make (k := 0) D__law_pot S__law_pot bind__law_pot mono__law_pot0 len__law_pot0 p__law_pot0 (fun f cdv A outer s H E R hmg hcd hT hG hr => b__law_pot f cdv A outer s H E R B     hG hr) (by decide)
  have C__law_pot : Cal T P w K mg base 1 "_law_pot" ["script", "place"] 0 sp__law_pot := C0__law_pot.pot mono__law_pot pot_of
  have C__law_take : Cal T P w K mg base 1 "_law_take" ["pot", "upto"] 1 sp__law_take := Cal.make (k := 0) D__law_take S__law_take bind__law_take mono__law_take len__law_take p__law_take (fun f cdv A outer s H E R hmg hcd hT hG hr => b__law_take f cdv A outer s H E R B     hG hr) (by decide)
  have C__law_cells : Cal T P w K mg base 1 "_law_cells" ["script", "most"] 0 sp__law_cells := Cal.make (k := 0) D__law_cells S__law_cells bind__law_cells mono__law_cells len__law_cells p__law_cells (fun f cdv A outer s H E R hmg hcd hT hG hr => b__law_cells f cdv A outer s H E R B     hG hr) (by decide)
  have C__law_codes : Cal T P w K mg base 1 "_law_codes" ["row"] 0 sp__law_codes := Cal.make (k := 0) D__law_codes S__law_codes bind__law_codes mono__law_codes len__law_codes p__law_codes (fun f cdv A outer s H E R hmg hcd hT hG hr => b__law_codes f cdv A outer s H E R B     hG hr) (by decide)
  have C__law_row : Cal T P w K mg base 2 "_law_row" ["pot", "most"] 16777218 sp__law_row := Cal.make (k := 1) D__law_row S__law_row bind__law_row mono__law_row len__law_row p__law_row (fun f cdv A outer s H E R hmg hcd hT hG hr => b__law_row f cdv A outer s H E R B  (cast_cal (C__law_take.level (by decide)) hT)   hG hr) (by decide)
  have C__law_choose : Cal T P w K mg base 1 "_law_choose" ["number", "many"] 0 sp__law_choose := Cal.make (k := 0) D__law_choose S__law_choose bind__law_choose mono__law_choose len__law_choose p__law_choose (fun f cdv A outer s H E R hmg hcd hT hG hr => b__law_choose f cdv A outer s H E R B     hG hr) (by decide)
  have C__law_power : Cal T P w K mg base 1 "_law_power" ["base", "number"] 0 sp__law_power := Cal.make (k := 0) D__law_power S__law_power bind__law_power mono__law_power len__law_power p__law_power (fun f cdv A outer s H E R hmg hcd hT hG hr => b__law_power f cdv A outer s H E R B     hG hr) (by decide)
  have C__law_bars : Cal T P w K mg base 2 "_law_bars" ["number", "bars"] 0 sp__law_bars := Cal.make (k := 1) D__law_bars S__law_bars bind__law_bars mono__law_bars len__law_bars p__law_bars (fun f cdv A outer s H E R hmg hcd hT hG hr => b__law_bars f cdv A outer s H E R B  (cast_cal (C__law_choose.level (by decide)) hT) (cast_cal (C__law_power.level (by decide)) hT)   hG hr) (by decide)
  have C__law_is_row_right : Cal T P w K mg base 8 "_law_is_row_right" ["pot", "row"] 16777218 sp__law_is_row_right := Cal.make (k := 7) D__law_is_row_right S__law_is_row_right bind__law_is_row_right mono__law_is_row_right len__law_is_row_right p__law_is_row_right (fun f cdv A outer s H E R hmg hcd hT hG hr => b__law_is_row_right f cdv A outer s H E R B (j := 5) (by decide) (by decide) UE EG EM Ct (cast_tab Tf__law_is_row_right hT) hmg hcd (cast_cal (C__law_codes.level (by decide)) hT) (cast_cal (C__law_take.level (by decide)) hT) (cast_cal (C_behind.level (by decide)) hT) (cast_cal (C_by_codes.level (by decide)) hT) (cast_cal (C_can_set.level (by decide)) hT) (cast_cal (C_codes_of.level (by decide)) hT) (cast_cal (C_dealt.level (by decide)) hT) (cast_cal (C_do_set.level (by decide)) hT) (cast_cal (C_least_codes.level (by decide)) hT) (cast_cal (C_least_passes.level (by decide)) hT) (cast_cal (C_shows_can_set.level (by decide)) hT) (cast_cal (C_shows_least_codes.level (by decide)) hT) (cast_calX (CX_dealt.level (by decide)) hT)   hG hr) (by decide)
  have C__law_right : Cal T P w K mg base 9 "_law_right" ["pot"] 281475077373961 sp__law_right := Cal.make (k := 8) D__law_right S__law_right bind__law_right mono__law_right len__law_right p__law_right (fun f cdv A outer s H E R hmg hcd hT hG hr => b__law_right f cdv A outer s H E R B  (cast_cal (C__law_bars.level (by decide)) hT) (cast_cal (C__law_codes.level (by decide)) hT) (cast_cal (C__law_is_row_right.level (by decide)) hT) (cast_cal (C__law_row.level (by decide)) hT) (cast_cal (C__law_take.level (by decide)) hT) (cast_cal (C_bar_count.level (by decide)) hT) (cast_cal (C_least_codes.level (by decide)) hT)   hG hr) (by decide)
  have C_law : Cal T P w K mg base 10 "law" ["script"] 4722368171719656472576 sp_law := Cal.make (k := 9) D_law S_law bind_law mono_law len_law p_law (fun f cdv A outer s H E R hmg hcd hT hG hr => b_law f cdv A outer s H E R B  (cast_cal (C__law_cells.level (by decide)) hT) (cast_cal (C__law_pot.level (by decide)) hT) (cast_cal (C__law_right.level (by decide)) hT)   hG hr) (by decide)
  exact C_law
end K67
namespace HeadX
open PySem PySem.Spec PyProof.Rows L2 VS K67
def mkD (x : Str) (i : Nat) : He.DefD := ⟨(x, none), x, x, defArgs (top i), defBody (top i), defScope (top i), [], []⟩
def fn : List He.DefD := [mkD "is_integer" 9, mkD "is_between" 10, mkD "is_row" 14, mkD "check_row" 15, mkD "check_upto" 17, mkD "product" 18, mkD "are_codes" 22, mkD "check_codes" 23, mkD "ordered" 24, mkD "is_in_order" 25, mkD "are_bars" 26, mkD "greatest_codes" 27, mkD "least_codes" 28, mkD "shows_least_codes" 29, mkD "bar_count" 30, mkD "are_deals" 35, mkD "check_deals" 36, mkD "check_tracks" 37, mkD "are_below" 38, mkD "pulled" 39, mkD "behind_all" 40, mkD "behind" 41, mkD "by_codes" 42, mkD "do_set" 43, mkD "figures" 44, mkD "dealt" 45, mkD "codes_of" 46, mkD "can_set" 47, mkD "shows_can_set" 48, mkD "least_passes" 49, mkD "_law_pot" 51, mkD "_law_take" 52, mkD "_law_cells" 53, mkD "_law_caught" 54, mkD "_law_codes" 55, mkD "_law_row" 56, mkD "_law_choose" 57, mkD "_law_power" 58, mkD "_law_bars" 59, mkD "_law_is_row_right" 60, mkD "_law_right" 61, mkD "law" 62]
def fa : List He.Fa := [.glo "is_integer", .glo "is_between", .glo "is_row", .glo "check_row", .glo "check_upto", .glo "product", .glo "are_codes", .glo "check_codes", .glo "ordered", .glo "is_in_order", .glo "are_bars", .glo "greatest_codes", .glo "least_codes", .glo "shows_least_codes", .glo "bar_count", .glo "are_deals", .glo "check_deals", .glo "check_tracks", .glo "are_below", .glo "pulled", .glo "behind_all", .glo "behind", .glo "by_codes", .glo "do_set", .glo "figures", .glo "dealt", .glo "codes_of", .glo "can_set", .glo "shows_can_set", .glo "least_passes", .glo "_law_pot", .glo "_law_take", .glo "_law_cells", .glo "_law_caught", .glo "_law_codes", .glo "_law_row", .glo "_law_choose", .glo "_law_power", .glo "_law_bars", .glo "_law_is_row_right", .glo "_law_right", .glo "law", .free "range", .free "len", .free "int", .free "tuple", .free "list", .free "sorted", .free "sum", .free "repr", .free "abs", .free "min", .free "max", .free "all", .free "any", .free "isinstance", .free "zip", .free "enumerate", .free "bool", .free "set", .free "str", .free "dict", .int "MOST_CARS" 30, .int "MOST_NUMBER" 99, .int "MOST_PASSES" 8, .int "MOST_TRACKS" 30, .int "THREE" 3, .str "BARS" "bars", .str "DEALS" "deals", .glo "TooGreat", .glo "TrackError"]
abbrev R : PySem.W.OpenRow := PySem.W.OpenLaw.row PySem.Challenge.rw_tracksenough_k67_whole_codes_value_by_va
abbrev PP : Program := (PySem.Challenge.rw_tracksenough_k67_whole_codes_value_by_va).prog
def loose : List PySem.Str := (["TrackError", "BadCodes", "BadDeals", "BadNumber", "BadRow", "BadTracks", "TooGreat", "is_integer", "is_between", "MOST_CARS", "MOST_NUMBER", "is_row", "check_row", "check_upto", "product", "THREE", "BARS", "are_codes", "check_codes", "ordered", "is_in_order", "are_bars", "greatest_codes", "least_codes", "shows_least_codes", "bar_count", "MOST_TRACKS", "MOST_PASSES", "DEALS", "are_deals"] : List PySem.Str) ++ (["check_deals", "check_tracks", "are_below", "pulled", "behind_all", "behind", "by_codes", "do_set", "figures", "dealt", "codes_of", "can_set", "shows_can_set", "least_passes", "_law_pot", "_law_take", "_law_cells", "_law_caught", "_law_codes", "_law_row", "_law_choose", "_law_power", "_law_bars", "_law_is_row_right", "_law_right"] : List PySem.Str)
/-- the __init__ of the errors' root -/
def ini : Stmt := match top 1 with
  | .ClassDef _ _ _ body _ _ _ _ _ _ _ => body.getD 0 (.Pass ⟨0, 0, 0, 0⟩)
  | s => s
def iniV : FnI := some ("__init__", "TrackError.__init__", defArgs ini, .stmts (defBody ini), defScope ini, mainGlobals, builtinsNs)
def tf : List He.Defn := [("ordered", none), ("_law_is_row_right", none)]
def ex (K : PySem.W.Frag) : Bool := excB K "TrackError" "TrackError.__init__" PySem.Challenge.pw_tracksenough_k67_whole_codes_value_by_va.main.file ["TooGreat"] && decide ((tf.map fun p => (He.cT K p).2).Nodup)
abbrev hk : PySem.W.Hook := hookI 4 fa fn [] tf ex ("TrackError", some "__init__") iniV
def ob (s : PySem.W.SharedT) : AlI := obsI 4 fa fn [] tf ex ("TrackError", some "__init__") (HandSHeadRun.getT s)
theorem ob_eq (s : PySem.W.SharedT) : ob s = hk.obs s.abs := obsI_eq (HandSHeadRun.getT_eq s)
set_option maxHeartbeats 0 in
theorem run (w : World) : HandSHeadRun.RunEq R (PySem.W.view R.prog [62]) hk ob 4000 loose w := by
  intro os
  kernel_rfl
theorem lk_mem {α : Type} {x : Str} {b : α} : ∀ {l : List (Str × α)}, l.lookup x = some b → (x, b) ∈ l
  | [], h => by cases h
  | (y, c) :: r, h => by
    rw [List.lookup_cons] at h
    by_cases e : (x == y) = true
    · rw [e] at h
      cases h
      rw [eq_of_beq e]
      exact List.mem_cons_self
    · simp only [Bool.not_eq_true] at e
      rw [e] at h
      exact List.mem_cons_of_mem _ (lk_mem h)
theorem ini_free : ∀ p ∈ (defScope ini).names, p.2 = .free → p.1 = "__class__" := by decide +kernel
theorem iniT : IniT PP (defArgs ini) (defScope ini) :=
  ⟨⟨_, rfl, rfl⟩, by decide +kernel, rfl, rfl, rfl, rfl, by decide +kernel, fun x h => ini_free _ (lk_mem h) rfl, rfl, rfl, rfl⟩
theorem bind_ini (fd : FuncData) (hn : fd.name = "__init__") (hp : fd.params = defArgs ini) (hd : fd.defaults = .none) (us : List Value) (hl : us.length = 2) : bindArgs fd ⟨us, []⟩ = pure ((["self", "value"] : List Str).zip us) := by
  obtain ⟨n1, n2, n3, n4, n5, n6, n7, n8, n9, n10, n11, n12, n13, n14, n15⟩ := fd
  dsimp only at hn hp hd
  subst hn hp hd
  match us, hl with
  | [a, b], _ => rfl
theorem tab_of {K : PySem.W.Frag} {mg : Str → Option Value} {base : Heap} {T : List (Addr × Str)} {z : Str} (hm : mg z = some (.ref (He.ga K z))) {fd : FuncData} {params : Arguments} {body : List Stmt} {scope : Scope} (F : FunD K z z params body scope [] [] (He.ga K z) fd)
    (tb : LamX.TabB base mg (He.cT K (z, none)).1 (He.cT K (z, none)).2) (h1 : ((He.cT K (z, none)).2, z ++ ".<locals>." ++ "<lambda>") ∈ T) (h2 : ∀ p ∈ T, p.1 = (He.cT K (z, none)).2 → p.2 = z ++ ".<locals>." ++ "<lambda>") : TabF T K mg base z := by
  refine ⟨_, _, ?_, tb, h1, h2⟩
  rintro f cdv hf ⟨oc, od, fd', osl, lk, hcd⟩
  rw [hm] at hf
  cases hf
  obtain ⟨oc', od', dV, kV, doc, pm, an, cdv', ct, osl', e, lk', hcd', _, _⟩ := F.ex
  rw [lk] at lk'
  cases lk'
  subst e
  obtain ⟨c, hc⟩ := He.codeIn_ref hcd'
  have e1 : cdv = .ref c := by rw [← hcd]; exact hc
  subst e1
  have := He.codeOf_eq (p := (z, none)) lk hcd
  show Value.ref c = .ref (He.codeOf K (z, none))
  rw [this]
theorem facts {w : World} {K : PySem.W.Frag} {h : Heap} {mg : Str → Option Value} {fl : Addr} (X : K.In h) (G : h.Ns mainGlobals mg) (hfa : mg ("law" : Str) = some (.ref fl)) (c : He.SaysX fa fn [] tf ex w h K) (hini : fnI K ("TrackError", some "__init__") = iniV) :
    LawT PySem.Challenge.rw_tracksenough_k67_whole_codes_value_by_va w K (L2.CX PP w) 60 63 "script" mg fl h := by
  have cD : He.SaysD fa fn K := congrArg (fun z : He.AlT => z.1) c.t
  have B : Blt mg := by
    constructor
    all_goals first
      | exact He.free_ok X G (cD.fact 42)
      | exact He.free_ok X G (cD.fact 43)
      | exact He.free_ok X G (cD.fact 44)
      | exact He.free_ok X G (cD.fact 45)
      | exact He.free_ok X G (cD.fact 46)
      | exact He.free_ok X G (cD.fact 47)
      | exact He.free_ok X G (cD.fact 48)
      | exact He.free_ok X G (cD.fact 49)
      | exact He.free_ok X G (cD.fact 50)
      | exact He.free_ok X G (cD.fact 51)
      | exact He.free_ok X G (cD.fact 52)
      | exact He.free_ok X G (cD.fact 53)
      | exact He.free_ok X G (cD.fact 54)
      | exact He.free_ok X G (cD.fact 55)
      | exact He.free_ok X G (cD.fact 56)
      | exact He.free_ok X G (cD.fact 57)
      | exact He.free_ok X G (cD.fact 58)
      | exact He.free_ok X G (cD.fact 59)
      | exact He.free_ok X G (cD.fact 60)
      | exact He.free_ok X G (cD.fact 61)
  have D_is_integer : Def K mg "is_integer" (top 9) := by
    obtain ⟨fd, F⟩ := cD.def_ 0
    exact ⟨_, fd, F, He.glo_ok X G (cD.fact 0)⟩
  have D_is_between : Def K mg "is_between" (top 10) := by
    obtain ⟨fd, F⟩ := cD.def_ 1
    exact ⟨_, fd, F, He.glo_ok X G (cD.fact 1)⟩
  have D_is_row : Def K mg "is_row" (top 14) := by
    obtain ⟨fd, F⟩ := cD.def_ 2
    exact ⟨_, fd, F, He.glo_ok X G (cD.fact 2)⟩
  have D_check_row : Def K mg "check_row" (top 15) := by
    obtain ⟨fd, F⟩ := cD.def_ 3
    exact ⟨_, fd, F, He.glo_ok X G (cD.fact 3)⟩
  have D_check_upto : Def K mg "check_upto" (top 17) := by
    obtain ⟨fd, F⟩ := cD.def_ 4
    exact ⟨_, fd, F, He.glo_ok X G (cD.fact 4)⟩
  have D_product : Def K mg "product" (top 18) := by
    obtain ⟨fd, F⟩ := cD.def_ 5
    exact ⟨_, fd, F, He.glo_ok X G (cD.fact 5)⟩
  have D_are_codes : Def K mg "are_codes" (top 22) := by
    obtain ⟨fd, F⟩ := cD.def_ 6
    exact ⟨_, fd, F, He.glo_ok X G (cD.fact 6)⟩
  have D_check_codes : Def K mg "check_codes" (top 23) := by
    obtain ⟨fd, F⟩ := cD.def_ 7
    exact ⟨_, fd, F, He.glo_ok X G (cD.fact 7)⟩
  have D_ordered : Def K mg "ordered" (top 24) := by
    obtain ⟨fd, F⟩ := cD.def_ 8
    exact ⟨_, fd, F, He.glo_ok X G (cD.fact 8)⟩
  have D_is_in_order : Def K mg "is_in_order" (top 25) := by
    obtain ⟨fd, F⟩ := cD.def_ 9
    exact ⟨_, fd, F, He.glo_ok X G (cD.fact 9)⟩
  have D_are_bars : Def K mg "are_bars" (top 26) := by
    obtain ⟨fd, F⟩ := cD.def_ 10
    exact ⟨_, fd, F, He.glo_ok X G (cD.fact 10)⟩
  have D_greatest_codes : Def K mg "greatest_codes" (top 27) := by
    obtain ⟨fd, F⟩ := cD.def_ 11
    exact ⟨_, fd, F, He.glo_ok X G (cD.fact 11)⟩
  have D_least_codes : Def K mg "least_codes" (top 28) := by
    obtain ⟨fd, F⟩ := cD.def_ 12
    exact ⟨_, fd, F, He.glo_ok X G (cD.fact 12)⟩
  have D_shows_least_codes : Def K mg "shows_least_codes" (top 29) := by
    obtain ⟨fd, F⟩ := cD.def_ 13
    exact ⟨_, fd, F, He.glo_ok X G (cD.fact 13)⟩
  have D_bar_count : Def K mg "bar_count" (top 30) := by
    obtain ⟨fd, F⟩ := cD.def_ 14
    exact ⟨_, fd, F, He.glo_ok X G (cD.fact 14)⟩
  have D_are_deals : Def K mg "are_deals" (top 35) := by
    obtain ⟨fd, F⟩ := cD.def_ 15
    exact ⟨_, fd, F, He.glo_ok X G (cD.fact 15)⟩
  have D_check_deals : Def K mg "check_deals" (top 36) := by
    obtain ⟨fd, F⟩ := cD.def_ 16
    exact ⟨_, fd, F, He.glo_ok X G (cD.fact 16)⟩
  have D_check_tracks : Def K mg "check_tracks" (top 37) := by
    obtain ⟨fd, F⟩ := cD.def_ 17
    exact ⟨_, fd, F, He.glo_ok X G (cD.fact 17)⟩
  have D_are_below : Def K mg "are_below" (top 38) := by
    obtain ⟨fd, F⟩ := cD.def_ 18
    exact ⟨_, fd, F, He.glo_ok X G (cD.fact 18)⟩
  have D_pulled : Def K mg "pulled" (top 39) := by
    obtain ⟨fd, F⟩ := cD.def_ 19
    exact ⟨_, fd, F, He.glo_ok X G (cD.fact 19)⟩
  have D_behind_all : Def K mg "behind_all" (top 40) := by
    obtain ⟨fd, F⟩ := cD.def_ 20
    exact ⟨_, fd, F, He.glo_ok X G (cD.fact 20)⟩
  have D_behind : Def K mg "behind" (top 41) := by
    obtain ⟨fd, F⟩ := cD.def_ 21
    exact ⟨_, fd, F, He.glo_ok X G (cD.fact 21)⟩
  have D_by_codes : Def K mg "by_codes" (top 42) := by
    obtain ⟨fd, F⟩ := cD.def_ 22
    exact ⟨_, fd, F, He.glo_ok X G (cD.fact 22)⟩
  have D_do_set : Def K mg "do_set" (top 43) := by
    obtain ⟨fd, F⟩ := cD.def_ 23
    exact ⟨_, fd, F, He.glo_ok X G (cD.fact 23)⟩
  have D_figures : Def K mg "figures" (top 44) := by
    obtain ⟨fd, F⟩ := cD.def_ 24
    exact ⟨_, fd, F, He.glo_ok X G (cD.fact 24)⟩
  have D_dealt : Def K mg "dealt" (top 45) := by
    obtain ⟨fd, F⟩ := cD.def_ 25
    exact ⟨_, fd, F, He.glo_ok X G (cD.fact 25)⟩
  have D_codes_of : Def K mg "codes_of" (top 46) := by
    obtain ⟨fd, F⟩ := cD.def_ 26
    exact ⟨_, fd, F, He.glo_ok X G (cD.fact 26)⟩
  have D_can_set : Def K mg "can_set" (top 47) := by
    obtain ⟨fd, F⟩ := cD.def_ 27
    exact ⟨_, fd, F, He.glo_ok X G (cD.fact 27)⟩
  have D_shows_can_set : Def K mg "shows_can_set" (top 48) := by
    obtain ⟨fd, F⟩ := cD.def_ 28
    exact ⟨_, fd, F, He.glo_ok X G (cD.fact 28)⟩
  have D_least_passes : Def K mg "least_passes" (top 49) := by
    obtain ⟨fd, F⟩ := cD.def_ 29
    exact ⟨_, fd, F, He.glo_ok X G (cD.fact 29)⟩
  have D__law_pot : Def K mg "_law_pot" (top 51) := by
    obtain ⟨fd, F⟩ := cD.def_ 30
    exact ⟨_, fd, F, He.glo_ok X G (cD.fact 30)⟩
  have D__law_take : Def K mg "_law_take" (top 52) := by
    obtain ⟨fd, F⟩ := cD.def_ 31
    exact ⟨_, fd, F, He.glo_ok X G (cD.fact 31)⟩
  have D__law_cells : Def K mg "_law_cells" (top 53) := by
    obtain ⟨fd, F⟩ := cD.def_ 32
    exact ⟨_, fd, F, He.glo_ok X G (cD.fact 32)⟩
  have D__law_caught : Def K mg "_law_caught" (top 54) := by
    obtain ⟨fd, F⟩ := cD.def_ 33
    exact ⟨_, fd, F, He.glo_ok X G (cD.fact 33)⟩
  have D__law_codes : Def K mg "_law_codes" (top 55) := by
    obtain ⟨fd, F⟩ := cD.def_ 34
    exact ⟨_, fd, F, He.glo_ok X G (cD.fact 34)⟩
  have D__law_row : Def K mg "_law_row" (top 56) := by
    obtain ⟨fd, F⟩ := cD.def_ 35
    exact ⟨_, fd, F, He.glo_ok X G (cD.fact 35)⟩
  have D__law_choose : Def K mg "_law_choose" (top 57) := by
    obtain ⟨fd, F⟩ := cD.def_ 36
    exact ⟨_, fd, F, He.glo_ok X G (cD.fact 36)⟩
  have D__law_power : Def K mg "_law_power" (top 58) := by
    obtain ⟨fd, F⟩ := cD.def_ 37
    exact ⟨_, fd, F, He.glo_ok X G (cD.fact 37)⟩
  have D__law_bars : Def K mg "_law_bars" (top 59) := by
    obtain ⟨fd, F⟩ := cD.def_ 38
    exact ⟨_, fd, F, He.glo_ok X G (cD.fact 38)⟩
  have D__law_is_row_right : Def K mg "_law_is_row_right" (top 60) := by
    obtain ⟨fd, F⟩ := cD.def_ 39
    exact ⟨_, fd, F, He.glo_ok X G (cD.fact 39)⟩
  have D__law_right : Def K mg "_law_right" (top 61) := by
    obtain ⟨fd, F⟩ := cD.def_ 40
    exact ⟨_, fd, F, He.glo_ok X G (cD.fact 40)⟩
  have D_law : Def K mg "law" (top 62) := by
    obtain ⟨fd, F⟩ := cD.def_ 41
    exact ⟨_, fd, F, He.glo_ok X G (cD.fact 41)⟩
  have hI_MOST_CARS : ∃ t, mg "MOST_CARS" = some (.int 30 t) := He.int_ok X G (cD.fact 62)
  have hI_MOST_NUMBER : ∃ t, mg "MOST_NUMBER" = some (.int 99 t) := He.int_ok X G (cD.fact 63)
  have hI_MOST_PASSES : ∃ t, mg "MOST_PASSES" = some (.int 8 t) := He.int_ok X G (cD.fact 64)
  have hI_MOST_TRACKS : ∃ t, mg "MOST_TRACKS" = some (.int 30 t) := He.int_ok X G (cD.fact 65)
  have hI_THREE : ∃ t, mg "THREE" = some (.int 3 t) := He.int_ok X G (cD.fact 66)
  have hS_BARS : ∃ t, mg "BARS" = some (.str "bars" t) := He.str_ok X G (cD.fact 67)
  have hS_DEALS : ∃ t, mg "DEALS" = some (.str "deals" t) := He.str_ok X G (cD.fact 68)
  have EG : ∀ x ∈ (["TooGreat"] : List Str), mg x = some (.ref (He.ga K x)) := by
    intro x hx
    simp only [List.mem_cons, List.not_mem_nil, or_false] at hx
    rcases hx with rfl
    · exact He.glo_ok X G (cD.fact 69)
  have nd : (tf.map fun p => (He.cT K p).2).Nodup := of_decide_eq_true (He.ba c.more).2
  have ER : mg "TrackError" = some (.ref (He.ga K "TrackError")) := He.glo_ok X G (cD.fact 70)
  have EX := fun base : Heap => excB_ok (P := PP) (w := w) (mg := mg) (base := base) (params := defArgs ini) (scope := defScope ini) (He.ba c.more).1 (hini.trans rfl) iniT (fun env => ⟨_, rfl⟩) bind_ini EG
  have Ct := catchD D__law_caught ER
  obtain ⟨fd_ordered, F_ordered⟩ := cD.def_ 8
  obtain ⟨fd__law_is_row_right, F__law_is_row_right⟩ := cD.def_ 39
  refine lawT_of (l := PySem.Challenge.rw_tracksenough_k67_whole_codes_value_by_va) (k := 60) (c := 4722368171719656472576) (sp := sp_law) ([((He.cT K ("ordered", none)).2, (He.cT K ("ordered", none)).1, ((("ordered" : Str) ++ ".<locals>." ++ "<lambda>") : Str)), ((He.cT K ("_law_is_row_right", none)).2, (He.cT K ("_law_is_row_right", none)).1, ((("_law_is_row_right" : Str) ++ ".<locals>." ++ "<lambda>") : Str))] : List (Addr × Addr × Str)) ?_ ?_ ?_ (fun base hk hb htb => ?_) hfa (by decide +kernel) (fun ns hl hb => ⟨ns, rfl, hl, hb, rfl⟩)
  · intro p hp
    simp only [List.mem_cons, List.not_mem_nil, or_false] at hp
    rcases hp with rfl | rfl
    · exact c.empty ("ordered", none) (by simp [tf])
    · exact c.empty ("_law_is_row_right", none) (by simp [tf])
  · intro p hp
    simp only [List.mem_cons, List.not_mem_nil, or_false] at hp
    rcases hp with rfl | rfl
    · exact c.out ("ordered", none) (by simp [tf])
    · exact c.out ("_law_is_row_right", none) (by simp [tf])
  · intro p hp
    simp only [List.mem_cons, List.not_mem_nil, or_false] at hp
    rcases hp with rfl | rfl
    · exact PySem.W.codeHd_of_K X (c.hd ("ordered", none) (by simp [tf]))
    · exact PySem.W.codeHd_of_K X (c.hd ("_law_is_row_right", none) (by simp [tf]))
  · have Tf_ordered : TabF (([((He.cT K ("ordered", none)).2, (He.cT K ("ordered", none)).1, ((("ordered" : Str) ++ ".<locals>." ++ "<lambda>") : Str)), ((He.cT K ("_law_is_row_right", none)).2, (He.cT K ("_law_is_row_right", none)).1, ((("_law_is_row_right" : Str) ++ ".<locals>." ++ "<lambda>") : Str))] : List (Addr × Addr × Str)).map fun p : Addr × Addr × Str => (p.1, p.2.2)) K mg base "ordered" := by
      refine tab_of (He.glo_ok X G (cD.fact 8)) F_ordered (htb ((He.cT K ("ordered", none)).2, (He.cT K ("ordered", none)).1, ((("ordered" : Str) ++ ".<locals>." ++ "<lambda>") : Str)) (by simp only [List.mem_cons, true_or, or_true])) (by simp only [List.map_cons, List.map_nil, List.mem_cons, true_or, or_true]) (fun p hp e => ?_)
      simp only [List.map_cons, List.map_nil, List.mem_cons, List.not_mem_nil, or_false] at hp
      rcases hp with rfl | rfl
      · rfl
      · have e2 : (He.cT K ("_law_is_row_right", none)).2 = (He.cT K ("ordered", none)).2 := e; simp [tf, e2] at nd
    have Tf__law_is_row_right : TabF (([((He.cT K ("ordered", none)).2, (He.cT K ("ordered", none)).1, ((("ordered" : Str) ++ ".<locals>." ++ "<lambda>") : Str)), ((He.cT K ("_law_is_row_right", none)).2, (He.cT K ("_law_is_row_right", none)).1, ((("_law_is_row_right" : Str) ++ ".<locals>." ++ "<lambda>") : Str))] : List (Addr × Addr × Str)).map fun p : Addr × Addr × Str => (p.1, p.2.2)) K mg base "_law_is_row_right" := by
      refine tab_of (He.glo_ok X G (cD.fact 39)) F__law_is_row_right (htb ((He.cT K ("_law_is_row_right", none)).2, (He.cT K ("_law_is_row_right", none)).1, ((("_law_is_row_right" : Str) ++ ".<locals>." ++ "<lambda>") : Str)) (by simp only [List.mem_cons, true_or, or_true])) (by simp only [List.map_cons, List.map_nil, List.mem_cons, true_or, or_true]) (fun p hp e => ?_)
      simp only [List.map_cons, List.map_nil, List.mem_cons, List.not_mem_nil, or_false] at hp
      rcases hp with rfl | rfl
      · have e2 : (He.cT K ("ordered", none)).2 = (He.cT K ("_law_is_row_right", none)).2 := e; simp [tf, e2] at nd
      · rfl
    exact (calls (T := ([((He.cT K ("ordered", none)).2, (He.cT K ("ordered", none)).1, ((("ordered" : Str) ++ ".<locals>." ++ "<lambda>") : Str)), ((He.cT K ("_law_is_row_right", none)).2, (He.cT K ("_law_is_row_right", none)).1, ((("_law_is_row_right" : Str) ++ ".<locals>." ++ "<lambda>") : Str))] : List (Addr × Addr × Str)).map fun p : Addr × Addr × Str => (p.1, p.2.2)) (P := PP) (w := w) (base := base) B D_is_integer D_is_between D_is_row D_check_row D_check_upto D_product D_are_codes D_check_codes D_ordered D_is_in_order D_are_bars D_greatest_codes D_least_codes D_shows_least_codes D_bar_count D_are_deals D_check_deals D_check_tracks D_are_below D_pulled D_behind_all D_behind D_by_codes D_do_set D_figures D_dealt D_codes_of D_can_set D_shows_can_set D_least_passes D__law_pot D__law_take D__law_cells D__law_codes D__law_row D__law_choose D__law_power D__law_bars D__law_is_row_right D__law_right D_law hS_BARS hS_DEALS hI_MOST_CARS hI_MOST_NUMBER hI_MOST_PASSES hI_MOST_TRACKS hI_THREE (EX base).1 (EX base).2.1 EG (EX base).2.2 Ct Tf_ordered Tf__law_is_row_right).level (by decide)
end HeadX
open PySem PySem.W PySem.Calls PyProof.Rows
set_option maxHeartbeats 0 in
theorem PySem.Challenge.cw_tracksenough_k67_whole_codes_value_by_va_holds : PySem.Challenge.rw_tracksenough_k67_whole_codes_value_by_va.Holds := by
  w_on; o_law
  refine HandSHeadRun.head_any (r := OpenLaw.row PySem.Challenge.rw_tracksenough_k67_whole_codes_value_by_va) (q := view (OpenLaw.row PySem.Challenge.rw_tracksenough_k67_whole_codes_value_by_va).prog [62]) (H := HeadX.hk) (ob := HeadX.ob) (M := 4000) (loose := HeadX.loose) (d := HandSHeadRun.topDef (OpenLaw.row PySem.Challenge.rw_tracksenough_k67_whole_codes_value_by_va).prog 62) (kwd := []) HeadX.ob_eq
    (by kernel_rfl) (fun s => by kernel_rfl) HeadX.run (by kernel_rfl) (by kernel_rfl) (by kernel_rfl) (by rfl) (by first | assumption | decide +kernel) (by decide +kernel) ⟨rfl, rfl, rfl, rfl, rfl, by decide +kernel⟩ ?hw ?hc
  case hw => w_witness2
  case hc =>
    refine VS.walk_T (l := PySem.Challenge.rw_tracksenough_k67_whole_codes_value_by_va) (n := 63) (k := 60) (x := "script") (CX := fun w => L2.CX (PySem.Challenge.rw_tracksenough_k67_whole_codes_value_by_va).prog w) rfl (by decide) (by kernel_rfl) ⟨rfl, by decide, by decide⟩ ?F ?hCX
    case F =>
      intro w mg fa h Y G hmg0
      obtain ⟨K, KX, c, hini⟩ := Y
      have hmg : mg ("law" : PySem.Str) = some (.ref fa) := by
        have e : (HandSHeadRun.topDef (OpenLaw.row PySem.Challenge.rw_tracksenough_k67_whole_codes_value_by_va).prog 62).name = ("law" : PySem.Str) := by kernel_rfl
        rw [← e]
        exact hmg0
      exact ⟨K, KX, HeadX.facts (w := w) KX G hmg c hini⟩
    case hCX =>
      intro w H s e s' h
      obtain ⟨_, _, _, _, _, _, _, _, _, _, _, _, z⟩ := h
      exact z
