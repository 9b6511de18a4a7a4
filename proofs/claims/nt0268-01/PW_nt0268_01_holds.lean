import PyProof.Rows.All
import Wide.All
import OpenK.AllK
import Wide.FinOn
import PySem.Challenge.RW_nt0268_01
set_option Elab.async false

-- part HD
section
open PySem PySem.W PyProof.Rows
namespace Mine.Head
theorem opening_plain : opening PySem.Challenge.rw_nt0268_01.row.prog = plainProg PySem.Challenge.rw_nt0268_01.row.prog.main.scope.names := by kernel_rfl
theorem fence_plain (s : Shared) : fenceModules? PySem.Challenge.rw_nt0268_01.row.prog s = some s := by kernel_rfl
theorem ns_ok (w : World) : ((boot_heap w.params).isNs mainGlobals && (Array.mk [] : Array GenState).size == 0) = true := by kernel_rfl
noncomputable abbrev bootS (w : World) (os : OsState) : Shared := ⟨boot_heap w.params, Array.mk [], boot_drawn, boot_toks, os⟩
/-- the look at what the top leaves, by the library's twins; the program stays a letter, so that the kernel runs nothing here -/
theorem look_of {p q : Program} {w : World} {N : Nat} {loose : List Str} {Xt : Shared → Bool} {α : Type} {Yf : Shared → α} {s₀ : Shared} {Z : Option (_ × α)} (e : fencedOpening treeTable p w N = some s₀)
    (ns : (s₀.heap.isNs mainGlobals && s₀.gens.size == 0) = true)
    (h : ((PySem.W.Fast.tw14082659384304107361 PySem.W.Fast.tw14364793385576792824 p w s₀.heap.objs.size (s₀.heap.nsMap mainGlobals "__annotations__") N s₀ (topStub p)).bind
        fun s₁ => match staticsOk (importedModules p.main.body) s₀.heap s₁.heap && namesBound p s₁.heap && gensDone s₁ && laidKept s₀.heap s₁.heap with | true => some s₁ | false => none).map (fun s => (PySem.W.Fast.tw4187177175401517315 q loose (importedModules p.main.body) Xt true s, Yf s)) = Z) :
    (openEnds treeTable p w N).map (fun s => (openSeen q loose (importedModules p.main.body) Xt true s, Yf s)) = Z := by
  have e1 : openEnds treeTable p w N = topFrom treeTable p w N s₀ := by unfold openEnds; rw [e]; rfl
  rw [e1]
  unfold topFrom
  rw [ns, PySem.W.Fast.te14082659384304107361, PySem.W.Fast.te14364793385576792824, PySem.W.Fast.te4187177175401517315]
  exact h
end Mine.Head
namespace Mine.Head.PySem.W
/-- the kit's head at this row, the opening taken from the kit's own boot, the look written out: the line then takes ONE check of the top (1273 steps) in place of pieces, whose twins would fill 12 MB -/
theorem holds_open {q : Program} {loose : List Str} {Xt : Shared → Bool} {XP : (Str → Option Value) → Heap → Prop} {α : Type} {Yf : Shared → α} {Ya : World → α} {YP : World → Heap → Prop} {d : DefRec} {kwd : List (Str × Expr)} {N : Nat}
    (left : ∀ w, (fun os => ((PySem.W.Fast.tw14082659384304107361 PySem.W.Fast.tw14364793385576792824 PySem.Challenge.rw_nt0268_01.row.prog w (Mine.Head.bootS w os).heap.objs.size ((Mine.Head.bootS w os).heap.nsMap mainGlobals "__annotations__") (N + 600) (Mine.Head.bootS w os) (topStub PySem.Challenge.rw_nt0268_01.row.prog)).bind
        fun s₁ => match staticsOk (importedModules PySem.Challenge.rw_nt0268_01.row.prog.main.body) (Mine.Head.bootS w os).heap s₁.heap && namesBound PySem.Challenge.rw_nt0268_01.row.prog s₁.heap && gensDone s₁ && laidKept (Mine.Head.bootS w os).heap s₁.heap with | true => some s₁ | false => none).map
        (fun s => (PySem.W.Fast.tw4187177175401517315 q loose (importedModules PySem.Challenge.rw_nt0268_01.row.prog.main.body) Xt true s, Yf s))) = fun _ => some (openGood q loose, Ya w))
    (hY : ∀ w s, Yf s = Ya w → YP w s.heap) (hYk : ∀ w h h', YP w h → (∀ b o, h.get? b = some o → h'.get? b = some o) → YP w h')
    (hX : ∀ s, Xt s = true → XP (s.heap.nsMap mainGlobals) s.heap) (hXk : ∀ mg h h', XP mg h → (∀ b o, h.get? b = some o → h'.get? b = some o) → XP mg h')
    (hdef : defOf q PySem.Challenge.rw_nt0268_01.row.name = some (d, kwd)) (hp : PySem.Challenge.rw_nt0268_01.row.prog.theDef PySem.Challenge.rw_nt0268_01.row.name = some (d.params, d.body, d.scope)) (hk : kwWritten? d.params.kwonlyargs d.params.kw_defaults = some kwd) (hRf : ∀ s, Xt s = true → RecFacts PySem.Challenge.rw_nt0268_01.row.records s.heap) (hwr : (!PySem.Challenge.rw_nt0268_01.row.writes || PySem.Challenge.rw_nt0268_01.row.records.isEmpty) = true)
    (k1 : PySem.Challenge.rw_nt0268_01.row.wellSaid = true) (ok : (chainsOk q && opensWell PySem.Challenge.rw_nt0268_01.row.prog && (frees PySem.Challenge.rw_nt0268_01.row.toRowW && PySem.Challenge.rw_nt0268_01.row.within.isEmpty)) = true) (hb : PySem.Challenge.rw_nt0268_01.row.prog.bare) (hw : PySem.Challenge.rw_nt0268_01.row.toRowW.promised)
    (call : WalkO q loose XP YP PySem.Challenge.rw_nt0268_01.row.toRowW d kwd fun f vs => PySem.call f vs) : PySem.Challenge.rw_nt0268_01.row.Holds :=
  _root_.PySem.W.holds_open (N := N + 600) (fun w => by
    obtain ⟨⟨h, gs, d, k, os⟩, e, e'⟩ := Option.map_eq_some_iff.mp (boot_open Mine.Head.opening_plain (N := N + 600) (by exact Nat.ble_eq_true_of_le (by omega)) Mine.Head.fence_plain w)
    obtain ⟨rfl, rfl, rfl, rfl⟩ : h = boot_heap w.params ∧ gs = Array.mk [] ∧ d = boot_drawn ∧ k = boot_toks := by simpa using e'
    exact Mine.Head.look_of e (Mine.Head.ns_ok w) (congrFun (left w) os)) hY hYk hX hXk hdef hp hk hRf hwr k1 ok hb hw call
end Mine.Head.PySem.W
namespace Mine.Head
set_option maxRecDepth 100000 in
set_option maxHeartbeats 8000000 in
open_top hd for PySem.Challenge.rw_nt0268_01
end Mine.Head
end

-- part E1
section
open PySem PySem.Calls PySem.W PyProof.Rows Builtin Builtin.ObjectAttr
set_option maxRecDepth 100000
namespace Mine
open Head

/-- what the chain of an own class of exceptions must hold -/
structure ChainOk (B : String) (bm : List Value) : Prop where
  hasB : bm.contains (.type B) = true
  noAttr : bm.contains (.type "AttributeError") = false
  noName : bm.contains (.type "NameError") = false

section
variable {prog : Program} {w : World} {A : Around} {E : Value → Shared → Prop} {h : Heap} {g : Array GenState} {d : Drawn} {t : Nat} {os : OsState}
variable {nm q : Str} {C N : Addr} {bs bm bmB : List Value} {hdct : Bool} {sn : List Str} {sub : List Value} {ab : Bool} {col : Option Bool} {dd : Option Addr} {k0 k1 k2 k3 k5 : Option Value} {B newId initId : String}

theorem new_checked {M : Model} (F : ExcBaseFacts B newId initId bmB) (H : ChainOk B bm) {rest : List Value} {Q : Unit → Shared → Prop} (hC : h.get? C = some (excClassObj nm q C N bs bm hdct sn sub ab col dd k0 k1 k2 k3 k5 newId))
    (hq : Q () ⟨h, g, d, t, os⟩) : wpAny M A (checkBuiltinCall newId ⟨.ref C :: rest, []⟩) Q E ⟨h, g, d, t, os⟩ := by
  have hB : (Value.ref C :: bm).contains (.type B) = true := by rw [List.contains_cons, H.hasB, Bool.or_true]
  have hs := F.noStar
  simp only [checkBuiltinCall, F.newKind, F.newSplit, F.newRow]
  repeat (first | refine wpAny_loadPart_at hC ?_ | (refine wpAny_isSubtype_exc hC ?_; rw [hB]) | refine wpAny_staticBase_exc hC ?_ | refine wpAny_madeBy_exc hC ?_ | simp only [bne_self_eq_false, Bool.false_eq_true, if_false] | wp_step)
  exact hq

theorem new_made (F : ExcBaseFacts B newId initId bmB) (H : ChainOk B bm) {R : Result → Shared → Prop} {rest : List Value} (hC : h.get? C = some (excClassObj nm q C N bs bm hdct sn sub ab col dd k0 k1 k2 k3 k5 newId)) (hrest : rest.length ≤ sizeLine)
    (hq : R (.ok (.ret (.ref (h.objs.size + 1)))) ⟨(h.push { cls := .type "tuple", data := .seq rest.toArray }).push
      { cls := .ref C, data := .fields #[.ref h.objs.size, .none, .none, .none, .bool false, .none] }, g, d, t, os⟩) :
    codeAny (model prog w) A (.builtin newId ⟨.ref C :: rest, []⟩) R ⟨h, g, d, t, os⟩ := by
  have he := F.ends
  have hB : (Value.ref C :: bm).contains (.type B) = true := by rw [List.contains_cons, H.hasB, Bool.or_true]
  have hA : (Value.ref C :: bm).contains (.type "AttributeError") = false := by rw [List.contains_cons, H.noAttr]; rfl
  have hN : (Value.ref C :: bm).contains (.type "NameError") = false := by rw [List.contains_cons, H.noName]; rfl
  refine codeAny_builtinAt F.entry ?_
  unfold Builtin.«BaseException.__new__»
  refine PySem.wpAt_bind ?_
  show PySem.wpAt _ _ _ (stack >>= _) _ _ _
  refine PySem.wpAt_bind (PySem.wpAt_stack fun p below => PySem.wpAt_of_wpAny ?_)
  wp_walk
  refine PySem.wpAt_of_wpAny ?_
  rw [F.owner]
  repeat (first | with_reducible refine wpAny_madeHere_exc F.canon hC ?_ | with_reducible refine wpAny_loadPart_at hC ?_ | (with_reducible refine wpAny_isSubtype_exc hC ?_; first | rw [hB] | rw [hA] | rw [hN]) | wp_step)
  show R _ _
  rw [Heap.size_push]
  exact hq
end

abbrev excObj (C t : Addr) (dx : Option Addr) : Obj := { cls := .ref C, dict := dx, data := .fields #[.ref t, .none, .none, .none, .bool false, .none] }
abbrev tupObj (vs : List Value) : Obj := { cls := .type "tuple", data := .seq vs.toArray }

section
variable {prog : Program} {w : World} {A : Around} {E : Value → Shared → Prop} {s : Shared} {K : Frag} {C L fI : Addr} {h₀ : Heap} {m : Str → Option Value} {news : List (Addr × Obj)}
variable {nm q : Str} {N : Addr} {bs bm bmB : List Value} {hdct : Bool} {sn : List Str} {sub : List Value} {ab : Bool} {col : Option Bool} {dd : Option Addr} {k0 k1 k2 k3 k5 : Option Value} {B newId initId : String}

/-- an own class of exceptions is called: the object, then the text's own __init__ -/
theorem call_excK {rest : List Value} {Q : Value → Shared → Prop} (F : Fr h₀ L s.heap m) (X₀ : K.In h₀) (Nw : News h₀ L s.heap news) (FB : ExcBaseFacts B newId initId bmB) (H : ChainOk B bm)
    (hC : K.lookup C = some (excClassObj nm q C N bs bm hdct sn sub ab col dd k0 k1 k2 k3 k5 newId)) (hi : findIn K (.ref C) "__init__" = some (some (.ref fI))) (hf : isFn K (.ref fI) = true) (hrest : rest.length ≤ sizeLine)
    (hq : ∀ e t h', Fr h₀ L h' m → News h₀ L h' ((e, excObj C t none) :: (t, tupObj rest) :: news) → (∀ p ∈ news, p.1 < t) → t < e →
      codeAny (model prog w) (A.under (.builtin "type.__call__" ⟨.ref C :: rest, []⟩)) (.call (.ref fI) ⟨.ref e :: rest, []⟩) (InitBack e fun r s' => match r with | .ok (.ret v) => Q v s' | .ok _ => False | .error e => E e s') { s with heap := h' }) :
    wpAny (model prog w) A (call (.ref C) rest) Q E s := by
  obtain ⟨h, g, d, t, os⟩ := s
  have X := X₀.keeps F.keep
  have hC' : h.get? C = some (excClassObj nm q C N bs bm hdct sn sub ab col dd k0 k1 k2 k3 k5 newId) := X _ _ hC
  have f1 := tc_lookup
  have f2 := tc_bind (.ref C)
  have hT : (⟨h, g, d, t, os⟩ : Shared).TypeIs (.ref C) "type" := ⟨_, hC', rfl⟩
  refine wpAny_call (codeAny_of_tree ?_)
  show wpAny _ _ (callAny (.ref C) _) _ _ _
  repeat (any_goals (first | assumption | with_reducible refine wpAny_loadPart_at hC' ?_ | wp_step))
  refine ⟨rfl, ?_⟩
  show codeAny _ _ (.call (.builtin "type.__call__") ⟨.ref C :: rest, []⟩) _ _
  refine codeAny_call_builtin_at (Code.quiet_builtin _ (by decide +kernel)) entry_typeCall (wpAny_check_type_call_sub hC' ?_)
  repeat (first | with_reducible refine wpAny_loadPart_at hC' ?_ | with_reducible refine wpAny_madeBy_exc hC' ?_ | wp_step)
  refine codeAny_call_builtin_code (Code.quiet_builtin _ FB.quiet) (new_checked FB H hC' ?_)
  refine new_made FB H hC' hrest ?_
  show wpAny _ _ _ _ _ _
  have F1 := (F.push (tupObj rest)).push (excObj C h.objs.size none)
  have N1 := (Nw.push F (tupObj rest)).push (F.push (tupObj rest)) (excObj C h.objs.size none)
  rw [Heap.size_push] at N1
  have hget : ((h.push (tupObj rest)).push (excObj C h.objs.size none)).get? (h.objs.size + 1) = some { cls := .ref C, data := .fields #[.ref h.objs.size, .none, .none, .none, .bool false, .none] } := (N1 _ (.head _)).1
  have X1 := X₀.keeps F1.keep
  have hC₁ := Heap.get?_push_of_some { cls := .ref C, data := .fields #[.ref h.objs.size, .none, .none, .none, .bool false, .none] } (Heap.get?_push_of_some { cls := .type "tuple", data := .seq rest.toArray } hC')
  have hcC : (Value.ref C :: bm).contains (.ref C) = true := by simp
  unfold isInstance
  repeat (first | with_reducible refine wpAny_loadPart_at hget ?_ | (with_reducible refine wpAny_isSubtype_exc hC₁ ?_; rw [hcC]) | wp_step)
  show wpAny _ _ (typeLookup (.ref C) _) _ _ _
  refine (looks_findIn X1 hi).here ?_
  refine wpAny_holding (wpAny_bind ?_)
  refine (bind_fn X1 _ (beq_iff_eq.mp hf)).here ?_
  refine wpAny_bind (wpAny_call (codeAny_mono (hq _ h.objs.size _ F1 N1 (fun p hp => Heap.lt_size (Nw p hp).1) (Nat.lt_succ_self _)) fun r s' z => ?_))
  rcases r with e | (v | _ | _ | _) <;> first | exact z | exact z.elim | skip
  obtain ⟨rfl, z⟩ := z
  wp_walk
  exact z
end
end Mine
end

-- part E2
section
open PySem PySem.Calls PySem.W PyProof.Rows Builtin Builtin.ObjectAttr
set_option maxRecDepth 100000
namespace Mine
open Head

theorem inst_exc {h₀ h : Heap} {L x C t : Addr} {news : List (Addr × Obj)} {dx : Option Addr} (N : News h₀ L h news) (hx : (x, excObj C t dx) ∈ news) (hd : dx = none) : InstAt h x (excObj C t dx) C none :=
  ⟨(N _ hx).1, rfl, rfl, by subst hd; trivial⟩

section
variable {prog : Program} {w : World} {A : Around} {E : Value → Shared → Prop} {s : Shared} {K : Frag} {x C t L : Addr} {h₀ : Heap} {m : Str → Option Value} {pre post : List (Addr × Obj)} {cd : ClassData} {name : Str} {v : Value}

/-- the first field that is stored in a made exception: its dict is made -/
theorem set_excK {Q : Unit → Shared → Prop} (F : Fr h₀ L s.heap m) (X₀ : K.In h₀) (N : News h₀ L s.heap (pre ++ (x, excObj C t none) :: post)) (h1 : ∀ p ∈ pre, p.1 ≠ x) (h2 : ∀ p ∈ post, p.1 ≠ x)
    (hc : clsIn K C = some cd) (hdct : cd.hasDict = true) (ne : cd.mro.isEmpty = false) (top : cd.mro.contains (.type "object") = true) (pass : ∀ self : Value, refuseLoop self "__setattr__" cd.mro = pure ())
    (hs : findIn K (.ref C) "__setattr__" = some (some (.builtin "object.__setattr__"))) (ht : takerIn K C name = some none)
    (h : ∀ dx h', Fr h₀ L h' m → News h₀ L h' ((dx, dictOf [⟨PyData.keyHash w.params name, .str name (s.toks + 1), v⟩] 1) :: (pre ++ (x, excObj C t (some dx)) :: post)) → (∀ p ∈ pre ++ (x, excObj C t none) :: post, p.1 < dx) → Q () { s with heap := h', toks := s.toks + 2 }) :
    wpAny (model prog w) A (setAttr (.ref x) name v) Q E s := by
  have X := X₀.keeps F.keep
  have hx := (N (x, excObj C t none) (by simp)).1
  have I : InstAt s.heap x (excObj C t none) C none := ⟨hx, rfl, rfl, trivial⟩
  have SF := PySem.F.store_object
  have sub : Looks (model prog w) s.heap (isInstance (.ref x) (.type "object")) true := I.type.andThen (looks_mroIn X (by unfold mroIn; rw [hc, Option.bind_some, if_neg (by rw [ne]; decide), top]))
  refine set_plain X I hs ?_
  refine codeAny_call_builtin SF.slot.plain SF.entry (@check_slot (model prog w) _ _ { s with toks := s.toks + 1 } "object.__setattr__" "object" "__setattr__" (.ref x) [.str name s.toks, v] [] _ SF.kind SF.split sub (SF.args (.ref x) (.str name s.toks) v) ?_)
  obtain ⟨attr, ha, hr⟩ := Option.bind_eq_some_iff.mp ht
  have hm : Looks (model prog w) s.heap (mroOf (.ref C)) cd.mro := (looks_clsIn X hc).andThen .now
  have L3 : Looks (model prog w) s.heap (storeTaker? attr) none := by
    cases attr with
    | none => cases hr; exact .now
    | some a =>
      obtain ⟨b, hb, hbb⟩ := Option.map_eq_some_iff.mp hr
      refine (looks_takesIn X hb).andThen ?_
      cases b <;> first | exact .now | cases hbb
  rw [osa_eq, refuse_eq]
  refine wpAny_bind (wpAny_bind (I.type.at (wpAny_bind (hm.at ?_))))
  rw [pass]
  refine wpAny_pure (wpAny_bind (I.type.at (wpAny_bind ((looks_findIn X ha).at (wpAny_bind (L3.at ?_))))))
  have F1 := F.push emptyDict
  have N1 := N.push F emptyDict
  have lt1 : ∀ p ∈ pre ++ (x, excObj C t none) :: post, p.1 < s.heap.objs.size := fun p hp => Heap.lt_size (N p hp).1
  have hxs : x < s.heap.objs.size := Heap.lt_size hx
  obtain ⟨F2, N2⟩ := news_upd (pre := (s.heap.objs.size, emptyDict) :: pre) (post := post) (d := x) (o := excObj C t none) (o' := excObj C t (some s.heap.objs.size)) (f := fun o => { o with dict := some s.heap.objs.size }) F1 N1
    (fun p hp => by
      rcases List.mem_cons.mp hp with rfl | hp
      · exact Nat.ne_of_gt hxs
      · exact h1 p hp) h2 rfl rfl
  have e3 : Obj.putName name (PyData.keyHash w.params name) (.str name (s.toks + 1)) v emptyDict = dictOf [⟨PyData.keyHash w.params name, .str name (s.toks + 1), v⟩] 1 := by
    rw [show emptyDict = dictOf [] 0 from rfl, putName_dict]
    rfl
  obtain ⟨F3, N3⟩ := news_upd (pre := []) (post := pre ++ (x, excObj C t (some s.heap.objs.size)) :: post) (d := s.heap.objs.size) (o := emptyDict) (f := Obj.putName name (PyData.keyHash w.params name) (.str name (s.toks + 1)) v) F2 N2
    (fun p hp => nomatch hp) (fun p hp => by
      rcases List.mem_append.mp hp with hp | hp
      · exact Nat.ne_of_lt (lt1 p (List.mem_append_left _ hp))
      · rcases List.mem_cons.mp hp with rfl | hp
        · exact Nat.ne_of_lt hxs
        · exact Nat.ne_of_lt (lt1 p (List.mem_append_right _ (.tail _ hp)))) e3 rfl
  show wpAny _ _ (storeInOwnDict (.ref x) (.ref C) (.str name s.toks) name v _) _ _ _
  unfold storeInOwnDict ownDictForStores
  refine wpAny_bind (wpAny_pure ?_)
  rw [if_neg (by intro q; cases q)]
  refine wpAny_bind ?_
  unfold instanceDict
  refine wpAny_bind (wpAny_loadPart hx (wpAny_bind ((looks_clsIn X hc).at ?_)))
  rw [hdct]
  simp only [Bool.not_true, Bool.false_eq_true, if_false]
  show wpAny _ _ ((alloc emptyDict) >>= _) _ _ _
  refine wpAny_bind (wpAny_alloc (wpAny_bind (wpAny_update (Heap.get?_push_of_some _ hx) ?_)))
  refine wpAny_pure ?_
  show wpAny _ _ (storeInDict s.heap.objs.size (.str name s.toks) name v) _ _ _
  unfold storeInDict newKeyGuard
  refine wpAny_bind (wpAny_pure (wpAny_bind ?_))
  unfold nsSet
  have hD2 := (N2 (s.heap.objs.size, emptyDict) (.head _)).1
  have hD3 := (N3 _ (.head _)).1
  refine wpAny_bind (wpAny_bind (wpAny_askSetting (wpAny_pure (wpAny_bind (wpAny_mkText (wpAny_bind (wpAny_loadPart hD2 ?_)))))))
  dsimp only
  rw [aRefKeyMayBeTheName_at]
  rw [if_neg (by simp)]
  refine wpAny_updatePart hD2 ?_
  refine wpAny_bind (wpAny_lookBehind hD3 (pastItsLine_dict (by simp)) ?_)
  exact wpAny_pure (h _ _ F3 N3 lt1)

/-- what a raised object must be -/
def ThrowX (C : Addr) (M : Model) (A : Around) (E : Value → Shared → Prop) (v : Value) (s₁ : Shared) : Prop :=
  ∃ a ob vs, v = .ref a ∧ s₁.heap.get? a = some ob ∧ ob.cls = .ref C ∧ ob.data = .fields vs ∧ vs[1]? = some .none ∧ Looks M s₁.heap (isSubtype (.ref C) (.type "BaseException")) true ∧ Looks M s₁.heap (typeOf (.ref C)) (.type "type") ∧ E (.ref a) s₁
end

section
variable {M : Model} {A : Around} {E : Value → Shared → Prop} {s : Shared} {env : Env} {C : Addr}
theorem raise_own_init {e : Expr} {pos : Pos} {Q : Flow → Shared → Prop} (hh : A.handled = none)
    (h : wpAny M A (eval e env) (ThrowX C M A E) E s) : wpAny M A (exec (.Raise (some e) none pos) env) Q E s := by
  show wpAny M A (do standAt pos; raiseStmt env (some (do let v ← eval e env; standAt pos; pure v)) none) Q E s
  refine wpAny_bind (wpAny_standAt ?_)
  unfold raiseStmt
  dsimp only
  refine wpAny_bind (wpAny_bind (wpAny_mono h (fun v s₁ h₁ => wpAny_bind (wpAny_standAt (wpAny_pure ?_))) fun _ _ x => x))
  obtain ⟨a, ob, vs, rfl, ha, hcls, hd, h1, hsub, hty, hE⟩ := h₁
  have hT : Looks M s₁.heap (typeOf (.ref a)) (.ref C) := by
    have := (Looks.ld (M := M) (part := some headPart) ha).andThen (f := fun o => pure o.cls) .now
    rw [hcls] at this
    exact this
  have hnt : ∀ {Q' : Bool → Shared → Prop}, Q' false s₁ → wpAny M A (isType (.ref a)) Q' E s₁ := by
    intro Q' hq
    simp only [isType, loadHead]
    refine wpAny_bind (wpAny_loadPart ha ?_)
    rw [hd]; exact wpAny_pure hq
  refine wpAny_bind (wpAny_pure ?_)
  dsimp only
  refine wpAny_bind (wpAny_holding ?_)
  unfold excFromValue isExcClass
  refine wpAny_bind (wpAny_bind (hnt ?_))
  simp only [Bool.false_eq_true, if_false]
  refine wpAny_pure ?_
  simp only [Bool.false_eq_true, if_false]
  unfold isInstance
  refine wpAny_bind (wpAny_bind (hT.here (hsub.here ?_)))
  simp only [if_true]
  refine wpAny_pure ?_
  refine wpAny_bind (hnt ?_)
  simp only [Bool.false_eq_true, if_false]
  unfold raisedInstance
  refine wpAny_bind (wpAny_bind (hT.here (wpAny_bind (hty.here ?_))))
  rw [if_pos (by decide)]
  refine wpAny_pure ?_
  unfold setFlight raiseNew
  refine wpAny_bind (wpAny_bind (wpAny_field ha hd h1 ?_))
  rw [if_neg (by decide)]
  refine wpAny_pure (wpAny_bind (wpAny_handled ?_))
  rw [hh]
  first
    | exact wpAny_throw hE
    | exact wpAny_bind (wpAny_pure (wpAny_throw hE))
end
end Mine
end

-- part E3
section
open PySem PySem.Calls PySem.W PyProof.Rows Builtin Builtin.ObjectAttr
set_option maxRecDepth 100000
namespace Mine
open Head

/-- an exception of the own class C is in the air: of the heap H all stands, the frames up to their slots -/
structure Thrown (C : Addr) (fs : List Addr) (H h : Heap) (e dx : Addr) (od : Obj) (fl : Value) : Prop where
  other : ∀ b o, H.get? b = some o → b ∉ fs → h.get? b = some o
  frame : ∀ b o, H.get? b = some o → b ∈ fs → ∃ sl, h.get? b = some { o with slots := sl }
  new : H.get? e = none
  newD : H.get? dx = none
  dict : h.get? dx = some od
  notF : ∀ vs, od.data ≠ .fields vs
  there : ∃ oe vs T oT ts, h.get? e = some oe ∧ oe.cls = .ref C ∧ oe.dict = some dx ∧ oe.data = .fields vs ∧ vs[1]? = some (.ref T) ∧ H.get? T = none ∧ T ≠ e ∧ h.get? T = some oT ∧ oT.data = .fields ts ∧ ts[3]? = some fl

section
variable {M : Model} {A : Around} {E : Value → Shared → Prop} {s : Shared} {base : Heap} {env : Env} {outer : List Env} {L e : Addr} {Q : Unit → Shared → Prop}

/-- a new entry of the trace is laid -/
theorem entry_laid {oe : Obj} {vs : Array Value} {head : Value} {hadNext : Bool} (hfr : A.frames = some (env :: outer)) (hl : s.heap.FunFrames base (env :: outer)) (hf : env.frame = some L)
    (he : s.heap.get? e = some oe) (hd : oe.data = .fields vs) (hsz : 1 < vs.size)
    (h : ∀ h' T oT ts, s.heap.get? T = none → T ≠ e → (∀ b o, s.heap.get? b = some o → b ∉ (env :: outer).filterMap (·.frame) → b ≠ e → h'.get? b = some o) →
      (∀ b o, s.heap.get? b = some o → b ∈ (env :: outer).filterMap (·.frame) → ∃ sl, h'.get? b = some { o with slots := sl }) →
      h'.get? e = some (Obj.mapFields (·.setIfInBounds 1 (.ref T)) oe) → h'.get? T = some oT → oT.data = .fields ts → ts[3]? = some (rawInt L) → Q () { s with heap := h' }) :
    wpAny M A (do let a ← frameOf env; let pl ← entryPlaceOf L hadNext; let b ← EntryCells.newEntry head a .none (rawInt L) .none pl; setField (.ref e) 1 b) Q E s := by
  have hene : e ∉ (env :: outer).filterMap (·.frame) := fun hm => by
    obtain ⟨_, o, ho, hnf⟩ := hl.mem hm
    rw [he] at ho; injection ho with ho; subst ho; exact hnf vs hd
  refine wpAny_bind (wpAny_frameOf_fun hfr hl hf fun h₁ hs₁ => ?_)
  refine wpAny_bind (wpAny_entryPlaceOf fun pl hpl => ?_)
  unfold EntryCells.newEntry newFields
  refine wpAny_bind (wpAny_newObj_type ?_ (hpl.sizeOk5 _ _ _ _ _))
  have he₁ : h₁.get? e = some oe := (hs₁.2.1 e hene).trans he
  generalize hob : ({ cls := .type "traceback", dict := none, data := .fields ([head, .ref L, .none, rawInt L, .none] ++ (if pl.isEmpty then List.replicate 6 Value.none else pl)).toArray } : Obj) = ob
  have he₂ := Heap.get?_push_of_some (h := h₁) ob he₁
  refine wpAny_setField he₂ hd hsz ?_
  have hTe : h₁.objs.size ≠ e := Nat.ne_of_gt (Heap.lt_size he₁)
  have hd₃ := Obj.data_mapFields hd (·.setIfInBounds 1 (Value.ref h₁.objs.size))
  refine h _ h₁.objs.size ob _ ?_ hTe (fun b o hb hnf hbe => ?_) (fun b o hb hf' => ?_) (Heap.get?_update_self _ he₂ (Obj.isFreed_of_fields hd₃)) ?_ (by rw [← hob]) ?_
  · cases q : s.heap.get? h₁.objs.size with
    | none => rfl
    | some o =>
      have := Heap.lt_size q
      rw [hs₁.1] at this
      exact absurd this (Nat.lt_irrefl _)
  · rw [Heap.get?_update_other _ _ (Ne.symm hbe)]
    exact Heap.get?_push_of_some _ ((hs₁.2.1 b hnf).trans hb)
  · obtain ⟨sl, hs⟩ := hs₁.2.2 b o hb
    refine ⟨sl, ?_⟩
    rw [Heap.get?_update_other _ _ (fun q : e = b => hene (by rw [q]; exact hf'))]
    exact Heap.get?_push_of_some _ hs
  · rw [Heap.get?_update_other _ _ (Ne.symm hTe)]
    exact Heap.get?_push_size _ (by rw [← hob]; rfl)
  · first | (simp; done) | (rcases hpl with rfl | ⟨_, _, _, _, _, _, _, rfl⟩ <;> simp)

/-- the frame is noted for the first time -/
theorem note_first {oe : Obj} {vs : Array Value} (hfr : A.frames = some (env :: outer)) (hl : s.heap.FunFrames base (env :: outer)) (hf : env.frame = some L)
    (he : s.heap.get? e = some oe) (hd : oe.data = .fields vs) (h1 : vs[1]? = some .none)
    (h : ∀ h' T oT ts, s.heap.get? T = none → T ≠ e → (∀ b o, s.heap.get? b = some o → b ∉ (env :: outer).filterMap (·.frame) → b ≠ e → h'.get? b = some o) →
      (∀ b o, s.heap.get? b = some o → b ∈ (env :: outer).filterMap (·.frame) → ∃ sl, h'.get? b = some { o with slots := sl }) →
      h'.get? e = some (Obj.mapFields (·.setIfInBounds 1 (.ref T)) oe) → h'.get? T = some oT → oT.data = .fields ts → ts[3]? = some (rawInt L) → Q () { s with heap := h' }) :
    wpAny M A (noteFrame (.ref e) env) Q E s := by
  unfold noteFrame
  simp only [hf]
  refine wpAny_bind (wpAny_field he hd h1 ?_)
  rw [if_neg (by decide)]
  exact entry_laid hfr hl hf he hd (Array.getElem?_eq_some_iff.mp h1).1 h

theorem flight_off {oe oT : Obj} {vs ts : Array Value} {T : Addr} (he : s.heap.get? e = some oe) (hd : oe.data = .fields vs) (h1 : vs[1]? = some (.ref T)) (hT : s.heap.get? T = some oT) (hdT : oT.data = .fields ts) (h3 : 3 < ts.size)
    (h : Q () { s with heap := s.heap.update T (Obj.mapFields (·.setIfInBounds 3 .none)) }) : wpAny M A (setFlight (.ref e) none) Q E s := by
  unfold setFlight
  refine wpAny_bind (wpAny_field he hd h1 ?_)
  rw [if_pos (show (Value.ref T != Value.none) = true from by simp)]
  exact wpAny_setField hT hdT h3 h
end

theorem fun_frames {A : Around} {base h₀ h : Heap} {env : Env} {outer : List Env} {L : Addr} {m : Str → Option Value} (K : Below A base outer h₀) (F : Fr h₀ L h m) (hk : env.scope.kind ≠ .module) (hf : env.frame = some L) :
    h.FunFrames base (env :: outer) := by
  have hnew : base.get? L = none := by
    cases hq : base.get? L with
    | none => rfl
    | some o => exact absurd (Nat.lt_of_lt_of_le (Heap.lt_size (K.stays L o hq)) F.above) (Nat.lt_irrefl _)
  obtain ⟨o, es, ep, ho, hd, _⟩ := F.ns
  exact ⟨hk, ⟨L, o, hf, hnew, ho, fun vs q => by rw [hd] at q; cases q⟩, K.frames.of_keeps fun b o e _ => ⟨o, F.keep b o e, rfl⟩⟩

theorem frame_in {l : List Env} {h base : Heap} (hl : h.FunFrames base l) {b : Addr} (hb : b ∈ l.filterMap (·.frame)) {o : Obj} (ho : h.get? b = some o) : ∀ vs, o.data ≠ .fields vs := by
  obtain ⟨_, o', ho', hd⟩ := hl.mem hb
  rw [ho] at ho'
  cases ho'
  exact hd

theorem Thrown.funFrames {C : Addr} {fs : List Addr} {H h base : Heap} {e dx : Addr} {od : Obj} {fl : Value} (R : Thrown C fs H h e dx od fl) {l : List Env} (hl : H.FunFrames base l) : h.FunFrames base l :=
  hl.of_keeps fun b o ho _ => by
    by_cases hm : b ∈ fs
    · obtain ⟨sl, hs⟩ := R.frame b o ho hm
      exact ⟨_, hs, rfl⟩
    · exact ⟨o, R.other b o ho hm, rfl⟩

section
variable {M : Model} {A : Around} {E : Value → Shared → Prop} {s : Shared} {base H : Heap} {env : Env} {outer : List Env} {L e dx C : Addr} {od : Obj} {Q : Unit → Shared → Prop}

/-- the exception lands: nothing else changes -/
theorem thrown_flight {fl : Value} {fs : List Addr} (R : Thrown C fs H s.heap e dx od fl)
    (hQ : ∀ h', Thrown C fs H h' e dx od .none → (∀ b o, s.heap.get? b = some o → (∀ vs, o.data ≠ .fields vs) → h'.get? b = some o) → Q () { s with heap := h' }) : wpAny M A (setFlight (.ref e) none) Q E s := by
  obtain ⟨oe, vs, T, oT, ts, he, hcl, hdi, hd, h1, hnT, hTe, hT, hdT, h3⟩ := R.there
  have h3' := (Array.getElem?_eq_some_iff.mp h3).1
  refine flight_off he hd h1 hT hdT h3' (hQ _ ?_ fun b o hb hnf => (Heap.get?_update_other _ _ (fun q => by subst q; rw [hT] at hb; cases hb; exact hnf _ hdT)).trans hb)
  have ne : ∀ b, b ≠ T → (s.heap.update T (Obj.mapFields (·.setIfInBounds 3 .none))).get? b = s.heap.get? b := fun b hb => Heap.get?_update_other _ _ (Ne.symm hb)
  refine ⟨fun b o hb hm => (ne b fun q => by rw [q, hnT] at hb; cases hb).trans (R.other b o hb hm), fun b o hb hm => ?_, R.new, R.newD, (ne dx fun q => ?_).trans R.dict, R.notF, ?_⟩
  · obtain ⟨sl, hs⟩ := R.frame b o hb hm
    exact ⟨sl, (ne b fun q => by rw [q, hnT] at hb; cases hb).trans hs⟩
  · have := R.dict
    rw [q, hT] at this
    cases this
    exact R.notF _ hdT
  · have hdT' := Obj.data_mapFields hdT (·.setIfInBounds 3 Value.none)
    exact ⟨oe, vs, T, _, _, (ne e (Ne.symm hTe)).trans he, hcl, hdi, hd, h1, hnT, hTe, Heap.get?_update_self _ hT (Obj.isFreed_of_fields hdT'), hdT', by simp [h3']⟩

/-- a frame that the exception passes is noted -/
theorem thrown_note (hfr : A.frames = some (env :: outer)) (hl : H.FunFrames base (env :: outer)) (hf : env.frame = some L) (R : Thrown C ((env :: outer).filterMap (·.frame)) H s.heap e dx od .none)
    (hQ : ∀ h', Thrown C ((env :: outer).filterMap (·.frame)) H h' e dx od (rawInt L) → Q () { s with heap := h' }) : wpAny M A (noteFrame (.ref e) env) Q E s := by
  obtain ⟨oe, vs, T, oT, ts, he, hcl, hdi, hd, h1, hnT, hTe, hT, hdT, h3⟩ := R.there
  have h3' := (Array.getElem?_eq_some_iff.mp h3).1
  unfold noteFrame
  simp only [hf]
  refine wpAny_bind (wpAny_field he hd h1 ?_)
  rw [if_pos (show (Value.ref T != Value.none) = true from by simp)]
  refine wpAny_bind (wpAny_field hT hdT h3 ?_)
  rw [if_neg (show ¬ ((Value.none == rawInt L) = true) from by simp [rawInt])]
  refine wpAny_bind (wpAny_setField hT hdT h3' ?_)
  have ne : ∀ b, b ≠ T → (s.heap.update T (Obj.mapFields (·.setIfInBounds 3 Value.none))).get? b = s.heap.get? b := fun b hb => Heap.get?_update_other _ _ (Ne.symm hb)
  have hls := R.funFrames hl
  have hmT : T ∉ (env :: outer).filterMap (·.frame) := fun hm => frame_in hls hm hT _ hdT
  have hme : e ∉ (env :: outer).filterMap (·.frame) := fun hm => frame_in hls hm he _ hd
  have hne : ∀ b o, H.get? b = some o → b ≠ T := fun b o hb q => by rw [q, hnT] at hb; cases hb
  have hnee : ∀ b o, H.get? b = some o → b ≠ e := fun b o hb q => by rw [q, R.new] at hb; cases hb
  have hls' : (s.heap.update T (Obj.mapFields (·.setIfInBounds 3 Value.none))).FunFrames base (env :: outer) := hls.of_keeps fun b o hb hnf => ⟨o, (ne b fun q => by subst q; rw [hT] at hb; cases hb; exact hnf _ hdT).trans hb, rfl⟩
  have hdxT : dx ≠ T := fun q => by
    have := R.dict
    rw [q, hT] at this
    cases this
    exact R.notF _ hdT
  have hdxe : dx ≠ e := fun q => by
    have := R.dict
    rw [q, he] at this
    cases this
    exact R.notF _ hd
  have he' := (ne e (Ne.symm hTe)).trans he
  refine entry_laid (s := { s with heap := s.heap.update T (Obj.mapFields (·.setIfInBounds 3 Value.none)) }) hfr hls' hf he' hd (Array.getElem?_eq_some_iff.mp h1).1 fun h' T' oT' ts' x1 x2 x3 x4 x5 x6 x7 x8 => ?_
  by_cases hdm : dx ∈ (env :: outer).filterMap (·.frame)
  · obtain ⟨_, o, ho, _⟩ := hl.mem hdm
    rw [R.newD] at ho
    cases ho
  have hd5 := Obj.data_mapFields hd (·.setIfInBounds 1 (Value.ref T'))
  refine hQ h' ⟨fun b o hb hm => x3 b o ((ne b (hne b o hb)).trans (R.other b o hb hm)) hm (hnee b o hb), fun b o hb hm => ?_, R.new, R.newD, x3 dx od ((ne dx hdxT).trans R.dict) hdm hdxe, R.notF, ?_⟩
  · obtain ⟨sl, hs⟩ := R.frame b o hb hm
    obtain ⟨sl', hs'⟩ := x4 b _ ((ne b (hne b o hb)).trans hs) hm
    exact ⟨sl', hs'⟩
  · refine ⟨_, _, T', oT', ts', x5, by rw [Obj.cls_mapFields]; exact hcl, ?_, hd5, by simp [(Array.getElem?_eq_some_iff.mp h1).1], ?_, x2, x6, x7, x8⟩
    · obtain ⟨oc, odi, oda, osl⟩ := oe
      cases hd
      exact hdi
    · cases q : H.get? T' with
      | none => rfl
      | some o =>
        by_cases hm : T' ∈ (env :: outer).filterMap (·.frame)
        · obtain ⟨sl, hs⟩ := R.frame T' o q hm
          rw [show (s.heap.update T (Obj.mapFields (·.setIfInBounds 3 Value.none))).get? T' = _ from (ne T' (hne T' o q)).trans hs] at x1
          cases x1
        · rw [show (s.heap.update T (Obj.mapFields (·.setIfInBounds 3 Value.none))).get? T' = _ from (ne T' (hne T' o q)).trans (R.other T' o q hm)] at x1
          cases x1

theorem thrown_again (hf : env.frame = some L) {fs : List Addr} (R : Thrown C fs H s.heap e dx od (rawInt L)) (hQ : Q () s) : wpAny M A (noteFrame (.ref e) env) Q E s := by
  obtain ⟨oe, vs, T, oT, ts, he, hcl, hdi, hd, h1, hnT, hTe, hT, hdT, h3⟩ := R.there
  unfold noteFrame
  simp only [hf]
  refine wpAny_bind (wpAny_field he hd h1 ?_)
  rw [if_pos (show (Value.ref T != Value.none) = true from by simp)]
  refine wpAny_bind (wpAny_field hT hdT h3 ?_)
  rw [if_pos (show (rawInt L == rawInt L) = true from by simp)]
  exact wpAny_pure hQ

theorem frames_cons {env : Env} {outer : List Env} {L : Addr} (hf : env.frame = some L) : (env :: outer).filterMap (·.frame) = L :: outer.filterMap (·.frame) := by
  rw [List.filterMap_cons, hf]
theorem fr_self {g h : Heap} {L : Addr} {m : Str → Option Value} (F : Fr g L h m) : g.get? L = none := by
  cases q : g.get? L with
  | none => rfl
  | some o => exact absurd (Nat.lt_of_lt_of_le (Heap.lt_size q) F.above) (Nat.lt_irrefl _)
theorem none_of_keeps {g G : Heap} (k : ∀ b o, g.get? b = some o → G.get? b = some o) {b : Addr} (e : G.get? b = none) : g.get? b = none := by
  cases q : g.get? b with
  | none => rfl
  | some o => have := k b o q; rw [e] at this; cases this

theorem Thrown.down {fl : Value} {g G h : Heap} {m : Str → Option Value} (R : Thrown C ((env :: outer).filterMap (·.frame)) G h e dx od fl) (F : Fr g L G m) (hf : env.frame = some L) : Thrown C (outer.filterMap (·.frame)) g h e dx od fl := by
  have hc := frames_cons (outer := outer) hf
  have hL := fr_self F
  refine ⟨fun b o hb hm => R.other b o (F.keep b o hb) (fun q => ?_), fun b o hb hm => R.frame b o (F.keep b o hb) (by rw [hc]; exact .tail _ hm), none_of_keeps F.keep R.new, none_of_keeps F.keep R.newD, R.dict, R.notF, ?_⟩
  · rw [hc] at q
    rcases List.mem_cons.mp q with q | q
    · rw [q, hL] at hb; cases hb
    · exact hm q
  · obtain ⟨oe, vs, T, oT, ts, he, hcl, hdi, hd, h1, hnT, r⟩ := R.there
    exact ⟨oe, vs, T, oT, ts, he, hcl, hdi, hd, h1, none_of_keeps F.keep hnT, r⟩

/-- the frame that the exception leaves, having raised it -/
theorem leave_first {g : Heap} {m : Str → Option Value} {t : Addr} {news : List (Addr × Obj)} (K : Below A base outer g) (F : Fr g L s.heap m) (N : News g L s.heap news) (hx : (e, excObj C t (some dx)) ∈ news) (hdx : (dx, od) ∈ news) (hnf : ∀ vs, od.data ≠ .fields vs)
    (hk : env.scope.kind ≠ .module) (hf : env.frame = some L) (hQ : ∀ h', Thrown C (outer.filterMap (·.frame)) g h' e dx od .none → Q () { s with heap := h' }) : wpAny M (A.deeper env) (leaving env (.ref e)) Q E s := by
  unfold leaving
  have hl := fun_frames K F hk hf
  have he := (N _ hx).1
  have hod := (N _ hdx).1
  have hc := frames_cons (outer := outer) hf
  have hL := fr_self F
  have hene : e ∉ (env :: outer).filterMap (·.frame) := fun hm => frame_in hl hm he _ rfl
  have hdxe : dx ≠ e := fun q => by
    have he' : s.heap.get? e = some (excObj C t (some dx)) := he
    have hod' : s.heap.get? dx = some od := hod
    rw [q, he'] at hod'
    cases hod'
    exact hnf _ rfl
  have hdm : dx ∉ (env :: outer).filterMap (·.frame) := fun hm => by
    rw [hc] at hm
    rcases List.mem_cons.mp hm with q | q
    · exact (N _ hdx).2.1 q
    · obtain ⟨o, ho, _⟩ := (K.frames.mem q).2
      have := (N _ hdx).2.2
      rw [show g.get? dx = none from this] at ho
      cases ho
  refine wpAny_bind (note_first (Around.frames_deeper K.stack) hl hf he rfl rfl fun h' T oT ts x1 x2 x3 x4 x5 x6 x7 x8 => ?_)
  have R : Thrown C (outer.filterMap (·.frame)) g h' e dx od (rawInt L) := by
    refine ⟨fun b o hb hm => x3 b o (F.keep b o hb) (fun q => ?_) (fun q => ?_), fun b o hb hm => x4 b o (F.keep b o hb) (by rw [hc]; exact .tail _ hm), (N _ hx).2.2, (N _ hdx).2.2, x3 dx od hod hdm hdxe, hnf, ?_⟩
    · rw [hc] at q
      rcases List.mem_cons.mp q with q | q
      · rw [q, hL] at hb; cases hb
      · exact hm q
    · have := (N _ hx).2.2
      rw [q, show g.get? e = none from this] at hb
      cases hb
    · exact ⟨_, _, T, oT, ts, x5, rfl, rfl, rfl, rfl, none_of_keeps F.keep x1, x2, x6, x7, x8⟩
  exact thrown_flight R fun h'' R' _ => hQ h'' R'

/-- the frame that the exception leaves, having passed it -/
theorem leave_next {g G : Heap} {m : Str → Option Value} (K : Below A base outer g) (F : Fr g L G m) (R : Thrown C ((env :: outer).filterMap (·.frame)) G s.heap e dx od .none)
    (hk : env.scope.kind ≠ .module) (hf : env.frame = some L) (hQ : ∀ h', Thrown C (outer.filterMap (·.frame)) g h' e dx od .none → Q () { s with heap := h' }) : wpAny M (A.deeper env) (leaving env (.ref e)) Q E s := by
  unfold leaving
  refine wpAny_bind (thrown_note (Around.frames_deeper K.stack) (fun_frames K F hk hf) hf R fun h' R' => ?_)
  exact thrown_flight (R'.down F hf) fun h'' R'' _ => hQ h'' R''

/-- the ground behind a catch: the frames below with their new slots -/
theorem thrown_ground {fl : Value} {g G h : Heap} {m : Str → Option Value} (K : Below A base outer g) (F : Fr g L G m) (hf : env.frame = some L) (R : Thrown C ((env :: outer).filterMap (·.frame)) G h e dx od fl) :
    ∃ g', KtsTurn (outer.filterMap (·.frame)) g g' ∧ Fr g' L h m ∧ Below A base outer g' ∧ g'.get? e = none ∧ g'.get? dx = none := by
  have D := R.down F hf
  obtain ⟨T, S⟩ := kts_turn_at (h := h) (fs := outer.filterMap (·.frame)) (g := g)
    (fun b hb => by
      obtain ⟨_, o, ho, _⟩ := K.frames.mem hb
      exact ⟨o, ho⟩) D.other D.frame
  refine ⟨_, T, ⟨?_, S, by rw [T.size]; exact F.above⟩, ⟨K.stack, fun b o q => T.other b o (K.stays b o q) (fun hm => by
    rw [(K.frames.mem hm).1] at q
    cases q), K.frames.of_keeps fun b o q _ => ?_⟩, T.none_ _ D.new, T.none_ _ D.newD⟩
  · obtain ⟨o, es, ep, ho, hd, r⟩ := F.ns
    obtain ⟨sl, hs⟩ := R.frame L o ho (by rw [frames_cons hf]; exact .head _)
    exact ⟨_, es, ep, hs, hd, r⟩
  · obtain ⟨sl, hs⟩ := T.up q
    exact ⟨_, hs, rfl⟩
end
end Mine
end

-- part E4
section
open PySem PySem.Calls PySem.W PyProof.Rows Builtin Builtin.ObjectAttr
set_option maxRecDepth 100000
namespace Mine
open Head

section
variable {prog : Program} {w : World} {A : Around} {E : Value → Shared → Prop} {s : Shared} {K : Frag} {x C : Addr} {ox : Obj} {od : Option Obj} {name : Str} {v : Value}

/-- a field of an exception's own dict is read -/
theorem get_excK {expr : Bool} {Q : Value → Shared → Prop} (X : K.In s.heap) (I : W.InstAt s.heap x ox C od) (hga : findIn K (.ref C) "__getattribute__" = some (some (.builtin "BaseException.__getattribute__"))) (hgt : findIn K (.ref C) "__getattr__" = some none)
    (hsub : mroIn K C (.type "BaseException") = some true) (hf : findObj K C od name = some (.value v)) (hh : W.handedIn v = true) (h : Q v { s with toks := s.toks + 1 }) :
    wpAny (model prog w) A (getAttr (.ref x) name expr) Q E s := by
  obtain ⟨hp, g, d, t, os⟩ := s
  have L0 := I.type (M := model prog w)
  have L1 := looks_findIn (M := model prog w) X hga
  have L2 := looks_findIn (M := model prog w) X hgt
  have sub : Looks (model prog w) hp (isInstance (.ref x) (.type "BaseException")) true := I.type.andThen (looks_mroIn X hsub)
  have L3 := looks_find (M := model prog w) X I hf
  have FX := PySem.F.attr_Exception
  have hx0 : (expr && onTheHeap (Value.builtin "BaseException.__getattribute__")) = false := by cases expr <;> rfl
  unfold getAttr getAttrBy
  refine wpAny_bind (wpAny_mkText (wpAny_holding (wpAny_bind (L0.at (wpAny_bind (L1.at ?_))))))
  show wpAny _ _ (getAttrByItsOwn _ _ _ _ _ _) _ _ _
  unfold getAttrByItsOwn hookBefore
  rw [if_pos (by rfl)]
  refine wpAny_bind (L2.at (wpAny_bind (wpAny_attempt (wpAny_holding ?_))))
  unfold callGetattribute boundAndCalled
  rw [hx0, if_neg (by decide)]
  refine wpAny_bind ?_
  rw [FX.ga.bind]
  refine wpAny_pure (wpAny_call ?_)
  refine codeAny_call_builtin FX.ga.plain PySem.F.entry_bexc_ga (@check_slot (model prog w) _ _ _ "BaseException.__getattribute__" "BaseException" "__getattribute__" (.ref x) [.str name t] [] _ (by decide +kernel) (by decide +kernel) sub (PySem.F.args_bexc_ga _ _) ?_)
  show wpAny _ _ (Builtin.«object.__getattribute__» ⟨[.ref x, .str name t], []⟩) _ _ _
  unfold Builtin.«object.__getattribute__»
  refine wpAny_bind (wpAny_of_eq (a := ((.ref x, [.str name t]) : Value × List Value)) (by kernel_rfl) ?_)
  dsimp only
  refine wpAny_bind (wpAny_of_eq (a := name) rfl (wpAny_bind (L0.at (wpAny_bind (L3.at ?_)))))
  refine wpAny_pure ?_
  show wpAny _ _ (handedOut v) _ _ _
  rw [handedOut_of hh]
  exact wpAny_pure h
end

section
variable {prog : Program} {w : World} {A₀ : Around} {E : Value → Shared → Prop} {s' : Shared} {base g G : Heap} {outer : List Env} {L a e dx C : Addr} {od : Obj} {m : Str → Option Value} {name : Str} {scope : Scope} {cd : Value}
  {n : Str} {b₀ : Stmt} {suite : List Stmt} {pos np : Pos} {rest : List ExceptHandler} {Q : Flow → Shared → Prop} {KF : Frag}
  {p : Program} {loose : List Str} {mg mb : Str → Option Value} {x : Str}
variable {nm q : Str} {N : Addr} {bs bm : List Value} {hdct : Bool} {sn : List Str} {sub : List Value} {ab : Bool} {col : Option Bool} {dd : Option Addr} {k0 k1 k2 k3 k5 : Option Value} {newId : String}

theorem catch0 (K : Below A₀ base outer g) (F : Fr g L G m) (R : Thrown C ((envOf name scope L a cd :: outer).filterMap (·.frame)) G s'.heap e dx od .none) (XB : KF.In base) (TB : TopRead p loose mg mb base)
    (hC : KF.lookup C = some (excClassObj nm q C N bs bm hdct sn sub ab col dd k0 k1 k2 k3 k5 newId)) (hbase : bm.contains (.type "BaseException") = true) (ex : nsIn KF mainGlobals x = some (some (.ref C)))
    (k : ∀ h' g', KtsTurn (outer.filterMap (·.frame)) g g' → Fr g' L h' m → Below A₀ base outer g' →
      wpAny (model prog w) ((A₀.deeper (envOf name scope L a cd)).mark (some (.ref e))) (execs (b₀ :: suite) (envOf name scope L a cd)) Q E { s' with heap := h' })
    (hk : scope.kind = .function := by rfl) (hx : (envOf name scope L a cd).kindOf x = some .globalImplicit := by rfl) (hd : (x == ("__debug__" : Str)) = false := by decide)
    (hE : PassesOwnAt (model prog w) ((A₀.deeper (envOf name scope L a cd)).mark (some (.ref e))) (A₀.deeper (envOf name scope L a cd)) (envOf name scope L a cd) E := by passes_own) :
    wpAny (model prog w) (A₀.deeper (envOf name scope L a cd)) (noteFrame (.ref e) (envOf name scope L a cd))
      (fun _ s₂ => wpAny (model prog w) (A₀.deeper (envOf name scope L a cd)) (setFlight (.ref e) none) (fun _ s₃ =>
        wpAny (model prog w) (A₀.deeper (envOf name scope L a cd)) (handleBy (.ref e) (envOf name scope L a cd) (.ExceptHandler (some (.Name x np)) none (b₀ :: suite) pos :: rest)) Q E s₃) E s₂) E s' := by
  have hnm : (envOf name scope L a cd).scope.kind ≠ .module := by show scope.kind ≠ .module; rw [hk]; decide
  refine thrown_note (Around.frames_deeper K.stack) (fun_frames K F hnm rfl) rfl R fun h₄ R₄ => ?_
  refine thrown_flight R₄ fun h₅ R₅ _ => ?_
  obtain ⟨g₅, T₅, F₅, K₅, _⟩ := thrown_ground K F rfl R₅
  have X₅ : KF.In g₅ := XB.keeps K₅.stays
  obtain ⟨oe, _, _, _, _, he, hcl, _⟩ := R₅.there
  refine wpAny_handleBy_cons (codeAny_handlers_test (name_K F₅ X₅ (TB.keeps K₅.stays) ex ?_ hk hx hd)) (by intro q; cases q)
  refine wpAny_excMatches_sub_self (F₅.keep _ _ (X₅ _ _ hC)) he hcl hbase ?_
  refine codeAny_handlers_suite ?_
  refine thrown_flight R₅ fun h₆ R₆ _ => ?_
  obtain ⟨g₆, T₆, F₆, K₆, _⟩ := thrown_ground K F rfl R₆
  exact wpAny_passesOwnAt hE (k h₆ g₆ T₆ F₆ K₆)

theorem catchB (K : Below A₀ base outer g) (F : Fr g L G m) (R : Thrown C ((envOf name scope L a cd :: outer).filterMap (·.frame)) G s'.heap e dx od .none) (XB : KF.In base) (TB : TopRead p loose mg mb base)
    (hC : KF.lookup C = some (excClassObj nm q C N bs bm hdct sn sub ab col dd k0 k1 k2 k3 k5 newId)) (hbase : bm.contains (.type "BaseException") = true) (ex : nsIn KF mainGlobals x = some (some (.ref C)))
    (k : ∀ h' g' oe tk, KtsTurn (outer.filterMap (·.frame)) g g' → Fr g' L h' (fun y => if y = n then some (.ref e) else m y) → W.InstAt h' e oe C (some od) → Below A₀ base outer g' →
      wpAny (model prog w) ((A₀.deeper (envOf name scope L a cd)).mark (some (.ref e))) (execs (b₀ :: suite) (envOf name scope L a cd))
        (fun f s₄ => wpAny (model prog w) (A₀.deeper (envOf name scope L a cd)) (do bindName (envOf name scope L a cd) n .none; unbindBehindTheSuite (envOf name scope L a cd) n pos) (fun _ s₅ => Q f s₅) E s₄)
        (AsSuiteRaised (model prog w) ((A₀.deeper (envOf name scope L a cd)).mark (some (.ref e))) (envOf name scope L a cd) n pos (notedBy (model prog w) ((A₀.deeper (envOf name scope L a cd)).mark (some (.ref e))) (envOf name scope L a cd) (cameBackBy (model prog w) (A₀.deeper (envOf name scope L a cd)) (envOf name scope L a cd) E)))
        { s' with heap := h', toks := tk })
    (hk : scope.kind = .function := by rfl) (hlo : (envOf name scope L a cd).kindOf n = some .local := by rfl) (hx : (envOf name scope L a cd).kindOf x = some .globalImplicit := by rfl) (hd : (x == ("__debug__" : Str)) = false := by decide) :
    wpAny (model prog w) (A₀.deeper (envOf name scope L a cd)) (noteFrame (.ref e) (envOf name scope L a cd))
      (fun _ s₂ => wpAny (model prog w) (A₀.deeper (envOf name scope L a cd)) (setFlight (.ref e) none) (fun _ s₃ =>
        wpAny (model prog w) (A₀.deeper (envOf name scope L a cd)) (handleBy (.ref e) (envOf name scope L a cd) (.ExceptHandler (some (.Name x np)) (some n) (b₀ :: suite) pos :: rest)) Q E s₃) E s₂) E s' := by
  have hnm : (envOf name scope L a cd).scope.kind ≠ .module := by show scope.kind ≠ .module; rw [hk]; decide
  refine thrown_note (Around.frames_deeper K.stack) (fun_frames K F hnm rfl) rfl R fun h₄ R₄ => ?_
  refine thrown_flight R₄ fun h₅ R₅ _ => ?_
  obtain ⟨g₅, T₅, F₅, K₅, _⟩ := thrown_ground K F rfl R₅
  have X₅ : KF.In g₅ := XB.keeps K₅.stays
  obtain ⟨oe, _, _, _, _, he, hcl, _⟩ := R₅.there
  refine wpAny_handleBy_cons (codeAny_handlers_test (name_K F₅ X₅ (TB.keeps K₅.stays) ex ?_ hk hx hd)) (by intro q; cases q)
  refine wpAny_excMatches_sub_self (F₅.keep _ _ (X₅ _ _ hC)) he hcl hbase ?_
  refine codeAny_handlers_suite_as ?_
  refine thrown_flight R₅ fun h₆ R₆ _ => ?_
  obtain ⟨g₆, T₆, F₆, K₆, ne₆, nd₆⟩ := thrown_ground K F rfl R₆
  obtain ⟨oe₆, vs₆, _, _, _, he₆, hcl₆, hdi₆, hd₆, _⟩ := R₆.there
  obtain ⟨oL, es, ep, hoL, hdL, _⟩ := F₆.ns
  have neL : e ≠ L := fun q => by rw [q, hoL] at he₆; cases he₆; rw [hdL] at hd₆; cases hd₆
  have ndL : dx ≠ L := fun q => by
    have h1 := R₆.newD
    obtain ⟨o, es', ep', ho, _⟩ := F.ns
    rw [q, ho] at h1
    cases h1
  have N₆ : News g₆ L h₆ [(e, oe₆), (dx, od)] := fun p hp => by
    rcases List.mem_cons.mp hp with rfl | hp
    · exact ⟨he₆, neL, ne₆⟩
    · rw [List.mem_singleton] at hp
      subst hp
      exact ⟨R₆.dict, ndL, nd₆⟩
  refine stN F₆ N₆ (fun h₇ F₇ N₇ => ?_) hk hlo
  refine k h₇ g₆ oe₆ _ T₆ F₇ ⟨(N₇ _ (.head _)).1, hcl₆, ?_, ?_⟩ K₆
  · obtain ⟨_, _, odt, _⟩ := oe₆
    cases hd₆
    rfl
  · rw [hdi₆]
    exact (N₇ _ (.tail _ (.head _))).1
end
end Mine
end

-- part K0
section
open PySem PySem.Calls PySem.W PyProof.Rows Builtin Builtin.ObjectAttr
set_option maxRecDepth 100000
namespace Mine
open Head

noncomputable abbrev looseH : List Str := looseW hd.view_39 [Str.ofString "GitError", Str.ofString "read_pkts", Str.ofString "side_band", Str.ofString "unband"]


theorem notModule : ScopeKind.function ≠ ScopeKind.module := by decide
theorem chainBL : ChainOk "Exception" [.ref 32, .type "Exception", .type "BaseException", .type "object"] := ⟨by decide +kernel, by decide +kernel, by decide +kernel⟩
abbrev told : Str := Str.ofString "told"
abbrev toldObj (w : World) (x : Str) (tk tk2 : Tok) : Obj := dictOf [⟨PyData.keyHash w.params told, .str told tk, .str x tk2⟩] 1

theorem throwX_of {M : Model} {A : Around} {E : Value → Shared → Prop} {s : Shared} {K : Frag} {h₀ : Heap} {L e C t : Addr} {dx : Option Addr} {m : Str → Option Value} {news : List (Addr × Obj)} (F : Fr h₀ L s.heap m) (X₀ : K.In h₀) (N : News h₀ L s.heap news) (hx : (e, excObj C t dx) ∈ news)
    (hm : mroIn K C (.type "BaseException") = some true) (ht : typeIn K (.ref C) = some (.type "type")) (h : E (.ref e) s) : ThrowX C M A E (.ref e) s :=
  ⟨e, _, _, rfl, (N _ hx).1, rfl, rfl, rfl, looks_mroIn (X₀.keeps F.keep) hm, looks_typeIn (X₀.keeps F.keep) ht, h⟩

section
variable {prog : Program} {w : World} {A A₀ : Around} {s : Shared} {K : Frag} {C L : Addr} {h₀ base : Heap} {m mg mb : Str → Option Value} {p : Program} {loose : List Str} {mean : ExcName → Option Value}
/-- a def that changes nothing of what stands is entered: the whole heap is its ground -/
theorem enterP {env : Env} {outer : List Env} {R : Result → Shared → Prop} {name qual : Str} {params : Arguments} {body : List Stmt} {scope : Scope} {dV kV doc pm cdv ct oc : Value} {an od : Option Addr} {osl : Array (Option Value)} {f : Addr} {args : Args} {binds : List (Str × Value)}
    (B : Below A₀ base outer h₀) (F : Fr h₀ L s.heap m) (X₀ : K.In h₀) (T : Top p loose mean mg mb h₀) (hA : A.frames = some (env :: outer)) (hf : env.frame = some L) (hke : env.scope.kind = .function)
    (ho : K.lookup f = some ⟨oc, od, .func (fnOf name qual params body scope dV kV doc pm an cdv ct), osl⟩) (hcd : codeIn K cdv qual = true) (hroom : A.depth < recursionLimit)
    (hbind : BindsTo s (fnOf name qual params body scope dV kV doc pm an cdv ct) args binds) (hloc : ∀ y ∈ binds, scope.names.lookup y.1 = some .local)
    (h : ∀ L' h₁, Fr s.heap L' h₁ (fun y => binds.reverse.lookup y) → News s.heap L' h₁ [] → Below A base (env :: outer) s.heap → K.In s.heap → Top p loose mean mg mb s.heap →
      wpAny (model prog w) (A.deeper (envOf qual scope L' f cdv)) (execs body (envOf qual scope L' f cdv))
        (fun fl s' => R (.ok (.ret (match fl with | .ret v => v | _ => .none))) s')
        (fun e s' => wpAny (model prog w) (A.deeper (envOf qual scope L' f cdv)) (leaving (envOf qual scope L' f cdv) e) (fun _ s'' => R (.error e) s'') (fun e' s'' => R (.error e') s'') s')
        { s with heap := h₁, toks := s.toks + binds.length })
    (hco : scope.isCoroutine = false) (hgen : scope.isGenerator = false) (hk : scope.kind = .function)
    (hcell : ∀ x ∈ scope.names, x.2 ≠ .cell) : codeAny (model prog w) A (.call (.ref f) args) R s := by
  have X := X₀.keeps F.keep
  have hnm : env.scope.kind ≠ .module := by rw [hke]; decide
  refine codeAny_call_def (fd := fnOf name qual params body scope dV kV doc pm an cdv ct) (body := body) (binds := binds) hroom (X _ _ ho) rfl (T.nolimit.keeps F.keep) (codeRec_of X hcd) rfl hbind hcell hloc (fun h₁ hns hk₁ => ?_) hco hgen hk
  exact h s.heap.objs.size h₁ ⟨hns, hk₁, Nat.le_refl _⟩ (fun _ hp => nomatch hp) ⟨hA, fun b o e => F.keep b o (B.stays b o e), fun_frames B F hnm hf⟩ X (T.keeps F.keep)
end

/-- what a call that changes nothing may hand back, and what it may raise -/
def Pure (w : World) (mean : ExcName → Option Value) (mg mb : Str → Option Value) (f : Addr) (d u : Nat) (vs : List Value) (R : Heap → Value → Heap → Prop) (X : Str → Prop) : Prop :=
  ∀ (dp un : Nat) (gd : Option (List Code)) (cn : Str) (cs : Scope) (a : Addr) (ccd : Value) (cl : List (Str × Addr)) (outer : List Env) (A₀ : Around) (base h₀ : Heap) (L : Addr) (m : Str → Option Value) (s : Shared) (Q E : Value → Shared → Prop),
    Below A₀ base outer h₀ → Fr h₀ L s.heap m → (hd.heap_39 w.params).In h₀ → Top hd.view_39 looseH mean mg mb h₀ → cs.kind = .function → dp + d < recursionLimit → un + u < cLine →
    (∀ v h' tk', (∀ b o, s.heap.get? b = some o → h'.get? b = some o) → R s.heap v h' → Q v { s with heap := h', toks := tk' }) →
    (∀ e dx x tk tk2 h' tk', X x → Thrown 57 ((envX cn cs L a ccd cl :: outer).filterMap (·.frame)) s.heap h' e dx (toldObj w x tk tk2) .none → E (.ref e) { s with heap := h', toks := tk' }) →
    wpAny (model PySem.Challenge.rw_nt0268_01.row.prog w) (ktrTop dp un gd cn cs L a ccd cl outer) (call (.ref f) vs) Q E s

theorem fr_ext {h₀ h h' : Heap} {L : Addr} {m : Str → Option Value} (F : Fr h₀ L h m) (k : ∀ b o, h.get? b = some o → h'.get? b = some o) : Fr h₀ L h' m := by
  obtain ⟨o, es, ep, ho, r⟩ := F.ns
  exact ⟨⟨o, es, ep, k _ _ ho, r⟩, fun b o e => k _ _ (F.keep b o e), F.above⟩
theorem news_ext {h₀ h h' : Heap} {L : Addr} {news : List (Addr × Obj)} (N : News h₀ L h news) (k : ∀ b o, h.get? b = some o → h'.get? b = some o) : News h₀ L h' news := fun p hp => ⟨k _ _ (N p hp).1, (N p hp).2⟩
theorem news_add {h₀ h h' : Heap} {L a : Addr} {o : Obj} {m : Str → Option Value} {news : List (Addr × Obj)} (F : Fr h₀ L h m) (N : News h₀ L h' news) (ha : h'.get? a = some o) (hn : h.get? a = none) : News h₀ L h' ((a, o) :: news) := fun p hp => by
  rcases List.mem_cons.mp hp with rfl | hp
  · refine ⟨ha, fun q => ?_, none_of_keeps F.keep hn⟩
    obtain ⟨oL, _, _, hL, _⟩ := F.ns
    have q' : a = L := q
    rw [q', hL] at hn
    cases hn
  · exact N p hp

theorem pure_use {w : World} {mean : ExcName → Option Value} {mg mb : Str → Option Value} {f : Addr} {d u : Nat} {vs : List Value} {R : Heap → Value → Heap → Prop} {Xx : Str → Prop} {dp un : Nat} {gd : Option (List Code)} {cn : Str} {cs : Scope} {a : Addr} {ccd : Value} {cl : List (Str × Addr)} {outer : List Env} {A₀ : Around} {base h₀ : Heap} {L : Addr} {m : Str → Option Value} {news : List (Addr × Obj)} {s : Shared} {Q E : Value → Shared → Prop}
    (C : Pure w mean mg mb f d u vs R Xx) (B : Below A₀ base outer h₀) (F : Fr h₀ L s.heap m) (X : (hd.heap_39 w.params).In h₀) (N : News h₀ L s.heap news) (T : Top hd.view_39 looseH mean mg mb h₀) (hk : cs.kind = .function) (hd : dp + d < recursionLimit) (hu : un + u < cLine)
    (ret : ∀ v h' tk', Fr h₀ L h' m → News h₀ L h' news → Fr h₀ L s.heap m → News h₀ L s.heap news → (∀ b o, s.heap.get? b = some o → h'.get? b = some o) → R s.heap v h' → Q v { s with heap := h', toks := tk' })
    (exc : ∀ e dx x tk tk2 h' tk', Xx x → Thrown 57 ((envX cn cs L a ccd cl :: outer).filterMap (·.frame)) s.heap h' e dx (toldObj w x tk tk2) .none → E (.ref e) { s with heap := h', toks := tk' }) :
    wpAny (model PySem.Challenge.rw_nt0268_01.row.prog w) (ktrTop dp un gd cn cs L a ccd cl outer) (call (.ref f) vs) Q E s :=
  C _ _ _ _ _ _ _ _ _ _ _ _ _ _ _ _ _ B F X T hk hd hu (fun v h' tk' k r => ret v h' tk' (fr_ext F k) (news_ext N k) F N k r) exc
end Mine
end

-- part KB
section
open PySem PySem.Calls PySem.W PyProof.Rows Builtin Builtin.ObjectAttr
set_option maxRecDepth 100000
namespace Mine
open Head
section
variable {prog : Program} {w : World} {A : Around} {E : Value → Shared → Prop} {s : Shared} {value slice : PySem.Expr} {l r : List UInt8} {t u : Tok} {h₀ : Heap} {L : Addr} {m : PySem.Str → Option Value} {news : List (Addr × Obj)} {Q : Value → Shared → Prop}

theorem clip_pos {n : Nat} {i : Int} (h : 0 ≤ i) : clipAt n i = min i.toNat n := by
  have := clipAt_nat n i.toNat
  rwa [Int.toNat_of_nonneg h] at this
theorem clip_neg {n : Nat} {i : Int} (h : i < 0) : clipAt n i = n - (-i).toNat := by
  have := clipAt_neg n (-i).toNat (by omega)
  rwa [Int.toNat_of_nonneg (by omega), Int.neg_neg] at this
theorem picked_mid {a c : Int} (ha : 0 ≤ a) (hc : 0 ≤ c) : KBy.picked l.toArray (some a) (some c) = ((l.drop a.toNat).take (c.toNat - a.toNat)).toArray := by
  rw [KBc.picked_eq]
  simp only [Option.elim, clip_pos ha, clip_pos hc, List.size_toArray]
  congr 1
  by_cases h : a.toNat ≤ l.length
  · rw [Nat.min_eq_left h]
    by_cases h2 : c.toNat ≤ l.length
    · rw [Nat.min_eq_left h2]
    · rw [Nat.min_eq_right (by omega), List.take_of_length_le (by rw [List.length_drop]; omega), List.take_of_length_le (by rw [List.length_drop]; omega)]
  · rw [show min a.toNat l.length = l.length from by omega, List.drop_of_length_le (Nat.le_refl _), List.drop_of_length_le (by omega)]
    simp
theorem picked_from {a : Int} (ha : 0 ≤ a) : KBy.picked l.toArray (some a) none = (l.drop a.toNat).toArray := by
  rw [KBc.picked_eq]
  simp only [Option.elim, clip_pos ha, List.size_toArray]
  congr 1
  by_cases h : a.toNat ≤ l.length
  · rw [Nat.min_eq_left h, List.take_of_length_le (by rw [List.length_drop]; omega)]
  · rw [Nat.min_eq_right (by omega), List.drop_of_length_le (Nat.le_refl _), List.drop_of_length_le (by omega)]
    simp
theorem picked_to {c : Int} (hc : 0 ≤ c) : KBy.picked l.toArray none (some c) = (l.take c.toNat).toArray := by
  rw [KBc.picked_eq]
  simp only [Option.elim, clip_pos hc, List.size_toArray, List.drop_zero, Nat.sub_zero]
  congr 1
  by_cases h : c.toNat ≤ l.length
  · rw [Nat.min_eq_left h]
  · rw [Nat.min_eq_right (by omega), List.take_of_length_le (Nat.le_refl _), List.take_of_length_le (by omega)]
theorem picked_back {c : Int} (hc : c < 0) : KBy.picked l.toArray none (some c) = (l.take (l.length - (-c).toNat)).toArray := by
  rw [KBc.picked_eq]
  simp only [Option.elim, clip_neg hc, List.size_toArray, List.drop_zero, Nat.sub_zero]

theorem cut_any {lv uv : Value} {lo hi : Option Int} {r : List UInt8} (hF : Fr h₀ L s.heap m) (hN : News h₀ L s.heap news) (hl : IsPart lv lo) (hu : IsPart uv hi) (hz : l.length ≤ 16777216) (hr : KBy.picked l.toArray lo hi = r.toArray)
    (h : ∀ h' t' k, Fr h₀ L h' m → News h₀ L h' news → Q (.bytes r.toArray t') { s with heap := h', toks := k })
    (hs : subscripted slice false (.bytes l.toArray t) (.ref s.heap.objs.size) = operate [.ref s.heap.objs.size, .bytes l.toArray t] (getItem (.bytes l.toArray t) (.ref s.heap.objs.size)) := by with_unfolding_all rfl)
    (ht : ∀ r, letTemporaryGo value (.bytes l.toArray t) r = pure () := by intro _; with_unfolding_all rfl) :
    wpAny (model prog w) A (subscriptTail value slice (.bytes l.toArray t) (.ref s.heap.objs.size)) Q E { s with heap := s.heap.push { cls := .type "slice", data := .fields #[lv, uv, .none] } } :=
  KBc.slice_K hF hN (KBw.ints_list l) hl hu (by simpa using hz) (fun h' t' k F N _ => by rw [hr]; exact h h' t' k F N) hs ht

theorem cut_mid {a c : Int} {ta tc : Tok} (hF : Fr h₀ L s.heap m) (hN : News h₀ L s.heap news) (ha : 0 ≤ a) (hc : 0 ≤ c) (hz : l.length ≤ 16777216)
    (h : ∀ h' t' k, Fr h₀ L h' m → News h₀ L h' news → Q (.bytes ((l.drop a.toNat).take (c.toNat - a.toNat)).toArray t') { s with heap := h', toks := k })
    (hs : subscripted slice false (.bytes l.toArray t) (.ref s.heap.objs.size) = operate [.ref s.heap.objs.size, .bytes l.toArray t] (getItem (.bytes l.toArray t) (.ref s.heap.objs.size)) := by with_unfolding_all rfl)
    (ht : ∀ r, letTemporaryGo value (.bytes l.toArray t) r = pure () := by intro _; with_unfolding_all rfl) :
    wpAny (model prog w) A (subscriptTail value slice (.bytes l.toArray t) (.ref s.heap.objs.size)) Q E { s with heap := s.heap.push { cls := .type "slice", data := .fields #[.int a ta, .int c tc, .none] } } :=
  cut_any hF hN (.int _ _) (.int _ _) hz (picked_mid ha hc) h hs ht
theorem cut_from {a : Int} {ta : Tok} (hF : Fr h₀ L s.heap m) (hN : News h₀ L s.heap news) (ha : 0 ≤ a) (hz : l.length ≤ 16777216)
    (h : ∀ h' t' k, Fr h₀ L h' m → News h₀ L h' news → Q (.bytes (l.drop a.toNat).toArray t') { s with heap := h', toks := k })
    (hs : subscripted slice false (.bytes l.toArray t) (.ref s.heap.objs.size) = operate [.ref s.heap.objs.size, .bytes l.toArray t] (getItem (.bytes l.toArray t) (.ref s.heap.objs.size)) := by with_unfolding_all rfl)
    (ht : ∀ r, letTemporaryGo value (.bytes l.toArray t) r = pure () := by intro _; with_unfolding_all rfl) :
    wpAny (model prog w) A (subscriptTail value slice (.bytes l.toArray t) (.ref s.heap.objs.size)) Q E { s with heap := s.heap.push { cls := .type "slice", data := .fields #[.int a ta, .none, .none] } } :=
  cut_any hF hN (.int _ _) .none hz (picked_from ha) h hs ht
theorem cut_to {c : Int} {tc : Tok} (hF : Fr h₀ L s.heap m) (hN : News h₀ L s.heap news) (hc : 0 ≤ c) (hz : l.length ≤ 16777216)
    (h : ∀ h' t' k, Fr h₀ L h' m → News h₀ L h' news → Q (.bytes (l.take c.toNat).toArray t') { s with heap := h', toks := k })
    (hs : subscripted slice false (.bytes l.toArray t) (.ref s.heap.objs.size) = operate [.ref s.heap.objs.size, .bytes l.toArray t] (getItem (.bytes l.toArray t) (.ref s.heap.objs.size)) := by with_unfolding_all rfl)
    (ht : ∀ r, letTemporaryGo value (.bytes l.toArray t) r = pure () := by intro _; with_unfolding_all rfl) :
    wpAny (model prog w) A (subscriptTail value slice (.bytes l.toArray t) (.ref s.heap.objs.size)) Q E { s with heap := s.heap.push { cls := .type "slice", data := .fields #[.none, .int c tc, .none] } } :=
  cut_any hF hN .none (.int _ _) hz (picked_to hc) h hs ht
theorem cut_back {c : Int} {tc : Tok} (hF : Fr h₀ L s.heap m) (hN : News h₀ L s.heap news) (hc : c < 0) (hz : l.length ≤ 16777216)
    (h : ∀ h' t' k, Fr h₀ L h' m → News h₀ L h' news → Q (.bytes (l.take (l.length - (-c).toNat)).toArray t') { s with heap := h', toks := k })
    (hs : subscripted slice false (.bytes l.toArray t) (.ref s.heap.objs.size) = operate [.ref s.heap.objs.size, .bytes l.toArray t] (getItem (.bytes l.toArray t) (.ref s.heap.objs.size)) := by with_unfolding_all rfl)
    (ht : ∀ r, letTemporaryGo value (.bytes l.toArray t) r = pure () := by intro _; with_unfolding_all rfl) :
    wpAny (model prog w) A (subscriptTail value slice (.bytes l.toArray t) (.ref s.heap.objs.size)) Q E { s with heap := s.heap.push { cls := .type "slice", data := .fields #[.none, .int c tc, .none] } } :=
  cut_any hF hN .none (.int _ _) hz (picked_back hc) h hs ht

theorem bytes_len (hz : l.length ≤ 1099511627776) (h : Q (.int (l.length : Nat) (s.toks + 1)) { s with toks := s.toks + 1 + 1 }) : wpAny (model prog w) A (call (.builtin "len") [.bytes l.toArray t]) Q E s :=
  len_bytes (by simpa using hz) (by simpa using h)
theorem bytes_add (hz : l.length + r.length ≤ 16777216) (h : ∀ t' k, Q (.bytes (l ++ r).toArray t') { s with toks := k }) : wpAny (model prog w) A (binaryOp .Add (.bytes l.toArray t) (.bytes r.toArray u)) Q E s :=
  KBy.add_bytes (by simpa using hz) (fun t' k => by simpa using h t' k)
theorem bytes_eq (h : Q (.bool (decide (l = r))) s) : wpAny (model prog w) A (compareOp .Eq (.bytes l.toArray t) (.bytes r.toArray u)) Q E s :=
  eq_bytes (by
    have e : (l.toArray.toList == r.toArray.toList) = decide (l = r) := by
      rw [Bool.eq_iff_iff]; simp
    rw [e]; exact h)
theorem bytes_ne (h : Q (.bool (!decide (l = r))) s) : wpAny (model prog w) A (compareOp .NotEq (.bytes l.toArray t) (.bytes r.toArray u)) Q E s :=
  ne_bytes (by
    have e : (l.toArray.toList != r.toArray.toList) = !decide (l = r) := by
      rw [bne, show (l.toArray.toList == r.toArray.toList) = decide (l = r) from by rw [Bool.eq_iff_iff]; simp]
    rw [e]; exact h)
end

theorem append_L {prog : Program} {w : World} {A : Around} {E : Value → Shared → Prop} {s : Shared} {h₀ : Heap} {L D : Addr} {m : PySem.Str → Option Value} {news news' : List (Addr × Obj)} {vs : List Value} {n : Nat} {x : Value} {Q : Value → Shared → Prop} (F : Fr h₀ L s.heap m) (N : News h₀ L s.heap news)
    (U : Upd D (listOf vs.toArray n) (listOf (vs ++ [x]).toArray (n + 1)) news news') (hz : vs.length ≤ 16777216) (h : ∀ h', Fr h₀ L h' m → News h₀ L h' news' → Q .none { s with heap := h' }) :
    wpAny (model prog w) A (call (.builtin "list.append") [.ref D, x]) Q E s := by
  have e : vs.toArray.push x = (vs ++ [x]).toArray := by simp
  rw [← e] at U
  exact append_K (hsz := by rw [List.size_toArray, sizeLine_eq]; omega) F N U h

def AllNe (a : Addr) : List (Addr × Obj) → Prop
  | [] => True
  | p :: r => @Ne Nat p.1 a ∧ AllNe a r
theorem news_ne {h₀ h : Heap} {L a : Addr} : ∀ {news : List (Addr × Obj)}, News h₀ L h news → h.get? a = none → AllNe a news
  | [], _, _ => trivial
  | p :: r, N, hn => by
    refine ⟨fun q => ?_, news_ne (fun q hq => N q (.tail _ hq)) hn⟩
    have := (N p (.head _)).1
    rw [show p.1 = a from q, hn] at this
    cases this
end Mine
namespace Mine
section
theorem sub_int_bytes : isSubtype (.type "int") (.type "bytes") = pure false := by rw [isSubtype_type]; kernel_rfl
theorem sub_bytes_int : isSubtype (.type "bytes") (.type "int") = pure false := by rw [isSubtype_type]; kernel_rfl
theorem bytes_eq_int0 (a : Array UInt8) (t : Tok) (b : Int) (u : Tok) : Gives (Builtin.«bytes.__eq__» ⟨[.bytes a t, .int b u], []⟩) (.val Value.notImplemented) :=
  .of_wp fun M A E s Q h => by obtain ⟨hp, g, d, tk, os⟩ := s; wp_walk; rw [sub_int_bytes]; wp_walk; exact ⟨_, rfl, h⟩
theorem int_eq_bytes0 (a : Int) (t : Tok) (b : Array UInt8) (u : Tok) : Gives (Builtin.«int.__eq__» ⟨[.int a t, .bytes b u], []⟩) (.val Value.notImplemented) :=
  .of_wp fun M A E s Q h => by obtain ⟨hp, g, d, tk, os⟩ := s; wp_walk; exact ⟨_, rfl, h⟩
variable {prog : Program} {w : World} {A : Around} {E : Value → Shared → Prop} {s : Shared} {Q : Value → Shared → Prop}
theorem eq_bytes_int {a : Array UInt8} {t : Tok} {b : Int} {u : Tok} (h : Q (.bool false) s) : wpAny (model prog w) A (compareOp .Eq (.bytes a t) (.int b u)) Q E s := by
  show wpAny _ A (richCompare .Eq _ _) Q E s
  exact EqNone.wpAny_richCompare_eq_decline (k := false) (fun s' => typeIs_bytes s' a t) (fun s' => typeIs_int s' b u) (by decide) sub_int_bytes FB.slot_bytes_eq PySem.F.slot_int_eq_refl rfl
    (call_gives FB.slot_bytes_eq (typeIs_bytes s a t) FB.entry_bytes_eq (FB.args_bytes_eq_2 _ _) (bytes_eq_int0 a t b u)
      ⟨rfl, call_gives PySem.F.slot_int_eq_refl (typeIs_int s b u) PySem.F.entry_int_eq (PySem.F.args_int_eq_2 _ _) (int_eq_bytes0 b u a t) ⟨rfl, h⟩⟩)
theorem eq_int_bytes {a : Int} {t : Tok} {b : Array UInt8} {u : Tok} (h : Q (.bool false) s) : wpAny (model prog w) A (compareOp .Eq (.int a t) (.bytes b u)) Q E s := by
  show wpAny _ A (richCompare .Eq _ _) Q E s
  exact EqNone.wpAny_richCompare_eq_decline (k := false) (fun s' => typeIs_int s' a t) (fun s' => typeIs_bytes s' b u) (by decide) sub_bytes_int PySem.F.slot_int_eq FB.slot_bytes_eq rfl
    (call_gives PySem.F.slot_int_eq (typeIs_int s a t) PySem.F.entry_int_eq (PySem.F.args_int_eq_2 _ _) (int_eq_bytes0 a t b u)
      ⟨rfl, call_gives FB.slot_bytes_eq (typeIs_bytes s b u) FB.entry_bytes_eq (FB.args_bytes_eq_2 _ _) (bytes_eq_int0 b u a t) ⟨rfl, h⟩⟩)
end
section
open PyProof.Rows.LCg
theorem led_of_allNe {a : Addr} : ∀ {l : List (Addr × Obj)}, AllNe a l → ∀ p ∈ l, p.1 ≠ a
  | [], _, _, h => nomatch h
  | p :: l, h, q, hq => by
    rcases List.mem_cons.mp hq with rfl | hq
    · exact fun e => h.1 e
    · exact led_of_allNe h.2 q hq
/-- addresses that part, out of the raw facts of a ledger -/
theorem ne_lt {a x : Nat} {o : Obj} {l : List (Addr × Obj)} (h : ∀ p ∈ l, p.1 < x) (m : (a, o) ∈ l) : a ≠ x := Nat.ne_of_lt (h _ m)
theorem ne_gt {a x : Nat} {o : Obj} {l : List (Addr × Obj)} (h : ∀ p ∈ l, p.1 < x) (m : (a, o) ∈ l) : x ≠ a := fun e => Nat.ne_of_lt (h _ m) e.symm
theorem ne_of {a x : Nat} {o : Obj} {l : List (Addr × Obj)} (h : AllNe x l) (m : (a, o) ∈ l) : a ≠ x := led_of_allNe h _ m
theorem ne_fo {a x : Nat} {o : Obj} {l : List (Addr × Obj)} (h : AllNe x l) (m : (a, o) ∈ l) : x ≠ a := fun e => led_of_allNe h _ m e.symm
theorem off3 {a I C D : Nat} {o : Obj} : ∀ {l : List (Addr × Obj)}, PyProof.Rows.LCg.Off3 I C D l → (a, o) ∈ l → a ≠ I ∧ a ≠ C ∧ a ≠ D
  | _ :: _, h, m => by
    rcases List.mem_cons.mp m with e | m
    · subst e; exact ⟨h.1.1, h.1.2.1, h.1.2.2⟩
    · exact off3 h.2 m
theorem off_I {a I C D : Nat} {o : Obj} {l : List (Addr × Obj)} (h : PyProof.Rows.LCg.Off3 I C D l) (m : (a, o) ∈ l) : a ≠ I := (off3 h m).1
theorem off_C {a I C D : Nat} {o : Obj} {l : List (Addr × Obj)} (h : PyProof.Rows.LCg.Off3 I C D l) (m : (a, o) ∈ l) : a ≠ C := (off3 h m).2.1
theorem off_D {a I C D : Nat} {o : Obj} {l : List (Addr × Obj)} (h : PyProof.Rows.LCg.Off3 I C D l) (m : (a, o) ∈ l) : a ≠ D := (off3 h m).2.2
theorem I_off {a I C D : Nat} {o : Obj} {l : List (Addr × Obj)} (h : PyProof.Rows.LCg.Off3 I C D l) (m : (a, o) ∈ l) : I ≠ a := fun e => (off3 h m).1 e.symm
theorem C_off {a I C D : Nat} {o : Obj} {l : List (Addr × Obj)} (h : PyProof.Rows.LCg.Off3 I C D l) (m : (a, o) ∈ l) : C ≠ a := fun e => (off3 h m).2.1 e.symm
theorem D_off {a I C D : Nat} {o : Obj} {l : List (Addr × Obj)} (h : PyProof.Rows.LCg.Off3 I C D l) (m : (a, o) ∈ l) : D ≠ a := fun e => (off3 h m).2.2 e.symm
theorem raw_lt {a x : Nat} {o : Obj} {l : List (Addr × Obj)} (h : ∀ p ∈ l, p.1 < x) (m : (a, o) ∈ l) : a < x := h _ m
end
end Mine
end

-- part KC
section
open PySem PySem.Calls PySem.W PyProof.Rows Builtin Builtin.ObjectAttr
set_option maxRecDepth 100000
namespace Mine
open Head
section
set_option maxHeartbeats 1000000 in
theorem contains0 (a : Array UInt8) (t : Tok) (i : Int) (u : Tok) (h0 : 0 ≤ i) (h1 : i < 256) : Gives (Builtin.«bytes.__contains__» ⟨[.bytes a t, .int i u], []⟩) (.val (.bool (a.contains i.toNat.toUInt8))) :=
  .of_wp fun M A E s Q h => by
    obtain ⟨hp, g, d, tk, os⟩ := s
    show wpAny M A (Bytes.containsIn "bytes.__contains__" (.bytes a t) (.int i u) >>= fun b => ret (.bool b)) _ E _
    unfold Bytes.containsIn
    rw [KBy.buffer_eq]
    refine wpAny_bind (wpAny_bind ?_)
    wp_walk
    exact ⟨_, rfl, h⟩
theorem look_int_buffer : typeLookup (.type "int") "__buffer__" = pure none := by rw [typeLookup_type, builtinLookup_eq_fast]; kernel_rfl
theorem look_int_index : typeLookup (.type "int") "__index__" = pure (some (.builtin "int.__index__")) := by rw [typeLookup_type, builtinLookup_eq_fast]; kernel_rfl
theorem buffer_int {id : String} {i : Int} {u : Tok} : Bytes.buffer? id (.int i u) = pure none := by
  have e : specialOf (.int i u) "__buffer__" = typeLookup (.type "int") "__buffer__" := rfl
  unfold Bytes.buffer?
  rw [e, look_int_buffer]
  rfl
theorem special_index {i : Int} {u : Tok} : specialOf (.int i u) "__index__" = pure (some (.builtin "int.__index__")) := by
  have e : specialOf (.int i u) "__index__" = typeLookup (.type "int") "__index__" := rfl
  rw [e, look_int_index]
set_option maxHeartbeats 1000000 in
theorem find0 (a : Array UInt8) (t : Tok) (i : Int) (u : Tok) (h0 : 0 ≤ i) (h1 : i < 256) (k : Nat) (hs : 1 ≤ a.size) (hk : Bytes.find? a #[i.toNat.toUInt8] 0 a.size = some k) : Gives (Builtin.«bytes.index» ⟨[.bytes a t, .int i u], []⟩) (.int k) :=
  .of_wp fun M A E s Q h => by
    obtain ⟨hp, g, d, tk, os⟩ := s
    unfold Builtin.«bytes.index» Bytes.searchM Bytes.searchArgs
    have e1 : PySem.selfAndSome (toString Bytes.Kind.bytes.name ++ toString "." ++ toString "index") "index" 1 3 ⟨[.bytes a t, .int i u], []⟩ = pure (.bytes a t, [.int i u]) := by kernel_rfl
    dsimp only
    rw [e1]
    simp only [pure_bind, bind_assoc, List.headD_cons, buffer_int, special_index]
    wp_walk
    have e2 : Bytes.window a.size none none = (0, (a.size : Int)) := by
      unfold Bytes.window
      simp <;> omega
    rw [e2]
    have e3 : ¬ (a.size : Int) - 0 < (#[i.toNat.toUInt8] : Array UInt8).size := by simp; omega
    simp only [if_neg e3, Option.bind_some, Bool.false_eq_true, if_false, Int.toNat_natCast, Int.toNat_zero, hk]
    wp_walk
    exact ⟨_, rfl, h⟩
variable {prog : Program} {w : World} {A : Around} {E : Value → Shared → Prop} {s : Shared} {Q : Value → Shared → Prop}
theorem notin_bytes {a : Array UInt8} {t : Tok} {i : Int} {u : Tok} (h0 : 0 ≤ i) (h1 : i < 256) (h : Q (.bool (!(a.contains i.toNat.toUInt8))) s) : wpAny (model prog w) A (compareOp .NotIn (.int i u) (.bytes a t)) Q E s := by
  show wpAny _ _ (do return .bool (!(← contains (.bytes a t) (.int i u)))) Q E s
  refine wpAny_bind ?_
  unfold contains
  try with_reducible refine wpAny_holding ?_
  refine wpAny_bind (wpAny_specialOf (typeIs_bytes s a t) FB.slot_bytes_contains.lookup ?_)
  show wpAny _ _ (if (some (Value.builtin "bytes.__contains__") == some Value.none) = true then _ else _) _ E s
  rw [if_neg (by rw [beq_builtin_none]; exact Bool.false_ne_true)]
  refine wpAny_bind (wpAny_callSpecialUnlessNone?_slot (name := Str.ofString "__contains__") (typeIs_bytes s a t) FB.slot_bytes_contains
    (call_gives FB.slot_bytes_contains (typeIs_bytes s a t) FB.entry_bytes_contains (FB.args_bytes_contains_2 _ _) (contains0 a t i u h0 h1) ?_))
  exact wpAny_truthy_bool (wpAny_pure h)
theorem slot_bytes_index : Slot "bytes" "index" "bytes.index" :=
  .of (owner := "bytes") (n := "index") (by rw [typeLookup_type, builtinLookup_eq_fast]; kernel_rfl) (by decide +kernel) (by decide +kernel) (by decide +kernel)
    (by first | exact .inl (by decide +kernel) | exact .inr (by decide +kernel)) (by rw [isSubtype_type]; kernel_rfl)
theorem type_bytes_index : typeOf (.builtin "bytes.index") = pure (.type "method_descriptor") := by show builtinType _ = _; rw [builtinType_eq_fast]; kernel_rfl
theorem entry_bytes_index : entryFor table "bytes.index" = some Builtin.«bytes.index» := entryFor_of_tree (by kernel_rfl)
theorem args_bytes_index_2 (a b : Value) : argsOk "bytes.index" ⟨[a, b], []⟩ := by
  unfold argsOk; rw [signature?_of (id := "bytes.index") (n := ['x', 'e', 'd', 'n', 'i']) (o := ['s', 'e', 't', 'y', 'b']) (by kernel_rfl) FB.owner_bytes]; kernel_rfl
theorem method_index {M : Model} {b : Array UInt8} {t : Tok} {pl : Sem Bool} {Q : Value × List Value → Shared → Prop} (h : Q (.builtin "bytes.index", [.bytes b t]) s) : wpAny M A (getMethod (.bytes b t) "index" pl) Q E s := by
  with_reducible exact KBd.method_of (.bytes b t) (typeIs_bytes _ _ _) slot_bytes_index type_bytes_index KBd.noRef h
theorem call_index {a : Array UInt8} {t : Tok} {i : Int} {u : Tok} (h0 : 0 ≤ i) (h1 : i < 256) (k : Nat) (hs : 1 ≤ a.size) (hk : Bytes.find? a #[i.toNat.toUInt8] 0 a.size = some k) (h : Q (.int k s.toks) { s with toks := s.toks + 1 }) : wpAny (model prog w) A (call (.builtin "bytes.index") [.bytes a t, .int i u]) Q E s :=
  call_gives slot_bytes_index (typeIs_bytes _ _ _) entry_bytes_index (args_bytes_index_2 _ _) (find0 a t i u h0 h1 k hs hk) h
end
end Mine
end

-- part KD
section
open PySem PySem.Calls PySem.W PyProof.Rows Builtin Builtin.ObjectAttr
set_option maxRecDepth 100000
namespace Mine
open Head
inductive BytesAre : List Value → List UInt8 → Prop
  | nil : BytesAre [] []
  | cons {b : UInt8} {t : Tok} {vs : List Value} {bs : List UInt8} : BytesAre vs bs → BytesAre (.int ((b.toNat : Nat) : Int) t :: vs) (b :: bs)
theorem BytesAre.toInts : ∀ {vs : List Value} {bs : List UInt8}, BytesAre vs bs → IntsAre vs (bs.map fun b => ((b.toNat : Nat) : Int))
  | _, _, .nil => .nil
  | _, _, .cons h => .cons _ _ h.toInts
theorem byteArr_back (bs : List UInt8) : byteArr (bs.map fun b => ((b.toNat : Nat) : Int)) = bs.toArray := by
  unfold byteArr
  rw [List.map_map]
  congr 1
  conv => rhs; rw [← List.map_id bs]
  refine List.map_congr_left fun b _ => ?_
  simp
section
variable {prog : Program} {w : World} {A A₀ : Around} {E : Value → Shared → Prop} {s : Shared} {h₀ base : Heap} {L : Addr} {m mg mb : PySem.Str → Option Value} {news : List (Addr × Obj)} {K : Frag} {p : Program} {loose : List PySem.Str} {mean : ExcName → Option Value}
theorem bytes_mk {D : Addr} {n : Nat} {vs : List Value} {bs : List UInt8} {Q : Value → Shared → Prop} (F : Fr h₀ L s.heap m) (N : News h₀ L s.heap news) (hm : (D, listOf vs.toArray n) ∈ news) (hi : BytesAre vs bs) (hz : vs.length ≤ 100000) (hh : A.handled = none)
    (h : ∀ h' t k, Fr h₀ L h' m → News h₀ L h' news → Q (.bytes bs.toArray t) { s with heap := h', toks := k }) : wpAny (model prog w) A (call (.type "bytes") [.ref D]) Q E s :=
  call_bytes_ints ⟨_, (N _ hm).1, rfl, n, rfl⟩ hi.toInts (fun x hx => by
    obtain ⟨b, _, rfl⟩ := List.mem_map.mp hx
    have := b.toNat_lt
    exact ⟨by omega, by omega⟩) (by rw [sizeLine_eq]; omega) hh fun h' t k hk => by
      rw [byteArr_back]
      exact h h' t k (F.keeps hk) (N.grown hk)
/-- as enterP, for a def whose locals are captured -/
theorem enterPC {env : Env} {outer : List Env} {R : Result → Shared → Prop} {name qual : PySem.Str} {params : Arguments} {body : List Stmt} {scope : Scope} {dV kV doc pm cdv ct oc : Value} {an od : Option Addr} {osl : Array (Option Value)} {f : Addr} {args : Args} {binds : List (PySem.Str × Value)}
    (B : Below A₀ base outer h₀) (F : Fr h₀ L s.heap m) (X₀ : K.In h₀) (T : Top p loose mean mg mb h₀) (hA : A.frames = some (env :: outer)) (hf : env.frame = some L) (hke : env.scope.kind = .function)
    (ho : K.lookup f = some ⟨oc, od, .func (fnOf name qual params body scope dV kV doc pm an cdv ct), osl⟩) (hcd : codeIn K cdv qual = true) (hroom : A.depth < recursionLimit)
    (hbind : BindsTo s (fnOf name qual params body scope dV kV doc pm an cdv ct) args binds) (hkind : (binds.all fun y => scope.names.lookup y.1 == some .local || scope.names.lookup y.1 == some .cell) = true)
    (hnd : ((cellsFrom 0 scope.names []).map (·.1)).Nodup)
    (h : ∀ L' h₁ tk cells, Fr s.heap L' h₁ (bindL (envOfC qual scope L' f cdv).kindOf binds fun _ => none) → News s.heap L' h₁ (cells ++ []) →
      CellsAre (bindC (envOfC qual scope L' f cdv).kindOf binds fun _ => none) (cellsFrom (L' + 1) scope.names []) cells → Below A base (env :: outer) s.heap → K.In s.heap → Top p loose mean mg mb s.heap →
      wpAny (model prog w) (A.deeper (envOfC qual scope L' f cdv)) (execs body (envOfC qual scope L' f cdv))
        (fun fl s' => R (.ok (.ret (match fl with | .ret v => v | _ => .none))) s')
        (fun e s' => wpAny (model prog w) (A.deeper (envOfC qual scope L' f cdv)) (leaving (envOfC qual scope L' f cdv) e) (fun _ s'' => R (.error e) s'') (fun e' s'' => R (.error e') s'') s')
        { s with heap := h₁, toks := tk })
    (hco : scope.isCoroutine = false) (hgen : scope.isGenerator = false) (hk : scope.kind = .function) : codeAny (model prog w) A (.call (.ref f) args) R s := by
  have X := X₀.keeps F.keep
  have hnm : env.scope.kind ≠ .module := by rw [hke]; decide
  refine codeAny_call_function (fd := fnOf name qual params body scope dV kV doc pm an cdv ct) hroom (X _ _ ho) rfl hco hgen rfl (codeRec_of X hcd) (hbind _ _ _ _ ?_)
  refine wpAny_newFunctionEnv_cells hk (kindsX hkind _) fun env' he s' x => ?_
  subst he
  refine ⟨(T.nolimit.keeps F.keep).keeps x.toInCall.keep, codeAny_func ?_⟩
  obtain ⟨h₁, tk, rfl, _⟩ := x.done
  have hk₁ := x.toInCall.keep
  obtain ⟨cells, NC, Y⟩ := Cl.news (h₀ := s.heap) (Nat.le_refl _) fun n c hm => ⟨x.cell n c (lookup_of_mem_nodup (cellsFrom_names scope.names 0 (s.heap.objs.size + 1) [] [] rfl ▸ hnd) hm), x.above n c hm⟩
  exact h s.heap.objs.size h₁ tk cells ⟨x.toInCall.ns, hk₁, Nat.le_refl _⟩ (by rw [List.append_nil]; exact NC) Y ⟨hA, fun b o e => F.keep b o (B.stays b o e), fun_frames B F hnm hf⟩ X (T.keeps F.keep)
end
end Mine
end

-- part LC
section
open PySem PySem.Calls PySem.W PyProof.Rows Builtin Builtin.ObjectAttr PyProof.Rows.LCg
set_option maxRecDepth 100000
namespace Mine
open Head
/-- what a block iterates over -/
def Src (prog : Program) (w : World) (A : Around) (h₀ : Heap) (L : Addr) (xv : Value) (n : Nat) (P : Nat → Value → Prop) (S : List (Addr × Obj) → Prop) (s₁ : Shared) : Prop :=
  ∀ (Q : Value → Shared → Prop) (E : Value → Shared → Prop),
    (∀ I fp St h₂, Walks prog w A I fp [I] n P St → (∀ i h, St i h → ∃ o, h.get? I = some o) →
      (∀ i h h' o nw, St i h → h.get? I = some o → h'.get? I = some o → (∀ b o, h₀.get? b = some o → h'.get? b = some o) → News h₀ L h' nw → S nw → St i h') →
      St 0 h₂ → (∀ b ∈ fp, b < h₂.objs.size) → (∀ b o, s₁.heap.get? b = some o → h₂.get? b = some o) → s₁.heap.objs.size ≤ I → (∀ b ∈ fp, b = I ∨ (∃ o, h₀.get? b = some o) ∨ ∃ o, ∀ nw, S nw → (b, o) ∈ nw) → Q (.ref I) { s₁ with heap := h₂ }) →
    wpAny (model prog w) A (pyIter xv) Q E s₁
section
variable {prog : Program} {w : World} {A : Around} {E : Value → Shared → Prop} {s s₁ : Shared} {h₀ : Heap} {L : Addr} {m : PySem.Str → Option Value} {env : Env} {news : List (Addr × Obj)}
theorem of_frame {I : Addr} {n : Nat} {P : Nat → Value → Prop} {St : Nat → Heap → Prop} {S : List (Addr × Obj) → Prop} (W : Walks prog w A I [I] [I] n P St) :
    ∀ i (h h' : Heap) o (nw : List (Addr × Obj)), St i h → h.get? I = some o → h'.get? I = some o → (∀ b o, h₀.get? b = some o → h'.get? b = some o) → News h₀ L h' nw → S nw → St i h' :=
  fun i h h' o nw st e e' _ _ _ => W.frame i h h' st fun b hb o' eo => by
    rw [List.mem_singleton.mp hb] at eo ⊢
    rw [e] at eo
    rw [e', eo]
theorem src_list {ax : Addr} {its : Array Value} {k : Nat} (hh : A.handled = none) (N : News h₀ L s₁.heap news) (hm : (ax, ({ cls := .type "list", data := .seq its k } : Obj)) ∈ news) :
    Src prog w A h₀ L (.ref ax) its.size (fun i v => its[i]? = some v) (fun nw => (ax, ({ cls := .type "list", data := .seq its k } : Obj)) ∈ nw) s₁ := by
  intro Q E h
  have hl : s₁.heap.IsList ax its := ⟨_, (N _ hm).1, rfl, k, rfl⟩
  have hlt : ax < s₁.heap.objs.size := Heap.lt_size (N _ hm).1
  refine wpAny_pyIter_list hl ?_
  refine h _ _ _ _ (Walks.list hh s₁.heap.objs.size ax (Nat.ne_of_lt hlt) its) (fun i h st => by obtain ⟨o, e, _⟩ := st.1; exact ⟨o, e⟩) (fun i h h' o nw st e e' _ N' S => ?_)
    ⟨⟨_, Heap.get?_push_size _ rfl, rfl, rfl⟩, hl.push _⟩ (fun b hb => ?_) (fun b o e => Heap.get?_push_of_some _ e) (Nat.le_refl _) (fun b hb => (List.mem_cons.mp hb).imp id fun q => .inr ⟨_, fun nw h => List.mem_singleton.mp q ▸ h⟩)
  · exact ⟨by obtain ⟨o', q, r⟩ := st.1; rw [e] at q; cases q; exact ⟨o, e', r⟩, ⟨_, (N' _ S).1, rfl, k, rfl⟩⟩
  · rw [Heap.size_push]
    rcases List.mem_cons.mp hb with rfl | hb
    · exact Nat.lt_succ_self _
    · rw [List.mem_singleton.mp hb]; exact Nat.lt_succ_of_lt hlt
theorem src_tuple {ax : Addr} {its : Array Value} (hh : A.handled = none) (N : News h₀ L s₁.heap news) (hm : (ax, ({ cls := .type "tuple", data := .seq its } : Obj)) ∈ news) :
    Src prog w A h₀ L (.ref ax) its.size (fun i v => its[i]? = some v) (fun nw => (ax, ({ cls := .type "tuple", data := .seq its } : Obj)) ∈ nw) s₁ := by
  intro Q E h
  have hl : s₁.heap.IsTuple ax its := ⟨_, (N _ hm).1, rfl, _, rfl⟩
  have hlt : ax < s₁.heap.objs.size := Heap.lt_size (N _ hm).1
  refine wpAny_pyIter_tuple hl ?_
  refine h _ _ _ _ (Walks.tuple hh s₁.heap.objs.size ax (Nat.ne_of_lt hlt) its) (fun i h st => by obtain ⟨o, e, _⟩ := st.1; exact ⟨o, e⟩) (fun i h h' o nw st e e' _ N' S => ?_)
    ⟨⟨_, Heap.get?_push_size _ rfl, rfl, rfl⟩, ⟨_, Heap.get?_push_of_some _ (N _ hm).1, rfl, _, rfl⟩⟩ (fun b hb => ?_) (fun b o e => Heap.get?_push_of_some _ e) (Nat.le_refl _) (fun b hb => (List.mem_cons.mp hb).imp id fun q => .inr ⟨_, fun nw h => List.mem_singleton.mp q ▸ h⟩)
  · exact ⟨by obtain ⟨o', q, r⟩ := st.1; rw [e] at q; cases q; exact ⟨o, e', r⟩, ⟨_, (N' _ S).1, rfl, _, rfl⟩⟩
  · rw [Heap.size_push]
    rcases List.mem_cons.mp hb with rfl | hb
    · exact Nat.lt_succ_self _
    · rw [List.mem_singleton.mp hb]; exact Nat.lt_succ_of_lt hlt
/-- a list of the ground -/
theorem src_listG {ax : Addr} {its : Array Value} (hh : A.handled = none) (F : Fr h₀ L s₁.heap m) (hl₀ : h₀.IsList ax its) :
    Src prog w A h₀ L (.ref ax) its.size (fun i v => its[i]? = some v) (fun _ => True) s₁ := by
  intro Q E h
  have hl : s₁.heap.IsList ax its := hl₀.at fun o e => F.keep ax o e
  have hlt : ax < s₁.heap.objs.size := by obtain ⟨_, e, _⟩ := hl; exact Heap.lt_size e
  refine wpAny_pyIter_list hl ?_
  refine h _ _ _ _ (Walks.list hh s₁.heap.objs.size ax (Nat.ne_of_lt hlt) its) (fun i h st => by obtain ⟨o, e, _⟩ := st.1; exact ⟨o, e⟩) (fun i h h' o nw st e e' k _ _ => ?_)
    ⟨⟨_, Heap.get?_push_size _ rfl, rfl, rfl⟩, hl.push _⟩ (fun b hb => ?_) (fun b o e => Heap.get?_push_of_some _ e) (Nat.le_refl _) (fun b hb => (List.mem_cons.mp hb).imp id fun q => .inl (by obtain ⟨o, e, _⟩ := hl₀; exact ⟨o, List.mem_singleton.mp q ▸ e⟩))
  · exact ⟨by obtain ⟨o', q, r⟩ := st.1; rw [e] at q; cases q; exact ⟨o, e', r⟩, hl₀.at fun o e => k ax o e⟩
  · rw [Heap.size_push]
    rcases List.mem_cons.mp hb with rfl | hb
    · exact Nat.lt_succ_self _
    · rw [List.mem_singleton.mp hb]; exact Nat.lt_succ_of_lt hlt
/-- a tuple of the ground -/
theorem src_tupleG {ax : Addr} {its : Array Value} (hh : A.handled = none) (F : Fr h₀ L s₁.heap m) (hl₀ : h₀.IsTuple ax its) :
    Src prog w A h₀ L (.ref ax) its.size (fun i v => its[i]? = some v) (fun _ => True) s₁ := by
  intro Q E h
  have keep : ∀ {g : Heap}, (∀ b o, h₀.get? b = some o → g.get? b = some o) → g.IsTuple ax its := fun k => by obtain ⟨o, e, r⟩ := hl₀; exact ⟨o, k ax o e, r⟩
  have hl : s₁.heap.IsTuple ax its := keep F.keep
  have hlt : ax < s₁.heap.objs.size := by obtain ⟨_, e, _⟩ := hl; exact Heap.lt_size e
  refine wpAny_pyIter_tuple hl ?_
  refine h _ _ _ _ (Walks.tuple hh s₁.heap.objs.size ax (Nat.ne_of_lt hlt) its) (fun i h st => by obtain ⟨o, e, _⟩ := st.1; exact ⟨o, e⟩) (fun i h h' o nw st e e' k _ _ => ?_)
    ⟨⟨_, Heap.get?_push_size _ rfl, rfl, rfl⟩, by obtain ⟨o, e, r⟩ := hl; exact ⟨o, Heap.get?_push_of_some _ e, r⟩⟩ (fun b hb => ?_) (fun b o e => Heap.get?_push_of_some _ e) (Nat.le_refl _) (fun b hb => (List.mem_cons.mp hb).imp id fun q => .inl (by obtain ⟨o, e, _⟩ := hl₀; exact ⟨o, List.mem_singleton.mp q ▸ e⟩))
  · exact ⟨by obtain ⟨o', q, r⟩ := st.1; rw [e] at q; cases q; exact ⟨o, e', r⟩, keep k⟩
  · rw [Heap.size_push]
    rcases List.mem_cons.mp hb with rfl | hb
    · exact Nat.lt_succ_self _
    · rw [List.mem_singleton.mp hb]; exact Nat.lt_succ_of_lt hlt
theorem src_bytes {b : Array UInt8} {t : Tok} (hh : A.handled = none) :
    Src prog w A h₀ L (.bytes b t) b.size (fun i v => ∃ c u, b[i]? = some c ∧ v = .int ((c.toNat : Nat) : Int) u) (fun _ => True) s₁ := by
  intro Q E h
  refine KBw.pyIter_bytes ?_
  have W := KBw.walks (prog := prog) (w := w) hh s₁.heap.objs.size b t
  refine h _ _ _ _ W (fun i h st => by obtain ⟨o, e, _⟩ := st; exact ⟨o, e⟩) (of_frame W) ⟨_, Heap.get?_push_size _ rfl, rfl, rfl⟩ (fun b hb => ?_) (fun b o e => Heap.get?_push_of_some _ e) (Nat.le_refl _) (fun b hb => .inl (List.mem_singleton.mp hb))
  rw [List.mem_singleton.mp hb, Heap.size_push]
  exact Nat.lt_succ_self _
theorem src_str {x : PySem.Str} {t : Tok} (hh : A.handled = none) :
    Src prog w A h₀ L (.str x t) x.cps.size (SignAt x) (fun _ => True) s₁ := by
  intro Q E h
  cases ha : x.cps.all (· < 128)
  · refine wpAny_pyIter_wide ha ?_
    have W := Walks.strWide (prog := prog) (w := w) hh s₁.heap.objs.size x t
    refine h _ _ _ _ W (fun i h st => by obtain ⟨o, e, _⟩ := st; exact ⟨o, e⟩) (of_frame W) ⟨_, Heap.get?_push_size _ rfl, rfl, rfl⟩ (fun b hb => ?_) (fun b o e => Heap.get?_push_of_some _ e) (Nat.le_refl _) (fun b hb => .inl (List.mem_singleton.mp hb))
    rw [List.mem_singleton.mp hb, Heap.size_push]
    exact Nat.lt_succ_self _
  · refine wpAny_pyIter_ascii ha ?_
    have W := Walks.strAscii (prog := prog) (w := w) hh s₁.heap.objs.size x t
    refine h _ _ _ _ W (fun i h st => by obtain ⟨o, e, _⟩ := st; exact ⟨o, e⟩) (of_frame W) ⟨_, Heap.get?_push_size _ rfl, rfl, rfl⟩ (fun b hb => ?_) (fun b o e => Heap.get?_push_of_some _ e) (Nat.le_refl _) (fun b hb => .inl (List.mem_singleton.mp hb))
    rw [List.mem_singleton.mp hb, Heap.size_push]
    exact Nat.lt_succ_self _
theorem src_range {r : Addr} {a b c : Int} {t u v : Tok} {n : Nat} (hh : A.handled = none) (hr : IsRange s₁.heap r a b c t u v) (hsm : Builtin.Range.small a b c = true) (hn : Builtin.Range.rangeSize a b c = ((n : Nat) : Int)) :
    Src prog w A h₀ L (.ref r) n (fun i v => ∃ t, v = .int (a + (i : Int) * c) t) (fun _ => True) s₁ := by
  intro Q E h
  refine wpAny_pyIter_range hr hsm ?_
  have W := Walks.range (prog := prog) (w := w) hh s₁.heap.objs.size a c n
  refine h _ _ _ _ W (fun i h st => ⟨_, st⟩) (of_frame W) (by show IsRangeIter _ _ _ _ _; rw [hn]; simpa using Heap.get?_push_size _ rfl) (fun b hb => ?_) (fun b o e => Heap.get?_push_of_some _ e) (Nat.le_refl _) (fun b hb => .inl (List.mem_singleton.mp hb))
  rw [List.mem_singleton.mp hb]
  show s₁.heap.objs.size < (s₁.heap.push _).objs.size
  rw [Heap.size_push]
  exact Nat.lt_succ_self _

def CompK (prog : Program) (w : World) (A : Around) (h₀ : Heap) (L : Addr) (m : PySem.Str → Option Value) (env : Env) (elt : PySem.Expr) (x : PySem.Str) (scope : Scope) (cl : List (PySem.Str × Addr)) (Fin : Shared → List Value → List (Addr × Obj) → Prop) (xv : Value) (s₁ : Shared) : Prop :=
  ∃ n P S news, Src prog w A h₀ L xv n P S s₁ ∧ n ≤ sizeLine ∧ Fr h₀ L s₁.heap m ∧ News h₀ L s₁.heap news ∧ S news ∧
    ∀ s₂ : Shared, (∃ h, s₂ = { s₁ with heap := h }) → CompRest prog w A h₀ L m env elt x scope cl s₂ S P (Fin s₂) n 0 [] news

theorem rest_inv {elt : PySem.Expr} {x : PySem.Str} {scope : Scope} {cl : List (PySem.Str × Addr)} {S : List (Addr × Obj) → Prop} {P : Nat → Value → Prop} {Fin : List Value → List (Addr × Obj) → Prop} {n : Nat} (J : Nat → List Value → List (Addr × Obj) → Prop)
    (step : ∀ i ys news, i < n → ys.length = i → J i ys news → ∀ v I oI C oC D m₂ h tk (E' : Value → Shared → Prop), P i v → NsObj oC m₂ → m₂ x = some v → Fr h₀ L h m → News h₀ L h ((I, oI) :: (C, oC) :: (D, lst ys) :: news) → Off3 I C D news → ((@Ne Nat I C) ∧ (@Ne Nat I D) ∧ (@Ne Nat C D)) →
      wpAny (model prog w) A (eval elt (compEnvC scope cl C env)) (CompEnd h₀ L m { s with heap := h, toks := tk } I oI C oC D (lst ys) S (fun y news' => J (i + 1) (ys ++ [y]) news')) E' { s with heap := h, toks := tk })
    (fin : ∀ ys news, ys.length = n → J n ys news → Fin ys news) :
    ∀ k i ys news, i + k = n → ys.length = i → J i ys news → CompRest prog w A h₀ L m env elt x scope cl s S P Fin k i ys news
  | 0, i, ys, news, hi, hl, j => CompRest.zero (fin ys news (by omega) (by rw [← show i = n by omega]; exact j))
  | k + 1, i, ys, news, hi, hl, j => CompRest.succ fun v I oI C oC D m₂ h tk E' hP hC hx F N off ne =>
      wpAny_mono (step i ys news (by omega) hl j v I oI C oC D m₂ h tk E' hP hC hx F N off ne) (fun y s' ⟨h', tk', news', e, F', N', off', hS', j'⟩ =>
        ⟨h', tk', news', e, F', N', off', hS', rest_inv J step fin k (i + 1) (ys ++ [y]) news' (by omega) (by rw [List.length_append, List.length_singleton, hl]) j'⟩) fun _ _ e => e

/-- an invariant over the number of the turn, what is made and the ledger -/
theorem CompK.of {elt : PySem.Expr} {x : PySem.Str} {scope : Scope} {cl : List (PySem.Str × Addr)} {S : List (Addr × Obj) → Prop} {P : Nat → Value → Prop} {Fin : Shared → List Value → List (Addr × Obj) → Prop} {n : Nat} {xv : Value} (src : Src prog w A h₀ L xv n P S s₁) (hz : n ≤ 1000000) (F : Fr h₀ L s₁.heap m) (N : News h₀ L s₁.heap news) (hS : S news)
    (J : Nat → List Value → List (Addr × Obj) → Prop) (j0 : J 0 [] news)
    (step : ∀ i ys news, i < n → ys.length = i → J i ys news → ∀ v I oI C oC D m₂ h tk (E' : Value → Shared → Prop), P i v → NsObj oC m₂ → m₂ x = some v → Fr h₀ L h m → News h₀ L h ((I, oI) :: (C, oC) :: (D, lst ys) :: news) → Off3 I C D news → ((@Ne Nat I C) ∧ (@Ne Nat I D) ∧ (@Ne Nat C D)) →
      wpAny (model prog w) A (eval elt (compEnvC scope cl C env)) (CompEnd h₀ L m { s₁ with heap := h, toks := tk } I oI C oC D (lst ys) S (fun y news' => J (i + 1) (ys ++ [y]) news')) E' { s₁ with heap := h, toks := tk })
    (fin : ∀ g ys news, ys.length = n → J n ys news → Fin { s₁ with heap := g } ys news) : CompK prog w A h₀ L m env elt x scope cl Fin xv s₁ :=
  ⟨n, P, S, news, src, by rw [sizeLine_eq]; omega, F, N, hS, fun s₂ ⟨g, e⟩ => by
    subst e
    exact rest_inv (s := { s₁ with heap := g }) J (fun i ys news a b c v I oI C oC D m₂ h tk E' => step i ys news a b c v I oI C oC D m₂ h tk E') (fun ys news a b => fin g ys news a b) n 0 [] news (by omega) rfl j0⟩

theorem CompK.turns {elt : PySem.Expr} {x : PySem.Str} {scope : Scope} {cl : List (PySem.Str × Addr)} {S : List (Addr × Obj) → Prop} {P : Nat → Value → Prop} {Fin : Shared → List Value → List (Addr × Obj) → Prop} {n : Nat} {xv : Value} (src : Src prog w A h₀ L xv n P S s₁) (hz : n ≤ sizeLine) (F : Fr h₀ L s₁.heap m) (N : News h₀ L s₁.heap news) (hS : S news)
    (h : ∀ g, CompRest prog w A h₀ L m env elt x scope cl { s₁ with heap := g } S P (Fin { s₁ with heap := g }) n 0 [] news) : CompK prog w A h₀ L m env elt x scope cl Fin xv s₁ :=
  ⟨n, P, S, news, src, hz, F, N, hS, fun s₂ ⟨g, e⟩ => e ▸ h g⟩
theorem ListComp_K {elt iter : PySem.Expr} {x : PySem.Str} {px : Pos} {scope : Scope} {cl : List (PySem.Str × Addr)} {pos : Pos} {Q : Value → Shared → Prop} (F₀ : Fr h₀ L s.heap m)
    (hclos : closureFor scope env = pure cl) (hcell : ∀ y ∈ scope.names, y.2 ≠ .cell) (hkind : scope.kind = .function)
    (hnames : ∀ y ∈ scope.names, y.2 = .local → scope.names.lookup y.1 = some .local) (hx : scope.names.lookup x = some .local)
    (h : wpAny (model prog w) A (eval iter env) (CompK prog w A h₀ L m env elt x scope cl (fun s₂ => FinE h₀ L m s₂ Q)) E s)
    (hs : ∀ x, foldedSetIterable iter env x = pure x := by intro _; rfl) :
    wpAny (model prog w) A (eval (.ListComp elt [⟨.Name x px, iter, [], 0⟩] scope pos) env) Q E s := by
  rw [eval_ListComp]
  refine wpAny_comprehension_free (use := none) rfl hs hclos hkind hnames (wpAny_mono h (fun xv s₁ h₁ => ?_) fun _ _ e => e)
  obtain ⟨n, P, S, news, src, hz, F, N, hS, R⟩ := h₁
  refine src _ _ fun I fp St h₂ W hIo hSt hst hfp up hI _ => ?_
  have hnI : ∀ b o, s₁.heap.get? b = some o → b ≠ I := fun b o e q => by
    have := Heap.lt_size e
    rw [q] at this
    exact absurd (Nat.lt_of_lt_of_le this hI) (Nat.lt_irrefl _)
  have hLI : L ≠ I := fun q => absurd (Nat.lt_of_lt_of_le (q ▸ F.ns.lt : I < s₁.heap.objs.size) hI) (Nat.lt_irrefl _)
  have hI₀ : h₀.get? I = none := by
    cases q : h₀.get? I with
    | none => rfl
    | some o => exact absurd rfl (hnI _ _ (F.keep _ _ q))
  refine block_U W hz hIo hSt hcell hkind hx hst hfp (F.keeps up) (N.grown up) hLI hI₀ (fun p hp => hnI _ _ (N p hp).1) hS (R _ ⟨_, rfl⟩) ?_
  intro D C h tk m' ys news' F' N' o1 hn hC₀ hD₀ hCL hDL hCD offC fin
  refine ⟨m', hn, fun h'' hs'' => fin D h'' tk (F'.change hs'' hCL hC₀) (fun p hp => ?_) o1⟩
  refine ⟨hs''.extBut _ _ ?_ (N' p hp).1, (N' p hp).2⟩
  rcases List.mem_cons.mp hp with rfl | hp
  · exact Ne.symm hCD
  · exact offC p hp

theorem Assign_ListComp_K {elt iter : PySem.Expr} {x y : PySem.Str} {px py : Pos} {scope : Scope} {cl : List (PySem.Str × Addr)} {pos spos : Pos} {Q : Flow → Shared → Prop} (F₀ : Fr h₀ L s.heap m) (hLe : env.locals = L)
    (hsw : swapsWith (.ListComp elt [⟨.Name x px, iter, [], 0⟩] scope pos) (some (.Name y py)) spos.line env = pure true)
    (hclos : closureFor scope env = pure cl) (hcell : ∀ z ∈ scope.names, z.2 ≠ .cell) (hkind : scope.kind = .function)
    (hnames : ∀ z ∈ scope.names, z.2 = .local → scope.names.lookup z.1 = some .local) (hx : scope.names.lookup x = some .local)
    (hy : env.kindOf y = some .local) (hp : (env.scope.kind == .class || (env.scope.kind == .module && env.locals != env.globals)) = false)
    (h : wpAny (model prog w) A (eval iter env) (CompK prog w A h₀ L m env elt x scope cl (fun s₂ => FinA h₀ L m s₂ y Q)) E s)
    (hs : ∀ x, foldedSetIterable iter env x = pure x := by intro _; rfl) :
    wpAny (model prog w) A (exec (.Assign [.Name y py] (.ListComp elt [⟨.Name x px, iter, [], 0⟩] scope pos) spos) env) Q E s := by
  subst hLe
  rw [exec_Assign_Name_used _ _ _ _ hsw]
  refine wpAny_bind (wpAny_standAt (wpAny_bind ?_))
  show wpAny _ A (do let _ ← comprehension (.ListComp elt [⟨.Name x px, iter, [], 0⟩] scope pos) scope env _ (newList []) false (eval iter env) (some (assign (.Name y py) env))) _ _ s
  refine wpAny_bind (wpAny_mono (wpAny_comprehension_free (use := some (assign (.Name y py) env)) (Q := fun _ s' => Q .next s') rfl hs hclos hkind hnames
    (wpAny_mono h (fun xv s₁ h₁ => ?_) fun _ _ e => e)) (fun _ s' hq => wpAny_pure (wpAny_pure hq)) fun _ _ e => e)
  obtain ⟨n, P, S, news, src, hz, F, N, hS, R⟩ := h₁
  refine src _ _ fun I fp St h₂ W hIo hSt hst hfp up hI _ => ?_
  have hnI : ∀ b o, s₁.heap.get? b = some o → b ≠ I := fun b o e q => by
    have := Heap.lt_size e
    rw [q] at this
    exact absurd (Nat.lt_of_lt_of_le this hI) (Nat.lt_irrefl _)
  have hLI : env.locals ≠ I := fun q => absurd (Nat.lt_of_lt_of_le (q ▸ F.ns.lt : I < s₁.heap.objs.size) hI) (Nat.lt_irrefl _)
  have hI₀ : h₀.get? I = none := by
    cases q : h₀.get? I with
    | none => rfl
    | some o => exact absurd rfl (hnI _ _ (F.keep _ _ q))
  refine block_U W hz hIo hSt hcell hkind hx hst hfp (F.keeps up) (N.grown up) hLI hI₀ (fun p hp => hnI _ _ (N p hp).1) hS (R _ ⟨_, rfl⟩) ?_
  intro D C h' tk m' ys news' F' N' o1 hn hC₀ hD₀ hCL hDL hCD offC fin
  show wpAny _ A (assign (.Name y py) env (.ref D)) _ _ _
  refine wpAny_assign_Name (wpAny_storeName_local hy F'.ns (fun h₂ hn₂ hs₂ => ?_) hp)
  have hL₀ : h₀.get? env.locals = none := Heap.get?_none_of_le F'.above
  have F₂ : Fr h₀ env.locals h₂ (fun z => if z = y then some (.ref D) else m z) := ⟨hn₂, fun b o e => hs₂.extBut b o (fun q => by rw [q, hL₀] at e; cases e) (F'.keep b o e), F'.above⟩
  refine ⟨m', hn.sameBut hs₂ hCL, fun h'' hs'' => fin D h'' _ (F₂.change hs'' hCL hC₀) (fun p hp => ?_) o1⟩
  have z : h₂.get? p.1 = some p.2 := hs₂.extBut _ _ (N' p hp).2.1 (N' p hp).1
  refine ⟨hs''.extBut _ _ ?_ z, (N' p hp).2⟩
  rcases List.mem_cons.mp hp with rfl | hp
  · exact Ne.symm hCD
  · exact offC p hp
/-- a loop over any of them: an invariant over the number of the turn, the frame and the ledger -/
theorem loop_K {x : PySem.Str} {body : List Stmt} {xv : Value} {n : Nat} {P : Nat → Value → Prop} {S : List (Addr × Obj) → Prop} {m₀ : PySem.Str → Option Value} {Q : Flow → Shared → Prop} (src : Src prog w A h₀ env.locals xv n P S s) (F : Fr h₀ env.locals s.heap m₀) (N : News h₀ env.locals s.heap news) (hS : S news)
    (J : Nat → (PySem.Str → Option Value) → List (Addr × Obj) → Prop) (hj : J 0 m₀ news)
    (turn : ∀ i v m₁ news₁ h tk own, i < n → P i v → news₁.map (·.1) = news.map (·.1) → OwnOff own (news.map (·.1)) → S news₁ → J i m₁ news₁ → Fr h₀ env.locals h (fun y => if y = x then some v else m₁ y) → News h₀ env.locals h (news₁ ++ own) →
      wpAny (model prog w) A (execs body env) (InvPostN h₀ env.locals (fun m' nx => S nx ∧ J (i + 1) m' nx) own (news.map (·.1)) { s with heap := h, toks := tk } Q) E { s with heap := h, toks := tk })
    (done : ∀ m₁ news₁ h tk, S news₁ → J n m₁ news₁ → Fr h₀ env.locals h m₁ → News h₀ env.locals h news₁ → Q .next { s with heap := h, toks := tk }) :
    wpAny (model prog w) A (pyIter xv) (fun it s₂ => LoopAtV prog w A h₀ env x body Q E it s₂) E s := by
  refine src _ _ fun I fp St h₂ W hIo hSt hst hfp up hI hfS => ?_
  have hnI : ∀ b o, s.heap.get? b = some o → b ≠ I := fun b o e q => by
    have := Heap.lt_size e
    rw [q] at this
    exact absurd (Nat.lt_of_lt_of_le this hI) (Nat.lt_irrefl _)
  have hLI : env.locals ≠ I := fun q => absurd (Nat.lt_of_lt_of_le (q ▸ F.ns.lt : I < s.heap.objs.size) hI) (Nat.lt_irrefl _)
  have hI₀ : h₀.get? I = none := by
    cases q : h₀.get? I with
    | none => rfl
    | some o => exact absurd rfl (hnI _ _ (F.keep _ _ q))
  refine ⟨I, fp, [I], n, P, St, m₀, news, (fun i m nx => nx.map (·.1) = news.map (·.1) ∧ S nx ∧ J i m nx), rfl, W, ?_, ?_, ?_, hst, F.keeps up, N.grown up, ⟨rfl, hS, hj⟩, ?_, ?_⟩
  · intro hm
    rcases hfS _ hm with e | ⟨o, ho⟩ | ⟨o, ho⟩
    · exact hLI e
    · exact absurd (Nat.lt_of_lt_of_le (Heap.lt_size ho) F.above) (Nat.lt_irrefl _)
    · exact (N _ (ho _ hS)).2.1 rfl
  · intro b hb
    rw [List.mem_singleton.mp hb]
    exact hI₀
  · intro p hp hm
    exact hnI _ _ (N p hp).1 (List.mem_singleton.mp hm)
  · rintro i v m₁ news₁ s₁ own ⟨hh', tk', rfl⟩ hin hP ⟨hadr, hS₁, hJ⟩ hoff hown hget hall _ F₁ N₁
    have hsep : OwnOff (own.filter fun p => decide (p.1 = I)) (news.map (·.1)) := by
      intro p hp b hb e
      obtain ⟨q, hq, rfl⟩ := List.mem_map.mp hb
      have h1 : p.1 = I := by simpa using (List.mem_filter.mp hp).2
      exact hnI _ _ (N q hq).1 (e.symm.trans h1)
    have N₂ : News h₀ env.locals hh' (news₁ ++ own.filter fun p => decide (p.1 = I)) := fun p hp => N₁ p ((List.mem_append.mp hp).elim (fun h => List.mem_append.mpr (.inr h)) fun h => List.mem_append.mpr (.inl ((List.mem_filter.mp h).1)))
    refine wpAny_mono (turn i v m₁ news₁ hh' tk' _ hin hP hadr hsep hS₁ hJ F₁ N₂) (fun f s₂ p => ?_) fun _ _ e => e
    have fin : InvEndN h₀ env.locals (fun m' nx => S nx ∧ J (i + 1) m' nx) (own.filter fun p => decide (p.1 = I)) (news.map (·.1)) { s with heap := hh', toks := tk' } s₂ →
        LoopStepU h₀ env.locals [I] own (fun m nx => nx.map (·.1) = news.map (·.1) ∧ S nx ∧ J (i + 1) m nx) { s with heap := hh', toks := tk' } .next s₂ := by
      rintro ⟨h', tk, m', news', nx, e, F', N', hn, ho, ha, hm⟩
      refine ⟨rfl, h', tk, m', nx, e, F', fun p hp => ?_, fun p hp => ?_, ha, hm⟩
      · rcases List.mem_append.mp hp with h | h
        · by_cases hpI : p.1 = I
          · exact N' p (ho p (List.mem_filter.mpr ⟨h, by simpa using hpI⟩))
          · rcases hfS _ (hown p h) with h2 | ⟨o, h2⟩ | ⟨o, h2⟩
            · exact absurd h2 hpI
            · have h3 := (N₁ p (List.mem_append.mpr (.inl h))).2.2
              rw [show h₀.get? p.1 = none from h3] at h2
              cases h2
            · have h3 : hh'.get? p.1 = some p.2 := hget p h
              have h4 : hh'.get? p.1 = some o := (N₁ _ (List.mem_append.mpr (.inr (h2 _ hS₁)))).1
              rw [h3] at h4
              have h5 : p = (p.1, o) := Prod.ext rfl (Option.some.inj h4)
              rw [h5]
              exact N' _ (hn _ (h2 _ hm.1))
        · exact N' p (hn p h)
      · have h1 : p.1 ∈ nx.map (·.1) := List.mem_map.mpr ⟨p, hp, rfl⟩
        rw [ha] at h1
        obtain ⟨q, hq, e⟩ := List.mem_map.mp h1
        intro hm'
        exact hnI _ _ (N q hq).1 (e.trans (List.mem_singleton.mp hm'))
    cases f with
    | ret v => exact .ret p
    | brk => exact .brk p
    | next => exact .next (fin p)
    | cont => exact .cont (fin p)
  · rintro h' tk m' news' F' N' _ ⟨_, hS', hJ⟩
    exact done m' news' h' tk hS' hJ F' N'
end
end Mine
end

-- part LD
section
open PySem PySem.Calls PySem.W PyProof.Rows Builtin Builtin.ObjectAttr PyProof.Rows.LCg
set_option maxRecDepth 100000
namespace Mine
open Head
/-- what stands between the turns of a loop over a source -/
def KstK {σ : Type} (Led : σ → List (Addr × Obj)) (ps : σ → List (PySem.Str × Value)) (x : PySem.Str) (stored : List PySem.Str) (m₀ : PySem.Str → Option Value) (W : Nat → σ → Prop) (i : Nat) (m : PySem.Str → Option Value) (nx : List (Addr × Obj)) : Prop :=
  ∃ c : σ, nx = Led c ∧ (∀ p ∈ ps c, m p.1 = some p.2) ∧ (∀ z, z ≠ x → (∀ p ∈ ps c, z ≠ p.1) → stored.contains z = false → m z = m₀ z) ∧ W i c
section
variable {prog : Program} {w : World} {A : Around} {E : Value → Shared → Prop} {s : Shared} {h₀ : Heap} {env : Env} {x : PySem.Str} {body : List Stmt} {Q : Flow → Shared → Prop}
theorem kst_K {σ : Type} {xv : Value} {n : Nat} {P : Nat → Value → Prop} {S : List (Addr × Obj) → Prop} {m₀ : PySem.Str → Option Value} (src : Src prog w A h₀ env.locals xv n P S s)
    (Led : σ → List (Addr × Obj)) (ps : σ → List (PySem.Str × Value)) (stored : List PySem.Str) (W : Nat → σ → Prop) (c₀ : σ) (F : Fr h₀ env.locals s.heap m₀) (N : News h₀ env.locals s.heap (Led c₀)) (hS : ∀ c, S (Led c)) (hk : ∀ p ∈ ps c₀, m₀ p.1 = some p.2) (hp : W 0 c₀)
    (turn : ∀ (c : σ) i v (u : PySem.Str → Option Value) h tk own, i < n → P i v → OwnOff own ((Led c₀).map (·.1)) → W i c → Fr h₀ env.locals h (fun y => if y = x then some v else kstB (fun z => if stored.contains z then u z else m₀ z) (ps c) y) → News h₀ env.locals h (Led c ++ own) →
      wpAny (model prog w) A (execs body env) (InvPostN h₀ env.locals (fun m' nx => S nx ∧ KstK Led ps x stored m₀ W (i + 1) m' nx) own ((Led c₀).map (·.1)) { s with heap := h, toks := tk } Q) E { s with heap := h, toks := tk })
    (done : ∀ (c : σ) (u : PySem.Str → Option Value) h tk, W n c → Fr h₀ env.locals h (fun y => if y = x then u y else kstB (fun z => if stored.contains z then u z else m₀ z) (ps c) y) → News h₀ env.locals h (Led c) → Q .next { s with heap := h, toks := tk }) :
    wpAny (model prog w) A (pyIter xv) (fun it s₂ => LoopAtV prog w A h₀ env x body Q E it s₂) E s := by
  refine loop_K src F N (hS c₀) (fun i m nx => KstK Led ps x stored m₀ W i m nx) ⟨c₀, rfl, hk, fun _ _ _ _ => rfl, hp⟩ ?_ ?_
  · rintro i v m₁ nx h tk own hi hP _ hoff _ ⟨c, rfl, h1, h2, hp'⟩ F₁ N₁
    exact turn c i v m₁ h tk own hi hP hoff hp' (kst_fr h1 h2 F₁) N₁
  · rintro m₁ nx h tk _ ⟨c, rfl, h1, h2, hp'⟩ F₁ N₁
    exact done c m₁ h tk hp' (kst_frOut h1 h2 F₁) N₁
theorem kstK_end {σ : Type} {S : List (Addr × Obj) → Prop} {m₀ m' : PySem.Str → Option Value} {Led : σ → List (Addr × Obj)} {ps : σ → List (PySem.Str × Value)} {stored : List PySem.Str} {W : Nat → σ → Prop} {i : Nat} {L : Addr} {own news' : List (Addr × Obj)} {adr : List Addr} {s₁ : Shared} {h' : Heap} {tk : Nat} (c : σ)
    (F : Fr h₀ L h' m') (N : News h₀ L h' news') (hn : ∀ p ∈ Led c, p ∈ news') (ho : ∀ p ∈ own, p ∈ news') (ha : (Led c).map (·.1) = adr) (hS : S (Led c)) (hk : ∀ p ∈ ps c, m' p.1 = some p.2) (hr : ∀ z, z ≠ x → (∀ p ∈ ps c, z ≠ p.1) → stored.contains z = false → m' z = m₀ z) (hp : W i c) :
    InvEndN h₀ L (fun m' nx => S nx ∧ KstK Led ps x stored m₀ W i m' nx) own adr s₁ { s₁ with heap := h', toks := tk } :=
  InvEndN.intro F N ⟨hS, c, rfl, hk, hr, hp⟩ ha hn ho
end
end Mine
end

-- part LE
section
open PySem PySem.Calls PySem.W PyProof.Rows Builtin Builtin.ObjectAttr PyProof.Rows.LCg
set_option maxRecDepth 100000
namespace Mine
open Head
/-- a turn's end where the objects between the turns may lie elsewhere than before -/
def EndD (h₀ : Heap) (L : Addr) (J : (PySem.Str → Option Value) → List (Addr × Obj) → Prop) (I : Addr) (oI : Obj) (s₁ s₂ : Shared) : Prop :=
  ∃ h' tk m' news' nx, s₂ = { s₁ with heap := h', toks := tk } ∧ Fr h₀ L h' m' ∧ News h₀ L h' news' ∧ (∀ p ∈ nx, p ∈ news') ∧ (I, oI) ∈ news' ∧ (∀ p ∈ nx, p.1 ≠ I) ∧ J m' nx
def PostD (h₀ : Heap) (L : Addr) (J : (PySem.Str → Option Value) → List (Addr × Obj) → Prop) (I : Addr) (oI : Obj) (s₁ : Shared) (Q : Flow → Shared → Prop) (f : Flow) (s₂ : Shared) : Prop :=
  match f with
  | .ret v => Q (.ret v) s₂
  | .brk => Q .next s₂
  | _ => EndD h₀ L J I oI s₁ s₂
theorem allNe_led {a : Addr} : ∀ {l : List (Addr × Obj)}, (∀ p ∈ l, p.1 ≠ a) → AllNe a l
  | [], _ => trivial
  | p :: _, h => ⟨fun e => h p (.head _) e, allNe_led fun q hq => h q (.tail _ hq)⟩
section
variable {prog : Program} {w : World} {A : Around} {E : Value → Shared → Prop} {s : Shared} {h₀ : Heap} {env : Env} {news : List (Addr × Obj)} {x : PySem.Str} {body : List Stmt}
theorem loop_KD {xv : Value} {n : Nat} {P : Nat → Value → Prop} {S : List (Addr × Obj) → Prop} {m₀ : PySem.Str → Option Value} {Q : Flow → Shared → Prop} (src : Src prog w A h₀ env.locals xv n P S s) (F : Fr h₀ env.locals s.heap m₀) (N : News h₀ env.locals s.heap news) (hS : S news)
    (J : Nat → (PySem.Str → Option Value) → List (Addr × Obj) → Prop) (hj : J 0 m₀ news)
    (turn : ∀ i v m₁ news₁ h tk I oI, i < n → P i v → (∀ p ∈ news₁, p.1 ≠ I) → S news₁ → J i m₁ news₁ → Fr h₀ env.locals h (fun y => if y = x then some v else m₁ y) → News h₀ env.locals h ((I, oI) :: news₁) →
      wpAny (model prog w) A (execs body env) (PostD h₀ env.locals (fun m' nx => S nx ∧ J (i + 1) m' nx) I oI { s with heap := h, toks := tk } Q) E { s with heap := h, toks := tk })
    (done : ∀ m₁ news₁ h tk, S news₁ → J n m₁ news₁ → Fr h₀ env.locals h m₁ → News h₀ env.locals h news₁ → Q .next { s with heap := h, toks := tk }) :
    wpAny (model prog w) A (pyIter xv) (fun it s₂ => LoopAtV prog w A h₀ env x body Q E it s₂) E s := by
  refine src _ _ fun I fp St h₂ W hIo hSt hst hfp up hI hfS => ?_
  have hnI : ∀ b o, s.heap.get? b = some o → b ≠ I := fun b o e q => by
    have := Heap.lt_size e
    rw [q] at this
    exact absurd (Nat.lt_of_lt_of_le this hI) (Nat.lt_irrefl _)
  have hLI : env.locals ≠ I := fun q => absurd (Nat.lt_of_lt_of_le (q ▸ F.ns.lt : I < s.heap.objs.size) hI) (Nat.lt_irrefl _)
  have hI₀ : h₀.get? I = none := by
    cases q : h₀.get? I with
    | none => rfl
    | some o => exact absurd rfl (hnI _ _ (F.keep _ _ q))
  refine ⟨I, fp, [I], n, P, St, m₀, news, (fun i m nx => S nx ∧ J i m nx), rfl, W, ?_, ?_, ?_, hst, F.keeps up, N.grown up, ⟨hS, hj⟩, ?_, ?_⟩
  · intro hm
    rcases hfS _ hm with e | ⟨o, ho⟩ | ⟨o, ho⟩
    · exact hLI e
    · exact absurd (Nat.lt_of_lt_of_le (Heap.lt_size ho) F.above) (Nat.lt_irrefl _)
    · exact (N _ (ho _ hS)).2.1 rfl
  · intro b hb
    rw [List.mem_singleton.mp hb]
    exact hI₀
  · intro p hp hm
    exact hnI _ _ (N p hp).1 (List.mem_singleton.mp hm)
  · rintro i v m₁ news₁ s₁ own ⟨hh', tk', rfl⟩ hin hP ⟨hS₁, hJ⟩ hoff hown hget hall hst₁ F₁ N₁
    obtain ⟨oI, hoI⟩ := hIo _ _ hst₁
    have hIown : (I, oI) ∈ own := hall I (W.sub I (List.mem_singleton.mpr rfl)) hI₀ oI hoI
    have N₂ : News h₀ env.locals hh' ((I, oI) :: news₁) := fun p hp => N₁ p ((List.mem_cons.mp hp).elim (fun h => List.mem_append.mpr (.inl (h ▸ hIown))) fun h => List.mem_append.mpr (.inr h))
    refine wpAny_mono (turn i v m₁ news₁ hh' tk' I oI hin hP (fun p hp e => hoff p hp (List.mem_singleton.mpr e)) hS₁ hJ F₁ N₂) (fun f s₂ p => ?_) fun _ _ e => e
    have fin : EndD h₀ env.locals (fun m' nx => S nx ∧ J (i + 1) m' nx) I oI { s with heap := hh', toks := tk' } s₂ →
        LoopStepU h₀ env.locals [I] own (fun m nx => S nx ∧ J (i + 1) m nx) { s with heap := hh', toks := tk' } .next s₂ := by
      rintro ⟨h', tk, m', news', nx, e, F', N', hn, ho, ha, hm⟩
      refine ⟨rfl, h', tk, m', nx, e, F', fun p hp => ?_, fun p hp hm' => ha p hp (List.mem_singleton.mp hm'), hm⟩
      rcases List.mem_append.mp hp with h | h
      · have h3 : hh'.get? p.1 = some p.2 := hget p h
        rcases hfS _ (hown p h) with h2 | ⟨o, h2⟩ | ⟨o, h2⟩
        · rw [h2, hoI] at h3
          have h5 : p = (I, oI) := Prod.ext h2 (Option.some.inj h3).symm
          rw [h5]
          exact N' _ ho
        · have h3 : h₀.get? p.1 = none := (N₁ p (List.mem_append.mpr (.inl h))).2.2
          rw [h3] at h2
          cases h2
        · have h4 : hh'.get? p.1 = some o := (N₁ _ (List.mem_append.mpr (.inr (h2 _ hS₁)))).1
          rw [h3] at h4
          have h5 : p = (p.1, o) := Prod.ext rfl (Option.some.inj h4)
          rw [h5]
          exact N' _ (hn _ (h2 _ hm.1))
      · exact N' p (hn p h)
    cases f with
    | ret v => exact .ret p
    | brk => exact .brk p
    | next => exact .next (fin p)
    | cont => exact .cont (fin p)
  · rintro h' tk m' news' F' N' _ ⟨hS', hJ⟩
    exact done m' news' h' tk hS' hJ F' N'
theorem kst_KD {σ : Type} {xv : Value} {n : Nat} {P : Nat → Value → Prop} {S : List (Addr × Obj) → Prop} {m₀ : PySem.Str → Option Value} {Q : Flow → Shared → Prop} (src : Src prog w A h₀ env.locals xv n P S s)
    (Led : σ → List (Addr × Obj)) (ps : σ → List (PySem.Str × Value)) (stored : List PySem.Str) (W : Nat → σ → Prop) (c₀ : σ) (F : Fr h₀ env.locals s.heap m₀) (N : News h₀ env.locals s.heap (Led c₀)) (hS : ∀ c, S (Led c)) (hk : ∀ p ∈ ps c₀, m₀ p.1 = some p.2) (hp : W 0 c₀)
    (turn : ∀ (c : σ) i v (u : PySem.Str → Option Value) h tk I oI, i < n → P i v → (∀ p ∈ Led c, p.1 ≠ I) → W i c → Fr h₀ env.locals h (fun y => if y = x then some v else kstB (fun z => if stored.contains z then u z else m₀ z) (ps c) y) → News h₀ env.locals h ((I, oI) :: Led c) →
      wpAny (model prog w) A (execs body env) (PostD h₀ env.locals (fun m' nx => S nx ∧ KstK Led ps x stored m₀ W (i + 1) m' nx) I oI { s with heap := h, toks := tk } Q) E { s with heap := h, toks := tk })
    (done : ∀ (c : σ) (u : PySem.Str → Option Value) h tk, W n c → Fr h₀ env.locals h (fun y => if y = x then u y else kstB (fun z => if stored.contains z then u z else m₀ z) (ps c) y) → News h₀ env.locals h (Led c) → Q .next { s with heap := h, toks := tk }) :
    wpAny (model prog w) A (pyIter xv) (fun it s₂ => LoopAtV prog w A h₀ env x body Q E it s₂) E s := by
  refine loop_KD src F N (hS c₀) (fun i m nx => KstK Led ps x stored m₀ W i m nx) ⟨c₀, rfl, hk, fun _ _ _ _ => rfl, hp⟩ ?_ ?_
  · rintro i v m₁ nx h tk I oI hi hP ha _ ⟨c, rfl, h1, h2, hp'⟩ F₁ N₁
    exact turn c i v m₁ h tk I oI hi hP ha hp' (kst_fr h1 h2 F₁) N₁
  · rintro m₁ nx h tk _ ⟨c, rfl, h1, h2, hp'⟩ F₁ N₁
    exact done c m₁ h tk hp' (kst_frOut h1 h2 F₁) N₁
theorem kstKD_end {σ : Type} {S : List (Addr × Obj) → Prop} {m₀ m' : PySem.Str → Option Value} {Led : σ → List (Addr × Obj)} {ps : σ → List (PySem.Str × Value)} {stored : List PySem.Str} {W : Nat → σ → Prop} {i : Nat} {L I : Addr} {oI : Obj} {news' : List (Addr × Obj)} {s₁ : Shared} {h' : Heap} {tk : Nat} (c : σ)
    (F : Fr h₀ L h' m') (N : News h₀ L h' news') (hn : ∀ p ∈ Led c, p ∈ news') (ho : (I, oI) ∈ news') (ha : ∀ p ∈ Led c, p.1 ≠ I) (hS : S (Led c)) (hk : ∀ p ∈ ps c, m' p.1 = some p.2) (hr : ∀ z, z ≠ x → (∀ p ∈ ps c, z ≠ p.1) → stored.contains z = false → m' z = m₀ z) (hp : W i c) :
    EndD h₀ L (fun m' nx => S nx ∧ KstK Led ps x stored m₀ W i m' nx) I oI s₁ { s₁ with heap := h', toks := tk } :=
  ⟨h', tk, m', news', Led c, rfl, F, N, hn, ho, ha, hS, c, rfl, hk, hr, hp⟩
end
end Mine
end

-- part BJ
section
open PySem PySem.Calls PySem.W PyProof.Rows Builtin Builtin.ObjectAttr
set_option maxRecDepth 100000
namespace Mine
open Head
def bv (ps : List (List UInt8 × Tok)) : List Value := ps.map fun p => .bytes p.1.toArray p.2
theorem slot_bytes_join : Slot "bytes" "join" "bytes.join" :=
  .of (owner := "bytes") (n := "join") (by rw [typeLookup_type, builtinLookup_eq_fast]; kernel_rfl) (by decide +kernel) (by decide +kernel) (by decide +kernel)
    (by first | exact .inl (by decide +kernel) | exact .inr (by decide +kernel)) (by rw [isSubtype_type]; kernel_rfl)
theorem type_bytes_join : typeOf (.builtin "bytes.join") = pure (.type "method_descriptor") := by show builtinType _ = _; rw [builtinType_eq_fast]; kernel_rfl
theorem entry_bytes_join : entryFor table "bytes.join" = some Builtin.«bytes.join» := entryFor_of_tree (by kernel_rfl)
theorem args_bytes_join_2 (a b : Value) : argsOk "bytes.join" ⟨[a, b], []⟩ := by
  unfold argsOk; rw [signature?_of (id := "bytes.join") (n := ['n', 'i', 'o', 'j']) (o := ['s', 'e', 't', 'y', 'b']) (by kernel_rfl) FB.owner_bytes]; kernel_rfl
theorem method_join {prog : Program} {w : World} {A : Around} {E : Value → Shared → Prop} {s : Shared} {b : Array UInt8} {t : Tok} {pl : Sem Bool} {Q : Value × List Value → Shared → Prop} (h : Q (.builtin "bytes.join", [.bytes b t]) s) : wpAny (model prog w) A (getMethod (.bytes b t) "join" pl) Q E s := by
  with_reducible exact KBd.method_of (.bytes b t) (typeIs_bytes _ _ _) slot_bytes_join type_bytes_join KBd.noRef h
theorem take_eq {id : String} {b : Array UInt8} {t : Tok} : Bytes.takeBuffer? id (.bytes b t) 0 = pure (some (b, none)) := by
  unfold Bytes.takeBuffer?
  rw [KBy.special_eq KBy.look_buffer, KBy.own_buffer]
  have e : (Bytes.buffer? id (.bytes b t) ((0 : Int) == Bytes.fullReadOnly)) = pure (some b) := by
    show Bytes.buffer? id (.bytes b t) false = _
    exact KBy.buffer_eq
  rw [e]
  rfl
theorem takeQ_eq {id : String} {b : Array UInt8} {t : Tok} : Bytes.takeBufferQuiet? id (.bytes b t) 0 = pure (some (b, none)) := by
  unfold Bytes.takeBufferQuiet?
  rw [take_eq]
  rfl
theorem joined_nil (ps : List (List UInt8)) : Bytes.joined #[] (ps.map List.toArray) = ps.flatten.toArray := by
  have key : ∀ (ps : List (List UInt8)) (k : Nat) (acc : List UInt8), List.foldl (fun (out : Array UInt8) (x : Array UInt8 × Nat) => out ++ x.1) acc.toArray ((ps.map List.toArray).zipIdx k) = (acc ++ ps.flatten).toArray := by
    intro ps
    induction ps with
    | nil => intro k acc; simp
    | cons p r ih =>
      intro k acc
      simp only [List.map_cons, List.zipIdx_cons, List.foldl_cons, List.append_toArray, List.flatten_cons]
      rw [ih (k + 1) (acc ++ p), List.append_assoc]
  have := key ps 0 []
  unfold Bytes.joined
  simp only [Array.append_empty, ite_self]
  exact this
theorem bv_any (ps : List (List UInt8 × Tok)) : ((ps.map fun p => ((Value.bytes p.1.toArray p.2, none) : Value × Option Value)).any fun x => x.1.onHeap) = false := by
  rw [List.any_map]
  exact List.any_eq_false.mpr fun p _ => by simp [Value.onHeap]
theorem bv_get {ps : List (List UInt8 × Tok)} {i : Nat} (h : i < ps.length) : (bv ps).toArray.getD i .none = .bytes (ps[i].1).toArray ps[i].2 := by
  simp [bv, Array.getD, h]
theorem take_step1 {ps : List (List UInt8 × Tok)} {i : Nat} (hi : i < ps.length) : ((List.take (i + 1) ps).map fun p => p.1.toArray).toArray = (((List.take i ps).map fun p => p.1.toArray).toArray).push (ps[i].1.toArray) := by
  rw [List.take_add_one, List.getElem?_eq_getElem hi, Option.toList_some, List.map_append, List.map_cons, List.map_nil, List.push_toArray]
theorem take_step2 {ps : List (List UInt8 × Tok)} {i : Nat} (hi : i < ps.length) : ((List.take (i + 1) ps).map fun p => ((Value.bytes p.1.toArray p.2, none) : Value × Option Value)) = ((List.take i ps).map fun p => ((Value.bytes p.1.toArray p.2, none) : Value × Option Value)) ++ [(Value.bytes ps[i].1.toArray ps[i].2, none)] := by
  rw [List.take_add_one, List.getElem?_eq_getElem hi, Option.toList_some, List.map_append, List.map_cons, List.map_nil]
theorem sum_sizes (ps : List (List UInt8 × Tok)) : Array.foldl (fun x1 (x2 : Array UInt8) => x1 + x2.size) ((#[] : Array UInt8).size * ((List.map (fun (p : List UInt8 × Tok) => p.1.toArray) ps).toArray.size - 1)) (List.map (fun (p : List UInt8 × Tok) => p.1.toArray) ps).toArray = (ps.map (·.1)).flatten.length := by
  have key : ∀ (ps : List (List UInt8 × Tok)) (n : Nat), List.foldl (fun x1 (x2 : Array UInt8) => x1 + x2.size) n (List.map (fun (p : List UInt8 × Tok) => p.1.toArray) ps) = n + (ps.map (·.1)).flatten.length := by
    intro ps
    induction ps with
    | nil => intro n; simp
    | cons p r ih =>
      intro n
      rw [List.map_cons, List.foldl_cons, ih, List.map_cons, List.flatten_cons, List.length_append, List.size_toArray]
      omega
  have e : ((#[] : Array UInt8).size * ((List.map (fun (p : List UInt8 × Tok) => p.1.toArray) ps).toArray.size - 1)) = 0 := Nat.zero_mul _
  rw [e, List.foldl_toArray, key, Nat.zero_add]
theorem joined_pairs (ps : List (List UInt8 × Tok)) : Bytes.joined #[] (ps.map fun p => p.1.toArray) = (ps.map (·.1)).flatten.toArray := by
  rw [← joined_nil, List.map_map]
  rfl
section
variable {M : Model} {A : Around} {E : Value → Shared → Prop} {s : Shared}
theorem letGo_bytes {Q : Unit → Shared → Prop} : ∀ (taken : List (Value × Option Value)) (keep : List Value), (∀ p ∈ taken, p.2 = none) → Q () s → wpAny M A (Bytes.joinLetGo taken keep) Q E s
  | [], _, _, h => wpAny_pure h
  | (x, w) :: rest, keep, hw, h => by
    have e : w = none := hw (x, w) (.head _)
    subst e
    unfold Bytes.joinLetGo
    exact wpAny_bind (wpAny_letGo (letGo_bytes rest keep (fun p hp => hw p (.tail _ hp)) h))
theorem join0 {D : Addr} {n : Nat} {t : Tok} {ps : List (List UInt8 × Tok)} {Q : Value → Shared → Prop} (hD : s.heap.get? D = some (listOf (bv ps).toArray n)) (hz : (ps.map (·.1)).flatten.length ≤ 16777216) (hl : ps.length ≤ 16777216)
    (h : ∀ t' k, Q (.bytes (ps.map (·.1)).flatten.toArray t') { s with toks := k }) :
    wpAny M A (Builtin.«bytes.join» ⟨[.bytes #[] t, .ref D], []⟩) (fun fin s' => ∃ v, fin = .done (.ret v) ∧ Q v s') E s := by
  unfold Builtin.«bytes.join» Bytes.joinM
  have hT : s.TypeIs (.ref D) "list" := ⟨_, hD, rfl⟩
  refine wpAny_bind (wpAny_of_eq (a := ((.bytes #[] t, .ref D) : Value × Value)) (by kernel_rfl) ?_)
  dsimp only
  refine wpAny_bind ?_
  show wpAny _ _ (Bytes.joinItems (Value.ref D)) _ _ _
  unfold Bytes.joinItems
  refine wpAny_bind (wpAny_typeOf hT ?_)
  show wpAny _ _ (pure (Value.ref D)) _ _ _
  refine wpAny_pure ?_
  refine wpAny_bind ?_
  have seq : ∀ (Q' : Option (Array Value) → Shared → Prop), Q' (some (bv ps).toArray) s → wpAny M A (seqItems? (.ref D)) Q' E s := fun _ hq => by
    unfold seqItems?
    exact wpAny_bind (wpAny_load hD (wpAny_pure hq))
  refine seq _ ?_
  (try dsimp only)
  show wpAny M A (match (bv ps).toArray with | #[x] => _ | _ => _) _ _ _
  have loop : ∀ (Q' : Array (Array UInt8) × List (Value × Option Value) → Shared → Prop) (f : Nat → Array (Array UInt8) × List (Value × Option Value) → Sem (ForInStep (Array (Array UInt8) × List (Value × Option Value)))),
      Q' (((ps.map fun p => p.1.toArray)).toArray, ps.map fun p => (.bytes p.1.toArray p.2, none)) s →
      (∀ i, i < ps.length → ∀ Q'' : ForInStep (Array (Array UInt8) × List (Value × Option Value)) → Shared → Prop, Q'' (.yield (((ps.take (i + 1)).map fun p => p.1.toArray).toArray, (ps.take (i + 1)).map fun p => (.bytes p.1.toArray p.2, none))) s → wpAny M A (f i (((ps.take i).map fun p => p.1.toArray).toArray, (ps.take i).map fun p => (.bytes p.1.toArray p.2, none))) Q'' E s) →
      wpAny M A (forIn [:(bv ps).toArray.size] (#[], []) f) Q' E s := by
    intro Q' f hq turn
    rw [Std.Legacy.Range.forIn_eq_forIn_range']
    refine wpAny_forIn_list f (fun rest b s' => ∃ i, i + rest.length = ps.length ∧ rest = List.range' i rest.length ∧ b = (((ps.take i).map fun p => p.1.toArray).toArray, (ps.take i).map fun p => (.bytes p.1.toArray p.2, none)) ∧ s' = s) Q' ?_ ?_ _ _ ?_
    · rintro x rest b s' ⟨i, hi, hr, rfl, rfl⟩
      rw [List.length_cons, List.range'_succ] at hr
      obtain ⟨e1, e2⟩ := List.cons.inj hr
      subst e1
      rw [List.length_cons] at hi
      exact turn x (by omega) _ ⟨x + 1, by omega, e2, rfl, rfl⟩
    · rintro b s' ⟨i, hi, _, rfl, rfl⟩
      rw [List.length_nil] at hi
      rw [show i = ps.length by omega, List.take_length]
      exact hq
    · refine ⟨0, ?_, ?_, by simp, rfl⟩
      · simp [Std.Legacy.Range.size, bv]
      · simp [Std.Legacy.Range.size, bv]
  have rest : ∀ (f : Nat → Array (Array UInt8) × List (Value × Option Value) → Sem (ForInStep (Array (Array UInt8) × List (Value × Option Value)))) (k : Array (Array UInt8) × List (Value × Option Value) → Sem Fin) (Q' : Fin → Shared → Prop),
      (∀ i, i < ps.length → ∀ Q'' : ForInStep (Array (Array UInt8) × List (Value × Option Value)) → Shared → Prop, Q'' (.yield (((ps.take (i + 1)).map fun p => p.1.toArray).toArray, (ps.take (i + 1)).map fun p => (.bytes p.1.toArray p.2, none))) s → wpAny M A (f i (((ps.take i).map fun p => p.1.toArray).toArray, (ps.take i).map fun p => (.bytes p.1.toArray p.2, none))) Q'' E s) →
      wpAny M A (k (((ps.map fun p => p.1.toArray)).toArray, ps.map fun p => (.bytes p.1.toArray p.2, none))) Q' E s → wpAny M A (forIn [:(bv ps).toArray.size] (#[], []) f >>= k) Q' E s := fun f k Q' hf hk => wpAny_bind (loop _ f hk hf)
  rcases ps with _ | ⟨p, _ | ⟨q, r⟩⟩
  · show wpAny M A (forIn _ _ _ >>= _) _ _ _
    refine rest _ _ _ ?_ ?_
    · intro i hi Q'' hq
      refine wpAny_bind (seq _ ?_)
      dsimp only
      rw [if_neg (by rw [bv_any]; decide), bv_get hi]
      refine wpAny_bind (wpAny_holding (wpAny_of_eq takeQ_eq ?_))
      dsimp only
      refine wpAny_bind (seq _ ?_)
      dsimp only
      rw [if_neg (by simp)]
      refine wpAny_pure ?_
      rw [take_step1 hi, take_step2 hi] at hq
      exact hq
    · refine wpAny_bind (wpAny_of_eq (a := (#[] : Array UInt8)) rfl ?_)
      dsimp only
      rw [if_neg (by rw [sum_sizes]; exact Bool.eq_false_iff.mp (KBy.tooLong_not hz))]
      refine wpAny_bind ?_
      rw [joined_pairs]
      refine wpAny_mkBytes ?_ (by rw [sizeLine_eq, List.size_toArray]; exact hz)
      refine wpAny_bind (wpAny_holding (wpAny_point (wpAny_bind (letGo_bytes _ _ (fun p hp => ?_) (wpAny_pure ⟨_, rfl, h _ _⟩)))))
      obtain ⟨_, _, rfl⟩ := List.mem_map.mp hp
      rfl
  · show wpAny M A (typeOf (Value.bytes p.1.toArray p.2) >>= _) _ _ _
    refine wpAny_bind (wpAny_typeOf (typeIs_bytes _ _ _) ?_)
    refine wpAny_bind (wpAny_rule (wpAny_pure ⟨_, rfl, ?_⟩))
    have := h p.2 s.toks
    simp only [List.map_cons, List.map_nil, List.flatten_cons, List.flatten_nil, List.append_nil] at this
    exact this
  · show wpAny M A (forIn _ _ _ >>= _) _ _ _
    refine rest _ _ _ ?_ ?_
    · intro i hi Q'' hq
      refine wpAny_bind (seq _ ?_)
      dsimp only
      rw [if_neg (by rw [bv_any]; decide), bv_get hi]
      refine wpAny_bind (wpAny_holding (wpAny_of_eq takeQ_eq ?_))
      dsimp only
      refine wpAny_bind (seq _ ?_)
      dsimp only
      rw [if_neg (by simp)]
      refine wpAny_pure ?_
      rw [take_step1 hi, take_step2 hi] at hq
      exact hq
    · refine wpAny_bind (wpAny_of_eq (a := (#[] : Array UInt8)) rfl ?_)
      dsimp only
      rw [if_neg (by rw [sum_sizes]; exact Bool.eq_false_iff.mp (KBy.tooLong_not hz))]
      refine wpAny_bind ?_
      rw [joined_pairs]
      refine wpAny_mkBytes ?_ (by rw [sizeLine_eq, List.size_toArray]; exact hz)
      refine wpAny_bind (wpAny_holding (wpAny_point (wpAny_bind (letGo_bytes _ _ (fun p hp => ?_) (wpAny_pure ⟨_, rfl, h _ _⟩)))))
      obtain ⟨_, _, rfl⟩ := List.mem_map.mp hp
      rfl
end
section
variable {prog : Program} {w : World} {A : Around} {E : Value → Shared → Prop} {s : Shared} {h₀ : Heap} {L : Addr} {news : List (Addr × Obj)}
theorem call_join {D : Addr} {n : Nat} {t : Tok} {ps : List (List UInt8 × Tok)} {Q : Value → Shared → Prop} (N : News h₀ L s.heap news) (hD : (D, listOf (bv ps).toArray n) ∈ news) (hz : (ps.map (·.1)).flatten.length ≤ 16777216) (hl : ps.length ≤ 16777216)
    (h : ∀ t' k, Q (.bytes (ps.map (·.1)).flatten.toArray t') { s with toks := k }) : wpAny (model prog w) A (call (.builtin "bytes.join") [.bytes #[] t, .ref D]) Q E s :=
  wpAny_call_entry slot_bytes_join (typeIs_bytes _ _ _) entry_bytes_join (join0 (N _ hD).1 hz hl h) (args_bytes_join_2 _ _)
end
end Mine
end

section
open PySem PySem.Calls PySem.W PyProof.Rows Builtin Builtin.ObjectAttr PyProof.Rows.LCg
set_option maxRecDepth 100000
namespace Mine
open Head
local macro_rules | `(tactic| walk_at $s:str) => `(tactic| k_extra $s)
local macro_rules | `(tactic| k_room) => `(tactic| ktr_room)
local macro_rules | `(tactic| ktr_enter) => `(tactic| k_extra "ktr_enter")
local macro_rules | `(tactic| kba_size) => `(tactic| k_extra "kba_size")
local macro_rules | `(tactic| lcg_src) => `(tactic| k_mem)
local macro_rules | `(tactic| lcg_src) => `(tactic| exact trivial)
section
local macro_rules | `(tactic| k_ne) => `(tactic| k_extra "k_ne")
local macro_rules | `(tactic| k_lt $_h:ident) => `(tactic| skip)

-- part K1
section
open PySem PySem.Calls PySem.W PyProof.Rows Builtin Builtin.ObjectAttr
set_option maxRecDepth 100000
theorem passBL (self : Value) : refuseLoop self "__setattr__" [.ref 57, .ref 32, .type "Exception", .type "BaseException", .type "object"] = pure () := by
  rw [refuseLoop_ref, refuseLoop_ref]
  exact PySem.F.store_Exception.passes self
def figZ (n : Int) : Option Int := if 48 ≤ n ∧ n ≤ 57 then some (n - 48) else if 97 ≤ n ∧ n ≤ 102 then some (n - 87) else if 65 ≤ n ∧ n ≤ 70 then some (n - 55) else none

set_option maxHeartbeats 8000000 in
theorem wf (w : World) (mean : ExcName → Option Value) (mg mb : Str → Option Value) (n : Int) (t : Tok) :
    Pure w mean mg mb 83 6 64 [.int n t] (fun _ v _ => ∃ k tk, v = .int k tk ∧ figZ n = some k) (fun _ => figZ n = none) := by
  k_with_none
  k_with "k_ne" => (refine neN ?_; (try dsimp only); first | with_reducible assumption | (with_reducible refine Ne.symm ?_; with_reducible assumption) | (with_reducible refine' ne_lt ?z1q1 ?z1q2; (case z1q1 => with_reducible assumption); (case z1q2 => (with_reducible ((repeat (first | exact List.mem_cons_self | refine List.mem_cons_of_mem _ ?_)); done)))) | (with_reducible refine' ne_gt ?z1q1 ?z1q2; (case z1q1 => with_reducible assumption); (case z1q2 => (with_reducible ((repeat (first | exact List.mem_cons_self | refine List.mem_cons_of_mem _ ?_)); done)))) | (with_reducible refine' ne_of ?z1q1 ?z1q2; (case z1q1 => with_reducible assumption); (case z1q2 => (with_reducible ((repeat (first | exact List.mem_cons_self | refine List.mem_cons_of_mem _ ?_)); done)))) | (with_reducible refine' ne_fo ?z1q1 ?z1q2; (case z1q1 => with_reducible assumption); (case z1q2 => (with_reducible ((repeat (first | exact List.mem_cons_self | refine List.mem_cons_of_mem _ ?_)); done)))) | (with_reducible refine' off_I ?z1q1 ?z1q2; (case z1q1 => with_reducible assumption); (case z1q2 => (with_reducible ((repeat (first | exact List.mem_cons_self | refine List.mem_cons_of_mem _ ?_)); done)))) | (with_reducible refine' off_C ?z1q1 ?z1q2; (case z1q1 => with_reducible assumption); (case z1q2 => (with_reducible ((repeat (first | exact List.mem_cons_self | refine List.mem_cons_of_mem _ ?_)); done)))) | (with_reducible refine' off_D ?z1q1 ?z1q2; (case z1q1 => with_reducible assumption); (case z1q2 => (with_reducible ((repeat (first | exact List.mem_cons_self | refine List.mem_cons_of_mem _ ?_)); done)))) | (with_reducible refine' I_off ?z1q1 ?z1q2; (case z1q1 => with_reducible assumption); (case z1q2 => (with_reducible ((repeat (first | exact List.mem_cons_self | refine List.mem_cons_of_mem _ ?_)); done)))) | (with_reducible refine' C_off ?z1q1 ?z1q2; (case z1q1 => with_reducible assumption); (case z1q2 => (with_reducible ((repeat (first | exact List.mem_cons_self | refine List.mem_cons_of_mem _ ?_)); done)))) | (with_reducible refine' D_off ?z1q1 ?z1q2; (case z1q1 => with_reducible assumption); (case z1q2 => (with_reducible ((repeat (first | exact List.mem_cons_self | refine List.mem_cons_of_mem _ ?_)); done)))) | (first | exact And.left (by with_reducible assumption) | exact And.left (And.right (by with_reducible assumption)) | exact And.right (And.right (by with_reducible assumption)) | exact And.right (by with_reducible assumption) | exact And.left (And.right (And.right (by with_reducible assumption))) | exact And.left (And.right (And.right (And.right (by with_reducible assumption)))) | exact And.right (And.right (And.right (And.right (by with_reducible assumption)))) | exact And.right (And.right (And.right (by with_reducible assumption))) | exact And.left (And.left (by with_reducible assumption)) | exact And.left (And.right (And.left (by with_reducible assumption))) | exact And.right (And.right (And.left (by with_reducible assumption)))) | (with_reducible refine Ne.symm ?_; first | exact And.left (by with_reducible assumption) | exact And.left (And.right (by with_reducible assumption)) | exact And.right (And.right (by with_reducible assumption)) | exact And.right (by with_reducible assumption) | exact And.left (And.right (And.right (by with_reducible assumption))) | exact And.left (And.right (And.right (And.right (by with_reducible assumption)))) | exact And.right (And.right (And.right (And.right (by with_reducible assumption)))) | exact And.right (And.right (And.right (by with_reducible assumption))) | exact And.left (And.left (by with_reducible assumption)) | exact And.left (And.right (And.left (by with_reducible assumption))) | exact And.right (And.right (And.left (by with_reducible assumption)))) | omega)
  k_with "ktr_enter" => (refine' enterP ?z2k1 ?z2k2 ?z2k3 ?z2k5 ?z2kA ?z2kF ?z2kK ?z2k6 ?z2k7 ?z2k8 ?z2k9 ?z2kB ?_ ?z2c2 ?z2c3 ?z2c4 ?z2c5; (case z2kA => exact rfl); (case z2kF => exact rfl); (case z2kK => assumption); (case z2k1 => k_asm); (case z2k2 => k_asm); (case z2k3 => k_asm); (case z2k5 => k_asm); (case z2k6 => k_is); (case z2k7 => k_is); (case z2k8 => ktr_room); (case z2k9 => first | exact BindsTo.of_eq rfl | exact binds_K (by k_in) rfl (by k_is) rfl rfl rfl); (case z2c5 => decide); (case z2kB => exact locs rfl); (case z2c2 => exact rfl); (case z2c3 => exact rfl); (case z2c4 => exact rfl); k_whole; intro L' h' F' N' B' X' T'; (try dsimp only); (try k_fold))
  k_with "exec Raise some none" => (k_here; (with_reducible show wpAny _ _ (exec (Stmt.Raise (some (Expr.Call (Expr.Name ("BadLine" : Str) _) _ _ _)) none _) _) _ _ _); refine raise_own_init (C := 57) rfl ?_)
  k_with "call ref" => (k_here; (with_reducible show wpAny _ _ (call (Value.ref 57) _) _ _ _); k_dflt (refine' call_excK (C := 57) (fI := 29) ?z4k1 ?z4k2 ?z4k3 PySem.F.excBase_Exception chainBL ?z4kC ?z4k4 ?z4k5 ?z4k6 ?_; (case z4k1 => k_asm); (case z4k2 => k_asm); (case z4k3 => k_asm); (case z4kC => k_is); (case z4k4 => k_is); (case z4k5 => k_is); (case z4k6 => size_fits); k_whole; intro x' d' h' F' N' l1 l2; (try k_lt l1); (try k_lt2 l2); (try k_sweep); k_enter))
  k_with "setAttr ref" => (k_here; k_dflt (refine' set_excK (pre := []) (C := 57) ?z5k1 ?z5k2 ?z5k3 ?z5h1 ?z5h2 ?z5k4 ?z5k5 ?z5k6 ?z5k7 ?z5k8 ?z5k9 ?z5k10 ?_; (case z5k1 => k_asm); (case z5k2 => k_asm); (case z5k3 => k_asm); (case z5h1 => exact List.forall_mem_nil _); (case z5h2 => k_all); (case z5k4 => k_is); (case z5k5 => exact rfl); (case z5k6 => exact rfl); (case z5k7 => decide); (case z5k8 => exact passBL); (case z5k9 => k_is); (case z5k10 => k_is); k_whole; intro x' h' F' N' l1; (try simp only [List.nil_append] at N')))
  k_with "ThrowX" => (k_here; k_dflt (refine' throwX_of ?z6k1 ?z6k2 ?z6k3 ?z6k4 ?z6k5 ?z6k6 ?_; (case z6k1 => k_asm); (case z6k2 => k_asm); (case z6k3 => k_asm); (case z6k4 => k_mem); (case z6k5 => k_is); (case z6k6 => k_is); k_whole))
  k_with "leaving ref" => (k_here; k_dflt (refine' leave_first ?z7k1 ?z7k2 ?z7k3 ?z7k4 ?z7k5 ?z7k6 ?z7k7 ?z7k8 ?_; (case z7k1 => k_asm); (case z7k2 => k_asm); (case z7k3 => k_asm); (case z7k4 => k_mem); (case z7k5 => k_mem); (case z7k6 => (intro _ q9; cases q9)); (case z7k7 => exact notModule); (case z7k8 => exact rfl); k_whole; intro h' R'))
  k_with "kba_size" => first | omega | ((simp only [List.length_append, List.length_take, List.length_drop, List.length_cons, List.length_nil]); omega)
  k_with "call builtin:len" => (k_here; (with_reducible show wpAny _ _ (call (Value.builtin "len") [Value.bytes (List.toArray _) _]) _ _ _); (refine bytes_len (by kba_size) ?_); (try simp only [List.length_append, List.length_take, List.length_drop]))
  k_with "binaryOp Add bytes bytes" => (k_here; (with_reducible show wpAny _ _ (binaryOp Operator.Add (Value.bytes (List.toArray _) _) (Value.bytes (List.toArray _) _)) _ _ _); (refine bytes_add (by kba_size) ?_); intro _ _)
  k_with "compareOp Eq bytes bytes" => (k_here; (with_reducible show wpAny _ _ (compareOp CmpOp.Eq (Value.bytes (List.toArray _) _) (Value.bytes (List.toArray _) _)) _ _ _); (refine bytes_eq ?_))
  k_with "compareOp NotEq bytes bytes" => (k_here; (with_reducible show wpAny _ _ (compareOp CmpOp.NotEq (Value.bytes (List.toArray _) _) (Value.bytes (List.toArray _) _)) _ _ _); (refine bytes_ne ?_))
  k_with "subscriptTail" => (k_here; (with_reducible show wpAny _ _ (subscriptTail _ (Expr.Slice _ _ none _) (Value.bytes (List.toArray _) _) (Value.ref _)) _ _ _); (with_reducible rename Fr _ _ _ _ => F'); (with_reducible rename News _ _ _ _ => N'); (first | refine cut_mid (s := ⟨_, _, _, _, _⟩) F' N' (by kba_size) (by kba_size) (by kba_size) ?_ | refine cut_from (s := ⟨_, _, _, _, _⟩) F' N' (by kba_size) (by kba_size) ?_ | refine cut_to (s := ⟨_, _, _, _, _⟩) F' N' (by kba_size) (by kba_size) ?_ | refine cut_back (s := ⟨_, _, _, _, _⟩) F' N' (by kba_size) (by kba_size) ?_); intro h' _ _ F' N')
  k_with "exec For Name Subscript cons nil" => (k_here; (rename Fr _ _ _ _ => lF'); (with_unfolding_all refine' For_invVF lF' ?z14k1 ?z14k2 ?_; (case z14k1 => exact rfl); (case z14k2 => exact rfl); k_whole))
  k_with "leaving ref" => (k_here; k_dflt (refine' leave_next ?z15k1 ?z15k2 ?z15k3 ?z15k7 ?z15k8 ?_; (case z15k3 => assumption); (case z15k1 => assumption); (case z15k2 => assumption); (case z15k7 => exact notModule); (case z15k8 => exact rfl); k_whole; intro h' R'))
  k_with "call builtin:list.append" => (k_here; (with_reducible show wpAny _ _ (call (Value.builtin _) [Value.ref _, _]) _ _ _); k_dflt (refine' append_L ?z16k1 ?z16k2 ?z16k3 ?z16z ?_; (case z16k1 => k_asm); (case z16k2 => k_asm); (case z16k3 => k_upd); (case z16z => kba_size); k_whole); intro h' F' N'; (try k_sweep))
  k_with "compareOp Eq bytes int" => (with_reducible refine eq_bytes_int ?_)
  k_with "compareOp Eq int bytes" => (with_reducible refine eq_int_bytes ?_)
  intro dp un gd cn cs a ccd cl outer A₀ base h₀ L m s Q E B F X T hk hdp hun hret hexc
  revert X; k_fill; intro X
  refine wpAny_call ?_
  k_dflt ktr_enter
  clear B F X T
  k_with "execs cons" => (k_fold; with_reducible refine wpAny_execs_cons ?_)
  w_top off
  k_steps
  all_goals first | exact hret _ _ _ (Fr.keep (by assumption)) ⟨_, _, rfl, by simp only [figZ]; (repeat' split) <;> first | rfl | omega⟩ | skip
  all_goals exact hexc _ _ _ _ _ _ _ (by simp only [figZ]; (repeat' split) <;> first | rfl | omega) (by assumption)
end

-- part K2
section
open PySem PySem.Calls PySem.W PyProof.Rows Builtin Builtin.ObjectAttr
set_option maxRecDepth 100000

def headZ : List Int → Int → Option Int
  | [], a => some a
  | c :: r, a => match figZ c with
    | some k => headZ r (a * 16 + k)
    | none => none

theorem headZ_snoc {n k : Int} : ∀ {pre : List Int} {a b : Int}, headZ pre b = some a → figZ n = some k → headZ (pre ++ [n]) b = some (a * 16 + k)
  | [], a, b, h1, h2 => by
    cases h1
    simp only [List.nil_append, headZ, h2]
  | c :: r, a, b, h1, h2 => by
    simp only [List.cons_append, headZ] at h1 ⊢
    cases hc : figZ c with
    | none => rw [hc] at h1; cases h1
    | some j => rw [hc] at h1; exact headZ_snoc h1 h2

inductive Item where
  | mark (k : Int)
  | data (l : List UInt8)
  deriving DecidableEq

/-- the line that stands at a place -/
def lineS (l : List UInt8) (p : Nat) : Option (Item × Nat) :=
  if l.length < p + 4 then none else
  match headZ (((l.drop p).take 4).map fun c => (c.toNat : Int)) 0 with
  | none => none
  | some k => if k ≤ 2 then some (.mark k, p + 4) else if k = 3 then none else if 65520 < k then none else if (l.length : Int) < p + k then none else some (.data ((l.drop (p + 4)).take (k.toNat - 4)), p + k.toNat)

def ItemV : Item → Value → Prop
  | .mark k, v => ∃ t, v = .int k t
  | .data l, v => ∃ t, v = .bytes l.toArray t

section
variable {l : List UInt8} {p : Nat} {k : Int}
theorem cut4 : List.take (((p : Int) + 4).toNat - (p : Int).toNat) (List.drop (p : Int).toNat l) = (l.drop p).take 4 := by
  rw [show ((p : Int) + 4).toNat - (p : Int).toNat = 4 from by omega, Int.toNat_natCast]
theorem lineS_short (h : (l.length : Int) < p + 4) : lineS l p = none := by
  unfold lineS; rw [if_pos (by omega)]
theorem lineS_bad {n : Int} {pre post : List Int} (h : ¬ (l.length : Int) < p + 4) (e : List.map (fun c => (UInt8.toNat c : Int)) (List.take (((p : Int) + 4).toNat - (p : Int).toNat) (List.drop (p : Int).toNat l)) = pre ++ n :: post) (hn : figZ n = none) : lineS l p = none := by
  rw [cut4] at e
  have bad : ∀ (pre : List Int) (a : Int), headZ (pre ++ n :: post) a = none := by
    intro pre
    induction pre with
    | nil => intro a; simp only [List.nil_append, headZ, hn]
    | cons c r ih =>
      intro a
      simp only [List.cons_append, headZ]
      cases figZ c with
      | none => rfl
      | some j => exact ih _
  unfold lineS; rw [if_neg (by omega), e, bad]
theorem lineS_some (h : ¬ (l.length : Int) < p + 4) (e : headZ (List.map (fun c => (UInt8.toNat c : Int)) (List.take (((p : Int) + 4).toNat - (p : Int).toNat) (List.drop (p : Int).toNat l))) 0 = some k) :
    lineS l p = if k ≤ 2 then some (.mark k, p + 4) else if k = 3 then none else if 65520 < k then none else if (l.length : Int) < p + k then none else some (.data ((l.drop (p + 4)).take (k.toNat - 4)), p + k.toNat) := by
  rw [cut4] at e
  unfold lineS; rw [if_neg (by omega), e]
theorem lineS_cut (h2 : ¬ k ≤ 2) (h3 : k ≠ 3) : List.take (((p : Int) + k).toNat - ((p : Int) + 4).toNat) (List.drop ((p : Int) + 4).toNat l) = (l.drop (p + 4)).take (k.toNat - 4) := by
  obtain ⟨m, rfl⟩ := Int.eq_ofNat_of_zero_le (show 0 ≤ k by omega)
  show List.take (p + m - (p + 4)) (List.drop (p + 4) l) = (l.drop (p + 4)).take (m - 4)
  rw [Nat.add_sub_add_left]
end

/-- what a call for a line hands back -/
def LineR (l : List UInt8) (p : Nat) (H : Heap) (v : Value) (h' : Heap) : Prop :=
  ∃ a iv it q tq, lineS l p = some (it, q) ∧ ItemV it iv ∧ v = .ref a ∧ h'.get? a = some (tupObj [iv, .int (q : Nat) tq]) ∧ H.get? a = none

theorem line_data {l : List UInt8} {p : Nat} {k : Int} {H h' : Heap} {L a : Addr} {rest : List (Addr × Obj)} {t1 t2 : Tok}
    (N : News H L h' ((a, tupObj [.bytes (List.take (((p : Int) + k).toNat - ((p : Int) + 4).toNat) (List.drop ((p : Int) + 4).toNat l)).toArray t1, .int ((p : Int) + k) t2]) :: rest))
    (h : ¬ (l.length : Int) < p + 4) (e : headZ (List.map (fun c => (UInt8.toNat c : Int)) (List.take (((p : Int) + 4).toNat - (p : Int).toNat) (List.drop (p : Int).toNat l))) 0 = some k)
    (h2 : ¬ k ≤ 2) (h3 : k ≠ 3) (h4 : ¬ (65516 + 4 : Int) < k) (h5 : ¬ (l.length : Int) < p + k) : LineR l p H (.ref a) h' := by
  have e5 : (p : Int) + k = ((p + k.toNat : Nat) : Int) := by omega
  rw [lineS_cut h2 h3] at N
  refine ⟨a, _, .data ((l.drop (p + 4)).take (k.toNat - 4)), p + k.toNat, t2, ?_, ⟨t1, rfl⟩, rfl, ?_, (N _ (.head _)).2.2⟩
  · rw [lineS_some h e, if_neg h2, if_neg h3, if_neg (by omega), if_neg h5]
  · rw [← e5]
    exact (N _ (.head _)).1

set_option maxHeartbeats 8000000 in
theorem wl (w : World) (mean : ExcName → Option Value) (mg mb : Str → Option Value) (l : List UInt8) (hl : l.length ≤ 100000) (p : Nat) (tb t : Tok) :
    Pure w mean mg mb 90 16 160 [.bytes l.toArray tb, .int p t] (LineR l p) (fun _ => lineS l p = none) := by
  k_with_none
  k_with "k_ne" => (refine neN ?_; (try dsimp only); first | with_reducible assumption | (with_reducible refine Ne.symm ?_; with_reducible assumption) | (with_reducible refine' ne_lt ?z1q1 ?z1q2; (case z1q1 => with_reducible assumption); (case z1q2 => (with_reducible ((repeat (first | exact List.mem_cons_self | refine List.mem_cons_of_mem _ ?_)); done)))) | (with_reducible refine' ne_gt ?z1q1 ?z1q2; (case z1q1 => with_reducible assumption); (case z1q2 => (with_reducible ((repeat (first | exact List.mem_cons_self | refine List.mem_cons_of_mem _ ?_)); done)))) | (with_reducible refine' ne_of ?z1q1 ?z1q2; (case z1q1 => with_reducible assumption); (case z1q2 => (with_reducible ((repeat (first | exact List.mem_cons_self | refine List.mem_cons_of_mem _ ?_)); done)))) | (with_reducible refine' ne_fo ?z1q1 ?z1q2; (case z1q1 => with_reducible assumption); (case z1q2 => (with_reducible ((repeat (first | exact List.mem_cons_self | refine List.mem_cons_of_mem _ ?_)); done)))) | (with_reducible refine' off_I ?z1q1 ?z1q2; (case z1q1 => with_reducible assumption); (case z1q2 => (with_reducible ((repeat (first | exact List.mem_cons_self | refine List.mem_cons_of_mem _ ?_)); done)))) | (with_reducible refine' off_C ?z1q1 ?z1q2; (case z1q1 => with_reducible assumption); (case z1q2 => (with_reducible ((repeat (first | exact List.mem_cons_self | refine List.mem_cons_of_mem _ ?_)); done)))) | (with_reducible refine' off_D ?z1q1 ?z1q2; (case z1q1 => with_reducible assumption); (case z1q2 => (with_reducible ((repeat (first | exact List.mem_cons_self | refine List.mem_cons_of_mem _ ?_)); done)))) | (with_reducible refine' I_off ?z1q1 ?z1q2; (case z1q1 => with_reducible assumption); (case z1q2 => (with_reducible ((repeat (first | exact List.mem_cons_self | refine List.mem_cons_of_mem _ ?_)); done)))) | (with_reducible refine' C_off ?z1q1 ?z1q2; (case z1q1 => with_reducible assumption); (case z1q2 => (with_reducible ((repeat (first | exact List.mem_cons_self | refine List.mem_cons_of_mem _ ?_)); done)))) | (with_reducible refine' D_off ?z1q1 ?z1q2; (case z1q1 => with_reducible assumption); (case z1q2 => (with_reducible ((repeat (first | exact List.mem_cons_self | refine List.mem_cons_of_mem _ ?_)); done)))) | (first | exact And.left (by with_reducible assumption) | exact And.left (And.right (by with_reducible assumption)) | exact And.right (And.right (by with_reducible assumption)) | exact And.right (by with_reducible assumption) | exact And.left (And.right (And.right (by with_reducible assumption))) | exact And.left (And.right (And.right (And.right (by with_reducible assumption)))) | exact And.right (And.right (And.right (And.right (by with_reducible assumption)))) | exact And.right (And.right (And.right (by with_reducible assumption))) | exact And.left (And.left (by with_reducible assumption)) | exact And.left (And.right (And.left (by with_reducible assumption))) | exact And.right (And.right (And.left (by with_reducible assumption)))) | (with_reducible refine Ne.symm ?_; first | exact And.left (by with_reducible assumption) | exact And.left (And.right (by with_reducible assumption)) | exact And.right (And.right (by with_reducible assumption)) | exact And.right (by with_reducible assumption) | exact And.left (And.right (And.right (by with_reducible assumption))) | exact And.left (And.right (And.right (And.right (by with_reducible assumption)))) | exact And.right (And.right (And.right (And.right (by with_reducible assumption)))) | exact And.right (And.right (And.right (by with_reducible assumption))) | exact And.left (And.left (by with_reducible assumption)) | exact And.left (And.right (And.left (by with_reducible assumption))) | exact And.right (And.right (And.left (by with_reducible assumption)))) | omega)
  k_with "ktr_enter" => (refine' enterP ?z2k1 ?z2k2 ?z2k3 ?z2k5 ?z2kA ?z2kF ?z2kK ?z2k6 ?z2k7 ?z2k8 ?z2k9 ?z2kB ?_ ?z2c2 ?z2c3 ?z2c4 ?z2c5; (case z2kA => exact rfl); (case z2kF => exact rfl); (case z2kK => assumption); (case z2k1 => k_asm); (case z2k2 => k_asm); (case z2k3 => k_asm); (case z2k5 => k_asm); (case z2k6 => k_is); (case z2k7 => k_is); (case z2k8 => ktr_room); (case z2k9 => first | exact BindsTo.of_eq rfl | exact binds_K (by k_in) rfl (by k_is) rfl rfl rfl); (case z2c5 => decide); (case z2kB => exact locs rfl); (case z2c2 => exact rfl); (case z2c3 => exact rfl); (case z2c4 => exact rfl); k_whole; intro L' h' F' N' B' X' T'; (try dsimp only); (try k_fold))
  k_with "exec Raise some none" => (k_here; (with_reducible show wpAny _ _ (exec (Stmt.Raise (some (Expr.Call (Expr.Name ("BadLine" : Str) _) _ _ _)) none _) _) _ _ _); refine raise_own_init (C := 57) rfl ?_)
  k_with "call ref" => (k_here; (with_reducible show wpAny _ _ (call (Value.ref 57) _) _ _ _); k_dflt (refine' call_excK (C := 57) (fI := 29) ?z4k1 ?z4k2 ?z4k3 PySem.F.excBase_Exception chainBL ?z4kC ?z4k4 ?z4k5 ?z4k6 ?_; (case z4k1 => k_asm); (case z4k2 => k_asm); (case z4k3 => k_asm); (case z4kC => k_is); (case z4k4 => k_is); (case z4k5 => k_is); (case z4k6 => size_fits); k_whole; intro x' d' h' F' N' l1 l2; (try k_lt l1); (try k_lt2 l2); (try k_sweep); k_enter))
  k_with "setAttr ref" => (k_here; k_dflt (refine' set_excK (pre := []) (C := 57) ?z5k1 ?z5k2 ?z5k3 ?z5h1 ?z5h2 ?z5k4 ?z5k5 ?z5k6 ?z5k7 ?z5k8 ?z5k9 ?z5k10 ?_; (case z5k1 => k_asm); (case z5k2 => k_asm); (case z5k3 => k_asm); (case z5h1 => exact List.forall_mem_nil _); (case z5h2 => k_all); (case z5k4 => k_is); (case z5k5 => exact rfl); (case z5k6 => exact rfl); (case z5k7 => decide); (case z5k8 => exact passBL); (case z5k9 => k_is); (case z5k10 => k_is); k_whole; intro x' h' F' N' l1; (try simp only [List.nil_append] at N')))
  k_with "ThrowX" => (k_here; k_dflt (refine' throwX_of ?z6k1 ?z6k2 ?z6k3 ?z6k4 ?z6k5 ?z6k6 ?_; (case z6k1 => k_asm); (case z6k2 => k_asm); (case z6k3 => k_asm); (case z6k4 => k_mem); (case z6k5 => k_is); (case z6k6 => k_is); k_whole))
  k_with "leaving ref" => (k_here; k_dflt (refine' leave_first ?z7k1 ?z7k2 ?z7k3 ?z7k4 ?z7k5 ?z7k6 ?z7k7 ?z7k8 ?_; (case z7k1 => k_asm); (case z7k2 => k_asm); (case z7k3 => k_asm); (case z7k4 => k_mem); (case z7k5 => k_mem); (case z7k6 => (intro _ q9; cases q9)); (case z7k7 => exact notModule); (case z7k8 => exact rfl); k_whole; intro h' R'))
  k_with "kba_size" => first | omega | ((simp only [List.length_append, List.length_take, List.length_drop, List.length_cons, List.length_nil]); omega)
  k_with "call builtin:len" => (k_here; (with_reducible show wpAny _ _ (call (Value.builtin "len") [Value.bytes (List.toArray _) _]) _ _ _); (refine bytes_len (by kba_size) ?_); (try simp only [List.length_append, List.length_take, List.length_drop]))
  k_with "binaryOp Add bytes bytes" => (k_here; (with_reducible show wpAny _ _ (binaryOp Operator.Add (Value.bytes (List.toArray _) _) (Value.bytes (List.toArray _) _)) _ _ _); (refine bytes_add (by kba_size) ?_); intro _ _)
  k_with "compareOp Eq bytes bytes" => (k_here; (with_reducible show wpAny _ _ (compareOp CmpOp.Eq (Value.bytes (List.toArray _) _) (Value.bytes (List.toArray _) _)) _ _ _); (refine bytes_eq ?_))
  k_with "compareOp NotEq bytes bytes" => (k_here; (with_reducible show wpAny _ _ (compareOp CmpOp.NotEq (Value.bytes (List.toArray _) _) (Value.bytes (List.toArray _) _)) _ _ _); (refine bytes_ne ?_))
  k_with "subscriptTail" => (k_here; (with_reducible show wpAny _ _ (subscriptTail _ (Expr.Slice _ _ none _) (Value.bytes (List.toArray _) _) (Value.ref _)) _ _ _); (with_reducible rename Fr _ _ _ _ => F'); (with_reducible rename News _ _ _ _ => N'); (first | refine cut_mid (s := ⟨_, _, _, _, _⟩) F' N' (by kba_size) (by kba_size) (by kba_size) ?_ | refine cut_from (s := ⟨_, _, _, _, _⟩) F' N' (by kba_size) (by kba_size) ?_ | refine cut_to (s := ⟨_, _, _, _, _⟩) F' N' (by kba_size) (by kba_size) ?_ | refine cut_back (s := ⟨_, _, _, _, _⟩) F' N' (by kba_size) (by kba_size) ?_); intro h' _ _ F' N')
  k_with "exec For Name Subscript cons nil" => (k_here; (rename Fr _ _ _ _ => lF'); (with_unfolding_all refine' For_invVF lF' ?z14k1 ?z14k2 ?_; (case z14k1 => exact rfl); (case z14k2 => exact rfl); k_whole))
  k_with "leaving ref" => (k_here; k_dflt (refine' leave_next ?z15k1 ?z15k2 ?z15k3 ?z15k7 ?z15k8 ?_; (case z15k3 => assumption); (case z15k1 => assumption); (case z15k2 => assumption); (case z15k7 => exact notModule); (case z15k8 => exact rfl); k_whole; intro h' R'))
  k_with "call builtin:list.append" => (k_here; (with_reducible show wpAny _ _ (call (Value.builtin _) [Value.ref _, _]) _ _ _); k_dflt (refine' append_L ?z16k1 ?z16k2 ?z16k3 ?z16z ?_; (case z16k1 => k_asm); (case z16k2 => k_asm); (case z16k3 => k_upd); (case z16z => kba_size); k_whole); intro h' F' N'; (try k_sweep))
  k_with "compareOp Eq bytes int" => (with_reducible refine eq_bytes_int ?_)
  k_with "compareOp Eq int bytes" => (with_reducible refine eq_int_bytes ?_)
  k_with "call ref" => (k_here; (with_reducible show wpAny _ _ (call (Value.ref 83) [Value.int _ _]) _ _ _); k_dflt (refine' pure_use (wf _ _ _ _ _ _) ?z19k1 ?z19k2 ?z19k3 ?z19k4 ?z19k5 ?z19k6 ?z19k7 ?z19k8 ?z19ret ?z19exc; (case z19k1 => k_asm); (case z19k2 => k_asm); (case z19k3 => k_asm); (case z19k4 => k_asm); (case z19k5 => k_asm); (case z19k6 => first | exact rfl | assumption); (case z19k7 => ktr_room); (case z19k8 => ktr_units); (case' z19ret => (intro v9 h' tk' F' N' _ _ _ hR9; obtain ⟨k9, tk9, e9, hf9⟩ := hR9; subst e9; (try dsimp only))); (case' z19exc => (intro e9 dx9 x9 tk8 tk9 h' tk' hX9 R'; (try dsimp only)))))
  k_with "InvEndN" => k_dflt kst_close
  intro dp un gd cn cs a ccd cl outer A₀ base h₀ L m s Q E B F X T hk hdp hun hret hexc
  revert X; k_fill; intro X
  refine wpAny_call ?_
  k_dflt ktr_enter
  clear B F X T
  k_with "pyIter bytes" => k_dflt (k_state (fun pre a => headZ pre 0 = some a) "length")
  k_with "state" => first | exact headZ_snoc (by assumption) (by assumption) | exact rfl
  k_with "execs cons" => (k_fold; with_reducible refine wpAny_execs_cons ?_)
  w_top off
  k_steps
  · exact hexc _ _ _ _ _ _ _ (lineS_short (by assumption)) (by assumption)
  · exact hexc _ _ _ _ _ _ _ (lineS_bad (by assumption) (by assumption) (by assumption)) (by assumption)
  · refine hret _ _ _ (Fr.keep (by assumption)) ⟨_, _, .mark _, p + 4, _, ?_, ⟨_, rfl⟩, rfl, (News.get (by assumption) (.head _)), (News.fresh (by assumption) (.head _))⟩
    rw [lineS_some (by assumption) (by assumption), if_pos (by assumption)]
  · refine hexc _ _ _ _ _ _ _ ?_ (by assumption)
    dsimp only
    rw [lineS_some (by assumption) (by assumption), if_neg (by assumption), if_pos (by assumption)]
  · refine hexc _ _ _ _ _ _ _ ?_ (by assumption)
    dsimp only
    rw [lineS_some (by assumption) (by assumption), if_neg (by assumption), if_neg (by assumption), if_pos (by omega)]
  · refine hexc _ _ _ _ _ _ _ ?_ (by assumption)
    dsimp only
    rw [lineS_some (by assumption) (by assumption), if_neg (by assumption), if_neg (by assumption), if_neg (by omega), if_pos (by assumption)]
  · exact hret _ _ _ (Fr.keep (by assumption)) (line_data (by assumption) (by assumption) (by assumption) (by assumption) (by assumption) (by assumption) (by assumption))
end

-- part K3
section
open PySem PySem.Calls PySem.W PyProof.Rows Builtin Builtin.ObjectAttr
set_option maxRecDepth 100000

def stops : Item → Bool
  | .mark k => k == 0 || k == 2
  | .data _ => false
def preI (items : List Item) (r : Option (List Item × Nat)) : Option (List Item × Nat) := r.map fun x => (items ++ x.1, x.2)
def readF (l : List UInt8) : Nat → Nat → Option (List Item × Nat)
  | 0, q => if l.length ≤ q then some ([], q) else none
  | n + 1, q => if l.length ≤ q then some ([], q) else match lineS l q with
    | none => none
    | some (it, q') => if stops it then some ([it], q') else preI [it] (readF l n q')
def ItemsV : List Item → List Value → Prop
  | [], [] => True
  | i :: is, v :: vs => ItemV i v ∧ ItemsV is vs
  | _, _ => False
structure RdSt where
  q : Nat
  items : List Item
  vs : List Value
  c : Nat
  tq : Tok
  n : Nat

def ReadR (l : List UInt8) (p : Nat) (H : Heap) (v : Value) (h' : Heap) : Prop :=
  ∃ a D vs c items q tq, readF l (l.length + 1) p = some (items, q) ∧ ItemsV items vs ∧ v = .ref a ∧ h'.get? a = some (tupObj [.ref D, .int (q : Nat) tq]) ∧ H.get? a = none ∧ h'.get? D = some (listOf vs.toArray c) ∧ H.get? D = none ∧ a ≠ D

theorem ItemsV.snoc : ∀ {is : List Item} {vs : List Value} {i : Item} {v : Value}, ItemsV is vs → ItemV i v → ItemsV (is ++ [i]) (vs ++ [v])
  | [], [], _, _, _, h => ⟨h, trivial⟩
  | [], _ :: _, _, _, h, _ => h.elim
  | _ :: _, [], _, _, h, _ => h.elim
  | _ :: is, _ :: vs, _, _, h, k => ⟨h.1, ItemsV.snoc h.2 k⟩
theorem preI_none {is : List Item} : preI is none = none := rfl
theorem preI_some {is js : List Item} {q : Nat} : preI is (some (js, q)) = some (is ++ js, q) := rfl
theorem preI_preI {is js : List Item} {r : Option (List Item × Nat)} : preI is (preI js r) = preI (is ++ js) r := by
  cases r with
  | none => rfl
  | some x => simp [preI]
section
variable {l : List UInt8} {q q' : Nat} {n : Nat} {it : Item}
theorem readF_end (hn : l.length < q + n) (h : ¬ (q : Int) < l.length) : readF l n q = some ([], q) := by
  cases n with
  | zero => unfold readF; rw [if_pos (by omega)]
  | succ n => unfold readF; rw [if_pos (by omega)]
theorem readF_bad (hn : l.length < q + n) (h : lineS l q = none) (hq : (q : Int) < l.length) : readF l n q = none := by
  cases n with
  | zero => omega
  | succ n => unfold readF; rw [if_neg (by omega), h]
theorem readF_stop (hn : l.length < q + n) (hq : (q : Int) < l.length) (h : lineS l q = some (it, q')) (hs : stops it = true) : readF l n q = some ([it], q') := by
  cases n with
  | zero => omega
  | succ n => unfold readF; rw [if_neg (by omega), h]; simp only [hs, if_true]
theorem readF_go (hn : l.length < q + n) (hq : (q : Int) < l.length) (h : lineS l q = some (it, q')) (hs : stops it = false) : readF l n q = preI [it] (readF l (n - 1) q') := by
  cases n with
  | zero => omega
  | succ n =>
    rw [readF, if_neg (by omega), h]
    simp [hs]
theorem lineS_grows (h : lineS l q = some (it, q')) : q + 4 ≤ q' := by
  unfold lineS at h
  split at h
  · cases h
  · split at h
    · cases h
    · split at h
      · cases h; omega
      · split at h
        · cases h
        · split at h
          · cases h
          · split at h
            · cases h
            · cases h; omega
theorem lineS_within (h : lineS l q = some (it, q')) : q' ≤ l.length := by
  unfold lineS at h
  split at h
  · cases h
  · split at h
    · cases h
    · split at h
      · cases h; omega
      · split at h
        · cases h
        · split at h
          · cases h
          · split at h
            · cases h
            · cases h; omega
end

theorem read_turn {l : List UInt8} {p q q' n c tk : Nat} {it : Item} {v : Value} {is : List Item} {vs : List Value} {tq t8 : Tok} {h₀ h' : Heap} {L D a : Addr} {o : Obj} {m₀ m' : Str → Option Value} {s : Shared}
    (F : Fr h₀ L h' m') (N : News h₀ L h' [(a, o), (D, W.listOf (vs ++ [v]).toArray (c + 1))]) (hI : ItemsV is vs) (hlen : vs.length + n = l.length + 1) (hfu : l.length < q + n) (heq : readF l (l.length + 1) p = preI is (readF l n q))
    (hq : (q : Int) < l.length) (hl : lineS l q = some (it, q')) (hs : stops it = false) (hv : ItemV it v) (hk : m' (Str.ofString "at") = some (.int (q' : Nat) tq))
    (hr : ∀ z, (∀ p ∈ [(Str.ofString "at", Value.int (q' : Nat) tq)], z ≠ p.1) → [Str.ofString "item"].contains z = false → m' z = m₀ z) :
    KswEnd h₀ L s (fun c : RdSt => [(D, W.listOf c.vs.toArray c.c)]) (fun c => [(Str.ofString "at", .int (c.q : Nat) c.tq)]) (fun c => ItemsV c.items c.vs) [Str.ofString "item"] m₀
      (fun c => c.vs.length + c.n = l.length + 1 ∧ l.length < c.q + c.n ∧ readF l (l.length + 1) p = preI c.items (readF l c.n c.q)) (fun c => c.n) ⟨q, is, vs, c, t8, n⟩ { s with heap := h', toks := tk } := by
  have hg := lineS_grows hl
  have hn : 0 < n := by omega
  refine ksw_end ⟨q', is ++ [it], vs ++ [v], c + 1, tq, n - 1⟩ F N (fun p hp => ?_) (hI.snoc hv) (fun p hp => ?_) hr ⟨?_, ?_, ?_⟩ ?_
  · rw [List.mem_singleton] at hp; subst hp; exact .tail _ (.head _)
  · rw [List.mem_singleton] at hp; subst hp; exact hk
  · dsimp only; rw [List.length_append, List.length_singleton]; omega
  · dsimp only; omega
  · dsimp only; rw [heq, readF_go hfu hq hl hs, preI_preI]
  · dsimp only; omega

theorem read_ret {l : List UInt8} {p q c : Nat} {is : List Item} {vs : List Value} {tq : Tok} {H h : Heap} {L D a : Addr} {rest : List (Addr × Obj)} (N : News H L h ((a, tupObj [.ref D, .int (q : Nat) tq]) :: rest)) (hD : (D, W.listOf vs.toArray c) ∈ rest) (hne : @LT.lt Nat _ D a)
    (hI : ItemsV is vs) (heq : readF l (l.length + 1) p = some (is, q)) : ReadR l p H (.ref a) h :=
  ⟨a, D, vs, c, is, q, tq, heq, hI, rfl, (N _ (.head _)).1, (N _ (.head _)).2.2, (N _ (.tail _ hD)).1, (N _ (.tail _ hD)).2.2, fun e => by subst e; exact Nat.lt_irrefl _ hne⟩

set_option maxHeartbeats 8000000 in
theorem rp (w : World) (mean : ExcName → Option Value) (mg mb : Str → Option Value) (l : List UInt8) (hl : l.length ≤ 100000) (p : Nat) (tb t : Tok) :
    Pure w mean mg mb 98 26 300 [.bytes l.toArray tb, .int p t] (ReadR l p) (fun _ => readF l (l.length + 1) p = none) := by
  k_with_none
  k_with "k_ne" => (refine neN ?_; (try dsimp only); first | with_reducible assumption | (with_reducible refine Ne.symm ?_; with_reducible assumption) | (with_reducible refine' ne_lt ?z1q1 ?z1q2; (case z1q1 => with_reducible assumption); (case z1q2 => (with_reducible ((repeat (first | exact List.mem_cons_self | refine List.mem_cons_of_mem _ ?_)); done)))) | (with_reducible refine' ne_gt ?z1q1 ?z1q2; (case z1q1 => with_reducible assumption); (case z1q2 => (with_reducible ((repeat (first | exact List.mem_cons_self | refine List.mem_cons_of_mem _ ?_)); done)))) | (with_reducible refine' ne_of ?z1q1 ?z1q2; (case z1q1 => with_reducible assumption); (case z1q2 => (with_reducible ((repeat (first | exact List.mem_cons_self | refine List.mem_cons_of_mem _ ?_)); done)))) | (with_reducible refine' ne_fo ?z1q1 ?z1q2; (case z1q1 => with_reducible assumption); (case z1q2 => (with_reducible ((repeat (first | exact List.mem_cons_self | refine List.mem_cons_of_mem _ ?_)); done)))) | (with_reducible refine' off_I ?z1q1 ?z1q2; (case z1q1 => with_reducible assumption); (case z1q2 => (with_reducible ((repeat (first | exact List.mem_cons_self | refine List.mem_cons_of_mem _ ?_)); done)))) | (with_reducible refine' off_C ?z1q1 ?z1q2; (case z1q1 => with_reducible assumption); (case z1q2 => (with_reducible ((repeat (first | exact List.mem_cons_self | refine List.mem_cons_of_mem _ ?_)); done)))) | (with_reducible refine' off_D ?z1q1 ?z1q2; (case z1q1 => with_reducible assumption); (case z1q2 => (with_reducible ((repeat (first | exact List.mem_cons_self | refine List.mem_cons_of_mem _ ?_)); done)))) | (with_reducible refine' I_off ?z1q1 ?z1q2; (case z1q1 => with_reducible assumption); (case z1q2 => (with_reducible ((repeat (first | exact List.mem_cons_self | refine List.mem_cons_of_mem _ ?_)); done)))) | (with_reducible refine' C_off ?z1q1 ?z1q2; (case z1q1 => with_reducible assumption); (case z1q2 => (with_reducible ((repeat (first | exact List.mem_cons_self | refine List.mem_cons_of_mem _ ?_)); done)))) | (with_reducible refine' D_off ?z1q1 ?z1q2; (case z1q1 => with_reducible assumption); (case z1q2 => (with_reducible ((repeat (first | exact List.mem_cons_self | refine List.mem_cons_of_mem _ ?_)); done)))) | (first | exact And.left (by with_reducible assumption) | exact And.left (And.right (by with_reducible assumption)) | exact And.right (And.right (by with_reducible assumption)) | exact And.right (by with_reducible assumption) | exact And.left (And.right (And.right (by with_reducible assumption))) | exact And.left (And.right (And.right (And.right (by with_reducible assumption)))) | exact And.right (And.right (And.right (And.right (by with_reducible assumption)))) | exact And.right (And.right (And.right (by with_reducible assumption))) | exact And.left (And.left (by with_reducible assumption)) | exact And.left (And.right (And.left (by with_reducible assumption))) | exact And.right (And.right (And.left (by with_reducible assumption)))) | (with_reducible refine Ne.symm ?_; first | exact And.left (by with_reducible assumption) | exact And.left (And.right (by with_reducible assumption)) | exact And.right (And.right (by with_reducible assumption)) | exact And.right (by with_reducible assumption) | exact And.left (And.right (And.right (by with_reducible assumption))) | exact And.left (And.right (And.right (And.right (by with_reducible assumption)))) | exact And.right (And.right (And.right (And.right (by with_reducible assumption)))) | exact And.right (And.right (And.right (by with_reducible assumption))) | exact And.left (And.left (by with_reducible assumption)) | exact And.left (And.right (And.left (by with_reducible assumption))) | exact And.right (And.right (And.left (by with_reducible assumption)))) | omega)
  k_with "ktr_enter" => (refine' enterP ?z2k1 ?z2k2 ?z2k3 ?z2k5 ?z2kA ?z2kF ?z2kK ?z2k6 ?z2k7 ?z2k8 ?z2k9 ?z2kB ?_ ?z2c2 ?z2c3 ?z2c4 ?z2c5; (case z2kA => exact rfl); (case z2kF => exact rfl); (case z2kK => assumption); (case z2k1 => k_asm); (case z2k2 => k_asm); (case z2k3 => k_asm); (case z2k5 => k_asm); (case z2k6 => k_is); (case z2k7 => k_is); (case z2k8 => ktr_room); (case z2k9 => first | exact BindsTo.of_eq rfl | exact binds_K (by k_in) rfl (by k_is) rfl rfl rfl); (case z2c5 => decide); (case z2kB => exact locs rfl); (case z2c2 => exact rfl); (case z2c3 => exact rfl); (case z2c4 => exact rfl); k_whole; intro L' h' F' N' B' X' T'; (try dsimp only); (try k_fold))
  k_with "exec Raise some none" => (k_here; (with_reducible show wpAny _ _ (exec (Stmt.Raise (some (Expr.Call (Expr.Name ("BadLine" : Str) _) _ _ _)) none _) _) _ _ _); refine raise_own_init (C := 57) rfl ?_)
  k_with "call ref" => (k_here; (with_reducible show wpAny _ _ (call (Value.ref 57) _) _ _ _); k_dflt (refine' call_excK (C := 57) (fI := 29) ?z4k1 ?z4k2 ?z4k3 PySem.F.excBase_Exception chainBL ?z4kC ?z4k4 ?z4k5 ?z4k6 ?_; (case z4k1 => k_asm); (case z4k2 => k_asm); (case z4k3 => k_asm); (case z4kC => k_is); (case z4k4 => k_is); (case z4k5 => k_is); (case z4k6 => size_fits); k_whole; intro x' d' h' F' N' l1 l2; (try k_lt l1); (try k_lt2 l2); (try k_sweep); k_enter))
  k_with "setAttr ref" => (k_here; k_dflt (refine' set_excK (pre := []) (C := 57) ?z5k1 ?z5k2 ?z5k3 ?z5h1 ?z5h2 ?z5k4 ?z5k5 ?z5k6 ?z5k7 ?z5k8 ?z5k9 ?z5k10 ?_; (case z5k1 => k_asm); (case z5k2 => k_asm); (case z5k3 => k_asm); (case z5h1 => exact List.forall_mem_nil _); (case z5h2 => k_all); (case z5k4 => k_is); (case z5k5 => exact rfl); (case z5k6 => exact rfl); (case z5k7 => decide); (case z5k8 => exact passBL); (case z5k9 => k_is); (case z5k10 => k_is); k_whole; intro x' h' F' N' l1; (try simp only [List.nil_append] at N')))
  k_with "ThrowX" => (k_here; k_dflt (refine' throwX_of ?z6k1 ?z6k2 ?z6k3 ?z6k4 ?z6k5 ?z6k6 ?_; (case z6k1 => k_asm); (case z6k2 => k_asm); (case z6k3 => k_asm); (case z6k4 => k_mem); (case z6k5 => k_is); (case z6k6 => k_is); k_whole))
  k_with "leaving ref" => (k_here; k_dflt (refine' leave_first ?z7k1 ?z7k2 ?z7k3 ?z7k4 ?z7k5 ?z7k6 ?z7k7 ?z7k8 ?_; (case z7k1 => k_asm); (case z7k2 => k_asm); (case z7k3 => k_asm); (case z7k4 => k_mem); (case z7k5 => k_mem); (case z7k6 => (intro _ q9; cases q9)); (case z7k7 => exact notModule); (case z7k8 => exact rfl); k_whole; intro h' R'))
  k_with "kba_size" => first | omega | ((simp only [List.length_append, List.length_take, List.length_drop, List.length_cons, List.length_nil]); omega)
  k_with "call builtin:len" => (k_here; (with_reducible show wpAny _ _ (call (Value.builtin "len") [Value.bytes (List.toArray _) _]) _ _ _); (refine bytes_len (by kba_size) ?_); (try simp only [List.length_append, List.length_take, List.length_drop]))
  k_with "binaryOp Add bytes bytes" => (k_here; (with_reducible show wpAny _ _ (binaryOp Operator.Add (Value.bytes (List.toArray _) _) (Value.bytes (List.toArray _) _)) _ _ _); (refine bytes_add (by kba_size) ?_); intro _ _)
  k_with "compareOp Eq bytes bytes" => (k_here; (with_reducible show wpAny _ _ (compareOp CmpOp.Eq (Value.bytes (List.toArray _) _) (Value.bytes (List.toArray _) _)) _ _ _); (refine bytes_eq ?_))
  k_with "compareOp NotEq bytes bytes" => (k_here; (with_reducible show wpAny _ _ (compareOp CmpOp.NotEq (Value.bytes (List.toArray _) _) (Value.bytes (List.toArray _) _)) _ _ _); (refine bytes_ne ?_))
  k_with "subscriptTail" => (k_here; (with_reducible show wpAny _ _ (subscriptTail _ (Expr.Slice _ _ none _) (Value.bytes (List.toArray _) _) (Value.ref _)) _ _ _); (with_reducible rename Fr _ _ _ _ => F'); (with_reducible rename News _ _ _ _ => N'); (first | refine cut_mid (s := ⟨_, _, _, _, _⟩) F' N' (by kba_size) (by kba_size) (by kba_size) ?_ | refine cut_from (s := ⟨_, _, _, _, _⟩) F' N' (by kba_size) (by kba_size) ?_ | refine cut_to (s := ⟨_, _, _, _, _⟩) F' N' (by kba_size) (by kba_size) ?_ | refine cut_back (s := ⟨_, _, _, _, _⟩) F' N' (by kba_size) (by kba_size) ?_); intro h' _ _ F' N')
  k_with "exec For Name Subscript cons nil" => (k_here; (rename Fr _ _ _ _ => lF'); (with_unfolding_all refine' For_invVF lF' ?z14k1 ?z14k2 ?_; (case z14k1 => exact rfl); (case z14k2 => exact rfl); k_whole))
  k_with "leaving ref" => (k_here; k_dflt (refine' leave_next ?z15k1 ?z15k2 ?z15k3 ?z15k7 ?z15k8 ?_; (case z15k3 => assumption); (case z15k1 => assumption); (case z15k2 => assumption); (case z15k7 => exact notModule); (case z15k8 => exact rfl); k_whole; intro h' R'))
  k_with "call builtin:list.append" => (k_here; (with_reducible show wpAny _ _ (call (Value.builtin _) [Value.ref _, _]) _ _ _); k_dflt (refine' append_L ?z16k1 ?z16k2 ?z16k3 ?z16z ?_; (case z16k1 => k_asm); (case z16k2 => k_asm); (case z16k3 => k_upd); (case z16z => kba_size); k_whole); intro h' F' N'; (try k_sweep))
  k_with "compareOp Eq bytes int" => (with_reducible refine eq_bytes_int ?_)
  k_with "compareOp Eq int bytes" => (with_reducible refine eq_int_bytes ?_)
  k_with "call ref" => (k_here; (with_reducible show wpAny _ _ (call (Value.ref 90) [Value.bytes _ _, Value.int _ _]) _ _ _); k_dflt (refine' pure_use (wl _ _ _ _ _ ?z19kl _ _ _) ?z19k1 ?z19k2 ?z19k3 ?z19k4 ?z19k5 ?z19k6 ?z19k7 ?z19k8 ?z19ret ?z19exc; (case z19kl => assumption); (case z19k1 => k_asm); (case z19k2 => k_asm); (case z19k3 => k_asm); (case z19k4 => k_asm); (case z19k5 => k_asm); (case z19k6 => first | exact rfl | assumption); (case z19k7 => ktr_room); (case z19k8 => ktr_units); (case' z19ret => (intro v9 h' tk' F' N' kF9 kN9 _ hR9; obtain ⟨a9, iv9, it9, q9, tq9, hl9, hi9, e9, ha9, hn9⟩ := hR9; subst e9; replace N' := news_add kF9 N' ha9 hn9; (have ne9 := news_ne kN9 hn9); (try simp only [AllNe, and_true] at ne9); clear kF9 kN9 ha9 hn9; cases it9; (all_goals (obtain ⟨ti9, e9⟩ := hi9; subst e9)); (all_goals (try dsimp only)))); (case' z19exc => (intro e9 dx9 x9 tk8 tk9 h' tk' hX9 R'; (try dsimp only)))))
  intro dp un gd cn cs a ccd cl outer A₀ base h₀ L m s Q E B F X T hk hdp hun hret hexc
  revert X; k_fill; intro X
  refine wpAny_call ?_
  k_dflt ktr_enter
  clear B F X T
  k_with "exec While Compare cons nil" => ((with_reducible rename Fr _ _ _ _ => F0); (with_reducible rename News _ _ _ _ => N0); refine' ksw_while (σ := RdSt) (fun c => [(_, listOf c.vs.toArray c.c)]) (fun c => [(Str.ofString "at", .int (c.q : Nat) c.tq)]) (fun c => ItemsV c.items c.vs) [Str.ofString "item"] (fun c => c.vs.length + c.n = l.length + 1 ∧ l.length < c.q + c.n ∧ readF l (l.length + 1) p = preI c.items (readF l c.n c.q)) (fun c => c.n) ⟨p, [], [], 0, t, l.length + 1⟩ F0 N0 ?f1 ?f2 ?f3 ?turn; (case' turn => (intro c9 u9 h' tk' hI9 hP9 F' N'; obtain ⟨q8, is8, vs8, c8, t8, n8⟩ := c9; dsimp only at hI9 hP9 F' N'; obtain ⟨hlen9, hfu9, heq9⟩ := hP9)))
  k_with "execs cons" => (k_fold; with_reducible refine wpAny_execs_cons ?_)
  w_top off
  k_steps
  · refine hexc _ _ _ _ _ _ _ ?_ (by assumption)
    dsimp only
    rw [(by assumption : readF l (l.length + 1) p = _), readF_bad (by assumption) (by assumption) (by assumption), preI_none]
  · refine hret _ _ _ (Fr.keep (by assumption)) ?_
    refine read_ret (by assumption) (.tail _ (.head _)) ?_ (ItemsV.snoc (by assumption) (i := .mark _) ⟨_, rfl⟩) ?_
    · first | exact raw_lt (by with_reducible assumption) (by k_mem) | omega
    rw [(by assumption : readF l (l.length + 1) p = _), readF_stop (by assumption) (by assumption) (by assumption) (by simp [stops, *]), preI_some]
  · refine hret _ _ _ (Fr.keep (by assumption)) ?_
    refine read_ret (by assumption) (.tail _ (.head _)) ?_ (ItemsV.snoc (by assumption) (i := .mark _) ⟨_, rfl⟩) ?_
    · first | exact raw_lt (by with_reducible assumption) (by k_mem) | omega
    rw [(by assumption : readF l (l.length + 1) p = _), readF_stop (by assumption) (by assumption) (by assumption) (by simp [stops, *]), preI_some]
  · exact read_turn (it := .mark _) (by assumption) (by assumption) (by assumption) (by assumption) (by assumption) (by assumption) (by assumption) (by assumption) (by simp [stops, *]) ⟨_, rfl⟩ (by rfl) (by intro z h2 h3; have h4 : ¬ z = Str.ofString "at" := h2 _ (.head _); simp only [List.contains_cons, List.contains_nil, Bool.or_false, beq_eq_false_iff_ne, ne_eq] at h3; simp only [kstB, List.contains_cons, List.contains_nil, Bool.or_false, beq_iff_eq, if_neg h3, if_neg h4])
  · exact read_turn (it := .data _) (by assumption) (by assumption) (by assumption) (by assumption) (by assumption) (by assumption) (by assumption) (by assumption) (by rfl) ⟨_, rfl⟩ (by rfl) (by intro z h2 h3; have h4 : ¬ z = Str.ofString "at" := h2 _ (.head _); simp only [List.contains_cons, List.contains_nil, Bool.or_false, beq_eq_false_iff_ne, ne_eq] at h3; simp only [kstB, List.contains_cons, List.contains_nil, Bool.or_false, beq_iff_eq, if_neg h3, if_neg h4])
  · refine hret _ _ _ (Fr.keep (by assumption)) (read_ret (by assumption) (.head _) (by first | exact raw_lt (by with_reducible assumption) (by k_mem) | omega) (by assumption) ?_)
    rw [(by assumption : readF l (l.length + 1) p = _), readF_end (by assumption) (by assumption), preI_some, List.append_nil]
  · exact trivial
  · rename_i h9
    rw [List.mem_singleton] at h9
    subst h9
    rfl
  · dsimp only; simp
  · dsimp only; simp [preI]
end

-- part K4
section
open PySem PySem.Calls PySem.W PyProof.Rows Builtin Builtin.ObjectAttr
set_option maxRecDepth 100000

theorem news_nil_of {h₀ h : Heap} {L : Addr} {m : Str → Option Value} (_ : Fr h₀ L h m) : News h₀ L h [] := News.nil
/-- the frames of a list may have other slots; all else stands -/
structure Turn (fs : List Addr) (H h : Heap) : Prop where
  other : ∀ b o, H.get? b = some o → b ∉ fs → h.get? b = some o
  frame : ∀ b o, H.get? b = some o → b ∈ fs → ∃ sl, h.get? b = some { o with slots := sl }
theorem Turn.of_keep {fs : List Addr} {H h : Heap} (k : ∀ b o, H.get? b = some o → h.get? b = some o) : Turn fs H h := ⟨fun b o e _ => k b o e, fun b o e _ => ⟨o.slots, k b o e⟩⟩
theorem Turn.of_kts {fs : List Addr} {H g h : Heap} (T : KtsTurn fs H g) (k : ∀ b o, g.get? b = some o → h.get? b = some o) : Turn fs H h :=
  ⟨fun b o e m => k _ _ (T.other b o e m), fun b o e m => let ⟨sl, hs⟩ := T.frame b o e m; ⟨sl, k _ _ hs⟩⟩

def ReadV (l : List UInt8) (p : Nat) (H : Heap) (v : Value) (h' : Heap) : Prop := (readF l (l.length + 1) p = none ∧ v = .none) ∨ ReadR l p H v h'

/-- a call out of the law's own frame, nothing raised -/
def Shut (w : World) (mean : ExcName → Option Value) (mg mb : Str → Option Value) (f : Addr) (d u : Nat) (vs : List Value) (R : Heap → Value → Heap → Prop) : Prop :=
  ∀ (dp un : Nat) (gd : Option (List Code)) (cn : Str) (cs : Scope) (a : Addr) (ccd : Value) (cl : List (Str × Addr)) (A₀ : Around) (h₀ : Heap) (L : Addr) (m : Str → Option Value) (s : Shared) (Q E : Value → Shared → Prop),
    Below A₀ h₀ [] h₀ → Fr h₀ L s.heap m → (hd.heap_39 w.params).In h₀ → Top hd.view_39 looseH mean mg mb h₀ → cs.kind = .function → dp + d < recursionLimit → un + u < cLine →
    (∀ v h' tk', Turn [L] s.heap h' → R s.heap v h' → Q v { s with heap := h', toks := tk' }) →
    wpAny (model PySem.Challenge.rw_nt0268_01.row.prog w) (ktrTop dp un gd cn cs L a ccd cl []) (call (.ref f) vs) Q E s

theorem read_val {l : List UInt8} {p q c : Nat} {is : List Item} {vs : List Value} {tq : Tok} {H h : Heap} {L D a : Addr} {rest : List (Addr × Obj)} (N : News H L h ((a, tupObj [.ref D, .int (q : Nat) tq]) :: (D, W.listOf vs.toArray c) :: rest)) (hne : a ≠ D)
    (hI : ItemsV is vs) (heq : readF l (l.length + 1) p = some (is, q)) : ReadR l p H (.ref a) h :=
  ⟨a, D, vs, c, is, q, tq, heq, hI, rfl, (N _ (.head _)).1, (N _ (.head _)).2.2, (N _ (.tail _ (.head _))).1, (N _ (.tail _ (.head _))).2.2, hne⟩

set_option maxHeartbeats 8000000 in
theorem lr (w : World) (mean : ExcName → Option Value) (mg mb : Str → Option Value) (l : List UInt8) (hl : l.length ≤ 100000) (p : Nat) (tb t : Tok) :
    Shut w mean mg mb 144 36 400 [.bytes l.toArray tb, .int p t] (ReadV l p) := by
  k_with_none
  k_with "k_ne" => (refine neN ?_; (try dsimp only); first | with_reducible assumption | (with_reducible refine Ne.symm ?_; with_reducible assumption) | (with_reducible refine' ne_lt ?z1q1 ?z1q2; (case z1q1 => with_reducible assumption); (case z1q2 => (with_reducible ((repeat (first | exact List.mem_cons_self | refine List.mem_cons_of_mem _ ?_)); done)))) | (with_reducible refine' ne_gt ?z1q1 ?z1q2; (case z1q1 => with_reducible assumption); (case z1q2 => (with_reducible ((repeat (first | exact List.mem_cons_self | refine List.mem_cons_of_mem _ ?_)); done)))) | (with_reducible refine' ne_of ?z1q1 ?z1q2; (case z1q1 => with_reducible assumption); (case z1q2 => (with_reducible ((repeat (first | exact List.mem_cons_self | refine List.mem_cons_of_mem _ ?_)); done)))) | (with_reducible refine' ne_fo ?z1q1 ?z1q2; (case z1q1 => with_reducible assumption); (case z1q2 => (with_reducible ((repeat (first | exact List.mem_cons_self | refine List.mem_cons_of_mem _ ?_)); done)))) | (with_reducible refine' off_I ?z1q1 ?z1q2; (case z1q1 => with_reducible assumption); (case z1q2 => (with_reducible ((repeat (first | exact List.mem_cons_self | refine List.mem_cons_of_mem _ ?_)); done)))) | (with_reducible refine' off_C ?z1q1 ?z1q2; (case z1q1 => with_reducible assumption); (case z1q2 => (with_reducible ((repeat (first | exact List.mem_cons_self | refine List.mem_cons_of_mem _ ?_)); done)))) | (with_reducible refine' off_D ?z1q1 ?z1q2; (case z1q1 => with_reducible assumption); (case z1q2 => (with_reducible ((repeat (first | exact List.mem_cons_self | refine List.mem_cons_of_mem _ ?_)); done)))) | (with_reducible refine' I_off ?z1q1 ?z1q2; (case z1q1 => with_reducible assumption); (case z1q2 => (with_reducible ((repeat (first | exact List.mem_cons_self | refine List.mem_cons_of_mem _ ?_)); done)))) | (with_reducible refine' C_off ?z1q1 ?z1q2; (case z1q1 => with_reducible assumption); (case z1q2 => (with_reducible ((repeat (first | exact List.mem_cons_self | refine List.mem_cons_of_mem _ ?_)); done)))) | (with_reducible refine' D_off ?z1q1 ?z1q2; (case z1q1 => with_reducible assumption); (case z1q2 => (with_reducible ((repeat (first | exact List.mem_cons_self | refine List.mem_cons_of_mem _ ?_)); done)))) | (first | exact And.left (by with_reducible assumption) | exact And.left (And.right (by with_reducible assumption)) | exact And.right (And.right (by with_reducible assumption)) | exact And.right (by with_reducible assumption) | exact And.left (And.right (And.right (by with_reducible assumption))) | exact And.left (And.right (And.right (And.right (by with_reducible assumption)))) | exact And.right (And.right (And.right (And.right (by with_reducible assumption)))) | exact And.right (And.right (And.right (by with_reducible assumption))) | exact And.left (And.left (by with_reducible assumption)) | exact And.left (And.right (And.left (by with_reducible assumption))) | exact And.right (And.right (And.left (by with_reducible assumption)))) | (with_reducible refine Ne.symm ?_; first | exact And.left (by with_reducible assumption) | exact And.left (And.right (by with_reducible assumption)) | exact And.right (And.right (by with_reducible assumption)) | exact And.right (by with_reducible assumption) | exact And.left (And.right (And.right (by with_reducible assumption))) | exact And.left (And.right (And.right (And.right (by with_reducible assumption)))) | exact And.right (And.right (And.right (And.right (by with_reducible assumption)))) | exact And.right (And.right (And.right (by with_reducible assumption))) | exact And.left (And.left (by with_reducible assumption)) | exact And.left (And.right (And.left (by with_reducible assumption))) | exact And.right (And.right (And.left (by with_reducible assumption)))) | omega)
  k_with "ktr_enter" => (refine' enterP ?z2k1 ?z2k2 ?z2k3 ?z2k5 ?z2kA ?z2kF ?z2kK ?z2k6 ?z2k7 ?z2k8 ?z2k9 ?z2kB ?_ ?z2c2 ?z2c3 ?z2c4 ?z2c5; (case z2kA => exact rfl); (case z2kF => exact rfl); (case z2kK => assumption); (case z2k1 => k_asm); (case z2k2 => k_asm); (case z2k3 => k_asm); (case z2k5 => k_asm); (case z2k6 => k_is); (case z2k7 => k_is); (case z2k8 => ktr_room); (case z2k9 => first | exact BindsTo.of_eq rfl | exact binds_K (by k_in) rfl (by k_is) rfl rfl rfl); (case z2c5 => decide); (case z2kB => exact locs rfl); (case z2c2 => exact rfl); (case z2c3 => exact rfl); (case z2c4 => exact rfl); k_whole; intro L' h' F' N' B' X' T'; (try dsimp only); (try k_fold))
  k_with "exec Raise some none" => (k_here; (with_reducible show wpAny _ _ (exec (Stmt.Raise (some (Expr.Call (Expr.Name ("BadLine" : Str) _) _ _ _)) none _) _) _ _ _); refine raise_own_init (C := 57) rfl ?_)
  k_with "call ref" => (k_here; (with_reducible show wpAny _ _ (call (Value.ref 57) _) _ _ _); k_dflt (refine' call_excK (C := 57) (fI := 29) ?z4k1 ?z4k2 ?z4k3 PySem.F.excBase_Exception chainBL ?z4kC ?z4k4 ?z4k5 ?z4k6 ?_; (case z4k1 => k_asm); (case z4k2 => k_asm); (case z4k3 => k_asm); (case z4kC => k_is); (case z4k4 => k_is); (case z4k5 => k_is); (case z4k6 => size_fits); k_whole; intro x' d' h' F' N' l1 l2; (try k_lt l1); (try k_lt2 l2); (try k_sweep); k_enter))
  k_with "setAttr ref" => (k_here; k_dflt (refine' set_excK (pre := []) (C := 57) ?z5k1 ?z5k2 ?z5k3 ?z5h1 ?z5h2 ?z5k4 ?z5k5 ?z5k6 ?z5k7 ?z5k8 ?z5k9 ?z5k10 ?_; (case z5k1 => k_asm); (case z5k2 => k_asm); (case z5k3 => k_asm); (case z5h1 => exact List.forall_mem_nil _); (case z5h2 => k_all); (case z5k4 => k_is); (case z5k5 => exact rfl); (case z5k6 => exact rfl); (case z5k7 => decide); (case z5k8 => exact passBL); (case z5k9 => k_is); (case z5k10 => k_is); k_whole; intro x' h' F' N' l1; (try simp only [List.nil_append] at N')))
  k_with "ThrowX" => (k_here; k_dflt (refine' throwX_of ?z6k1 ?z6k2 ?z6k3 ?z6k4 ?z6k5 ?z6k6 ?_; (case z6k1 => k_asm); (case z6k2 => k_asm); (case z6k3 => k_asm); (case z6k4 => k_mem); (case z6k5 => k_is); (case z6k6 => k_is); k_whole))
  k_with "leaving ref" => (k_here; k_dflt (refine' leave_first ?z7k1 ?z7k2 ?z7k3 ?z7k4 ?z7k5 ?z7k6 ?z7k7 ?z7k8 ?_; (case z7k1 => k_asm); (case z7k2 => k_asm); (case z7k3 => k_asm); (case z7k4 => k_mem); (case z7k5 => k_mem); (case z7k6 => (intro _ q9; cases q9)); (case z7k7 => exact notModule); (case z7k8 => exact rfl); k_whole; intro h' R'))
  k_with "kba_size" => first | omega | ((simp only [List.length_append, List.length_take, List.length_drop, List.length_cons, List.length_nil]); omega)
  k_with "call builtin:len" => (k_here; (with_reducible show wpAny _ _ (call (Value.builtin "len") [Value.bytes (List.toArray _) _]) _ _ _); (refine bytes_len (by kba_size) ?_); (try simp only [List.length_append, List.length_take, List.length_drop]))
  k_with "binaryOp Add bytes bytes" => (k_here; (with_reducible show wpAny _ _ (binaryOp Operator.Add (Value.bytes (List.toArray _) _) (Value.bytes (List.toArray _) _)) _ _ _); (refine bytes_add (by kba_size) ?_); intro _ _)
  k_with "compareOp Eq bytes bytes" => (k_here; (with_reducible show wpAny _ _ (compareOp CmpOp.Eq (Value.bytes (List.toArray _) _) (Value.bytes (List.toArray _) _)) _ _ _); (refine bytes_eq ?_))
  k_with "compareOp NotEq bytes bytes" => (k_here; (with_reducible show wpAny _ _ (compareOp CmpOp.NotEq (Value.bytes (List.toArray _) _) (Value.bytes (List.toArray _) _)) _ _ _); (refine bytes_ne ?_))
  k_with "subscriptTail" => (k_here; (with_reducible show wpAny _ _ (subscriptTail _ (Expr.Slice _ _ none _) (Value.bytes (List.toArray _) _) (Value.ref _)) _ _ _); (with_reducible rename Fr _ _ _ _ => F'); (with_reducible rename News _ _ _ _ => N'); (first | refine cut_mid (s := ⟨_, _, _, _, _⟩) F' N' (by kba_size) (by kba_size) (by kba_size) ?_ | refine cut_from (s := ⟨_, _, _, _, _⟩) F' N' (by kba_size) (by kba_size) ?_ | refine cut_to (s := ⟨_, _, _, _, _⟩) F' N' (by kba_size) (by kba_size) ?_ | refine cut_back (s := ⟨_, _, _, _, _⟩) F' N' (by kba_size) (by kba_size) ?_); intro h' _ _ F' N')
  k_with "exec For Name Subscript cons nil" => (k_here; (rename Fr _ _ _ _ => lF'); (with_unfolding_all refine' For_invVF lF' ?z14k1 ?z14k2 ?_; (case z14k1 => exact rfl); (case z14k2 => exact rfl); k_whole))
  k_with "leaving ref" => (k_here; k_dflt (refine' leave_next ?z15k1 ?z15k2 ?z15k3 ?z15k7 ?z15k8 ?_; (case z15k3 => assumption); (case z15k1 => assumption); (case z15k2 => assumption); (case z15k7 => exact notModule); (case z15k8 => exact rfl); k_whole; intro h' R'))
  k_with "call builtin:list.append" => (k_here; (with_reducible show wpAny _ _ (call (Value.builtin _) [Value.ref _, _]) _ _ _); k_dflt (refine' append_L ?z16k1 ?z16k2 ?z16k3 ?z16z ?_; (case z16k1 => k_asm); (case z16k2 => k_asm); (case z16k3 => k_upd); (case z16z => kba_size); k_whole); intro h' F' N'; (try k_sweep))
  k_with "compareOp Eq bytes int" => (with_reducible refine eq_bytes_int ?_)
  k_with "compareOp Eq int bytes" => (with_reducible refine eq_int_bytes ?_)
  k_with "call ref" => (k_here; (with_reducible show wpAny _ _ (call (Value.ref 98) [Value.bytes _ _, Value.int _ _]) _ _ _); k_dflt (refine' pure_use (rp _ _ _ _ _ ?z19kl _ _ _) ?z19k1 ?z19k2 ?z19k3 ?z19k4 ?z19k5 ?z19k6 ?z19k7 ?z19k8 ?z19ret ?z19exc; (case z19kl => assumption); (case z19k1 => k_asm); (case z19k2 => k_asm); (case z19k3 => k_asm); (case z19k4 => k_asm); (case z19k5 => k_asm); (case z19k6 => first | exact rfl | assumption); (case z19k7 => ktr_room); (case z19k8 => ktr_units); (case' z19ret => (intro v9 h' tk' F' N' kF9 kN9 _ hR9; obtain ⟨a9, D9, vs9, c9, is9, q9, tq9, hr9, hi9, e9, ha9, hn9, hD9, hd9, hne9⟩ := hR9; subst e9; replace N' := news_add kF9 (news_add kF9 N' hD9 hd9) ha9 hn9; clear kF9 kN9 ha9 hn9 hD9 hd9; (try dsimp only))); (case' z19exc => (intro e9 dx9 x9 tk8 tk9 h' tk' hX9 R'; (try dsimp only)))))
  k_with "noteFrame ref" => (k_here; (with_reducible show wpAny _ _ (noteFrame _ _) (fun _ s₂ => wpAny _ _ (setFlight _ none) (fun _ s₃ => wpAny _ _ (handleBy _ _ (ExceptHandler.ExceptHandler (some (Expr.Name _ _)) none _ _ :: _)) _ _ s₃) _ s₂) _ _); k_dflt (refine' catch0 (KF := hd.heap_39 _) ?z20k1 ?z20k2 ?z20k3 ?z20k4 ?z20k5 ?z20k6 ?z20k7 ?z20k8 ?_; (case z20k3 => assumption); (case z20k1 => assumption); (case z20k2 => assumption); (case z20k4 => assumption); (case z20k5 => exact topRead_of (by assumption)); (case z20k6 => k_is); (case z20k7 => decide +kernel); (case z20k8 => k_is); k_whole; intro h' g' KT' F' B'; (have N' := news_nil_of F')))
  intro dp un gd cn cs a ccd cl A₀ h₀ L m s Q E B F X T hk hdp hun hret
  revert X; k_fill; intro X
  refine wpAny_call ?_
  k_dflt ktr_enter
  k_with "execs cons" => (k_fold; with_reducible refine wpAny_execs_cons ?_)
  w_top off
  k_steps
  · dsimp only
    exact hret _ _ _ (Turn.of_kts (by assumption) (Fr.keep (by assumption))) (.inl ⟨by assumption, rfl⟩)
  · dsimp only
    exact hret _ _ _ (Turn.of_keep (Fr.keep (by assumption))) (.inr (read_val (by assumption) (by assumption) (by assumption) (by assumption)))
end

-- part EQ
section
open PySem PySem.Calls PySem.W PyProof.Rows Builtin Builtin.ObjectAttr PySem.SeqAt
set_option maxRecDepth 100000
section
variable {A : Around} {s : Shared}
theorem eqat_bytes {l : List UInt8} {t u : Tok} : EqAt A s (.bytes l.toArray t) (.bytes l.toArray u) true := fun prog w E Q h => by
  unfold eqBool
  refine wpAny_holding ?_
  refine wpAny_ite_split (fun _ => wpAny_bind (wpAny_rule (wpAny_pure h))) (fun _ => ?_)
  refine wpAny_bind ?_
  show wpAny _ _ (compareOp .Eq (Value.bytes l.toArray t) (Value.bytes l.toArray u)) _ _ _
  refine bytes_eq ?_
  rw [decide_eq_true rfl]
  exact wpAny_truthy_bool h
theorem eqat_int {n : Int} {t u : Tok} : EqAt A s (.int n t) (.int n u) true := fun prog w E Q h => by
  unfold eqBool
  refine wpAny_holding ?_
  refine wpAny_ite_split (fun _ => wpAny_bind (wpAny_rule (wpAny_pure h))) (fun _ => ?_)
  refine wpAny_bind ?_
  show wpAny _ _ (compareOp .Eq (Value.int n t) (Value.int n u)) _ _ _
  refine eq_int ?_
  rw [show (n == n) = true from beq_self_eq_true n]
  exact wpAny_truthy_bool h
theorem eqat_str {x : PySem.Str} {t u : Tok} : EqAt A s (.str x t) (.str x u) true := fun prog w E Q h => eqBool_str (by simpa using h)
theorem eqat_item {it : Item} {v v' : Value} (h : ItemV it v) (h' : ItemV it v') : EqAt A s v v' true := by
  cases it with
  | mark k =>
    obtain ⟨t, rfl⟩ := h
    obtain ⟨u, rfl⟩ := h'
    exact eqat_int
  | data l =>
    obtain ⟨t, rfl⟩ := h
    obtain ⟨u, rfl⟩ := h'
    exact eqat_bytes
theorem ItemsV.len : ∀ {is : List Item} {vs : List Value}, ItemsV is vs → vs.length = is.length
  | [], [], _ => rfl
  | _ :: _, _ :: _, h => by rw [List.length_cons, List.length_cons, ItemsV.len h.2]
theorem ItemsV.at : ∀ {is : List Item} {vs : List Value}, ItemsV is vs → ∀ (j : Nat) (h : j < vs.length), ∃ it, is[j]? = some it ∧ ItemV it vs[j]
  | [], [], _, j, h => absurd h (Nat.not_lt_zero j)
  | _ :: _, _ :: _, h, 0, _ => ⟨_, rfl, h.1⟩
  | _ :: _, _ :: _, h, j + 1, hj => ItemsV.at h.2 j (by simpa using hj)
theorem all_true (n : Nat) : (List.range n).all (fun _ => true) = true := List.all_eq_true.mpr fun _ _ => rfl
theorem eqat_items {D D' : Addr} {is : List Item} {vs us : List Value} {c c' : Nat} (hD : s.heap.get? D = some (listOf vs.toArray c)) (hD' : s.heap.get? D' = some (listOf us.toArray c')) (hv : ItemsV is vs) (hu : ItemsV is us) (hU : A.units < cLine) : EqAt A s (.ref D) (.ref D') true := by
  by_cases hne : D = D'
  · subst hne
    exact EqAt.same _
  have hsz : vs.toArray.size = us.toArray.size := by rw [List.size_toArray, List.size_toArray, hv.len, hu.len]
  have := RcAt.lists (A := A) (s := s) (e := fun _ => true) ⟨_, hD, rfl, c, rfl⟩ ⟨_, hD', rfl, c', rfl⟩ hsz hU (fun j h1 h2 => by
    have h1' : j < vs.length := by simpa using h1
    have h2' : j < us.length := by simpa using h2
    obtain ⟨it, e1, i1⟩ := hv.at j h1'
    obtain ⟨it', e2, i2⟩ := hu.at j h2'
    rw [e1] at e2
    cases e2
    exact eqat_item i1 i2)
  rw [all_true] at this
  exact EqAt.of_refs hne this
end
section
variable {prog : Program} {w : World} {A : Around} {E : Value → Shared → Prop} {s : Shared} {h₀ : Heap} {L : Addr} {news : List (Addr × Obj)} {Q : Value → Shared → Prop}
/-- two readings, the same by their parts -/
theorem rcne_pair {a b : Addr} {x y x' y' : Value} (ha : s.heap.get? a = some (tupObj [x, y])) (hb : s.heap.get? b = some (tupObj [x', y'])) (hU : A.units < cLine) (h1 : EqAt A.in1 s x x' true) (h2 : EqAt A.in1 s y y' true)
    (h : Q (.bool false) s) : wpAny (model prog w) A (compareOp .NotEq (.ref a) (.ref b)) Q E s := by
  have := RcNeAt.tuples (A := A) (s := s) (e := fun _ => true) ⟨_, ha, rfl, _, rfl⟩ ⟨_, hb, rfl, _, rfl⟩ hU (fun j g1 g2 => by
    have g1' : j < 2 := g1
    match j, g1' with
    | 0, _ => exact h1
    | 1, _ => exact h2)
  exact this prog w E Q (by rw [all_true]; exact h)
theorem rcne_triple {a b : Addr} {x y z x' y' z' : Value} (ha : s.heap.get? a = some (tupObj [x, y, z])) (hb : s.heap.get? b = some (tupObj [x', y', z'])) (hU : A.units < cLine) (h1 : EqAt A.in1 s x x' true) (h2 : EqAt A.in1 s y y' true) (h3 : EqAt A.in1 s z z' true)
    (h : Q (.bool false) s) : wpAny (model prog w) A (compareOp .NotEq (.ref a) (.ref b)) Q E s := by
  have := RcNeAt.tuples (A := A) (s := s) (e := fun _ => true) ⟨_, ha, rfl, _, rfl⟩ ⟨_, hb, rfl, _, rfl⟩ hU (fun j g1 g2 => by
    have g1' : j < 3 := g1
    match j, g1' with
    | 0, _ => exact h1
    | 1, _ => exact h2
    | 2, _ => exact h3)
  exact this prog w E Q (by rw [all_true]; exact h)
theorem rceq_triple {a b : Addr} {x y z x' y' z' : Value} (ha : s.heap.get? a = some (tupObj [x, y, z])) (hb : s.heap.get? b = some (tupObj [x', y', z'])) (hU : A.units < cLine) (h1 : EqAt A.in1 s x x' true) (h2 : EqAt A.in1 s y y' true) (h3 : EqAt A.in1 s z z' true)
    (h : Q (.bool true) s) : wpAny (model prog w) A (compareOp .Eq (.ref a) (.ref b)) Q E s := by
  have := RcAt.tuples (A := A) (s := s) (e := fun _ => true) ⟨_, ha, rfl, _, rfl⟩ ⟨_, hb, rfl, _, rfl⟩ hU (fun j g1 g2 => by
    have g1' : j < 3 := g1
    match j, g1' with
    | 0, _ => exact h1
    | 1, _ => exact h2
    | 2, _ => exact h3)
  exact this prog w E Q (by rw [all_true]; exact h)
end
end

-- part K5
section
open PySem PySem.Calls PySem.W PyProof.Rows Builtin Builtin.ObjectAttr
set_option maxRecDepth 100000
local macro_rules | `(tactic| kst_same) => `(tactic| k_extra "kst_same")
abbrev hexAll : List UInt8 := [48, 49, 50, 51, 52, 53, 54, 55, 56, 57, 97, 98, 99, 100, 101, 102, 65, 66, 67, 68, 69, 70]
abbrev hexLow : List UInt8 := [48, 49, 50, 51, 52, 53, 54, 55, 56, 57, 97, 98, 99, 100, 101, 102]
def figL (m : Int) : Option Int := if 48 ≤ m ∧ m ≤ 57 then some (m - 48) else if 97 ≤ m ∧ m ≤ 102 then some (m - 87) else none
theorem hexAll_has {n : Int} (h0 : 0 ≤ n) (h1 : n < 256) : (!(hexAll.toArray.contains n.toNat.toUInt8)) = decide (figZ n = none) := by
  have key : ∀ m : Fin 256, (!(hexAll.toArray.contains m.val.toUInt8)) = decide (figZ (m.val : Int) = none) := by decide +kernel
  have := key ⟨n.toNat, by omega⟩
  rwa [Int.toNat_of_nonneg h0] at this
theorem hexLow_find {n : Int} (h0 : 0 ≤ n) (h1 : n < 256) (h : figL n ≠ none) : Bytes.find? hexLow.toArray #[n.toNat.toUInt8] 0 16 = some ((figL n).getD 0).toNat ∧ 0 ≤ (figL n).getD 0 := by
  have key : ∀ m : Fin 256, figL (m.val : Int) ≠ none → Bytes.find? hexLow.toArray #[m.val.toUInt8] 0 16 = some ((figL (m.val : Int)).getD 0).toNat ∧ 0 ≤ (figL (m.val : Int)).getD 0 := by decide +kernel
  have := key ⟨n.toNat, by omega⟩
  simp only [Int.toNat_of_nonneg h0] at this
  exact this h
theorem figZ_up {n : Int} (_ : figZ n ≠ none) (h1 : n < 71) (h2 : 64 < n) : figL (n + 32) ≠ none ∧ figZ n = some ((figL (n + 32)).getD 0) := by
  have : n = 65 ∨ n = 66 ∨ n = 67 ∨ n = 68 ∨ n = 69 ∨ n = 70 := by omega
  rcases this with rfl | rfl | rfl | rfl | rfl | rfl <;> decide
theorem figZ_low {n : Int} (h : figZ n ≠ none) (h1 : ¬ (n < 71 ∧ 64 < n)) : figL n ≠ none ∧ figZ n = some ((figL n).getD 0) := by
  unfold figZ figL at *
  split at h
  · simp [*]
  · split at h
    · simp [*]
    · split at h
      · omega
      · exact absurd rfl h
section
variable {prog : Program} {w : World} {A : Around} {E : Value → Shared → Prop} {s : Shared} {Q : Value → Shared → Prop}
theorem notin_hex {t u : Tok} {n : Int} (h0 : 0 ≤ n) (h1 : n < 256) (h : Q (.bool (decide (figZ n = none))) s) : wpAny (model prog w) A (compareOp .NotIn (.int n u) (.bytes hexAll.toArray t)) Q E s :=
  notin_bytes h0 h1 (by rw [hexAll_has h0 h1]; exact h)
theorem index_hex {t u : Tok} {n : Int} (h0 : 0 ≤ n) (h1 : n < 256) (hf : figL n ≠ none) (h : Q (.int ((figL n).getD 0) s.toks) { s with toks := s.toks + 1 }) : wpAny (model prog w) A (call (.builtin "bytes.index") [.bytes hexLow.toArray t, .int n u]) Q E s :=
  call_index h0 h1 ((figL n).getD 0).toNat (by decide) (hexLow_find h0 h1 hf).1 (by rw [Int.toNat_of_nonneg (hexLow_find h0 h1 hf).2]; exact h)
end
theorem figZ_nonneg {n k : Int} (h : figZ n = some k) : 0 ≤ k := by
  unfold figZ at h
  split at h
  · cases h; omega
  · split at h
    · cases h; omega
    · split at h
      · cases h; omega
      · cases h
theorem headZ_nonneg : ∀ {pre : List Int} {b a : Int}, headZ pre b = some a → 0 ≤ b → 0 ≤ a
  | [], b, a, h, hb => by cases h; exact hb
  | c :: r, b, a, h, hb => by
    simp only [headZ] at h
    cases hc : figZ c with
    | none => rw [hc] at h; cases h
    | some k =>
      rw [hc] at h
      have := figZ_nonneg hc
      exact headZ_nonneg h (by omega)
theorem item3 {prog : Program} {w : World} {A : Around} {E : Value → Shared → Prop} {s : Shared} {Q : Value → Shared → Prop} {value slice : PySem.Expr} {h₀ : Heap} {L l : Addr} {news : List (Addr × Obj)} {k : Int} {u t0 t1 t2 : Tok} {pre : List Int} (N : News h₀ L s.heap news) (hm : (l, listOf [.int 0 t0, .int 1 t1, .int 2 t2].toArray 0) ∈ news) (h0 : headZ pre 0 = some k) (h1 : k < 3)
    (h : ∀ t, 0 ≤ k → Q (.int k t) s) (hs : subscripted slice false (.ref l) (.int k u) = operate [.ref l, .int k u] (getItem (.ref l) (.int k u)) := by with_unfolding_all rfl) :
    wpAny (model prog w) A (subscriptTail value slice (.ref l) (.int k u)) Q E s := by
  have hk := headZ_nonneg h0 (Int.le_refl _)
  have hl : s.heap.IsList l [.int 0 t0, .int 1 t1, .int 2 t2].toArray := ⟨_, (N _ hm).1, rfl, _, rfl⟩
  have : k = 0 ∨ k = 1 ∨ k = 2 := by omega
  rcases this with rfl | rfl | rfl
  · exact item_litK hl (by decide) (by decide) rfl (h t0 (by decide)) hs
  · exact item_litK hl (by decide) (by decide) rfl (h t1 (by decide)) hs
  · exact item_litK hl (by decide) (by decide) rfl (h t2 (by decide)) hs
structure LnSt where
  q : Nat
  items : List Item
  vs : List Value
  c : Nat
  D : Addr
  tq : Tok
  n : Nat
abbrev headS (l : List UInt8) (q : Nat) : List Int := List.map (fun c => (UInt8.toNat c : Int)) (List.take (((q : Int) + 4).toNat - (q : Int).toNat) (List.drop (q : Int).toNat l))
abbrev LnP (l : List UInt8) (p : Nat) (c : LnSt) : Prop := c.vs.length + c.n = l.length + 1 ∧ l.length < c.q + c.n ∧ readF l (l.length + 1) p = preI c.items (readF l c.n c.q)
abbrev LnEnd (l : List UInt8) (p : Nat) (h₀ : Heap) (L : Addr) (s : Shared) (m₀ : Str → Option Value) (c : LnSt) (s₂ : Shared) : Prop :=
  KswEnd h₀ L s (fun c : LnSt => [(c.D, listOf c.vs.toArray c.c)]) (fun c => [(Str.ofString "items", .ref c.D), (Str.ofString "at", .int (c.q : Nat) c.tq)]) (fun c => ItemsV c.items c.vs) [Str.ofString "head", Str.ofString "many", Str.ofString "sign"] m₀ (LnP l p) (fun c => c.n) c s₂
section
variable {l : List UInt8} {p q n c tk : Nat} {k : Int} {is : List Item} {vs : List Value} {tq t8 t1 : Tok} {h₀ h' H : Heap} {L D D2 a : Addr} {o : Obj} {m₀ m' : Str → Option Value} {s : Shared} {rest : List (Addr × Obj)} {r : Option (List Item × Nat)}
theorem ln_turn {it : Item} {v : Value} {q' : Nat} (F : Fr h₀ L h' m') (N : News h₀ L h' ((a, o) :: (D2, listOf (vs ++ [v]).toArray 0) :: rest)) (hI : ItemsV is vs) (hP : LnP l p ⟨q, is, vs, c, D, t8, n⟩)
    (hq : (q : Int) < l.length) (hl : lineS l q = some (it, q')) (hs : stops it = false) (hv : ItemV it v) (hi : m' (Str.ofString "items") = some (.ref D2)) (hk : m' (Str.ofString "at") = some (.int (q' : Nat) tq))
    (hr : ∀ z, z ≠ Str.ofString "items" → z ≠ Str.ofString "at" → [Str.ofString "head", Str.ofString "many", Str.ofString "sign"].contains z = false → m' z = m₀ z) :
    LnEnd l p h₀ L s m₀ ⟨q, is, vs, c, D, t8, n⟩ { s with heap := h', toks := tk } := by
  obtain ⟨hlen, hfu, heq⟩ := hP
  dsimp only at hlen hfu heq
  have hg := lineS_grows hl
  have hn : 0 < n := by omega
  refine ksw_end ⟨q', is ++ [it], vs ++ [v], 0, D2, tq, n - 1⟩ F N (fun p hp => ?_) (hI.snoc hv) (fun p hp => ?_) (fun z h1 h2 => hr z (h1 _ (.head _)) (h1 _ (.tail _ (.head _))) h2) ⟨?_, ?_, ?_⟩ ?_
  · rw [List.mem_singleton] at hp; subst hp; exact .tail _ (.head _)
  · rcases List.mem_cons.mp hp with rfl | hp
    · exact hi
    · rw [List.mem_singleton] at hp; subst hp; exact hk
  · dsimp only; rw [List.length_append, List.length_singleton]; omega
  · dsimp only; omega
  · dsimp only; rw [heq, readF_go hfu hq hl hs, preI_preI]
  · dsimp only; omega
theorem ln_data {tv : Tok} (F : Fr h₀ L h' m') (N : News h₀ L h' ((a, o) :: (D2, listOf (vs ++ [Value.bytes (List.take (((q : Int) + k).toNat - ((q : Int) + 4).toNat) (List.drop ((q : Int) + 4).toNat l)).toArray tv]).toArray 0) :: rest)) (hI : ItemsV is vs) (hP : LnP l p ⟨q, is, vs, c, D, t8, n⟩)
    (hq : (q : Int) < l.length) (h1 : ¬ (l.length : Int) < q + 4) (e : headZ (headS l q) 0 = some k) (h3 : k ≠ 3) (h4 : ¬ 65520 < k) (h5 : 3 < k) (h6 : ¬ (l.length : Int) < q + k) (hi : m' (Str.ofString "items") = some (.ref D2)) (hk : m' (Str.ofString "at") = some (.int ((q : Int) + k) tq))
    (hr : ∀ z, z ≠ Str.ofString "items" → z ≠ Str.ofString "at" → [Str.ofString "head", Str.ofString "many", Str.ofString "sign"].contains z = false → m' z = m₀ z) :
    LnEnd l p h₀ L s m₀ ⟨q, is, vs, c, D, t8, n⟩ { s with heap := h', toks := tk } := by
  have e5 : (q : Int) + k = ((q + k.toNat : Nat) : Int) := by omega
  rw [lineS_cut (by omega) h3] at N
  rw [e5] at hk
  refine ln_turn (it := .data ((l.drop (q + 4)).take (k.toNat - 4))) F N hI hP hq ?_ rfl ⟨_, rfl⟩ hi hk hr
  rw [lineS_some h1 e, if_neg (by omega), if_neg h3, if_neg h4, if_neg h6]
theorem lineS_mark (h1 : ¬ (l.length : Int) < q + 4) (e : headZ (headS l q) 0 = some k) (h5 : k ≤ 2) : lineS l q = some (.mark k, q + 4) := by
  rw [lineS_some h1 e, if_pos h5]
theorem ln_mark {tv : Tok} (F : Fr h₀ L h' m') (N : News h₀ L h' ((a, o) :: (D2, listOf (vs ++ [Value.int k tv]).toArray 0) :: rest)) (hI : ItemsV is vs) (hP : LnP l p ⟨q, is, vs, c, D, t8, n⟩)
    (hq : (q : Int) < l.length) (h1 : ¬ (l.length : Int) < q + 4) (e : headZ (headS l q) 0 = some k) (h5 : k = 1) (hi : m' (Str.ofString "items") = some (.ref D2)) (hk : m' (Str.ofString "at") = some (.int ((q : Int) + 4) tq))
    (hr : ∀ z, z ≠ Str.ofString "items" → z ≠ Str.ofString "at" → [Str.ofString "head", Str.ofString "many", Str.ofString "sign"].contains z = false → m' z = m₀ z) :
    LnEnd l p h₀ L s m₀ ⟨q, is, vs, c, D, t8, n⟩ { s with heap := h', toks := tk } :=
  ln_turn (it := .mark k) (q' := q + 4) F N hI hP hq (lineS_mark h1 e (by omega)) (by subst h5; rfl) ⟨_, rfl⟩ hi hk hr
theorem ln_bad (hP : LnP l p ⟨q, is, vs, c, D, t8, n⟩) (hq : (q : Int) < l.length) (h : lineS l q = none) : readF l (l.length + 1) p = none := by
  obtain ⟨_, hfu, heq⟩ := hP
  rw [heq, readF_bad hfu h hq, preI_none]
theorem ln_stop (hP : LnP l p ⟨q, is, vs, c, D, t8, n⟩) (hq : (q : Int) < l.length) (h1 : ¬ (l.length : Int) < q + 4) (e : headZ (headS l q) 0 = some k) (h5 : k < 3) (h6 : k ≠ 1) (h0 : 0 ≤ k) : readF l (l.length + 1) p = some (is ++ [.mark k], q + 4) := by
  obtain ⟨_, hfu, heq⟩ := hP
  have hk : k = 0 ∨ k = 2 := by omega
  rw [heq, readF_stop hfu hq (lineS_mark h1 e (by omega)) (by rcases hk with rfl | rfl <;> rfl), preI_some]
theorem ln_over (hP : LnP l p ⟨q, is, vs, c, D, t8, n⟩) (hq : ¬ (q : Int) < l.length) : readF l (l.length + 1) p = some (is, q) := by
  obtain ⟨_, hfu, heq⟩ := hP
  rw [heq, readF_end hfu hq, preI_some, List.append_nil]
theorem ln_ret {it : Item} {v : Value} (N : News H L h' ((a, tupObj [.ref D2, .int ((q : Int) + 4) tq]) :: rest)) (hD : (D2, listOf (vs ++ [v]).toArray 0) ∈ rest) (hne : @LT.lt Nat _ D2 a)
    (hI : ItemsV is vs) (hv : ItemV it v) (heq : readF l (l.length + 1) p = some (is ++ [it], q + 4)) : ReadV l p H (.ref a) h' :=
  .inr (read_ret (q := q + 4) N hD hne (hI.snoc hv) heq)
end

theorem four_le {q n : Nat} (h : ¬ ((min (((q : Int) + 4).toNat - (q : Int).toNat) (n - (q : Int).toNat) : Nat) : Int) < 4) : (q : Int) + 4 ≤ (n : Int) := by
  have h1 : 4 ≤ n - q := Nat.le_trans (Int.ofNat_le.mp (Int.not_lt.mp h)) (Nat.min_le_right _ _)
  omega
theorem four_gt {q n : Nat} (h : ((min (((q : Int) + 4).toNat - (q : Int).toNat) (n - (q : Int).toNat) : Nat) : Int) < 4) : (n : Int) < (q : Int) + 4 := by
  have h1 : min (q + 4 - q) (n - q) < 4 := Int.ofNat_lt.mp h
  have h2 : ¬ 4 ≤ n - q := fun g => Nat.not_lt.mpr (Nat.le_min.mpr ⟨by omega, g⟩) h1
  omega
theorem hd_size {l : List UInt8} {m k : Nat} (h : l.length ≤ 100000) : (List.take m (List.drop k l)).length ≤ 1099511627776 := by
  rw [List.length_take, List.length_drop]; exact Nat.le_trans (Nat.min_le_right _ _) (Nat.le_trans (Nat.sub_le _ _) (Nat.le_trans h (by decide)))
theorem four_nlt {q n : Nat} (h : ¬ ((min (((q : Int) + 4).toNat - (q : Int).toNat) (n - (q : Int).toNat) : Nat) : Int) < 4) : ¬ (n : Int) < (q : Int) + 4 := Int.not_lt.mpr (four_le h)
set_option maxHeartbeats 8000000 in
theorem ll (w : World) (mean : ExcName → Option Value) (mg mb : Str → Option Value) (l : List UInt8) (hl : l.length ≤ 100000) (p : Nat) (tb t : Tok) :
    Pure w mean mg mb 137 26 300 [.bytes l.toArray tb, .int p t] (ReadV l p) (fun _ => False) := by
  k_with_none
  k_with "k_ne" => (refine neN ?_; (try dsimp only); first | with_reducible assumption | (with_reducible refine Ne.symm ?_; with_reducible assumption) | (with_reducible refine' ne_lt ?z1q1 ?z1q2; (case z1q1 => with_reducible assumption); (case z1q2 => (with_reducible ((repeat (first | exact List.mem_cons_self | refine List.mem_cons_of_mem _ ?_)); done)))) | (with_reducible refine' ne_gt ?z1q1 ?z1q2; (case z1q1 => with_reducible assumption); (case z1q2 => (with_reducible ((repeat (first | exact List.mem_cons_self | refine List.mem_cons_of_mem _ ?_)); done)))) | (with_reducible refine' ne_of ?z1q1 ?z1q2; (case z1q1 => with_reducible assumption); (case z1q2 => (with_reducible ((repeat (first | exact List.mem_cons_self | refine List.mem_cons_of_mem _ ?_)); done)))) | (with_reducible refine' ne_fo ?z1q1 ?z1q2; (case z1q1 => with_reducible assumption); (case z1q2 => (with_reducible ((repeat (first | exact List.mem_cons_self | refine List.mem_cons_of_mem _ ?_)); done)))) | (with_reducible refine' off_I ?z1q1 ?z1q2; (case z1q1 => with_reducible assumption); (case z1q2 => (with_reducible ((repeat (first | exact List.mem_cons_self | refine List.mem_cons_of_mem _ ?_)); done)))) | (with_reducible refine' off_C ?z1q1 ?z1q2; (case z1q1 => with_reducible assumption); (case z1q2 => (with_reducible ((repeat (first | exact List.mem_cons_self | refine List.mem_cons_of_mem _ ?_)); done)))) | (with_reducible refine' off_D ?z1q1 ?z1q2; (case z1q1 => with_reducible assumption); (case z1q2 => (with_reducible ((repeat (first | exact List.mem_cons_self | refine List.mem_cons_of_mem _ ?_)); done)))) | (with_reducible refine' I_off ?z1q1 ?z1q2; (case z1q1 => with_reducible assumption); (case z1q2 => (with_reducible ((repeat (first | exact List.mem_cons_self | refine List.mem_cons_of_mem _ ?_)); done)))) | (with_reducible refine' C_off ?z1q1 ?z1q2; (case z1q1 => with_reducible assumption); (case z1q2 => (with_reducible ((repeat (first | exact List.mem_cons_self | refine List.mem_cons_of_mem _ ?_)); done)))) | (with_reducible refine' D_off ?z1q1 ?z1q2; (case z1q1 => with_reducible assumption); (case z1q2 => (with_reducible ((repeat (first | exact List.mem_cons_self | refine List.mem_cons_of_mem _ ?_)); done)))) | (first | exact And.left (by with_reducible assumption) | exact And.left (And.right (by with_reducible assumption)) | exact And.right (And.right (by with_reducible assumption)) | exact And.right (by with_reducible assumption) | exact And.left (And.right (And.right (by with_reducible assumption))) | exact And.left (And.right (And.right (And.right (by with_reducible assumption)))) | exact And.right (And.right (And.right (And.right (by with_reducible assumption)))) | exact And.right (And.right (And.right (by with_reducible assumption))) | exact And.left (And.left (by with_reducible assumption)) | exact And.left (And.right (And.left (by with_reducible assumption))) | exact And.right (And.right (And.left (by with_reducible assumption)))) | (with_reducible refine Ne.symm ?_; first | exact And.left (by with_reducible assumption) | exact And.left (And.right (by with_reducible assumption)) | exact And.right (And.right (by with_reducible assumption)) | exact And.right (by with_reducible assumption) | exact And.left (And.right (And.right (by with_reducible assumption))) | exact And.left (And.right (And.right (And.right (by with_reducible assumption)))) | exact And.right (And.right (And.right (And.right (by with_reducible assumption)))) | exact And.right (And.right (And.right (by with_reducible assumption))) | exact And.left (And.left (by with_reducible assumption)) | exact And.left (And.right (And.left (by with_reducible assumption))) | exact And.right (And.right (And.left (by with_reducible assumption)))) | omega)
  k_with "ktr_enter" => (refine' enterP ?z2k1 ?z2k2 ?z2k3 ?z2k5 ?z2kA ?z2kF ?z2kK ?z2k6 ?z2k7 ?z2k8 ?z2k9 ?z2kB ?_ ?z2c2 ?z2c3 ?z2c4 ?z2c5; (case z2kA => exact rfl); (case z2kF => exact rfl); (case z2kK => assumption); (case z2k1 => k_asm); (case z2k2 => k_asm); (case z2k3 => k_asm); (case z2k5 => k_asm); (case z2k6 => k_is); (case z2k7 => k_is); (case z2k8 => ktr_room); (case z2k9 => first | exact BindsTo.of_eq rfl | exact binds_K (by k_in) rfl (by k_is) rfl rfl rfl); (case z2c5 => decide); (case z2kB => exact locs rfl); (case z2c2 => exact rfl); (case z2c3 => exact rfl); (case z2c4 => exact rfl); k_whole; intro L' h' F' N' B' X' T'; (try dsimp only); (try k_fold))
  k_with "exec Raise some none" => (k_here; (with_reducible show wpAny _ _ (exec (Stmt.Raise (some (Expr.Call (Expr.Name ("BadLine" : Str) _) _ _ _)) none _) _) _ _ _); refine raise_own_init (C := 57) rfl ?_)
  k_with "call ref" => (k_here; (with_reducible show wpAny _ _ (call (Value.ref 57) _) _ _ _); k_dflt (refine' call_excK (C := 57) (fI := 29) ?z4k1 ?z4k2 ?z4k3 PySem.F.excBase_Exception chainBL ?z4kC ?z4k4 ?z4k5 ?z4k6 ?_; (case z4k1 => k_asm); (case z4k2 => k_asm); (case z4k3 => k_asm); (case z4kC => k_is); (case z4k4 => k_is); (case z4k5 => k_is); (case z4k6 => size_fits); k_whole; intro x' d' h' F' N' l1 l2; (try k_lt l1); (try k_lt2 l2); (try k_sweep); k_enter))
  k_with "setAttr ref" => (k_here; k_dflt (refine' set_excK (pre := []) (C := 57) ?z5k1 ?z5k2 ?z5k3 ?z5h1 ?z5h2 ?z5k4 ?z5k5 ?z5k6 ?z5k7 ?z5k8 ?z5k9 ?z5k10 ?_; (case z5k1 => k_asm); (case z5k2 => k_asm); (case z5k3 => k_asm); (case z5h1 => exact List.forall_mem_nil _); (case z5h2 => k_all); (case z5k4 => k_is); (case z5k5 => exact rfl); (case z5k6 => exact rfl); (case z5k7 => decide); (case z5k8 => exact passBL); (case z5k9 => k_is); (case z5k10 => k_is); k_whole; intro x' h' F' N' l1; (try simp only [List.nil_append] at N')))
  k_with "ThrowX" => (k_here; k_dflt (refine' throwX_of ?z6k1 ?z6k2 ?z6k3 ?z6k4 ?z6k5 ?z6k6 ?_; (case z6k1 => k_asm); (case z6k2 => k_asm); (case z6k3 => k_asm); (case z6k4 => k_mem); (case z6k5 => k_is); (case z6k6 => k_is); k_whole))
  k_with "leaving ref" => (k_here; k_dflt (refine' leave_first ?z7k1 ?z7k2 ?z7k3 ?z7k4 ?z7k5 ?z7k6 ?z7k7 ?z7k8 ?_; (case z7k1 => k_asm); (case z7k2 => k_asm); (case z7k3 => k_asm); (case z7k4 => k_mem); (case z7k5 => k_mem); (case z7k6 => (intro _ q9; cases q9)); (case z7k7 => exact notModule); (case z7k8 => exact rfl); k_whole; intro h' R'))
  k_with "kba_size" => first | omega | ((simp only [List.length_append, List.length_take, List.length_drop, List.length_cons, List.length_nil]); omega)
  k_with "call builtin:len" => (k_here; (with_reducible show wpAny _ _ (call (Value.builtin "len") [Value.bytes (List.toArray _) _]) _ _ _); (refine bytes_len (by kba_size) ?_); (try simp only [List.length_append, List.length_take, List.length_drop]))
  k_with "binaryOp Add bytes bytes" => (k_here; (with_reducible show wpAny _ _ (binaryOp Operator.Add (Value.bytes (List.toArray _) _) (Value.bytes (List.toArray _) _)) _ _ _); (refine bytes_add (by kba_size) ?_); intro _ _)
  k_with "compareOp Eq bytes bytes" => (k_here; (with_reducible show wpAny _ _ (compareOp CmpOp.Eq (Value.bytes (List.toArray _) _) (Value.bytes (List.toArray _) _)) _ _ _); (refine bytes_eq ?_))
  k_with "compareOp NotEq bytes bytes" => (k_here; (with_reducible show wpAny _ _ (compareOp CmpOp.NotEq (Value.bytes (List.toArray _) _) (Value.bytes (List.toArray _) _)) _ _ _); (refine bytes_ne ?_))
  k_with "subscriptTail" => (k_here; (with_reducible show wpAny _ _ (subscriptTail _ (Expr.Slice _ _ none _) (Value.bytes (List.toArray _) _) (Value.ref _)) _ _ _); (with_reducible rename Fr _ _ _ _ => F'); (with_reducible rename News _ _ _ _ => N'); (first | refine cut_mid (s := ⟨_, _, _, _, _⟩) F' N' (by kba_size) (by kba_size) (by kba_size) ?_ | refine cut_from (s := ⟨_, _, _, _, _⟩) F' N' (by kba_size) (by kba_size) ?_ | refine cut_to (s := ⟨_, _, _, _, _⟩) F' N' (by kba_size) (by kba_size) ?_ | refine cut_back (s := ⟨_, _, _, _, _⟩) F' N' (by kba_size) (by kba_size) ?_); intro h' _ _ F' N')
  k_with "exec For Name Subscript cons nil" => (k_here; (rename Fr _ _ _ _ => lF'); (with_unfolding_all refine' For_invVF lF' ?z14k1 ?z14k2 ?_; (case z14k1 => exact rfl); (case z14k2 => exact rfl); k_whole))
  k_with "leaving ref" => (k_here; k_dflt (refine' leave_next ?z15k1 ?z15k2 ?z15k3 ?z15k7 ?z15k8 ?_; (case z15k3 => assumption); (case z15k1 => assumption); (case z15k2 => assumption); (case z15k7 => exact notModule); (case z15k8 => exact rfl); k_whole; intro h' R'))
  k_with "call builtin:list.append" => (k_here; (with_reducible show wpAny _ _ (call (Value.builtin _) [Value.ref _, _]) _ _ _); k_dflt (refine' append_L ?z16k1 ?z16k2 ?z16k3 ?z16z ?_; (case z16k1 => k_asm); (case z16k2 => k_asm); (case z16k3 => k_upd); (case z16z => kba_size); k_whole); intro h' F' N'; (try k_sweep))
  k_with "compareOp Eq bytes int" => (with_reducible refine eq_bytes_int ?_)
  k_with "compareOp Eq int bytes" => (with_reducible refine eq_int_bytes ?_)
  k_with "compareOp NotIn" => (k_here; (with_reducible show wpAny _ _ (compareOp CmpOp.NotIn (Value.int _ _) (Value.bytes _ _)) _ _ _); refine notin_hex (by omega) (by omega) ?_)
  k_with "getMethod bytes" => (k_here; (with_reducible refine method_index ?_))
  k_with "call builtin:bytes.index" => (k_here; (with_reducible show wpAny _ _ (call (Value.builtin "bytes.index") [Value.bytes _ _, Value.int _ _]) _ _ _); refine index_hex (by omega) (by omega) (by first | exact (figZ_up (by assumption) (by assumption) (by assumption)).1 | exact (figZ_low (by assumption) (by omega)).1) ?_)
  k_with "subscriptTail" => (k_here; (with_reducible show wpAny _ _ (subscriptTail _ (Expr.Name _ _) (Value.ref _) (Value.int _ _)) _ _ _); k_dflt (refine' item3 ?z22k1 ?z22k2 ?z22k3 ?z22k4 ?_ ?z22k6; (case z22k1 => k_asm); (case z22k2 => k_mem); (case z22k3 => assumption); (case z22k4 => omega); (case z22k6 => with_unfolding_all rfl); k_whole); intro t9 h9)
  k_with "kst_same" => (intro z h1 h2 h3; (have h4 : ¬ z = Str.ofString "many" := h2 _ (List.Mem.head _)); (simp only [kstB, h1, h4, if_false, List.contains_nil, Bool.false_eq_true]; done))
  k_with "InvEndN" => k_dflt kst_close
  k_with "binaryOp Add ref ref" => (k_here; (with_reducible show wpAny _ _ (binaryOp Operator.Add (Value.ref _) (Value.ref _)) _ _ _); k_dflt (refine add_lists (by assumption) (by assumption) (by is_list) (by is_list) ?_); intro _ _ _)
  k_with "kba_size" => first | exact hd_size (by with_reducible assumption) | (rw [List.length_map]; exact hd_size (by with_reducible assumption))
  intro dp un gd cn cs a ccd cl outer A₀ base h₀ L m s Q E B F X T hk hdp hun hret hexc
  revert X; k_fill; intro X
  refine wpAny_call ?_
  k_dflt ktr_enter
  clear B F X T hexc
  k_with "exec While Compare cons nil" => ((with_reducible rename Fr _ _ _ _ => F0); (with_reducible rename News _ _ _ _ => N0); refine' ksw_while (σ := LnSt) (fun c => [(c.D, listOf c.vs.toArray c.c)]) (fun c => [(Str.ofString "items", .ref c.D), (Str.ofString "at", .int (c.q : Nat) c.tq)]) (fun c => ItemsV c.items c.vs) [Str.ofString "head", Str.ofString "many", Str.ofString "sign"] (LnP l p) (fun c => c.n) ⟨p, [], [], 0, _, t, l.length + 1⟩ F0 N0 ?f1 ?f2 ?f3 ?turn; (case' turn => (intro c9 u9 h' tk' hI9 hP9 F' N'; obtain ⟨q8, is8, vs8, c8, D8, t8, n8⟩ := c9; dsimp only at hI9 F' N'; (have hlen9 := hP9.1; dsimp only at hlen9))))
  k_with "pyIter bytes" => k_dflt (k_state (fun pre a => headZ pre 0 = some a) "many")
  k_with "state" => first | exact headZ_snoc (by assumption) (figZ_up (by assumption) (by assumption) (by assumption)).2 | exact headZ_snoc (by assumption) (figZ_low (by assumption) (by omega)).2 | exact rfl
  k_with "execs cons" => (k_fold; with_reducible refine wpAny_execs_cons ?_)
  w_top off
  k_steps
  · exact hret _ _ _ (Fr.keep (by assumption)) (.inl ⟨ln_bad (by assumption) (by assumption) (lineS_short (by first | exact four_gt (by with_reducible assumption) | omega)), rfl⟩)
  · exact hret _ _ _ (Fr.keep (by assumption)) (.inl ⟨ln_bad (by assumption) (by assumption) (lineS_bad (by first | exact four_nlt (by with_reducible assumption) | with_reducible assumption | omega) (by assumption) (by assumption)), rfl⟩)
  · refine hret _ _ _ (Fr.keep (by assumption)) (.inl ⟨ln_bad (by assumption) (by assumption) ?_, rfl⟩)
    rw [lineS_some (by first | exact four_nlt (by with_reducible assumption) | with_reducible assumption | omega) (by assumption), if_neg (by first | exact four_nlt (by with_reducible assumption) | with_reducible assumption | omega), if_pos (by first | exact four_nlt (by with_reducible assumption) | with_reducible assumption | omega)]
  · refine hret _ _ _ (Fr.keep (by assumption)) (.inl ⟨ln_bad (by assumption) (by assumption) ?_, rfl⟩)
    rw [lineS_some (by first | exact four_nlt (by with_reducible assumption) | with_reducible assumption | omega) (by assumption), if_neg (by first | exact four_nlt (by with_reducible assumption) | with_reducible assumption | omega), if_neg (by first | exact four_nlt (by with_reducible assumption) | with_reducible assumption | omega), if_pos (by first | exact four_nlt (by with_reducible assumption) | with_reducible assumption | omega)]
  · refine hret _ _ _ (Fr.keep (by assumption)) (.inl ⟨ln_bad (by assumption) (by assumption) ?_, rfl⟩)
    rw [lineS_some (by first | exact four_nlt (by with_reducible assumption) | with_reducible assumption | omega) (by assumption), if_neg (by first | exact four_nlt (by with_reducible assumption) | with_reducible assumption | omega), if_neg (by first | exact four_nlt (by with_reducible assumption) | with_reducible assumption | omega), if_neg (by first | exact four_nlt (by with_reducible assumption) | with_reducible assumption | omega), if_pos (by first | exact four_nlt (by with_reducible assumption) | with_reducible assumption | omega)]
  · refine ln_data (by assumption) (by assumption) (by assumption) (by assumption) (by assumption) (by first | exact four_nlt (by with_reducible assumption) | with_reducible assumption | omega) (by assumption) (by assumption) (by assumption) (by assumption) (by assumption) (by rfl) (by rfl) ?_
    intro z h2 h4 h3; simp only [List.contains_cons, List.contains_nil, Bool.or_false, Bool.or_eq_false_iff, beq_eq_false_iff_ne, ne_eq] at h3; simp only [kstB, List.contains_cons, List.contains_nil, Bool.or_false, Bool.or_eq_true, beq_iff_eq, h3.1, h3.2.1, h3.2.2, h2, h4, if_false, or_self, Bool.false_eq_true]
  · exact hret _ _ _ (Fr.keep (by assumption)) (ln_ret (it := .mark _) (by assumption) (.tail _ (.head _)) (by first | exact raw_lt (by with_reducible assumption) (by k_mem) | omega) (by assumption) ⟨_, rfl⟩ (ln_stop (by assumption) (by assumption) (by first | exact four_nlt (by with_reducible assumption) | with_reducible assumption | omega) (by assumption) (by first | exact four_nlt (by with_reducible assumption) | with_reducible assumption | omega) (by assumption) (by assumption)))
  · refine ln_mark (by assumption) (by assumption) (by assumption) (by assumption) (by assumption) (by first | exact four_nlt (by with_reducible assumption) | with_reducible assumption | omega) (by assumption) (by first | exact four_nlt (by with_reducible assumption) | with_reducible assumption | omega) (by rfl) (by rfl) ?_
    intro z h2 h4 h3; simp only [List.contains_cons, List.contains_nil, Bool.or_false, Bool.or_eq_false_iff, beq_eq_false_iff_ne, ne_eq] at h3; simp only [kstB, List.contains_cons, List.contains_nil, Bool.or_false, Bool.or_eq_true, beq_iff_eq, h3.1, h3.2.1, h3.2.2, h2, h4, if_false, or_self, Bool.false_eq_true]
  · exact hret _ _ _ (Fr.keep (by assumption)) (.inr (read_ret (by assumption) (.head _) (by first | exact raw_lt (by with_reducible assumption) (by k_mem) | omega) (by assumption) (ln_over (by assumption) (by assumption))))
  · exact trivial
  · rename_i h9
    rcases List.mem_cons.mp h9 with rfl | h9
    · rfl
    · rw [List.mem_singleton] at h9
      subst h9
      rfl
  · dsimp only; simp
  · dsimp only; simp [preI]
end

-- part K7
section
open PySem PySem.Calls PySem.W PyProof.Rows Builtin Builtin.ObjectAttr
set_option maxRecDepth 100000

/-- a deck: its list of ints, its number -/
structure DeckOk (w : World) (od : Obj) (D : Addr) (ol : Obj) (vs : List Value) (c : Nat) (xs : List Int) (mx : Int) (t3 : Tok) : Prop where
  isL : ol = listOf vs.toArray c
  isI : IntsAre vs xs
  short : xs.length ≤ 24
  within : ∀ x ∈ xs, 0 ≤ x ∧ x < 1000003
  m0 : 0 ≤ mx
  m1 : mx < 1000003
  isD : od.IsDictOf (PySem.strKind PySem.Challenge.rw_nt0268_01.row.prog w) [(Str.ofString "left", .ref D), (Str.ofString "mixed", .int mx t3)]
def Deck (w : World) (od : Obj) (D : Addr) (ol : Obj) : Prop := ∃ vs c xs mx t3, DeckOk w od D ol vs c xs mx t3

def Draws (w : World) (mean : ExcName → Option Value) (mg mb : Str → Option Value) : Prop :=
  ∀ (dp un : Nat) (gd : Option (List Code)) (cn : Str) (cs : Scope) (a : Addr) (ccd : Value) (cl : List (Str × Addr)) (outer : List Env) (A₀ : Around) (base h₀ : Heap) (L : Addr) (m : Str → Option Value) (s : Shared) (Q E : Value → Shared → Prop) (d D : Addr) (od ol : Obj) (k : Int) (tk : Tok),
    Below A₀ base outer h₀ → Fr h₀ L s.heap m → (hd.heap_39 w.params).In h₀ → Top hd.view_39 looseH mean mg mb h₀ → cs.kind = .function → dp + 6 < recursionLimit → un + 300 < cLine →
    News h₀ L s.heap [(d, od), (D, ol)] → d ≠ D → Deck w od D ol → 1 ≤ k → k ≤ 100 →
    (∀ r t h' tk' od' ol', 0 ≤ r → r < k → (∀ b o, s.heap.get? b = some o → b ∉ [d, D] → h'.get? b = some o) → h'.get? d = some od' → h'.get? D = some ol' → Deck w od' D ol' → Q (.int r t) { s with heap := h', toks := tk' }) →
    wpAny (model PySem.Challenge.rw_nt0268_01.row.prog w) (ktrTop dp un gd cn cs L a ccd cl outer) (call (.ref 125) [.ref d, .int k tk]) Q E s
local macro_rules | `(tactic| units_room) => `(tactic| ktr_units)
theorem fm0 {a k : Int} (hk : 1 ≤ k) : 0 ≤ a.fmod k ∧ a.fmod k < k := by
  rw [Int.fmod_eq_emod_of_nonneg _ (by omega)]
  exact ⟨Int.emod_nonneg _ (by omega), Int.emod_lt_of_pos _ (by omega)⟩
theorem draw_end {w : World} {Q E : Value → Shared → Prop} {s : Shared} {h₀ g h' : Heap} {L L' d D : Addr} {m m' : Str → Option Value} {news' : List (Addr × Obj)} {od' ol' : Obj} {r k : Int} {t : Tok} {tk' : Nat} (G : GSub s.heap g [d, D]) (F' : Fr g L' h' m') (N' : News g L' h' news') (hd : (d, od') ∈ news') (hD : (D, ol') ∈ news') (hdk : Deck w od' D ol') (h0 : 0 ≤ r ∧ r < k)
    (hret : ∀ r t h' tk' od' ol', 0 ≤ r → r < k → (∀ b o, s.heap.get? b = some o → b ∉ [d, D] → h'.get? b = some o) → h'.get? d = some od' → h'.get? D = some ol' → Deck w od' D ol' → Q (.int r t) { s with heap := h', toks := tk' }) :
    LeaveK h₀ L m g (fun r s' => match r with | .ok (.ret v) => Q v s' | .ok _ => False | .error e => E e s') (.int r t) { s with heap := h', toks := tk' } :=
  ⟨L', m', news', F', N', fun _ _ => hret r t h' tk' od' ol' h0.1 h0.2 (fun b o e hb => F'.keep b o (G b o e hb)) (N' _ hd).1 (N' _ hD).1 hdk⟩
theorem pop0 {prog : Program} {w : World} {A : Around} {E : Value → Shared → Prop} {s : Shared} {h₀ : Heap} {L D : Addr} {m : Str → Option Value} {news news' : List (Addr × Obj)} {y : Value} {q : List Value} {n : Nat} {u : Tok} {Q : Value → Shared → Prop} (F : Fr h₀ L s.heap m) (N : News h₀ L s.heap news)
    (U : Upd D (listOf (y :: q).toArray n) (listOf q.toArray (n + 1)) news news') (hz : q.length ≤ 100) (h : ∀ h', Fr h₀ L h' m → News h₀ L h' news' → Q y { s with heap := h' }) : wpAny (model prog w) A (call (.builtin "list.pop") [.ref D, .int 0 u]) Q E s :=
  kl_popAt (p := []) (k := 0) F N rfl (by
    rw [List.size_toArray, List.length_cons]
    have := StrLaws.seqIndex_nonneg (i := 0) (n := q.length + 1) (by decide) (by omega)
    exact this) rfl U (by
    show (y :: q).length ≤ sizeLine
    rw [sizeLine_eq, List.length_cons]
    omega) h
set_option maxHeartbeats 8000000 in
theorem draws (w : World) (mean : ExcName → Option Value) (mg mb : Str → Option Value) : Draws w mean mg mb := by
  k_with_none
  k_with "k_ne" => (refine neN ?_; (try dsimp only); first | with_reducible assumption | (with_reducible refine Ne.symm ?_; with_reducible assumption) | (with_reducible refine' ne_lt ?z1q1 ?z1q2; (case z1q1 => with_reducible assumption); (case z1q2 => (with_reducible ((repeat (first | exact List.mem_cons_self | refine List.mem_cons_of_mem _ ?_)); done)))) | (with_reducible refine' ne_gt ?z1q1 ?z1q2; (case z1q1 => with_reducible assumption); (case z1q2 => (with_reducible ((repeat (first | exact List.mem_cons_self | refine List.mem_cons_of_mem _ ?_)); done)))) | (with_reducible refine' ne_of ?z1q1 ?z1q2; (case z1q1 => with_reducible assumption); (case z1q2 => (with_reducible ((repeat (first | exact List.mem_cons_self | refine List.mem_cons_of_mem _ ?_)); done)))) | (with_reducible refine' ne_fo ?z1q1 ?z1q2; (case z1q1 => with_reducible assumption); (case z1q2 => (with_reducible ((repeat (first | exact List.mem_cons_self | refine List.mem_cons_of_mem _ ?_)); done)))) | (with_reducible refine' off_I ?z1q1 ?z1q2; (case z1q1 => with_reducible assumption); (case z1q2 => (with_reducible ((repeat (first | exact List.mem_cons_self | refine List.mem_cons_of_mem _ ?_)); done)))) | (with_reducible refine' off_C ?z1q1 ?z1q2; (case z1q1 => with_reducible assumption); (case z1q2 => (with_reducible ((repeat (first | exact List.mem_cons_self | refine List.mem_cons_of_mem _ ?_)); done)))) | (with_reducible refine' off_D ?z1q1 ?z1q2; (case z1q1 => with_reducible assumption); (case z1q2 => (with_reducible ((repeat (first | exact List.mem_cons_self | refine List.mem_cons_of_mem _ ?_)); done)))) | (with_reducible refine' I_off ?z1q1 ?z1q2; (case z1q1 => with_reducible assumption); (case z1q2 => (with_reducible ((repeat (first | exact List.mem_cons_self | refine List.mem_cons_of_mem _ ?_)); done)))) | (with_reducible refine' C_off ?z1q1 ?z1q2; (case z1q1 => with_reducible assumption); (case z1q2 => (with_reducible ((repeat (first | exact List.mem_cons_self | refine List.mem_cons_of_mem _ ?_)); done)))) | (with_reducible refine' D_off ?z1q1 ?z1q2; (case z1q1 => with_reducible assumption); (case z1q2 => (with_reducible ((repeat (first | exact List.mem_cons_self | refine List.mem_cons_of_mem _ ?_)); done)))) | (first | exact And.left (by with_reducible assumption) | exact And.left (And.right (by with_reducible assumption)) | exact And.right (And.right (by with_reducible assumption)) | exact And.right (by with_reducible assumption) | exact And.left (And.right (And.right (by with_reducible assumption))) | exact And.left (And.right (And.right (And.right (by with_reducible assumption)))) | exact And.right (And.right (And.right (And.right (by with_reducible assumption)))) | exact And.right (And.right (And.right (by with_reducible assumption))) | exact And.left (And.left (by with_reducible assumption)) | exact And.left (And.right (And.left (by with_reducible assumption))) | exact And.right (And.right (And.left (by with_reducible assumption)))) | (with_reducible refine Ne.symm ?_; first | exact And.left (by with_reducible assumption) | exact And.left (And.right (by with_reducible assumption)) | exact And.right (And.right (by with_reducible assumption)) | exact And.right (by with_reducible assumption) | exact And.left (And.right (And.right (by with_reducible assumption))) | exact And.left (And.right (And.right (And.right (by with_reducible assumption)))) | exact And.right (And.right (And.right (And.right (by with_reducible assumption)))) | exact And.right (And.right (And.right (by with_reducible assumption))) | exact And.left (And.left (by with_reducible assumption)) | exact And.left (And.right (And.left (by with_reducible assumption))) | exact And.right (And.right (And.left (by with_reducible assumption)))) | omega)
  k_with "ktr_enter" => (refine' enterPC ?z2k1 ?z2k2 ?z2k3 ?z2k5 ?z2kA ?z2kF ?z2kK ?z2k6 ?z2k7 ?z2k8 ?z2k9 ?z2kB ?z2kD ?_ ?z2c2 ?z2c3 ?z2c4; (case z2kA => exact rfl); (case z2kF => exact rfl); (case z2kK => assumption); (case z2k1 => k_asm); (case z2k2 => k_asm); (case z2k3 => k_asm); (case z2k5 => k_asm); (case z2k6 => k_is); (case z2k7 => k_is); (case z2k8 => ktr_room); (case z2k9 => first | exact BindsTo.of_eq rfl | exact binds_K (by k_in) rfl (by k_is) rfl rfl rfl); (case z2kB => exact rfl); (case z2kD => decide +kernel); (case z2c2 => exact rfl); (case z2c3 => exact rfl); (case z2c4 => exact rfl); k_whole; intro L' h' tk' cells' F' N' Y' B' X' T'; k_cells Y'; (try simp only [List.cons_append, List.nil_append, List.append_nil] at N'); (try dsimp only); (try k_fold))
  k_with "ktr_enter" => (refine' enterP ?z3k1 ?z3k2 ?z3k3 ?z3k5 ?z3kA ?z3kF ?z3kK ?z3k6 ?z3k7 ?z3k8 ?z3k9 ?z3kB ?_ ?z3c2 ?z3c3 ?z3c4 ?z3c5; (case z3kA => exact rfl); (case z3kF => exact rfl); (case z3kK => assumption); (case z3k1 => k_asm); (case z3k2 => k_asm); (case z3k3 => k_asm); (case z3k5 => k_asm); (case z3k6 => k_is); (case z3k7 => k_is); (case z3k8 => ktr_room); (case z3k9 => first | exact BindsTo.of_eq rfl | exact binds_K (by k_in) rfl (by k_is) rfl rfl rfl); (case z3c5 => decide); (case z3kB => exact locs rfl); (case z3c2 => exact rfl); (case z3c3 => exact rfl); (case z3c4 => exact rfl); k_whole; intro L' h' F' N' B' X' T'; (try dsimp only); (try k_fold))
  k_with "exec Raise some none" => (k_here; (with_reducible show wpAny _ _ (exec (Stmt.Raise (some (Expr.Call (Expr.Name ("BadLine" : Str) _) _ _ _)) none _) _) _ _ _); refine raise_own_init (C := 57) rfl ?_)
  k_with "call ref" => (k_here; (with_reducible show wpAny _ _ (call (Value.ref 57) _) _ _ _); k_dflt (refine' call_excK (C := 57) (fI := 29) ?z5k1 ?z5k2 ?z5k3 PySem.F.excBase_Exception chainBL ?z5kC ?z5k4 ?z5k5 ?z5k6 ?_; (case z5k1 => k_asm); (case z5k2 => k_asm); (case z5k3 => k_asm); (case z5kC => k_is); (case z5k4 => k_is); (case z5k5 => k_is); (case z5k6 => size_fits); k_whole; intro x' d' h' F' N' l1 l2; (try k_lt l1); (try k_lt2 l2); (try k_sweep); k_enter))
  k_with "setAttr ref" => (k_here; k_dflt (refine' set_excK (pre := []) (C := 57) ?z6k1 ?z6k2 ?z6k3 ?z6h1 ?z6h2 ?z6k4 ?z6k5 ?z6k6 ?z6k7 ?z6k8 ?z6k9 ?z6k10 ?_; (case z6k1 => k_asm); (case z6k2 => k_asm); (case z6k3 => k_asm); (case z6h1 => exact List.forall_mem_nil _); (case z6h2 => k_all); (case z6k4 => k_is); (case z6k5 => exact rfl); (case z6k6 => exact rfl); (case z6k7 => decide); (case z6k8 => exact passBL); (case z6k9 => k_is); (case z6k10 => k_is); k_whole; intro x' h' F' N' l1; (try simp only [List.nil_append] at N')))
  k_with "ThrowX" => (k_here; k_dflt (refine' throwX_of ?z7k1 ?z7k2 ?z7k3 ?z7k4 ?z7k5 ?z7k6 ?_; (case z7k1 => k_asm); (case z7k2 => k_asm); (case z7k3 => k_asm); (case z7k4 => k_mem); (case z7k5 => k_is); (case z7k6 => k_is); k_whole))
  k_with "leaving ref" => (k_here; k_dflt (refine' leave_first ?z8k1 ?z8k2 ?z8k3 ?z8k4 ?z8k5 ?z8k6 ?z8k7 ?z8k8 ?_; (case z8k1 => k_asm); (case z8k2 => k_asm); (case z8k3 => k_asm); (case z8k4 => k_mem); (case z8k5 => k_mem); (case z8k6 => (intro _ q9; cases q9)); (case z8k7 => exact notModule); (case z8k8 => exact rfl); k_whole; intro h' R'))
  k_with "kba_size" => first | omega | ((simp only [List.length_append, List.length_take, List.length_drop, List.length_cons, List.length_nil]); omega)
  k_with "call builtin:len" => (k_here; (with_reducible show wpAny _ _ (call (Value.builtin "len") [Value.bytes (List.toArray _) _]) _ _ _); (refine bytes_len (by kba_size) ?_); (try simp only [List.length_append, List.length_take, List.length_drop]))
  k_with "binaryOp Add bytes bytes" => (k_here; (with_reducible show wpAny _ _ (binaryOp Operator.Add (Value.bytes (List.toArray _) _) (Value.bytes (List.toArray _) _)) _ _ _); (refine bytes_add (by kba_size) ?_); intro _ _)
  k_with "compareOp Eq bytes bytes" => (k_here; (with_reducible show wpAny _ _ (compareOp CmpOp.Eq (Value.bytes (List.toArray _) _) (Value.bytes (List.toArray _) _)) _ _ _); (refine bytes_eq ?_))
  k_with "compareOp NotEq bytes bytes" => (k_here; (with_reducible show wpAny _ _ (compareOp CmpOp.NotEq (Value.bytes (List.toArray _) _) (Value.bytes (List.toArray _) _)) _ _ _); (refine bytes_ne ?_))
  k_with "subscriptTail" => (k_here; (with_reducible show wpAny _ _ (subscriptTail _ (Expr.Slice _ _ none _) (Value.bytes (List.toArray _) _) (Value.ref _)) _ _ _); (with_reducible rename Fr _ _ _ _ => F'); (with_reducible rename News _ _ _ _ => N'); (first | refine cut_mid (s := ⟨_, _, _, _, _⟩) F' N' (by kba_size) (by kba_size) (by kba_size) ?_ | refine cut_from (s := ⟨_, _, _, _, _⟩) F' N' (by kba_size) (by kba_size) ?_ | refine cut_to (s := ⟨_, _, _, _, _⟩) F' N' (by kba_size) (by kba_size) ?_ | refine cut_back (s := ⟨_, _, _, _, _⟩) F' N' (by kba_size) (by kba_size) ?_); intro h' _ _ F' N')
  k_with "exec For Name Subscript cons nil" => (k_here; (rename Fr _ _ _ _ => lF'); (with_unfolding_all refine' For_invVF lF' ?z15k1 ?z15k2 ?_; (case z15k1 => exact rfl); (case z15k2 => exact rfl); k_whole))
  k_with "leaving ref" => (k_here; k_dflt (refine' leave_next ?z16k1 ?z16k2 ?z16k3 ?z16k7 ?z16k8 ?_; (case z16k3 => assumption); (case z16k1 => assumption); (case z16k2 => assumption); (case z16k7 => exact notModule); (case z16k8 => exact rfl); k_whole; intro h' R'))
  k_with "call builtin:list.append" => (k_here; (with_reducible show wpAny _ _ (call (Value.builtin _) [Value.ref _, _]) _ _ _); k_dflt (refine' append_L ?z17k1 ?z17k2 ?z17k3 ?z17z ?_; (case z17k1 => k_asm); (case z17k2 => k_asm); (case z17k3 => k_upd); (case z17z => kba_size); k_whole); intro h' F' N'; (try k_sweep))
  k_with "compareOp Eq bytes int" => (with_reducible refine eq_bytes_int ?_)
  k_with "compareOp Eq int bytes" => (with_reducible refine eq_int_bytes ?_)
  k_with "call type:bytes" => (k_here; (with_reducible show wpAny _ _ (call (Value.type _) [Value.ref _]) _ _ _); k_dflt (refine' bytes_mk ?z20F ?z20N ?z20m ?z20i ?z20z ?z20h ?_; (case z20F => k_asm); (case z20N => k_asm); (case z20m => k_mem); (case z20i => (first | assumption | exact .nil | exact .cons .nil | exact .cons (.cons .nil) | exact .cons (.cons (.cons .nil)) | exact .cons (.cons (.cons (.cons .nil))))); (case z20z => first | omega | (simp only [List.length_cons, List.length_nil]; omega)); (case z20h => with_unfolding_all rfl); k_whole); intro h' t' k' F' N'; (try k_sweep))
  k_with "call builtin:list.pop" => (k_here; (with_reducible show wpAny _ _ (call (Value.builtin _) [Value.ref _, Value.int _ _]) _ _ _); k_dflt (refine' pop0 ?z21F ?z21N ?z21U ?z21z ?_; (case z21F => k_asm); (case z21N => k_asm); (case z21U => k_upd); (case z21z => omega)); intro h' F' N')
  intro dp un gd cn cs a ccd cl outer A₀ base h₀ L m s Q E d D od ol k tk B F X T hk hdp hun N hne hdeck hk1 hk2 hret
  obtain ⟨vs, c, xs, mx, t3, hdk⟩ := hdeck
  obtain ⟨e1, hints, hlen, hlow, hm0, hm1, hdict⟩ := hdk
  subst e1
  have hne1 : @Ne Nat d D := hne
  have hne2 : @Ne Nat D d := Ne.symm hne
  revert X; k_fill; intro X
  cases hints
  all_goals (try simp only [List.length_cons] at hlen)
  all_goals (try (have hq9 := IntsAre.length (by assumption)))
  all_goals refine wpAny_call ?_
  all_goals k_dflt (refine' code_defG ?k1 ?k2 ?k3 ?k4 ?k5 ?kA ?kF ?kK ?k6 ?k7 ?k8 ?k9 ?kB ?_ ?c2 ?c3 ?c4 ?c5; (case kA => exact rfl); (case kF => exact rfl); (case kK => assumption); (case k1 => k_asm); (case k2 => k_asm); (case k3 => k_asm); (case k4 => k_asm); (case k5 => k_asm); (case k6 => k_is); (case k7 => k_is); (case k8 => ktr_room); (case k9 => exact BindsTo.of_eq rfl); (case c5 => decide); (case kB => exact locs rfl); (case c2 => exact rfl); (case c3 => exact rfl); (case c4 => exact rfl); k_whole; intro g' L' h' FG' F' N' B' X' T' kG'; (try dsimp only); (try k_fold))
  all_goals clear B F X T
  w_top off
  all_goals k_steps
  · refine draw_end (s := s) (by assumption) (by assumption) (by assumption) (.tail _ (.head _)) (.tail _ (.tail _ (.head _))) ⟨[], _, [], _, _, ⟨rfl, .nil, hlen, hlow, ?_, ?_, by assumption⟩⟩ (fm0 hk1) hret
    · exact (fm0 (by decide)).1
    · exact (fm0 (by decide)).2
  · exact absurd (by assumption : decide (_ :: _ = []) = true) (by simp)
  · refine draw_end (s := s) (by assumption) (by assumption) (by assumption) (by k_mem) (by k_mem) ⟨_, _, _, _, _, ⟨rfl, by assumption, by omega, fun x hx => hlow x (.tail _ hx), hm0, hm1, hdict⟩⟩ (fm0 hk1) hret
end

-- part K6
section
open PySem PySem.Calls PySem.W PyProof.Rows Builtin Builtin.ObjectAttr
set_option maxRecDepth 100000
def hexD (n : Nat) : UInt8 := hexLow.getD n 0
def framed : Item → List UInt8
  | .mark k => [48, 48, 48, hexD k.toNat]
  | .data l => [hexD ((l.length + 4) / 4096), hexD ((l.length + 4) / 256 % 16), hexD ((l.length + 4) / 16 % 16), hexD ((l.length + 4) % 16)] ++ l
def Good : Item → Prop
  | .mark k => 0 ≤ k ∧ k ≤ 2
  | .data l => l.length ≤ 60000

theorem bytes_same {l l' : List UInt8} {t : Tok} (h : l = l') : ∃ t', Value.bytes l.toArray t = .bytes l'.toArray t' := ⟨t, by rw [h]⟩
set_option maxHeartbeats 8000000 in
theorem pkI (w : World) (mean : ExcName → Option Value) (mg mb : Str → Option Value) (k : Int) (hk0 : 0 ≤ k) (hk2 : k ≤ 2) (t : Tok) :
    Pure w mean mg mb 76 6 64 [.int k t] (fun _ v _ => ∃ t, v = .bytes (framed (.mark k)).toArray t) (fun _ => False) := by
  k_with_none
  k_with "k_ne" => (refine neN ?_; (try dsimp only); first | with_reducible assumption | (with_reducible refine Ne.symm ?_; with_reducible assumption) | (with_reducible refine' ne_lt ?z1q1 ?z1q2; (case z1q1 => with_reducible assumption); (case z1q2 => (with_reducible ((repeat (first | exact List.mem_cons_self | refine List.mem_cons_of_mem _ ?_)); done)))) | (with_reducible refine' ne_gt ?z1q1 ?z1q2; (case z1q1 => with_reducible assumption); (case z1q2 => (with_reducible ((repeat (first | exact List.mem_cons_self | refine List.mem_cons_of_mem _ ?_)); done)))) | (with_reducible refine' ne_of ?z1q1 ?z1q2; (case z1q1 => with_reducible assumption); (case z1q2 => (with_reducible ((repeat (first | exact List.mem_cons_self | refine List.mem_cons_of_mem _ ?_)); done)))) | (with_reducible refine' ne_fo ?z1q1 ?z1q2; (case z1q1 => with_reducible assumption); (case z1q2 => (with_reducible ((repeat (first | exact List.mem_cons_self | refine List.mem_cons_of_mem _ ?_)); done)))) | (with_reducible refine' off_I ?z1q1 ?z1q2; (case z1q1 => with_reducible assumption); (case z1q2 => (with_reducible ((repeat (first | exact List.mem_cons_self | refine List.mem_cons_of_mem _ ?_)); done)))) | (with_reducible refine' off_C ?z1q1 ?z1q2; (case z1q1 => with_reducible assumption); (case z1q2 => (with_reducible ((repeat (first | exact List.mem_cons_self | refine List.mem_cons_of_mem _ ?_)); done)))) | (with_reducible refine' off_D ?z1q1 ?z1q2; (case z1q1 => with_reducible assumption); (case z1q2 => (with_reducible ((repeat (first | exact List.mem_cons_self | refine List.mem_cons_of_mem _ ?_)); done)))) | (with_reducible refine' I_off ?z1q1 ?z1q2; (case z1q1 => with_reducible assumption); (case z1q2 => (with_reducible ((repeat (first | exact List.mem_cons_self | refine List.mem_cons_of_mem _ ?_)); done)))) | (with_reducible refine' C_off ?z1q1 ?z1q2; (case z1q1 => with_reducible assumption); (case z1q2 => (with_reducible ((repeat (first | exact List.mem_cons_self | refine List.mem_cons_of_mem _ ?_)); done)))) | (with_reducible refine' D_off ?z1q1 ?z1q2; (case z1q1 => with_reducible assumption); (case z1q2 => (with_reducible ((repeat (first | exact List.mem_cons_self | refine List.mem_cons_of_mem _ ?_)); done)))) | (first | exact And.left (by with_reducible assumption) | exact And.left (And.right (by with_reducible assumption)) | exact And.right (And.right (by with_reducible assumption)) | exact And.right (by with_reducible assumption) | exact And.left (And.right (And.right (by with_reducible assumption))) | exact And.left (And.right (And.right (And.right (by with_reducible assumption)))) | exact And.right (And.right (And.right (And.right (by with_reducible assumption)))) | exact And.right (And.right (And.right (by with_reducible assumption))) | exact And.left (And.left (by with_reducible assumption)) | exact And.left (And.right (And.left (by with_reducible assumption))) | exact And.right (And.right (And.left (by with_reducible assumption)))) | (with_reducible refine Ne.symm ?_; first | exact And.left (by with_reducible assumption) | exact And.left (And.right (by with_reducible assumption)) | exact And.right (And.right (by with_reducible assumption)) | exact And.right (by with_reducible assumption) | exact And.left (And.right (And.right (by with_reducible assumption))) | exact And.left (And.right (And.right (And.right (by with_reducible assumption)))) | exact And.right (And.right (And.right (And.right (by with_reducible assumption)))) | exact And.right (And.right (And.right (by with_reducible assumption))) | exact And.left (And.left (by with_reducible assumption)) | exact And.left (And.right (And.left (by with_reducible assumption))) | exact And.right (And.right (And.left (by with_reducible assumption)))) | omega)
  k_with "ktr_enter" => (refine' enterPC ?z2k1 ?z2k2 ?z2k3 ?z2k5 ?z2kA ?z2kF ?z2kK ?z2k6 ?z2k7 ?z2k8 ?z2k9 ?z2kB ?z2kD ?_ ?z2c2 ?z2c3 ?z2c4; (case z2kA => exact rfl); (case z2kF => exact rfl); (case z2kK => assumption); (case z2k1 => k_asm); (case z2k2 => k_asm); (case z2k3 => k_asm); (case z2k5 => k_asm); (case z2k6 => k_is); (case z2k7 => k_is); (case z2k8 => ktr_room); (case z2k9 => first | exact BindsTo.of_eq rfl | exact binds_K (by k_in) rfl (by k_is) rfl rfl rfl); (case z2kB => exact rfl); (case z2kD => decide +kernel); (case z2c2 => exact rfl); (case z2c3 => exact rfl); (case z2c4 => exact rfl); k_whole; intro L' h' tk' cells' F' N' Y' B' X' T'; k_cells Y'; (try simp only [List.cons_append, List.nil_append, List.append_nil] at N'); (try dsimp only); (try k_fold))
  k_with "ktr_enter" => (refine' enterP ?z3k1 ?z3k2 ?z3k3 ?z3k5 ?z3kA ?z3kF ?z3kK ?z3k6 ?z3k7 ?z3k8 ?z3k9 ?z3kB ?_ ?z3c2 ?z3c3 ?z3c4 ?z3c5; (case z3kA => exact rfl); (case z3kF => exact rfl); (case z3kK => assumption); (case z3k1 => k_asm); (case z3k2 => k_asm); (case z3k3 => k_asm); (case z3k5 => k_asm); (case z3k6 => k_is); (case z3k7 => k_is); (case z3k8 => ktr_room); (case z3k9 => first | exact BindsTo.of_eq rfl | exact binds_K (by k_in) rfl (by k_is) rfl rfl rfl); (case z3c5 => decide); (case z3kB => exact locs rfl); (case z3c2 => exact rfl); (case z3c3 => exact rfl); (case z3c4 => exact rfl); k_whole; intro L' h' F' N' B' X' T'; (try dsimp only); (try k_fold))
  k_with "exec Raise some none" => (k_here; (with_reducible show wpAny _ _ (exec (Stmt.Raise (some (Expr.Call (Expr.Name ("BadLine" : Str) _) _ _ _)) none _) _) _ _ _); refine raise_own_init (C := 57) rfl ?_)
  k_with "call ref" => (k_here; (with_reducible show wpAny _ _ (call (Value.ref 57) _) _ _ _); k_dflt (refine' call_excK (C := 57) (fI := 29) ?z5k1 ?z5k2 ?z5k3 PySem.F.excBase_Exception chainBL ?z5kC ?z5k4 ?z5k5 ?z5k6 ?_; (case z5k1 => k_asm); (case z5k2 => k_asm); (case z5k3 => k_asm); (case z5kC => k_is); (case z5k4 => k_is); (case z5k5 => k_is); (case z5k6 => size_fits); k_whole; intro x' d' h' F' N' l1 l2; (try k_lt l1); (try k_lt2 l2); (try k_sweep); k_enter))
  k_with "setAttr ref" => (k_here; k_dflt (refine' set_excK (pre := []) (C := 57) ?z6k1 ?z6k2 ?z6k3 ?z6h1 ?z6h2 ?z6k4 ?z6k5 ?z6k6 ?z6k7 ?z6k8 ?z6k9 ?z6k10 ?_; (case z6k1 => k_asm); (case z6k2 => k_asm); (case z6k3 => k_asm); (case z6h1 => exact List.forall_mem_nil _); (case z6h2 => k_all); (case z6k4 => k_is); (case z6k5 => exact rfl); (case z6k6 => exact rfl); (case z6k7 => decide); (case z6k8 => exact passBL); (case z6k9 => k_is); (case z6k10 => k_is); k_whole; intro x' h' F' N' l1; (try simp only [List.nil_append] at N')))
  k_with "ThrowX" => (k_here; k_dflt (refine' throwX_of ?z7k1 ?z7k2 ?z7k3 ?z7k4 ?z7k5 ?z7k6 ?_; (case z7k1 => k_asm); (case z7k2 => k_asm); (case z7k3 => k_asm); (case z7k4 => k_mem); (case z7k5 => k_is); (case z7k6 => k_is); k_whole))
  k_with "leaving ref" => (k_here; k_dflt (refine' leave_first ?z8k1 ?z8k2 ?z8k3 ?z8k4 ?z8k5 ?z8k6 ?z8k7 ?z8k8 ?_; (case z8k1 => k_asm); (case z8k2 => k_asm); (case z8k3 => k_asm); (case z8k4 => k_mem); (case z8k5 => k_mem); (case z8k6 => (intro _ q9; cases q9)); (case z8k7 => exact notModule); (case z8k8 => exact rfl); k_whole; intro h' R'))
  k_with "kba_size" => first | omega | ((simp only [List.length_append, List.length_take, List.length_drop, List.length_cons, List.length_nil]); omega)
  k_with "call builtin:len" => (k_here; (with_reducible show wpAny _ _ (call (Value.builtin "len") [Value.bytes (List.toArray _) _]) _ _ _); (refine bytes_len (by kba_size) ?_); (try simp only [List.length_append, List.length_take, List.length_drop]))
  k_with "binaryOp Add bytes bytes" => (k_here; (with_reducible show wpAny _ _ (binaryOp Operator.Add (Value.bytes (List.toArray _) _) (Value.bytes (List.toArray _) _)) _ _ _); (refine bytes_add (by kba_size) ?_); intro _ _)
  k_with "compareOp Eq bytes bytes" => (k_here; (with_reducible show wpAny _ _ (compareOp CmpOp.Eq (Value.bytes (List.toArray _) _) (Value.bytes (List.toArray _) _)) _ _ _); (refine bytes_eq ?_))
  k_with "compareOp NotEq bytes bytes" => (k_here; (with_reducible show wpAny _ _ (compareOp CmpOp.NotEq (Value.bytes (List.toArray _) _) (Value.bytes (List.toArray _) _)) _ _ _); (refine bytes_ne ?_))
  k_with "subscriptTail" => (k_here; (with_reducible show wpAny _ _ (subscriptTail _ (Expr.Slice _ _ none _) (Value.bytes (List.toArray _) _) (Value.ref _)) _ _ _); (with_reducible rename Fr _ _ _ _ => F'); (with_reducible rename News _ _ _ _ => N'); (first | refine cut_mid (s := ⟨_, _, _, _, _⟩) F' N' (by kba_size) (by kba_size) (by kba_size) ?_ | refine cut_from (s := ⟨_, _, _, _, _⟩) F' N' (by kba_size) (by kba_size) ?_ | refine cut_to (s := ⟨_, _, _, _, _⟩) F' N' (by kba_size) (by kba_size) ?_ | refine cut_back (s := ⟨_, _, _, _, _⟩) F' N' (by kba_size) (by kba_size) ?_); intro h' _ _ F' N')
  k_with "exec For Name Subscript cons nil" => (k_here; (rename Fr _ _ _ _ => lF'); (with_unfolding_all refine' For_invVF lF' ?z15k1 ?z15k2 ?_; (case z15k1 => exact rfl); (case z15k2 => exact rfl); k_whole))
  k_with "leaving ref" => (k_here; k_dflt (refine' leave_next ?z16k1 ?z16k2 ?z16k3 ?z16k7 ?z16k8 ?_; (case z16k3 => assumption); (case z16k1 => assumption); (case z16k2 => assumption); (case z16k7 => exact notModule); (case z16k8 => exact rfl); k_whole; intro h' R'))
  k_with "call builtin:list.append" => (k_here; (with_reducible show wpAny _ _ (call (Value.builtin _) [Value.ref _, _]) _ _ _); k_dflt (refine' append_L ?z17k1 ?z17k2 ?z17k3 ?z17z ?_; (case z17k1 => k_asm); (case z17k2 => k_asm); (case z17k3 => k_upd); (case z17z => kba_size); k_whole); intro h' F' N'; (try k_sweep))
  k_with "compareOp Eq bytes int" => (with_reducible refine eq_bytes_int ?_)
  k_with "compareOp Eq int bytes" => (with_reducible refine eq_int_bytes ?_)
  k_with "call type:bytes" => (k_here; (with_reducible show wpAny _ _ (call (Value.type _) [Value.ref _]) _ _ _); k_dflt (refine' bytes_mk ?z20F ?z20N ?z20m ?z20i ?z20z ?z20h ?_; (case z20F => k_asm); (case z20N => k_asm); (case z20m => k_mem); (case z20i => (first | assumption | exact .nil | exact .cons .nil | exact .cons (.cons .nil) | exact .cons (.cons (.cons .nil)) | exact .cons (.cons (.cons (.cons .nil))))); (case z20z => first | omega | (simp only [List.length_cons, List.length_nil]; omega)); (case z20h => with_unfolding_all rfl); k_whole); intro h' t' k' F' N'; (try k_sweep))
  intro dp un gd cn cs a ccd cl outer A₀ base h₀ L m s Q E B F X T hk hdp hun hret hexc
  revert X; k_fill; intro X
  refine wpAny_call ?_
  k_dflt ktr_enter
  clear B F X T hexc
  k_with "execs cons" => (k_fold; with_reducible refine wpAny_execs_cons ?_)
  w_top off
  k_steps
  have e9 : k = 0 ∨ k = 1 ∨ k = 2 := by omega
  refine hret _ _ _ (Fr.keep (by assumption)) (bytes_same ?_)
  rcases e9 with rfl | rfl | rfl <;> rfl
theorem hex_at {n : Nat} {i : Int} (h : i.toNat = n) : List.getD hexLow i.toNat 0 = hexD n := by rw [h]; rfl
theorem framed_at {l : List UInt8} {a b c d : Int} (ha : a = ((l.length : Int) + 4).fdiv 4096) (hb : b = (((l.length : Int) + 4).fdiv 256).fmod 16) (hc : c = (((l.length : Int) + 4).fdiv 16).fmod 16) (hd : d = ((l.length : Int) + 4).fmod 16) :
    [List.getD hexLow a.toNat 0, List.getD hexLow b.toNat 0, List.getD hexLow c.toNat 0, List.getD hexLow d.toNat 0] ++ l = framed (.data l) := by
  have e1 : a.toNat = (l.length + 4) / 4096 := by rw [ha, Int.fdiv_eq_ediv_of_nonneg _ (by decide)]; rfl
  have e2 : b.toNat = (l.length + 4) / 256 % 16 := by rw [hb, Int.fdiv_eq_ediv_of_nonneg _ (by decide), Int.fmod_eq_emod_of_nonneg _ (by decide)]; rfl
  have e3 : c.toNat = (l.length + 4) / 16 % 16 := by rw [hc, Int.fdiv_eq_ediv_of_nonneg _ (by decide), Int.fmod_eq_emod_of_nonneg _ (by decide)]; rfl
  have e4 : d.toNat = (l.length + 4) % 16 := by rw [hd, Int.fmod_eq_emod_of_nonneg _ (by decide)]; rfl
  rw [e1, e2, e3, e4]
  rfl
set_option maxHeartbeats 8000000 in
theorem pkD (w : World) (mean : ExcName → Option Value) (mg mb : Str → Option Value) (l : List UInt8) (hl : l.length ≤ 60000) (t : Tok) :
    Pure w mean mg mb 76 6 64 [.bytes l.toArray t] (fun _ v _ => ∃ t, v = .bytes (framed (.data l)).toArray t) (fun _ => False) := by
  intro dp un gd cn cs a ccd cl outer A₀ base h₀ L m s Q E B F X T hk hdp hun hret hexc
  revert X; k_fill; intro X
  refine wpAny_call ?_
  k_dflt ktr_enter
  clear B F X T hexc
  k_with "execs cons" => (k_fold; with_reducible refine wpAny_execs_cons ?_)
  k_steps
  exact hret _ _ _ (Fr.keep (by assumption)) (bytes_same (framed_at rfl rfl rfl rfl))
set_option maxHeartbeats 8000000 in
theorem lfI (w : World) (mean : ExcName → Option Value) (mg mb : Str → Option Value) (k : Int) (hk0 : 0 ≤ k) (hk2 : k ≤ 2) (t : Tok) :
    Pure w mean mg mb 130 6 64 [.int k t] (fun _ v _ => ∃ t, v = .bytes (framed (.mark k)).toArray t) (fun _ => False) := by
  k_with "eval Dict" => (k_here; k_dflt (refine' kdn_eval (knd := PySem.intKind _ _) ?z21F ?z21N ?z21b ?z21a ?z21l ?z21e ?z21n ?_; (case z21F => k_asm); (case z21N => first | k_asm | exact News.nil); (case z21b => exact Top.nolimit (by k_asm)); (case z21a => rfl); (case z21l => rfl); (case z21e => exact List.cons_ne_nil _ _); (case z21n => exact Nat.le_of_ble_eq_true rfl)); intro d' h' o' F' N' l1 lo' hd'; (try k_lt l1))
  intro dp un gd cn cs a ccd cl outer A₀ base h₀ L m s Q E B F X T hk hdp hun hret hexc
  revert X; k_fill; intro X
  refine wpAny_call ?_
  k_dflt (first | ktr_enter | fail "no entry")
  clear B F X T hexc
  have e9 : k = 0 ∨ k = 1 ∨ k = 2 := by omega
  rcases e9 with rfl | rfl | rfl
  all_goals k_steps
  all_goals exact hret _ _ _ (Fr.keep (by assumption)) (bytes_same rfl)

theorem pw3 {n : Nat} (h : n ≤ 60000) : (((n : Int) + 4).fdiv (16 ^ Int.toNat 3)).fmod 16 = ((n : Int) + 4).fdiv 4096 := by
  rw [show ((16 : Int) ^ Int.toNat 3) = 4096 from by decide, Int.fdiv_eq_ediv_of_nonneg _ (by decide), Int.fmod_eq_emod_of_nonneg _ (by decide)]
  omega
theorem pw2 {n : Int} : (n.fdiv (16 ^ Int.toNat 2)).fmod 16 = (n.fdiv 256).fmod 16 := by
  rw [show ((16 : Int) ^ Int.toNat 2) = 256 from by decide]
theorem pw1 {n : Int} : (n.fdiv (16 ^ Int.toNat 1)).fmod 16 = (n.fdiv 16).fmod 16 := by
  rw [show ((16 : Int) ^ Int.toNat 1) = 16 from by decide]
theorem pw0 {n : Int} : (n.fdiv (16 ^ Int.toNat 0)).fmod 16 = n.fmod 16 := by
  rw [show ((16 : Int) ^ Int.toNat 0) = 1 from by decide, Int.fdiv_one]
set_option maxHeartbeats 8000000 in
theorem lfD (w : World) (mean : ExcName → Option Value) (mg mb : Str → Option Value) (l : List UInt8) (hl : l.length ≤ 60000) (t : Tok) :
    Pure w mean mg mb 130 6 64 [.bytes l.toArray t] (fun _ v _ => ∃ t, v = .bytes (framed (.data l)).toArray t) (fun _ => False) := by
  k_with "eval ListComp" => (k_here; k_dflt (refine ListComp_K (F₀ := by k_asm) (by with_unfolding_all rfl) (by decide) (by rfl) (by decide) (by rfl) ?_))
  k_with "CompK" => (k_here; k_dflt (refine CompK.turns (src_tuple (by rfl) (by k_asm) (by k_mem)) (by first | size_fits | exact Nat.le_of_ble_eq_true rfl) (by k_asm) (by k_asm) (by k_mem) ?_; intro g'; lcg_lit))
  intro dp un gd cn cs a ccd cl outer A₀ base h₀ L m s Q E B F X T hk hdp hun hret hexc
  revert X; k_fill; intro X
  refine wpAny_call ?_
  k_dflt (first | ktr_enter | fail "no entry")
  clear B F X T hexc
  k_with "execs cons" => (k_fold; with_reducible refine wpAny_execs_cons ?_)
  k_steps
  exact hret _ _ _ (Fr.keep (by assumption)) (bytes_same (framed_at (pw3 hl) pw2 pw1 pw0))
end

-- part K8
section
open PySem PySem.Calls PySem.W PyProof.Rows Builtin Builtin.ObjectAttr
set_option maxRecDepth 100000
def textOf (l : List UInt8) : Str := ⟨(l.map UInt8.toNat).toArray⟩
def chrS (c : UInt8) : Str := ⟨#[c.toNat]⟩
def SignsAre (ys : List Value) (l : List UInt8) : Prop := ∃ ps : List (Str × Tok), ys = strValues ps ∧ ps.map (·.1) = l.map chrS
theorem SignsAre.nil {l : List UInt8} : SignsAre [] (l.take 0) := ⟨[], rfl, by simp⟩
theorem SignsAre.snoc {ys : List Value} {l : List UInt8} {i : Nat} {c : UInt8} {t : Tok} (h : SignsAre ys (l.take i)) (hc : l.toArray[i]? = some c) : SignsAre (ys ++ [.str ⟨#[((c.toNat : Nat) : Int).toNat]⟩ t]) (l.take (i + 1)) := by
  obtain ⟨ps, e1, e2⟩ := h
  have hc' : l[i]? = some c := by simpa using hc
  refine ⟨ps ++ [(chrS c, t)], ?_, ?_⟩
  · rw [e1]
    simp [strValues, chrS]
  · rw [List.take_add_one, hc']
    simp [e2]
theorem chr_ok (c : UInt8) : (decide (((c.toNat : Nat) : Int) < 0) || decide (((c.toNat : Nat) : Int) > 0x10FFFF)) = false := by
  have := c.toNat_lt
  have a1 : ¬ ((c.toNat : Nat) : Int) < 0 := by omega
  have a2 : ¬ ((c.toNat : Nat) : Int) > 0x10FFFF := by omega
  rw [decide_eq_false a1, decide_eq_false a2]; rfl
theorem glued_signs (l : List UInt8) : Txt.join (Str.ofString "") (l.map chrS) = textOf l := by
  have key : ∀ (l : List UInt8) (acc : List Nat), List.foldl (fun (acc : Array Nat) (p : Str) => acc ++ (Str.ofString "").cps ++ p.cps) acc.toArray (l.map chrS) = (acc ++ l.map UInt8.toNat).toArray := by
    intro l
    induction l with
    | nil => intro acc; simp
    | cons c r ih =>
      intro acc
      rw [List.map_cons, List.foldl_cons]
      have e : acc.toArray ++ (Str.ofString "").cps ++ (chrS c).cps = (acc ++ [c.toNat]).toArray := by
        show acc.toArray ++ #[] ++ #[c.toNat] = _
        simp
      rw [e, ih]
      simp
  cases l with
  | nil => rfl
  | cons c r =>
    show (⟨List.foldl (fun (acc : Array Nat) (p : Str) => acc ++ (Str.ofString "").cps ++ p.cps) [c.toNat].toArray (r.map chrS)⟩ : Str) = textOf (c :: r)
    rw [key]
    rfl
theorem join_ok (l : List UInt8) (hl : l.length ≤ 60000) : JoinOk (Str.ofString "") (l.map chrS) = true := by
  have key : ∀ (l : List UInt8) (n : Nat), List.foldl (fun (n : Nat) (s : Str) => n + s.length + (Str.ofString "").length) n (l.map chrS) = n + l.length := by
    intro l
    induction l with
    | nil => intro n; rfl
    | cons c r ih =>
      intro n
      rw [List.map_cons, List.foldl_cons, ih, List.length_cons]
      have e1 : (chrS c).length = 1 := rfl
      have e2 : (Str.ofString "").length = 0 := rfl
      omega
  unfold JoinOk
  rw [List.foldl_toArray, key]
  show (!Builtin.Str.tooLong _) = true
  unfold Builtin.Str.tooLong
  rw [sizeLine_eq]
  simp
  omega
section
variable {prog : Program} {w : World} {A : Around} {E : Value → Shared → Prop} {s : Shared} {h₀ : Heap} {L : Addr} {news : List (Addr × Obj)}
theorem join_signs {D : Addr} {ys : List Value} {l : List UInt8} {t : Tok} {Q : Value → Shared → Prop} (N : News h₀ L s.heap news) (hD : (D, LCg.lst ys) ∈ news) (hJ : SignsAre ys (l.take l.toArray.size)) (hl : l.length ≤ 60000)
    (h : ∀ t' k, Q (.str (textOf l) t') { s with toks := k }) : wpAny (model prog w) A (call (.builtin "str.join") [.str (Str.ofString "") t, .ref D]) Q E s := by
  rw [List.size_toArray, List.take_length] at hJ
  obtain ⟨ps, e1, e2⟩ := hJ
  subst e1
  refine SC.join ⟨_, (N _ hD).1, rfl, _, rfl⟩ e2 (join_ok l hl) ?_
  rw [glued_signs]
  exact h
end
set_option maxHeartbeats 8000000 in
theorem txt (w : World) (mean : ExcName → Option Value) (mg mb : Str → Option Value) (l : List UInt8) (hl : l.length ≤ 60000) (t : Tok) :
    Pure w mean mg mb 64 6 64 [.bytes l.toArray t] (fun _ v _ => ∃ t, v = .str (textOf l) t) (fun _ => False) := by
  k_with_none
  k_with "k_ne" => (refine neN ?_; (try dsimp only); first | with_reducible assumption | (with_reducible refine Ne.symm ?_; with_reducible assumption) | (with_reducible refine' ne_lt ?z1q1 ?z1q2; (case z1q1 => with_reducible assumption); (case z1q2 => (with_reducible ((repeat (first | exact List.mem_cons_self | refine List.mem_cons_of_mem _ ?_)); done)))) | (with_reducible refine' ne_gt ?z1q1 ?z1q2; (case z1q1 => with_reducible assumption); (case z1q2 => (with_reducible ((repeat (first | exact List.mem_cons_self | refine List.mem_cons_of_mem _ ?_)); done)))) | (with_reducible refine' ne_of ?z1q1 ?z1q2; (case z1q1 => with_reducible assumption); (case z1q2 => (with_reducible ((repeat (first | exact List.mem_cons_self | refine List.mem_cons_of_mem _ ?_)); done)))) | (with_reducible refine' ne_fo ?z1q1 ?z1q2; (case z1q1 => with_reducible assumption); (case z1q2 => (with_reducible ((repeat (first | exact List.mem_cons_self | refine List.mem_cons_of_mem _ ?_)); done)))) | (with_reducible refine' off_I ?z1q1 ?z1q2; (case z1q1 => with_reducible assumption); (case z1q2 => (with_reducible ((repeat (first | exact List.mem_cons_self | refine List.mem_cons_of_mem _ ?_)); done)))) | (with_reducible refine' off_C ?z1q1 ?z1q2; (case z1q1 => with_reducible assumption); (case z1q2 => (with_reducible ((repeat (first | exact List.mem_cons_self | refine List.mem_cons_of_mem _ ?_)); done)))) | (with_reducible refine' off_D ?z1q1 ?z1q2; (case z1q1 => with_reducible assumption); (case z1q2 => (with_reducible ((repeat (first | exact List.mem_cons_self | refine List.mem_cons_of_mem _ ?_)); done)))) | (with_reducible refine' I_off ?z1q1 ?z1q2; (case z1q1 => with_reducible assumption); (case z1q2 => (with_reducible ((repeat (first | exact List.mem_cons_self | refine List.mem_cons_of_mem _ ?_)); done)))) | (with_reducible refine' C_off ?z1q1 ?z1q2; (case z1q1 => with_reducible assumption); (case z1q2 => (with_reducible ((repeat (first | exact List.mem_cons_self | refine List.mem_cons_of_mem _ ?_)); done)))) | (with_reducible refine' D_off ?z1q1 ?z1q2; (case z1q1 => with_reducible assumption); (case z1q2 => (with_reducible ((repeat (first | exact List.mem_cons_self | refine List.mem_cons_of_mem _ ?_)); done)))) | (first | exact And.left (by with_reducible assumption) | exact And.left (And.right (by with_reducible assumption)) | exact And.right (And.right (by with_reducible assumption)) | exact And.right (by with_reducible assumption) | exact And.left (And.right (And.right (by with_reducible assumption))) | exact And.left (And.right (And.right (And.right (by with_reducible assumption)))) | exact And.right (And.right (And.right (And.right (by with_reducible assumption)))) | exact And.right (And.right (And.right (by with_reducible assumption))) | exact And.left (And.left (by with_reducible assumption)) | exact And.left (And.right (And.left (by with_reducible assumption))) | exact And.right (And.right (And.left (by with_reducible assumption)))) | (with_reducible refine Ne.symm ?_; first | exact And.left (by with_reducible assumption) | exact And.left (And.right (by with_reducible assumption)) | exact And.right (And.right (by with_reducible assumption)) | exact And.right (by with_reducible assumption) | exact And.left (And.right (And.right (by with_reducible assumption))) | exact And.left (And.right (And.right (And.right (by with_reducible assumption)))) | exact And.right (And.right (And.right (And.right (by with_reducible assumption)))) | exact And.right (And.right (And.right (by with_reducible assumption))) | exact And.left (And.left (by with_reducible assumption)) | exact And.left (And.right (And.left (by with_reducible assumption))) | exact And.right (And.right (And.left (by with_reducible assumption)))) | omega)
  k_with "ktr_enter" => (refine' enterPC ?z2k1 ?z2k2 ?z2k3 ?z2k5 ?z2kA ?z2kF ?z2kK ?z2k6 ?z2k7 ?z2k8 ?z2k9 ?z2kB ?z2kD ?_ ?z2c2 ?z2c3 ?z2c4; (case z2kA => exact rfl); (case z2kF => exact rfl); (case z2kK => assumption); (case z2k1 => k_asm); (case z2k2 => k_asm); (case z2k3 => k_asm); (case z2k5 => k_asm); (case z2k6 => k_is); (case z2k7 => k_is); (case z2k8 => ktr_room); (case z2k9 => first | exact BindsTo.of_eq rfl | exact binds_K (by k_in) rfl (by k_is) rfl rfl rfl); (case z2kB => exact rfl); (case z2kD => decide +kernel); (case z2c2 => exact rfl); (case z2c3 => exact rfl); (case z2c4 => exact rfl); k_whole; intro L' h' tk' cells' F' N' Y' B' X' T'; k_cells Y'; (try simp only [List.cons_append, List.nil_append, List.append_nil] at N'); (try dsimp only); (try k_fold))
  k_with "ktr_enter" => (refine' enterP ?z3k1 ?z3k2 ?z3k3 ?z3k5 ?z3kA ?z3kF ?z3kK ?z3k6 ?z3k7 ?z3k8 ?z3k9 ?z3kB ?_ ?z3c2 ?z3c3 ?z3c4 ?z3c5; (case z3kA => exact rfl); (case z3kF => exact rfl); (case z3kK => assumption); (case z3k1 => k_asm); (case z3k2 => k_asm); (case z3k3 => k_asm); (case z3k5 => k_asm); (case z3k6 => k_is); (case z3k7 => k_is); (case z3k8 => ktr_room); (case z3k9 => first | exact BindsTo.of_eq rfl | exact binds_K (by k_in) rfl (by k_is) rfl rfl rfl); (case z3c5 => decide); (case z3kB => exact locs rfl); (case z3c2 => exact rfl); (case z3c3 => exact rfl); (case z3c4 => exact rfl); k_whole; intro L' h' F' N' B' X' T'; (try dsimp only); (try k_fold))
  k_with "exec Raise some none" => (k_here; (with_reducible show wpAny _ _ (exec (Stmt.Raise (some (Expr.Call (Expr.Name ("BadLine" : Str) _) _ _ _)) none _) _) _ _ _); refine raise_own_init (C := 57) rfl ?_)
  k_with "call ref" => (k_here; (with_reducible show wpAny _ _ (call (Value.ref 57) _) _ _ _); k_dflt (refine' call_excK (C := 57) (fI := 29) ?z5k1 ?z5k2 ?z5k3 PySem.F.excBase_Exception chainBL ?z5kC ?z5k4 ?z5k5 ?z5k6 ?_; (case z5k1 => k_asm); (case z5k2 => k_asm); (case z5k3 => k_asm); (case z5kC => k_is); (case z5k4 => k_is); (case z5k5 => k_is); (case z5k6 => size_fits); k_whole; intro x' d' h' F' N' l1 l2; (try k_lt l1); (try k_lt2 l2); (try k_sweep); k_enter))
  k_with "setAttr ref" => (k_here; k_dflt (refine' set_excK (pre := []) (C := 57) ?z6k1 ?z6k2 ?z6k3 ?z6h1 ?z6h2 ?z6k4 ?z6k5 ?z6k6 ?z6k7 ?z6k8 ?z6k9 ?z6k10 ?_; (case z6k1 => k_asm); (case z6k2 => k_asm); (case z6k3 => k_asm); (case z6h1 => exact List.forall_mem_nil _); (case z6h2 => k_all); (case z6k4 => k_is); (case z6k5 => exact rfl); (case z6k6 => exact rfl); (case z6k7 => decide); (case z6k8 => exact passBL); (case z6k9 => k_is); (case z6k10 => k_is); k_whole; intro x' h' F' N' l1; (try simp only [List.nil_append] at N')))
  k_with "ThrowX" => (k_here; k_dflt (refine' throwX_of ?z7k1 ?z7k2 ?z7k3 ?z7k4 ?z7k5 ?z7k6 ?_; (case z7k1 => k_asm); (case z7k2 => k_asm); (case z7k3 => k_asm); (case z7k4 => k_mem); (case z7k5 => k_is); (case z7k6 => k_is); k_whole))
  k_with "leaving ref" => (k_here; k_dflt (refine' leave_first ?z8k1 ?z8k2 ?z8k3 ?z8k4 ?z8k5 ?z8k6 ?z8k7 ?z8k8 ?_; (case z8k1 => k_asm); (case z8k2 => k_asm); (case z8k3 => k_asm); (case z8k4 => k_mem); (case z8k5 => k_mem); (case z8k6 => (intro _ q9; cases q9)); (case z8k7 => exact notModule); (case z8k8 => exact rfl); k_whole; intro h' R'))
  k_with "kba_size" => first | omega | ((simp only [List.length_append, List.length_take, List.length_drop, List.length_cons, List.length_nil]); omega)
  k_with "call builtin:len" => (k_here; (with_reducible show wpAny _ _ (call (Value.builtin "len") [Value.bytes (List.toArray _) _]) _ _ _); (refine bytes_len (by kba_size) ?_); (try simp only [List.length_append, List.length_take, List.length_drop]))
  k_with "binaryOp Add bytes bytes" => (k_here; (with_reducible show wpAny _ _ (binaryOp Operator.Add (Value.bytes (List.toArray _) _) (Value.bytes (List.toArray _) _)) _ _ _); (refine bytes_add (by kba_size) ?_); intro _ _)
  k_with "compareOp Eq bytes bytes" => (k_here; (with_reducible show wpAny _ _ (compareOp CmpOp.Eq (Value.bytes (List.toArray _) _) (Value.bytes (List.toArray _) _)) _ _ _); (refine bytes_eq ?_))
  k_with "compareOp NotEq bytes bytes" => (k_here; (with_reducible show wpAny _ _ (compareOp CmpOp.NotEq (Value.bytes (List.toArray _) _) (Value.bytes (List.toArray _) _)) _ _ _); (refine bytes_ne ?_))
  k_with "subscriptTail" => (k_here; (with_reducible show wpAny _ _ (subscriptTail _ (Expr.Slice _ _ none _) (Value.bytes (List.toArray _) _) (Value.ref _)) _ _ _); (with_reducible rename Fr _ _ _ _ => F'); (with_reducible rename News _ _ _ _ => N'); (first | refine cut_mid (s := ⟨_, _, _, _, _⟩) F' N' (by kba_size) (by kba_size) (by kba_size) ?_ | refine cut_from (s := ⟨_, _, _, _, _⟩) F' N' (by kba_size) (by kba_size) ?_ | refine cut_to (s := ⟨_, _, _, _, _⟩) F' N' (by kba_size) (by kba_size) ?_ | refine cut_back (s := ⟨_, _, _, _, _⟩) F' N' (by kba_size) (by kba_size) ?_); intro h' _ _ F' N')
  k_with "exec For Name Subscript cons nil" => (k_here; (rename Fr _ _ _ _ => lF'); (with_unfolding_all refine' For_invVF lF' ?z15k1 ?z15k2 ?_; (case z15k1 => exact rfl); (case z15k2 => exact rfl); k_whole))
  k_with "leaving ref" => (k_here; k_dflt (refine' leave_next ?z16k1 ?z16k2 ?z16k3 ?z16k7 ?z16k8 ?_; (case z16k3 => assumption); (case z16k1 => assumption); (case z16k2 => assumption); (case z16k7 => exact notModule); (case z16k8 => exact rfl); k_whole; intro h' R'))
  k_with "call builtin:list.append" => (k_here; (with_reducible show wpAny _ _ (call (Value.builtin _) [Value.ref _, _]) _ _ _); k_dflt (refine' append_L ?z17k1 ?z17k2 ?z17k3 ?z17z ?_; (case z17k1 => k_asm); (case z17k2 => k_asm); (case z17k3 => k_upd); (case z17z => kba_size); k_whole); intro h' F' N'; (try k_sweep))
  k_with "compareOp Eq bytes int" => (with_reducible refine eq_bytes_int ?_)
  k_with "compareOp Eq int bytes" => (with_reducible refine eq_int_bytes ?_)
  k_with "call type:bytes" => (k_here; (with_reducible show wpAny _ _ (call (Value.type _) [Value.ref _]) _ _ _); k_dflt (refine' bytes_mk ?z20F ?z20N ?z20m ?z20i ?z20z ?z20h ?_; (case z20F => k_asm); (case z20N => k_asm); (case z20m => k_mem); (case z20i => (first | assumption | exact .nil | exact .cons .nil | exact .cons (.cons .nil) | exact .cons (.cons (.cons .nil)) | exact .cons (.cons (.cons (.cons .nil))))); (case z20z => first | omega | (simp only [List.length_cons, List.length_nil]; omega)); (case z20h => with_unfolding_all rfl); k_whole); intro h' t' k' F' N'; (try k_sweep))
  k_with "call builtin:chr" => refine P.chr_of_int (chr_ok _) ?_
  k_with "call builtin:str.join" => (k_here; k_dflt (refine' join_signs ?z22N ?z22D ?z22J ?z22l ?_; (case z22N => k_asm); (case z22D => k_mem); (case z22J => assumption); (case z22l => assumption)); intro t9 k9)
  k_with "eval ListComp" => (k_here; k_dflt (refine ListComp_K (F₀ := by k_asm) (by with_unfolding_all rfl) (by decide) (by rfl) (by decide) (by rfl) ?_))
  intro dp un gd cn cs a ccd cl outer A₀ base h₀ L m s Q E B F X T hk hdp hun hret hexc
  revert X; k_fill; intro X
  refine wpAny_call ?_
  k_dflt (first | ktr_enter | fail "no entry")
  clear B F X T hexc
  k_with "CompK" => (k_dflt (refine' CompK.of (src_bytes (by rfl)) ?z ?F ?N trivial (fun i ys nw => nw = [] ∧ SignsAre ys (l.take i)) ?j0 ?step ?fin; (case z => (rw [List.size_toArray]; omega)); (case F => k_asm); (case N => k_asm); (case j0 => exact ⟨rfl, SignsAre.nil⟩)); (case' fin => (rintro g ys nw hl9 ⟨rfl, hJ⟩)); (case' step => (rintro i ys nw hi hl9 ⟨rfl, hJ⟩ v I oI C oC D m₂ h' tk' E' ⟨c9, u9, hc9, rfl⟩ hC hx F' N' off ne)))
  k_with "execs cons" => (k_fold; with_reducible refine wpAny_execs_cons ?_)
  w_top off
  k_steps
  · exact SignsAre.snoc (by assumption) (by assumption)
  · exact hret _ _ _ (Fr.keep (by assumption)) ⟨_, rfl⟩
theorem BytesAre.snoc : ∀ {ys : List Value} {l : List UInt8} {c : UInt8} {t : Tok}, BytesAre ys l → BytesAre (ys ++ [.int ((c.toNat : Nat) : Int) t]) (l ++ [c])
  | _, _, _, _, .nil => .cons .nil
  | _, _, _, _, .cons h => .cons h.snoc
theorem BytesAre.step {ys : List Value} {l : List UInt8} {c : UInt8} {i : Nat} {t : Tok} (h : BytesAre ys (l.take i)) (hc : l[i]? = some c) : BytesAre (ys ++ [.int ((c.toNat : Nat) : Int) t]) (l.take (i + 1)) := by
  rw [List.take_add_one, hc]
  exact h.snoc
theorem BytesAre.at : ∀ {ys : List Value} {l : List UInt8}, BytesAre ys l → ∀ (i : Nat) (v : Value), ys[i]? = some v → ∃ (c : UInt8) (t : Tok), v = .int ((c.toNat : Nat) : Int) t
  | _, _, .nil, i, v, h => by simp at h
  | _, _, .cons _, 0, v, h => by
    simp at h
    exact ⟨_, _, h.symm⟩
  | _, _, .cons r, i + 1, v, h => r.at i v (by simpa using h)
theorem textOf_size (l : List UInt8) : (textOf l).cps.size = l.length := by
  show (List.toArray (l.map UInt8.toNat)).size = _
  rw [List.size_toArray, List.length_map]
theorem sign_at {l : List UInt8} {i : Nat} {v : Value} (h : SignAt (textOf l) i v) : ∃ c u, l[i]? = some c ∧ v = .str (chrS c) u := by
  obtain ⟨c, u, h1, rfl⟩ := h
  have h2 : (l.map UInt8.toNat)[i]? = some c := by simpa [textOf] using h1
  rw [List.getElem?_map] at h2
  cases hl : l[i]? with
  | none => rw [hl] at h2; cases h2
  | some b =>
    rw [hl] at h2
    cases h2
    exact ⟨b, u, rfl, rfl⟩
set_option maxHeartbeats 8000000 in
theorem oct (w : World) (mean : ExcName → Option Value) (mg mb : Str → Option Value) (l : List UInt8) (hl : l.length ≤ 60000) (t : Tok) :
    Pure w mean mg mb 69 6 64 [.str (textOf l) t] (fun _ v _ => ∃ t, v = .bytes l.toArray t) (fun _ => False) := by
  k_with "exec Assign cons ListComp" => (k_here; k_dflt (refine Assign_ListComp_K (F₀ := by k_asm) (by rfl) (by with_unfolding_all rfl) (by with_unfolding_all rfl) (by decide) (by rfl) (by decide) (by rfl) (by rfl) (by rfl) ?_))
  k_with "exec For Name Name cons nil" => (k_here; (rename Fr _ _ _ _ => lF'); (with_unfolding_all refine' For_invVF lF' ?z25k1 ?z25k2 ?_; (case z25k1 => exact rfl); (case z25k2 => exact rfl); k_whole))
  intro dp un gd cn cs a ccd cl outer A₀ base h₀ L m s Q E B F X T hk hdp hun hret hexc
  revert X; k_fill; intro X
  refine wpAny_call ?_
  k_dflt (first | ktr_enter | fail "no entry")
  clear B F X T hexc
  k_with "CompK" => (k_dflt (refine' CompK.of (src_str (by rfl)) ?z ?F ?N trivial (fun i ys nw => nw = [] ∧ BytesAre ys (l.take i)) ?j0 ?step ?fin; (case z => ((show (List.toArray (l.map UInt8.toNat)).size ≤ 1000000); rw [List.size_toArray, List.length_map]; omega)); (case F => k_asm); (case N => k_asm); (case j0 => exact ⟨rfl, BytesAre.nil⟩)); (case' fin => (rintro g ys nw hl9 ⟨rfl, hJ⟩; rw [textOf_size] at hl9 hJ; rw [List.take_length] at hJ)); (case' step => (rintro i ys nw hi hl9 ⟨rfl, hJ⟩ v I oI C oC D m₂ h' tk' E' hsg hC hx F' N' off ne; obtain ⟨c9, u9, hc9, rfl⟩ := sign_at hsg; clear hsg)))
  k_with "pyIter ref" => ((with_reducible rename Fr _ _ _ _ => F0); (with_reducible rename News _ _ _ _ => N0); k_dflt (refine' kst_K (σ := Unit) (src_list (by rfl) N0 (.head _)) (fun _ => [_]) (fun _ => []) [] (fun _ _ => True) () F0 N0 (fun _ => .head _) (List.forall_mem_nil _) trivial ?turn ?done); (case' turn => (intro c9 i9 v9 u9 h' tk' own9 hi9 hP9 hoff9 _ F' N'; simp only [List.cons_append, List.nil_append] at N'; obtain ⟨b9, t9, rfl⟩ := BytesAre.at (by assumption) _ _ (by simpa using hP9); have hb9 := b9.toNat_lt)); (case' done => (intro c9 u9 h' tk' _ F' N')))
  k_with "execs cons" => (k_fold; with_reducible refine wpAny_execs_cons ?_)
  k_steps
  · exact BytesAre.step (by assumption) (by assumption)
  · exact hret _ _ _ (Fr.keep (by assumption)) ⟨_, rfl⟩
  · refine kstK_end () (by assumption) (by assumption) (by with_unfolding_all k_allIn) (by intro p hp; k_ownIn) (by rfl) (List.Mem.head _) (List.forall_mem_nil _) ?_ trivial
    intro z h1 h2 h3
    simp only [h1, kstB, if_false, List.contains_nil, Bool.false_eq_true]
end
end

-- part K9
section
open PySem PySem.Calls PySem.W PyProof.Rows Builtin Builtin.ObjectAttr
set_option maxRecDepth 100000
--NOKNE: its raises lean on the cut facts (leave_first)
inductive Ub where
  | val (cs ts : List (List UInt8)) (q : Nat)
  | told (x : List UInt8)
  | bad
def unbandF (l : List UInt8) : Nat → Nat → List (List UInt8) → List (List UInt8) → Ub
  | 0, _, _, _ => .bad
  | n + 1, q, cs, ts => match lineS l q with
    | some (.mark k, q') => if k = 0 then .val cs ts q' else .bad
    | some (.data (b :: r), q') => if b = 1 then unbandF l n q' (cs ++ [r]) ts else if b = 2 then unbandF l n q' cs (ts ++ [r]) else if b = 3 then .told r else .bad
    | _ => .bad
def sv (ts : List (List UInt8 × Tok)) : List Value := ts.map fun p => .str (textOf p.1) p.2
structure UbSt where
  q : Nat
  ps : List (List UInt8 × Tok)
  ts : List (List UInt8 × Tok)
  v1 : List Value
  v2 : List Value
  c1 : Nat
  c2 : Nat
  tq : Tok
  n : Nat
structure UbP (l : List UInt8) (p : Nat) (c : UbSt) : Prop where
  e1 : c.v1 = bv c.ps
  e2 : c.v2 = sv c.ts
  l1 : c.v1.length + c.v2.length + c.n = l.length + 1
  l2 : l.length < c.q + c.n
  l3 : (c.ps.map (·.1)).flatten.length ≤ c.q
  l4 : c.q ≤ p + l.length
  eq : unbandF l (l.length + 1) p [] [] = unbandF l c.n c.q (c.ps.map (·.1)) (c.ts.map (·.1))
def UbR (l : List UInt8) (p : Nat) (H : Heap) (v : Value) (h' : Heap) : Prop :=
  ∃ a D c2 cs ts q tq t, unbandF l (l.length + 1) p [] [] = .val cs (ts.map (·.1)) q ∧ v = .ref a ∧ h'.get? a = some (tupObj [.bytes cs.flatten.toArray t, .ref D, .int (q : Nat) tq]) ∧ H.get? a = none ∧ h'.get? D = some (listOf (sv ts).toArray c2) ∧ H.get? D = none ∧ a ≠ D
def UbX (l : List UInt8) (p : Nat) (x : Str) : Prop := unbandF l (l.length + 1) p [] [] = .bad ∨ ∃ r, unbandF l (l.length + 1) p [] [] = .told r ∧ x = textOf r

section
variable {prog : Program} {w : World} {A : Around} {E : Value → Shared → Prop} {s : Shared} {value slice : PySem.Expr} {l r : List UInt8} {b : UInt8} {t u : Tok} {h₀ : Heap} {L : Addr} {m : PySem.Str → Option Value} {news : List (Addr × Obj)} {Q : Value → Shared → Prop}
theorem item_hd {ui : Tok} (hz : r.length ≤ 1000000) (h : Q (.int ((b.toNat : Nat) : Int) s.toks) { s with toks := s.toks + 1 })
    (hs : subscripted slice false (.bytes (b :: r).toArray t) (.int 0 ui) = operate [.bytes (b :: r).toArray t, .int 0 ui] (getItem (.bytes (b :: r).toArray t) (.int 0 ui)) := by with_unfolding_all rfl)
    (ht : ∀ r', letTemporaryGo value (.bytes (b :: r).toArray t) r' = pure () := by intro _; with_unfolding_all rfl) :
    wpAny (model prog w) A (subscriptTail value slice (.bytes (b :: r).toArray t) (.int 0 ui)) Q E s :=
  bytes_item_K (k := ((b.toNat : Nat) : Int)) (by rw [List.length_cons]; omega) (by decide) (by rw [List.length_cons]; omega) rfl h hs ht
theorem cut_tail {ta : Tok} (hF : Fr h₀ L s.heap m) (hN : News h₀ L s.heap news) (hz : r.length ≤ 1000000)
    (h : ∀ h' t' k, Fr h₀ L h' m → News h₀ L h' news → Q (.bytes r.toArray t') { s with heap := h', toks := k })
    (hs : subscripted slice false (.bytes (b :: r).toArray t) (.ref s.heap.objs.size) = operate [.ref s.heap.objs.size, .bytes (b :: r).toArray t] (getItem (.bytes (b :: r).toArray t) (.ref s.heap.objs.size)) := by with_unfolding_all rfl)
    (ht : ∀ r', letTemporaryGo value (.bytes (b :: r).toArray t) r' = pure () := by intro _; with_unfolding_all rfl) :
    wpAny (model prog w) A (subscriptTail value slice (.bytes (b :: r).toArray t) (.ref s.heap.objs.size)) Q E { s with heap := s.heap.push { cls := .type "slice", data := .fields #[.int 1 ta, .none, .none] } } :=
  cut_any hF hN (.int _ _) .none (by rw [List.length_cons]; omega) (picked_from (a := 1) (by decide)) h hs ht
theorem lineS_len {q q' : Nat} (h : lineS l q = some (.data r, q')) : r.length + 4 + q = q' := by
  unfold lineS at h
  split at h
  · cases h
  · split at h
    · cases h
    · split at h
      · cases h
      · split at h
        · cases h
        · split at h
          · cases h
          · split at h
            · cases h
            · cases h
              rename_i h1 _ _ _ _ _ _ _
              rw [List.length_take, List.length_drop, Nat.min_eq_left (by omega)]
              omega
end
section
variable {l r : List UInt8} {b : UInt8} {q q' n p : Nat} {k : Int} {cs ts : List (List UInt8)}
theorem ub_none (h : lineS l q = none) : unbandF l n q cs ts = .bad := by
  cases n with
  | zero => rfl
  | succ n => simp only [unbandF, h]
theorem ub_pos {x : Item × Nat} (h2 : l.length < q + n) (h : lineS l q = some x) : ∃ n', n = n' + 1 := by
  have h1 := lineS_grows h
  have h3 := lineS_within h
  exact ⟨n - 1, by omega⟩
theorem ub_flush (h2 : l.length < q + n) (h : lineS l q = some (.mark k, q')) (hk : k = 0) : unbandF l n q cs ts = .val cs ts q' := by
  obtain ⟨n', rfl⟩ := ub_pos h2 h
  simp only [unbandF, h, hk, if_true]
theorem ub_mark (h2 : l.length < q + n) (h : lineS l q = some (.mark k, q')) (hk : k ≠ 0) : unbandF l n q cs ts = .bad := by
  obtain ⟨n', rfl⟩ := ub_pos h2 h
  simp only [unbandF, h, hk, if_false]
theorem ub_empty (h2 : l.length < q + n) (h : lineS l q = some (.data [], q')) : unbandF l n q cs ts = .bad := by
  obtain ⟨n', rfl⟩ := ub_pos h2 h
  simp only [unbandF, h]
theorem byte_is {b : UInt8} {k : Nat} (hk : k < 256) (h : ((b.toNat : Nat) : Int) = (k : Int)) : b = k.toUInt8 := by
  have h1 : b.toNat = k := by omega
  apply UInt8.toNat_inj.mp
  rw [h1]
  show k = k % 256
  omega
theorem byte_not {b : UInt8} {k : Nat} (h : ((b.toNat : Nat) : Int) ≠ (k : Int)) (hk : k < 256) : b ≠ k.toUInt8 := fun e => by
  subst e
  apply h
  show ((k % 256 : Nat) : Int) = k
  omega
theorem ub_one (h2 : l.length < q + n) (h : lineS l q = some (.data (b :: r), q')) (hb : ((b.toNat : Nat) : Int) = 1) : unbandF l n q cs ts = unbandF l (n - 1) q' (cs ++ [r]) ts := by
  obtain ⟨n', rfl⟩ := ub_pos h2 h
  have e : b = 1 := byte_is (k := 1) (by decide) hb
  simp only [unbandF, h, e, if_true, Nat.add_sub_cancel]
theorem ub_two (h2 : l.length < q + n) (h : lineS l q = some (.data (b :: r), q')) (hb : ((b.toNat : Nat) : Int) = 2) : unbandF l n q cs ts = unbandF l (n - 1) q' cs (ts ++ [r]) := by
  obtain ⟨n', rfl⟩ := ub_pos h2 h
  have e : b = 2 := byte_is (k := 2) (by decide) hb
  subst e
  simp only [unbandF, h, Nat.add_sub_cancel]
  rw [if_neg (by decide), if_pos trivial]
theorem ub_three (h2 : l.length < q + n) (h : lineS l q = some (.data (b :: r), q')) (hb : ((b.toNat : Nat) : Int) = 3) : unbandF l n q cs ts = .told r := by
  obtain ⟨n', rfl⟩ := ub_pos h2 h
  have e : b = 3 := byte_is (k := 3) (by decide) hb
  subst e
  simp only [unbandF, h]
  rw [if_neg (by decide), if_neg (by decide), if_pos trivial]
theorem ub_else (h2 : l.length < q + n) (h : lineS l q = some (.data (b :: r), q')) (h3 : ((b.toNat : Nat) : Int) ≠ 1) (h4 : ((b.toNat : Nat) : Int) ≠ 2) (h5 : ((b.toNat : Nat) : Int) ≠ 3) : unbandF l n q cs ts = .bad := by
  obtain ⟨n', rfl⟩ := ub_pos h2 h
  simp only [unbandF, h]
  rw [if_neg (show b ≠ 1 from byte_not (k := 1) h3 (by decide)), if_neg (show b ≠ 2 from byte_not (k := 2) h4 (by decide)), if_neg (show b ≠ 3 from byte_not (k := 3) h5 (by decide))]
end
section
variable {l r : List UInt8} {b : UInt8} {p q q' n c1 c2 tk : Nat} {ps ts : List (List UInt8 × Tok)} {tq t8 t' : Tok} {h₀ h' H : Heap} {L D1 D2 a : Addr} {o : Obj} {m₀ m' : Str → Option Value} {s : Shared} {rest : List (Addr × Obj)}
abbrev UbEnd (l : List UInt8) (p : Nat) (D1 D2 : Addr) (h₀ : Heap) (L : Addr) (s : Shared) (m₀ : Str → Option Value) (c : UbSt) (s₂ : Shared) : Prop :=
  KswEnd h₀ L s (fun c : UbSt => [(D2, listOf c.v2.toArray c.c2), (D1, listOf c.v1.toArray c.c1)]) (fun c => [(Str.ofString "at", .int (c.q : Nat) c.tq)]) (fun c => True) [Str.ofString "item"] m₀ (UbP l p) (fun c => c.n) c s₂
theorem ub_turn1 (F : Fr h₀ L h' m') (N : News h₀ L h' [(a, o), (D2, listOf (sv ts).toArray c2), (D1, listOf (bv ps ++ [Value.bytes r.toArray t']).toArray (c1 + 1))]) (hP : UbP l p ⟨q, ps, ts, bv ps, sv ts, c1, c2, t8, n⟩)
    (hl : lineS l q = some (.data (b :: r), q')) (hb : ((b.toNat : Nat) : Int) = 1) (hk : m' (Str.ofString "at") = some (.int (q' : Nat) tq)) (hr : ∀ z, z ≠ Str.ofString "at" → [Str.ofString "item"].contains z = false → m' z = m₀ z) :
    UbEnd l p D1 D2 h₀ L s m₀ ⟨q, ps, ts, bv ps, sv ts, c1, c2, t8, n⟩ { s with heap := h', toks := tk } := by
  have hg := lineS_len hl
  have hw := lineS_within hl
  obtain ⟨_, _, l1, l2, l3, l4, eq⟩ := hP
  dsimp only at l1 l2 l3 l4 eq
  rw [List.length_cons] at hg
  refine ksw_end ⟨q', ps ++ [(r, t')], ts, bv ps ++ [Value.bytes r.toArray t'], sv ts, c1 + 1, c2, tq, n - 1⟩ F N (fun p hp => .tail _ hp) trivial (fun p hp => ?_) (fun z h1 h2 => hr z (h1 _ (.head _)) h2) ⟨?_, rfl, ?_, ?_, ?_, ?_, ?_⟩ ?_
  · rw [List.mem_singleton] at hp; subst hp; exact hk
  · simp [bv]
  · dsimp only; rw [List.length_append, List.length_singleton]; omega
  · dsimp only; omega
  · dsimp only; rw [List.map_append, List.flatten_append, List.length_append]; (have e9 : (List.map (fun (x : List UInt8 × Tok) => x.1) [(r, t')]).flatten.length = r.length := by simp); omega
  · dsimp only; omega
  · dsimp only; rw [eq, ub_one l2 hl hb, List.map_append]; rfl
  · dsimp only; omega
theorem ub_turn2 (F : Fr h₀ L h' m') (N : News h₀ L h' [(a, o), (D2, listOf (sv ts ++ [Value.str (textOf r) t']).toArray (c2 + 1)), (D1, listOf (bv ps).toArray c1)]) (hP : UbP l p ⟨q, ps, ts, bv ps, sv ts, c1, c2, t8, n⟩)
    (hl : lineS l q = some (.data (b :: r), q')) (hb : ((b.toNat : Nat) : Int) = 2) (hk : m' (Str.ofString "at") = some (.int (q' : Nat) tq)) (hr : ∀ z, z ≠ Str.ofString "at" → [Str.ofString "item"].contains z = false → m' z = m₀ z) :
    UbEnd l p D1 D2 h₀ L s m₀ ⟨q, ps, ts, bv ps, sv ts, c1, c2, t8, n⟩ { s with heap := h', toks := tk } := by
  have hg := lineS_len hl
  have hw := lineS_within hl
  obtain ⟨_, _, l1, l2, l3, l4, eq⟩ := hP
  dsimp only at l1 l2 l3 l4 eq
  rw [List.length_cons] at hg
  refine ksw_end ⟨q', ps, ts ++ [(r, t')], bv ps, sv ts ++ [Value.str (textOf r) t'], c1, c2 + 1, tq, n - 1⟩ F N (fun p hp => .tail _ hp) trivial (fun p hp => ?_) (fun z h1 h2 => hr z (h1 _ (.head _)) h2) ⟨rfl, ?_, ?_, ?_, ?_, ?_, ?_⟩ ?_
  · rw [List.mem_singleton] at hp; subst hp; exact hk
  · simp [sv]
  · dsimp only; rw [List.length_append, List.length_singleton]; omega
  · dsimp only; omega
  · dsimp only; omega
  · dsimp only; omega
  · dsimp only; rw [eq, ub_two l2 hl hb, List.map_append]; rfl
  · dsimp only; omega
theorem ub_ret {k : Int} {t : Tok} (N : News H L h' ((a, tupObj [.bytes (ps.map (·.1)).flatten.toArray t, .ref D2, .int (q' : Nat) tq]) :: rest)) (hD : (D2, listOf (sv ts).toArray c2) ∈ rest) (hne : @LT.lt Nat _ D2 a) (hP : UbP l p ⟨q, ps, ts, bv ps, sv ts, c1, c2, t8, n⟩)
    (hl : lineS l q = some (.mark k, q')) (hk : k = 0) : UbR l p H (.ref a) h' :=
  ⟨a, D2, c2, ps.map (·.1), ts, q', tq, t, by rw [hP.eq, ub_flush hP.l2 hl hk], rfl, (N _ (.head _)).1, (N _ (.head _)).2.2, (N _ (.tail _ hD)).1, (N _ (.tail _ hD)).2.2, fun e => by subst e; exact Nat.lt_irrefl _ hne⟩
end

set_option maxHeartbeats 8000000 in
theorem ub (w : World) (mean : ExcName → Option Value) (mg mb : Str → Option Value) (l : List UInt8) (hl : l.length ≤ 60000) (p : Nat) (hp : p ≤ 60000) (tb t : Tok) :
    Pure w mean mg mb 113 26 300 [.bytes l.toArray tb, .int p t] (UbR l p) (UbX l p) := by
  k_with_none
  k_with "ktr_enter" => (refine' enterPC ?z1k1 ?z1k2 ?z1k3 ?z1k5 ?z1kA ?z1kF ?z1kK ?z1k6 ?z1k7 ?z1k8 ?z1k9 ?z1kB ?z1kD ?_ ?z1c2 ?z1c3 ?z1c4; (case z1kA => exact rfl); (case z1kF => exact rfl); (case z1kK => assumption); (case z1k1 => k_asm); (case z1k2 => k_asm); (case z1k3 => k_asm); (case z1k5 => k_asm); (case z1k6 => k_is); (case z1k7 => k_is); (case z1k8 => ktr_room); (case z1k9 => first | exact BindsTo.of_eq rfl | exact binds_K (by k_in) rfl (by k_is) rfl rfl rfl); (case z1kB => exact rfl); (case z1kD => decide +kernel); (case z1c2 => exact rfl); (case z1c3 => exact rfl); (case z1c4 => exact rfl); k_whole; intro L' h' tk' cells' F' N' Y' B' X' T'; k_cells Y'; (try simp only [List.cons_append, List.nil_append, List.append_nil] at N'); (try dsimp only); (try k_fold))
  k_with "ktr_enter" => (refine' enterP ?z2k1 ?z2k2 ?z2k3 ?z2k5 ?z2kA ?z2kF ?z2kK ?z2k6 ?z2k7 ?z2k8 ?z2k9 ?z2kB ?_ ?z2c2 ?z2c3 ?z2c4 ?z2c5; (case z2kA => exact rfl); (case z2kF => exact rfl); (case z2kK => assumption); (case z2k1 => k_asm); (case z2k2 => k_asm); (case z2k3 => k_asm); (case z2k5 => k_asm); (case z2k6 => k_is); (case z2k7 => k_is); (case z2k8 => ktr_room); (case z2k9 => first | exact BindsTo.of_eq rfl | exact binds_K (by k_in) rfl (by k_is) rfl rfl rfl); (case z2c5 => decide); (case z2kB => exact locs rfl); (case z2c2 => exact rfl); (case z2c3 => exact rfl); (case z2c4 => exact rfl); k_whole; intro L' h' F' N' B' X' T'; (try dsimp only); (try k_fold))
  k_with "exec Raise some none" => (k_here; (with_reducible show wpAny _ _ (exec (Stmt.Raise (some (Expr.Call (Expr.Name ("BadLine" : Str) _) _ _ _)) none _) _) _ _ _); refine raise_own_init (C := 57) rfl ?_)
  k_with "call ref" => (k_here; (with_reducible show wpAny _ _ (call (Value.ref 57) _) _ _ _); k_dflt (refine' call_excK (C := 57) (fI := 29) ?z4k1 ?z4k2 ?z4k3 PySem.F.excBase_Exception chainBL ?z4kC ?z4k4 ?z4k5 ?z4k6 ?_; (case z4k1 => k_asm); (case z4k2 => k_asm); (case z4k3 => k_asm); (case z4kC => k_is); (case z4k4 => k_is); (case z4k5 => k_is); (case z4k6 => size_fits); k_whole; intro x' d' h' F' N' l1 l2; (try k_lt l1); (try k_lt2 l2); (try k_sweep); k_enter))
  k_with "setAttr ref" => (k_here; k_dflt (refine' set_excK (pre := []) (C := 57) ?z5k1 ?z5k2 ?z5k3 ?z5h1 ?z5h2 ?z5k4 ?z5k5 ?z5k6 ?z5k7 ?z5k8 ?z5k9 ?z5k10 ?_; (case z5k1 => k_asm); (case z5k2 => k_asm); (case z5k3 => k_asm); (case z5h1 => exact List.forall_mem_nil _); (case z5h2 => k_all); (case z5k4 => k_is); (case z5k5 => exact rfl); (case z5k6 => exact rfl); (case z5k7 => decide); (case z5k8 => exact passBL); (case z5k9 => k_is); (case z5k10 => k_is); k_whole; intro x' h' F' N' l1; (try simp only [List.nil_append] at N')))
  k_with "ThrowX" => (k_here; k_dflt (refine' throwX_of ?z6k1 ?z6k2 ?z6k3 ?z6k4 ?z6k5 ?z6k6 ?_; (case z6k1 => k_asm); (case z6k2 => k_asm); (case z6k3 => k_asm); (case z6k4 => k_mem); (case z6k5 => k_is); (case z6k6 => k_is); k_whole))
  k_with "leaving ref" => (k_here; k_dflt (refine' leave_first ?z7k1 ?z7k2 ?z7k3 ?z7k4 ?z7k5 ?z7k6 ?z7k7 ?z7k8 ?_; (case z7k1 => k_asm); (case z7k2 => k_asm); (case z7k3 => k_asm); (case z7k4 => k_mem); (case z7k5 => k_mem); (case z7k6 => (intro _ q9; cases q9)); (case z7k7 => exact notModule); (case z7k8 => exact rfl); k_whole; intro h' R'))
  k_with "kba_size" => first | omega | ((simp only [List.length_append, List.length_take, List.length_drop, List.length_cons, List.length_nil]); omega)
  k_with "call builtin:len" => (k_here; (with_reducible show wpAny _ _ (call (Value.builtin "len") [Value.bytes (List.toArray _) _]) _ _ _); (refine bytes_len (by kba_size) ?_); (try simp only [List.length_append, List.length_take, List.length_drop]))
  k_with "binaryOp Add bytes bytes" => (k_here; (with_reducible show wpAny _ _ (binaryOp Operator.Add (Value.bytes (List.toArray _) _) (Value.bytes (List.toArray _) _)) _ _ _); (refine bytes_add (by kba_size) ?_); intro _ _)
  k_with "compareOp Eq bytes bytes" => (k_here; (with_reducible show wpAny _ _ (compareOp CmpOp.Eq (Value.bytes (List.toArray _) _) (Value.bytes (List.toArray _) _)) _ _ _); (refine bytes_eq ?_))
  k_with "compareOp NotEq bytes bytes" => (k_here; (with_reducible show wpAny _ _ (compareOp CmpOp.NotEq (Value.bytes (List.toArray _) _) (Value.bytes (List.toArray _) _)) _ _ _); (refine bytes_ne ?_))
  k_with "subscriptTail" => (k_here; (with_reducible show wpAny _ _ (subscriptTail _ (Expr.Slice _ _ none _) (Value.bytes (List.toArray _) _) (Value.ref _)) _ _ _); (with_reducible rename Fr _ _ _ _ => F'); (with_reducible rename News _ _ _ _ => N'); (first | refine cut_mid (s := ⟨_, _, _, _, _⟩) F' N' (by kba_size) (by kba_size) (by kba_size) ?_ | refine cut_from (s := ⟨_, _, _, _, _⟩) F' N' (by kba_size) (by kba_size) ?_ | refine cut_to (s := ⟨_, _, _, _, _⟩) F' N' (by kba_size) (by kba_size) ?_ | refine cut_back (s := ⟨_, _, _, _, _⟩) F' N' (by kba_size) (by kba_size) ?_); intro h' _ _ F' N')
  k_with "exec For Name Subscript cons nil" => (k_here; (rename Fr _ _ _ _ => lF'); (with_unfolding_all refine' For_invVF lF' ?z14k1 ?z14k2 ?_; (case z14k1 => exact rfl); (case z14k2 => exact rfl); k_whole))
  k_with "leaving ref" => (k_here; k_dflt (refine' leave_next ?z15k1 ?z15k2 ?z15k3 ?z15k7 ?z15k8 ?_; (case z15k3 => assumption); (case z15k1 => assumption); (case z15k2 => assumption); (case z15k7 => exact notModule); (case z15k8 => exact rfl); k_whole; intro h' R'))
  k_with "call builtin:list.append" => (k_here; (with_reducible show wpAny _ _ (call (Value.builtin _) [Value.ref _, _]) _ _ _); k_dflt (refine' append_L ?z16k1 ?z16k2 ?z16k3 ?z16z ?_; (case z16k1 => k_asm); (case z16k2 => k_asm); (case z16k3 => k_upd); (case z16z => kba_size); k_whole); intro h' F' N'; (try k_sweep))
  k_with "compareOp Eq bytes int" => (with_reducible refine eq_bytes_int ?_)
  k_with "compareOp Eq int bytes" => (with_reducible refine eq_int_bytes ?_)
  k_with "call type:bytes" => (k_here; (with_reducible show wpAny _ _ (call (Value.type _) [Value.ref _]) _ _ _); k_dflt (refine' bytes_mk ?z19F ?z19N ?z19m ?z19i ?z19z ?z19h ?_; (case z19F => k_asm); (case z19N => k_asm); (case z19m => k_mem); (case z19i => (first | assumption | exact .nil | exact .cons .nil | exact .cons (.cons .nil) | exact .cons (.cons (.cons .nil)) | exact .cons (.cons (.cons (.cons .nil))))); (case z19z => first | omega | (simp only [List.length_cons, List.length_nil]; omega)); (case z19h => with_unfolding_all rfl); k_whole); intro h' t' k' F' N'; (try k_sweep))
  k_with "compareOp Eq bytes bytes" => (k_here; (with_reducible show wpAny _ _ (compareOp CmpOp.Eq (Value.bytes (List.toArray (_ :: _)) _) (Value.bytes (List.toArray []) _)) _ _ _); (refine bytes_eq ?_); (simp only [List.cons_ne_nil, reduceCtorEq, decide_false]))
  k_with "subscriptTail" => (k_here; (with_reducible show wpAny _ _ (subscriptTail _ (Expr.Slice _ _ none _) (Value.bytes (List.toArray (_ :: _)) _) (Value.ref _)) _ _ _); (with_reducible rename Fr _ _ _ _ => F'); (with_reducible rename News _ _ _ _ => N'); (refine cut_tail (s := ⟨_, _, _, _, _⟩) F' N' (by omega) ?_); intro h' _ _ F' N')
  k_with "subscriptTail" => (k_here; (with_reducible show wpAny _ _ (subscriptTail _ _ (Value.bytes (List.toArray (_ :: _)) _) (Value.int 0 _)) _ _ _); refine item_hd (by omega) ?_)
  k_with "call ref" => (k_here; (with_reducible show wpAny _ _ (call (Value.ref 90) [Value.bytes _ _, Value.int _ _]) _ _ _); k_dflt (refine' pure_use (wl _ _ _ _ _ ?z23kl _ _ _) ?z23k1 ?z23k2 ?z23k3 ?z23k4 ?z23k5 ?z23k6 ?z23k7 ?z23k8 (fun v9 h' tk' F' N' kF9 kN9 _ hR9 => ?_) (fun e9 dx9 x9 tk8 tk9 h' tk' hX9 R' => ?_); (case z23kl => assumption); (case z23k1 => k_asm); (case z23k2 => k_asm); (case z23k3 => k_asm); (case z23k4 => k_asm); (case z23k5 => k_asm); (case z23k6 => first | exact rfl | assumption); (case z23k7 => ktr_room); (case z23k8 => ktr_units); (all_goals (try (obtain ⟨a9, iv9, it9, q9, tq9, hl9, hi9, e9, ha9, hn9⟩ := hR9; subst e9; replace N' := news_add kF9 N' ha9 hn9; (have ne9 := news_ne kN9 hn9); (try simp only [AllNe, and_true] at ne9); clear kF9 kN9 ha9 hn9; rcases it9 with k9 | (_ | ⟨b9, r9⟩); (all_goals (obtain ⟨ti9, e9⟩ := hi9; subst e9)); (all_goals (try (have hr9 := lineS_len hl9; simp only [List.length_cons, List.length_nil] at hr9))); (all_goals (have hg9 := lineS_within hl9))))); (all_goals (try dsimp only))))
  k_with "call ref" => (k_here; (with_reducible show wpAny _ _ (call (Value.ref 64) [Value.bytes _ _]) _ _ _); k_dflt (refine' pure_use (txt _ _ _ _ _ ?z24kl _) ?z24k1 ?z24k2 ?z24k3 ?z24k4 ?z24k5 ?z24k6 ?z24k7 ?z24k8 ?_ (fun _ _ _ _ _ _ _ h9 => False.elim h9); (case z24kl => omega); (case z24k1 => k_asm); (case z24k2 => k_asm); (case z24k3 => k_asm); (case z24k4 => k_asm); (case z24k5 => k_asm); (case z24k6 => first | exact rfl | assumption); (case z24k7 => ktr_room); (case z24k8 => ktr_units); intro v9 h' tk' F' N' kF9 kN9 kk9 hR9; clear kF9 kN9 kk9; obtain ⟨tt9, e9⟩ := hR9; subst e9; (try dsimp only)))
  k_with "getMethod bytes" => (k_here; (with_reducible refine method_join ?_))
  k_with "call builtin:bytes.join" => (k_here; k_dflt (refine' call_join ?z26N ?z26D ?z26z ?z26l ?_; (case z26N => k_asm); (case z26D => k_mem); (case z26z => omega); (case z26l => omega)); intro t9 k9)
  intro dp un gd cn cs a ccd cl outer A₀ base h₀ L m s Q E B F X T hk hdp hun hret hexc
  have hl5 : l.length ≤ 100000 := by omega
  revert X; k_fill; intro X
  refine wpAny_call ?_
  k_dflt (first | ktr_enter | fail "no entry")
  clear B F X T
  k_with "exec While Constant cons nil" => ((with_reducible rename Fr _ _ _ _ => F0); (with_reducible rename News _ _ _ _ => N0); refine' ksw_while (σ := UbSt) (fun c => [(_, listOf c.v2.toArray c.c2), (_, listOf c.v1.toArray c.c1)]) (fun c => [(Str.ofString "at", .int (c.q : Nat) c.tq)]) (fun c => True) [Str.ofString "item"] (UbP l p) (fun c => c.n) ⟨p, [], [], [], [], 0, 0, t, l.length + 1⟩ F0 (fun q9 hq9 => N0 q9 (.tail _ hq9)) trivial ?f2 ?f3 ?turn; (case' turn => (intro c9 u9 h' tk' _ hP9 F' N'; obtain ⟨q8, ps8, ts8, v18, v28, c18, c28, t8, n8⟩ := c9; have e1 := hP9.e1; have e2 := hP9.e2; dsimp only at e1 e2 F' N'; subst e1; subst e2; have hb9 : (bv ps8).length = ps8.length := List.length_map ..; have hlen1 := hP9.l1; have hlen2 := hP9.l3; have hlen3 := hP9.l4; dsimp only at hlen1 hlen2 hlen3)))
  k_with "execs cons" => (k_fold; with_reducible refine wpAny_execs_cons ?_)
  w_top off
  k_steps
  · exact hret _ _ _ (Fr.keep (by assumption)) (ub_ret (by assumption) (.tail _ (.head _)) (by first | exact raw_lt (by with_reducible assumption) (by k_mem) | omega) (by assumption) (by assumption) (by assumption))
  · exact hexc _ _ _ _ _ _ _ (.inl (by rw [UbP.eq (by assumption)]; exact ub_mark (UbP.l2 (by assumption)) (by assumption) (by assumption))) (by assumption)
  · exact hexc _ _ _ _ _ _ _ (.inl (by rw [UbP.eq (by assumption)]; exact ub_empty (UbP.l2 (by assumption)) (by assumption))) (by assumption)
  · exact ub_turn1 (by assumption) (by assumption) (by assumption) (by assumption) (by assumption) (by rfl) (by intro z h2 h3; (simp only [List.contains_cons, List.contains_nil, Bool.or_false, beq_eq_false_iff_ne, ne_eq] at h3); (simp only [kstB, List.contains_cons, List.contains_nil, Bool.or_false, beq_iff_eq, h3, h2, if_false]))
  · exact ub_turn2 (by assumption) (by assumption) (by assumption) (by assumption) (by assumption) (by rfl) (by intro z h2 h3; (simp only [List.contains_cons, List.contains_nil, Bool.or_false, beq_eq_false_iff_ne, ne_eq] at h3); (simp only [kstB, List.contains_cons, List.contains_nil, Bool.or_false, beq_iff_eq, h3, h2, if_false]))
  · exact hexc _ _ _ _ _ _ _ (.inr ⟨_, by rw [UbP.eq (by assumption)]; exact ub_three (UbP.l2 (by assumption)) (by assumption) (by assumption), rfl⟩) (by assumption)
  · exact hexc _ _ _ _ _ _ _ (.inl (by rw [UbP.eq (by assumption)]; exact ub_else (UbP.l2 (by assumption)) (by assumption) (by assumption) (by assumption) (by assumption))) (by assumption)
  · exact hexc _ _ _ _ _ _ _ (.inl (by rw [UbP.eq (by assumption)]; exact ub_none (by assumption))) (by assumption)
  · rename_i h9
    rw [List.mem_singleton] at h9
    subst h9
    rfl
  · exact ⟨rfl, rfl, by simp, by dsimp only; omega, by simp, by simp, rfl⟩
end
section
local macro_rules | `(tactic| k_ne) => `(tactic| k_extra "k_ne")
local macro_rules | `(tactic| k_lt $_h:ident) => `(tactic| skip)

-- part K10
section
open PySem PySem.Calls PySem.W PyProof.Rows Builtin Builtin.ObjectAttr
set_option maxRecDepth 100000
def HeardV (l : List UInt8) (p : Nat) (H : Heap) (v : Value) (h' : Heap) : Prop := (∃ x t, UbX l p x ∧ v = .str x t) ∨ UbR l p H v h'
section
variable {prog : Program} {w : World} {A A₀ : Around} {E : Value → Shared → Prop} {s : Shared} {Q : Value → Shared → Prop} {base g : Heap} {outer : List Env} {L e : Addr} {oe : Obj} {m : Str → Option Value} {x : Str} {tk tk2 : Tok} {K : Frag}
theorem get_told {expr : Bool} (X : K.In base) (B : Below A₀ base outer g) (F : Fr g L s.heap m) (I : W.InstAt s.heap e oe 57 (some (toldObj w x tk tk2))) (hga : findIn K (.ref 57) "__getattribute__" = some (some (.builtin "BaseException.__getattribute__"))) (hgt : findIn K (.ref 57) "__getattr__" = some none)
    (hsub : mroIn K 57 (.type "BaseException") = some true) (hh : hasDictIn K 57 = true) (ha : findIn K (.ref 57) told = some none) (h : Q (.str x tk2) { s with toks := s.toks + 1 }) : wpAny (model prog w) A (getAttr (.ref e) told expr) Q E s :=
  get_excK ((X.keeps B.stays).keeps F.keep) I hga hgt hsub (findObj_own hh ha rfl rfl) rfl h
end
theorem ub_val {l : List UInt8} {p q c : Nat} {cs : List (List UInt8)} {ts : List (List UInt8 × Tok)} {tq t : Tok} {H h : Heap} {L D a : Addr} {rest : List (Addr × Obj)} (N : News H L h ((a, tupObj [.bytes cs.flatten.toArray t, .ref D, .int (q : Nat) tq]) :: (D, W.listOf (sv ts).toArray c) :: rest)) (hne : a ≠ D)
    (heq : unbandF l (l.length + 1) p [] [] = .val cs (ts.map (·.1)) q) : UbR l p H (.ref a) h :=
  ⟨a, D, c, cs, ts, q, tq, t, heq, rfl, (N _ (.head _)).1, (N _ (.head _)).2.2, (N _ (.tail _ (.head _))).1, (N _ (.tail _ (.head _))).2.2, hne⟩
set_option maxHeartbeats 8000000 in
theorem lh (w : World) (mean : ExcName → Option Value) (mg mb : Str → Option Value) (l : List UInt8) (hl : l.length ≤ 60000) (p : Nat) (hp : p ≤ 60000) (tb t : Tok) :
    Shut w mean mg mb 168 36 400 [.bytes l.toArray tb, .int p t] (HeardV l p) := by
  k_with_none
  k_with "k_ne" => (refine neN ?_; (try dsimp only); first | with_reducible assumption | (with_reducible refine Ne.symm ?_; with_reducible assumption) | (with_reducible refine' ne_lt ?z1q1 ?z1q2; (case z1q1 => with_reducible assumption); (case z1q2 => (with_reducible ((repeat (first | exact List.mem_cons_self | refine List.mem_cons_of_mem _ ?_)); done)))) | (with_reducible refine' ne_gt ?z1q1 ?z1q2; (case z1q1 => with_reducible assumption); (case z1q2 => (with_reducible ((repeat (first | exact List.mem_cons_self | refine List.mem_cons_of_mem _ ?_)); done)))) | (with_reducible refine' ne_of ?z1q1 ?z1q2; (case z1q1 => with_reducible assumption); (case z1q2 => (with_reducible ((repeat (first | exact List.mem_cons_self | refine List.mem_cons_of_mem _ ?_)); done)))) | (with_reducible refine' ne_fo ?z1q1 ?z1q2; (case z1q1 => with_reducible assumption); (case z1q2 => (with_reducible ((repeat (first | exact List.mem_cons_self | refine List.mem_cons_of_mem _ ?_)); done)))) | (with_reducible refine' off_I ?z1q1 ?z1q2; (case z1q1 => with_reducible assumption); (case z1q2 => (with_reducible ((repeat (first | exact List.mem_cons_self | refine List.mem_cons_of_mem _ ?_)); done)))) | (with_reducible refine' off_C ?z1q1 ?z1q2; (case z1q1 => with_reducible assumption); (case z1q2 => (with_reducible ((repeat (first | exact List.mem_cons_self | refine List.mem_cons_of_mem _ ?_)); done)))) | (with_reducible refine' off_D ?z1q1 ?z1q2; (case z1q1 => with_reducible assumption); (case z1q2 => (with_reducible ((repeat (first | exact List.mem_cons_self | refine List.mem_cons_of_mem _ ?_)); done)))) | (with_reducible refine' I_off ?z1q1 ?z1q2; (case z1q1 => with_reducible assumption); (case z1q2 => (with_reducible ((repeat (first | exact List.mem_cons_self | refine List.mem_cons_of_mem _ ?_)); done)))) | (with_reducible refine' C_off ?z1q1 ?z1q2; (case z1q1 => with_reducible assumption); (case z1q2 => (with_reducible ((repeat (first | exact List.mem_cons_self | refine List.mem_cons_of_mem _ ?_)); done)))) | (with_reducible refine' D_off ?z1q1 ?z1q2; (case z1q1 => with_reducible assumption); (case z1q2 => (with_reducible ((repeat (first | exact List.mem_cons_self | refine List.mem_cons_of_mem _ ?_)); done)))) | (first | exact And.left (by with_reducible assumption) | exact And.left (And.right (by with_reducible assumption)) | exact And.right (And.right (by with_reducible assumption)) | exact And.right (by with_reducible assumption) | exact And.left (And.right (And.right (by with_reducible assumption))) | exact And.left (And.right (And.right (And.right (by with_reducible assumption)))) | exact And.right (And.right (And.right (And.right (by with_reducible assumption)))) | exact And.right (And.right (And.right (by with_reducible assumption))) | exact And.left (And.left (by with_reducible assumption)) | exact And.left (And.right (And.left (by with_reducible assumption))) | exact And.right (And.right (And.left (by with_reducible assumption)))) | (with_reducible refine Ne.symm ?_; first | exact And.left (by with_reducible assumption) | exact And.left (And.right (by with_reducible assumption)) | exact And.right (And.right (by with_reducible assumption)) | exact And.right (by with_reducible assumption) | exact And.left (And.right (And.right (by with_reducible assumption))) | exact And.left (And.right (And.right (And.right (by with_reducible assumption)))) | exact And.right (And.right (And.right (And.right (by with_reducible assumption)))) | exact And.right (And.right (And.right (by with_reducible assumption))) | exact And.left (And.left (by with_reducible assumption)) | exact And.left (And.right (And.left (by with_reducible assumption))) | exact And.right (And.right (And.left (by with_reducible assumption)))) | omega)
  k_with "ktr_enter" => (refine' enterPC ?z2k1 ?z2k2 ?z2k3 ?z2k5 ?z2kA ?z2kF ?z2kK ?z2k6 ?z2k7 ?z2k8 ?z2k9 ?z2kB ?z2kD ?_ ?z2c2 ?z2c3 ?z2c4; (case z2kA => exact rfl); (case z2kF => exact rfl); (case z2kK => assumption); (case z2k1 => k_asm); (case z2k2 => k_asm); (case z2k3 => k_asm); (case z2k5 => k_asm); (case z2k6 => k_is); (case z2k7 => k_is); (case z2k8 => ktr_room); (case z2k9 => first | exact BindsTo.of_eq rfl | exact binds_K (by k_in) rfl (by k_is) rfl rfl rfl); (case z2kB => exact rfl); (case z2kD => decide +kernel); (case z2c2 => exact rfl); (case z2c3 => exact rfl); (case z2c4 => exact rfl); k_whole; intro L' h' tk' cells' F' N' Y' B' X' T'; k_cells Y'; (try simp only [List.cons_append, List.nil_append, List.append_nil] at N'); (try dsimp only); (try k_fold))
  k_with "ktr_enter" => (refine' enterP ?z3k1 ?z3k2 ?z3k3 ?z3k5 ?z3kA ?z3kF ?z3kK ?z3k6 ?z3k7 ?z3k8 ?z3k9 ?z3kB ?_ ?z3c2 ?z3c3 ?z3c4 ?z3c5; (case z3kA => exact rfl); (case z3kF => exact rfl); (case z3kK => assumption); (case z3k1 => k_asm); (case z3k2 => k_asm); (case z3k3 => k_asm); (case z3k5 => k_asm); (case z3k6 => k_is); (case z3k7 => k_is); (case z3k8 => ktr_room); (case z3k9 => first | exact BindsTo.of_eq rfl | exact binds_K (by k_in) rfl (by k_is) rfl rfl rfl); (case z3c5 => decide); (case z3kB => exact locs rfl); (case z3c2 => exact rfl); (case z3c3 => exact rfl); (case z3c4 => exact rfl); k_whole; intro L' h' F' N' B' X' T'; (try dsimp only); (try k_fold))
  k_with "exec Raise some none" => (k_here; (with_reducible show wpAny _ _ (exec (Stmt.Raise (some (Expr.Call (Expr.Name ("BadLine" : Str) _) _ _ _)) none _) _) _ _ _); refine raise_own_init (C := 57) rfl ?_)
  k_with "call ref" => (k_here; (with_reducible show wpAny _ _ (call (Value.ref 57) _) _ _ _); k_dflt (refine' call_excK (C := 57) (fI := 29) ?z5k1 ?z5k2 ?z5k3 PySem.F.excBase_Exception chainBL ?z5kC ?z5k4 ?z5k5 ?z5k6 ?_; (case z5k1 => k_asm); (case z5k2 => k_asm); (case z5k3 => k_asm); (case z5kC => k_is); (case z5k4 => k_is); (case z5k5 => k_is); (case z5k6 => size_fits); k_whole; intro x' d' h' F' N' l1 l2; (try k_lt l1); (try k_lt2 l2); (try k_sweep); k_enter))
  k_with "setAttr ref" => (k_here; k_dflt (refine' set_excK (pre := []) (C := 57) ?z6k1 ?z6k2 ?z6k3 ?z6h1 ?z6h2 ?z6k4 ?z6k5 ?z6k6 ?z6k7 ?z6k8 ?z6k9 ?z6k10 ?_; (case z6k1 => k_asm); (case z6k2 => k_asm); (case z6k3 => k_asm); (case z6h1 => exact List.forall_mem_nil _); (case z6h2 => k_all); (case z6k4 => k_is); (case z6k5 => exact rfl); (case z6k6 => exact rfl); (case z6k7 => decide); (case z6k8 => exact passBL); (case z6k9 => k_is); (case z6k10 => k_is); k_whole; intro x' h' F' N' l1; (try simp only [List.nil_append] at N')))
  k_with "ThrowX" => (k_here; k_dflt (refine' throwX_of ?z7k1 ?z7k2 ?z7k3 ?z7k4 ?z7k5 ?z7k6 ?_; (case z7k1 => k_asm); (case z7k2 => k_asm); (case z7k3 => k_asm); (case z7k4 => k_mem); (case z7k5 => k_is); (case z7k6 => k_is); k_whole))
  k_with "leaving ref" => (k_here; k_dflt (refine' leave_first ?z8k1 ?z8k2 ?z8k3 ?z8k4 ?z8k5 ?z8k6 ?z8k7 ?z8k8 ?_; (case z8k1 => k_asm); (case z8k2 => k_asm); (case z8k3 => k_asm); (case z8k4 => k_mem); (case z8k5 => k_mem); (case z8k6 => (intro _ q9; cases q9)); (case z8k7 => exact notModule); (case z8k8 => exact rfl); k_whole; intro h' R'))
  k_with "kba_size" => first | omega | ((simp only [List.length_append, List.length_take, List.length_drop, List.length_cons, List.length_nil]); omega)
  k_with "call builtin:len" => (k_here; (with_reducible show wpAny _ _ (call (Value.builtin "len") [Value.bytes (List.toArray _) _]) _ _ _); (refine bytes_len (by kba_size) ?_); (try simp only [List.length_append, List.length_take, List.length_drop]))
  k_with "binaryOp Add bytes bytes" => (k_here; (with_reducible show wpAny _ _ (binaryOp Operator.Add (Value.bytes (List.toArray _) _) (Value.bytes (List.toArray _) _)) _ _ _); (refine bytes_add (by kba_size) ?_); intro _ _)
  k_with "compareOp Eq bytes bytes" => (k_here; (with_reducible show wpAny _ _ (compareOp CmpOp.Eq (Value.bytes (List.toArray _) _) (Value.bytes (List.toArray _) _)) _ _ _); (refine bytes_eq ?_))
  k_with "compareOp NotEq bytes bytes" => (k_here; (with_reducible show wpAny _ _ (compareOp CmpOp.NotEq (Value.bytes (List.toArray _) _) (Value.bytes (List.toArray _) _)) _ _ _); (refine bytes_ne ?_))
  k_with "subscriptTail" => (k_here; (with_reducible show wpAny _ _ (subscriptTail _ (Expr.Slice _ _ none _) (Value.bytes (List.toArray _) _) (Value.ref _)) _ _ _); (with_reducible rename Fr _ _ _ _ => F'); (with_reducible rename News _ _ _ _ => N'); (first | refine cut_mid (s := ⟨_, _, _, _, _⟩) F' N' (by kba_size) (by kba_size) (by kba_size) ?_ | refine cut_from (s := ⟨_, _, _, _, _⟩) F' N' (by kba_size) (by kba_size) ?_ | refine cut_to (s := ⟨_, _, _, _, _⟩) F' N' (by kba_size) (by kba_size) ?_ | refine cut_back (s := ⟨_, _, _, _, _⟩) F' N' (by kba_size) (by kba_size) ?_); intro h' _ _ F' N')
  k_with "exec For Name Subscript cons nil" => (k_here; (rename Fr _ _ _ _ => lF'); (with_unfolding_all refine' For_invVF lF' ?z15k1 ?z15k2 ?_; (case z15k1 => exact rfl); (case z15k2 => exact rfl); k_whole))
  k_with "leaving ref" => (k_here; k_dflt (refine' leave_next ?z16k1 ?z16k2 ?z16k3 ?z16k7 ?z16k8 ?_; (case z16k3 => assumption); (case z16k1 => assumption); (case z16k2 => assumption); (case z16k7 => exact notModule); (case z16k8 => exact rfl); k_whole; intro h' R'))
  k_with "call builtin:list.append" => (k_here; (with_reducible show wpAny _ _ (call (Value.builtin _) [Value.ref _, _]) _ _ _); k_dflt (refine' append_L ?z17k1 ?z17k2 ?z17k3 ?z17z ?_; (case z17k1 => k_asm); (case z17k2 => k_asm); (case z17k3 => k_upd); (case z17z => kba_size); k_whole); intro h' F' N'; (try k_sweep))
  k_with "compareOp Eq bytes int" => (with_reducible refine eq_bytes_int ?_)
  k_with "compareOp Eq int bytes" => (with_reducible refine eq_int_bytes ?_)
  k_with "call type:bytes" => (k_here; (with_reducible show wpAny _ _ (call (Value.type _) [Value.ref _]) _ _ _); k_dflt (refine' bytes_mk ?z20F ?z20N ?z20m ?z20i ?z20z ?z20h ?_; (case z20F => k_asm); (case z20N => k_asm); (case z20m => k_mem); (case z20i => (first | assumption | exact .nil | exact .cons .nil | exact .cons (.cons .nil) | exact .cons (.cons (.cons .nil)) | exact .cons (.cons (.cons (.cons .nil))))); (case z20z => first | omega | (simp only [List.length_cons, List.length_nil]; omega)); (case z20h => with_unfolding_all rfl); k_whole); intro h' t' k' F' N'; (try k_sweep))
  k_with "call ref" => (k_here; (with_reducible show wpAny _ _ (call (Value.ref 113) [Value.bytes _ _, Value.int _ _]) _ _ _); k_dflt (refine' pure_use (ub _ _ _ _ _ ?z21kl _ ?z21kp _ _) ?z21k1 ?z21k2 ?z21k3 ?z21k4 ?z21k5 ?z21k6 ?z21k7 ?z21k8 (fun v9 h' tk' F' N' kF9 kN9 _ hR9 => ?_) (fun e9 dx9 x9 tk8 tk9 h' tk' hX9 R' => ?_); (case z21kl => assumption); (case z21kp => assumption); (case z21k1 => k_asm); (case z21k2 => k_asm); (case z21k3 => k_asm); (case z21k4 => k_asm); (case z21k5 => k_asm); (case z21k6 => first | exact rfl | assumption); (case z21k7 => ktr_room); (case z21k8 => ktr_units); (all_goals (try (obtain ⟨a9, D9, c9, cs9, ts9, q9, tq9, t9, hr9, e9, ha9, hn9, hD9, hd9, hne9⟩ := hR9; subst e9; replace N' := news_add kF9 (news_add kF9 N' hD9 hd9) ha9 hn9; clear kF9 kN9 ha9 hn9 hD9 hd9))); (all_goals (try dsimp only))))
  k_with "noteFrame ref" => (k_here; (with_reducible show wpAny _ _ (noteFrame _ _) (fun _ s₂ => wpAny _ _ (setFlight _ none) (fun _ s₃ => wpAny _ _ (handleBy _ _ (ExceptHandler.ExceptHandler (some (Expr.Name _ _)) (some _) _ _ :: _)) _ _ s₃) _ s₂) _ _); k_dflt (refine' catchB (KF := hd.heap_39 _) ?z22k1 ?z22k2 ?z22k3 ?z22k4 ?z22k5 ?z22k6 ?z22k7 ?z22k8 ?_; (case z22k3 => assumption); (case z22k1 => assumption); (case z22k2 => assumption); (case z22k4 => assumption); (case z22k5 => exact topRead_of (by assumption)); (case z22k6 => k_is); (case z22k7 => decide +kernel); (case z22k8 => k_is); k_whole; intro h' g' oe' tk' KT' F' I' B'; (have N' := news_nil_of F')))
  k_with "getAttr ref" => (k_here; k_dflt (refine' get_told ?z23k1 ?z23k2 ?z23k3 ?z23k4 ?z23k5 ?z23k6 ?z23k7 ?z23k8 ?z23k9 ?_; (case z23k4 => assumption); (case z23k3 => assumption); (case z23k2 => assumption); (case z23k1 => assumption); (case z23k5 => k_is); (case z23k6 => k_is); (case z23k7 => k_is); (case z23k8 => k_is); (case z23k9 => k_is)))
  intro dp un gd cn cs a ccd cl A₀ h₀ L m s Q E B F X T hk hdp hun hret
  revert X; k_fill; intro X
  refine wpAny_call ?_
  k_dflt (first | ktr_enter | fail "no entry")
  k_with "execs cons" => (k_fold; with_reducible refine wpAny_execs_cons ?_)
  w_top off
  k_steps
  · exact hret _ _ _ (Turn.of_keep (Fr.keep (by assumption))) (.inr (ub_val (by assumption) (by assumption) (by assumption)))
  · exact hret _ _ _ (Turn.of_kts (by assumption) (Fr.keep (by assumption))) (.inl ⟨_, _, by assumption, rfl⟩)
end

-- part K11
section
open PySem PySem.Calls PySem.W PyProof.Rows Builtin Builtin.ObjectAttr
set_option maxRecDepth 100000
def nch (n k : Nat) : Nat := if n = 0 then 0 else (n - 1) / k + 1
def chunk (l : List UInt8) (k i : Nat) : List UInt8 := (l.drop (i * k)).take k
def headsI (ts : List (List UInt8)) : List Item := ts.map fun r => .data (2 :: r)
def chunksI (l : List UInt8) (k n : Nat) : List Item := (List.range n).map fun i => .data (1 :: chunk l k i)
def piecesI (l : List UInt8) (k : Nat) (ts : List (List UInt8)) : List Item := headsI ts ++ chunksI l k (nch l.length k) ++ [.mark 0]
def frames (is : List Item) : List UInt8 := (is.map framed).flatten
/-- as Pure, for a heap of which something is known -/
def PureH (w : World) (mean : ExcName → Option Value) (mg mb : Str → Option Value) (f : Addr) (d u : Nat) (vs : List Value) (Pre : Heap → Prop) (R : Heap → Value → Heap → Prop) : Prop :=
  ∀ (dp un : Nat) (gd : Option (List Code)) (cn : Str) (cs : Scope) (a : Addr) (ccd : Value) (cl : List (Str × Addr)) (outer : List Env) (A₀ : Around) (base h₀ : Heap) (L : Addr) (m : Str → Option Value) (s : Shared) (Q E : Value → Shared → Prop),
    Below A₀ base outer h₀ → Fr h₀ L s.heap m → (hd.heap_39 w.params).In h₀ → Top hd.view_39 looseH mean mg mb h₀ → cs.kind = .function → dp + d < recursionLimit → un + u < cLine → Pre s.heap →
    (∀ v h' tk', (∀ b o, s.heap.get? b = some o → h'.get? b = some o) → R s.heap v h' → Q v { s with heap := h', toks := tk' }) →
    wpAny (model PySem.Challenge.rw_nt0268_01.row.prog w) (ktrTop dp un gd cn cs L a ccd cl outer) (call (.ref f) vs) Q E s
theorem pureH_use {w : World} {mean : ExcName → Option Value} {mg mb : Str → Option Value} {f : Addr} {d u : Nat} {vs : List Value} {Pre : Heap → Prop} {R : Heap → Value → Heap → Prop} {dp un : Nat} {gd : Option (List Code)} {cn : Str} {cs : Scope} {a : Addr} {ccd : Value} {cl : List (Str × Addr)} {outer : List Env} {A₀ : Around} {base h₀ : Heap} {L : Addr} {m : Str → Option Value} {news : List (Addr × Obj)} {s : Shared} {Q E : Value → Shared → Prop}
    (C : PureH w mean mg mb f d u vs Pre R) (B : Below A₀ base outer h₀) (F : Fr h₀ L s.heap m) (X : (hd.heap_39 w.params).In h₀) (N : News h₀ L s.heap news) (T : Top hd.view_39 looseH mean mg mb h₀) (hk : cs.kind = .function) (hd : dp + d < recursionLimit) (hu : un + u < cLine) (hp : Pre s.heap)
    (ret : ∀ v h' tk', Fr h₀ L h' m → News h₀ L h' news → Fr h₀ L s.heap m → News h₀ L s.heap news → (∀ b o, s.heap.get? b = some o → h'.get? b = some o) → R s.heap v h' → Q v { s with heap := h', toks := tk' }) :
    wpAny (model PySem.Challenge.rw_nt0268_01.row.prog w) (ktrTop dp un gd cn cs L a ccd cl outer) (call (.ref f) vs) Q E s :=
  C _ _ _ _ _ _ _ _ _ _ _ _ _ _ _ _ _ B F X T hk hd hu hp (fun v h' tk' k r => ret v h' tk' (fr_ext F k) (news_ext N k) F N k r)
theorem framed_len (r : List UInt8) : (framed (.data r)).length = r.length + 4 := by
  show ([_, _, _, _] ++ r).length = _
  rw [List.length_append]
  simp
  omega
theorem mark_len9 {k : Int} {t : Tok} {v : Value} (_ : v = .bytes (framed (.mark k)).toArray t) : (framed (.mark k)).length = 4 := rfl
theorem data_len9 {r : List UInt8} {t : Tok} {v : Value} (_ : v = .bytes (framed (.data r)).toArray t) : (framed (.data r)).length = r.length + 4 := framed_len r
structure SbSt where
  ps : List (List UInt8 × Tok)
  vs : List Value
  c : Nat
def SbOk (l : List UInt8) (k : Nat) (ts : List (List UInt8)) (i : Nat) (c : SbSt) : Prop := c.vs = bv c.ps ∧ c.ps.map (·.1) = (headsI ts ++ chunksI l k i).map framed
def HeadsOk (ts : List (List UInt8)) (i : Nat) (ys : List Value) : Prop := ∃ ps, ys = bv ps ∧ ps.map (·.1) = (headsI (ts.take i)).map framed
theorem heads_nil {ts : List (List UInt8)} : HeadsOk ts 0 [] := ⟨[], rfl, by simp [headsI]⟩
theorem heads_snoc {ts : List (List UInt8)} {i : Nat} {ys : List Value} {r : List UInt8} {t : Tok} (h : HeadsOk ts i ys) (hr : ts[i]? = some r) : HeadsOk ts (i + 1) (ys ++ [.bytes (framed (.data (2 :: r))).toArray t]) := by
  obtain ⟨ps, e1, e2⟩ := h
  refine ⟨ps ++ [(framed (.data (2 :: r)), t)], by rw [e1]; simp [bv], ?_⟩
  rw [List.take_add_one, hr, List.map_append, e2]
  simp [headsI]
theorem sv_at {ps : List (List UInt8 × Tok)} {i : Nat} {v : Value} (hts : ∀ p ∈ ps, p.1.length ≤ 100) (h : (sv ps).toArray[i]? = some v) : ∃ r t, (ps.map (·.1))[i]? = some r ∧ r.length ≤ 100 ∧ v = .str (textOf r) t := by
  have h1 : (sv ps)[i]? = some v := by simpa using h
  unfold sv at h1
  rw [List.getElem?_map] at h1
  rw [List.getElem?_map]
  cases hp : ps[i]? with
  | none => rw [hp] at h1; cases h1
  | some p =>
    rw [hp] at h1
    cases h1
    exact ⟨p.1, p.2, rfl, hts p (List.mem_of_getElem? hp), rfl⟩
theorem small_ok {n k : Nat} (hn : n ≤ 60000) (hk : 1 ≤ k) (hk2 : k ≤ 60000) : Builtin.Range.small 0 (n : Int) (k : Int) = true ∧ Builtin.Range.rangeSize 0 (n : Int) (k : Int) = ((nch n k : Nat) : Int) := by
  have e : Builtin.Range.rangeSize 0 (n : Int) (k : Int) = ((nch n k : Nat) : Int) := by
    unfold Builtin.Range.rangeSize nch
    rw [if_pos (by omega)]
    by_cases h : n = 0
    · subst h; simp
    · rw [if_pos (by omega), if_neg h]
      have e1 : (n : Int) - 0 - 1 = ((n - 1 : Nat) : Int) := by omega
      rw [e1]
      push_cast
      rfl
  have hle : nch n k ≤ n := by
    unfold nch
    by_cases h : n = 0
    · rw [if_pos h]; omega
    · rw [if_neg h]
      have := Nat.div_le_self (n - 1) k
      omega
  refine ⟨?_, e⟩
  unfold Builtin.Range.small
  rw [e]
  have fit : ∀ i : Int, -1000000 ≤ i → i ≤ 1000000 → Builtin.Range.rangeFitsLong i = true := fun i h1 h2 => by
    unfold Builtin.Range.rangeFitsLong
    simp only [Bool.and_eq_true, decide_eq_true_eq]
    omega
  rw [if_pos (by omega), fit 0 (by omega) (by omega), fit n (by omega) (by omega), fit k (by omega) (by omega), fit (nch n k : Nat) (by omega) (by omega), fit ((n : Int) + (k - 1)) (by omega) (by omega)]
  simp
theorem heads_done {ps : List (List UInt8 × Tok)} {ys : List Value} (h : HeadsOk (ps.map (·.1)) (sv ps).toArray.size ys) : ∃ qs, ys = bv qs ∧ qs.map (·.1) = (headsI (ps.map (·.1))).map framed := by
  obtain ⟨qs, e1, e2⟩ := h
  refine ⟨qs, e1, ?_⟩
  rw [e2, List.take_of_length_le]
  rw [List.size_toArray, List.length_map]
  simp [sv]
theorem sb_start {l : List UInt8} {k c : Nat} {ts : List (List UInt8)} {qs : List (List UInt8 × Tok)} (h : qs.map (·.1) = (headsI ts).map framed) : SbOk l k ts 0 ⟨qs, bv qs, c⟩ := ⟨rfl, by rw [h]; simp [chunksI]⟩
theorem chunk_cut {l : List UInt8} {k i : Nat} : List.take (((0 : Int) + (i : Int) * (k : Int) + (k : Int)).toNat - ((0 : Int) + (i : Int) * (k : Int)).toNat) (List.drop ((0 : Int) + (i : Int) * (k : Int)).toNat l) = chunk l k i := by
  have e1 : ((0 : Int) + (i : Int) * (k : Int)).toNat = i * k := by rw [Int.zero_add, ← Int.natCast_mul, Int.toNat_natCast]
  have e2 : ((0 : Int) + (i : Int) * (k : Int) + (k : Int)).toNat = i * k + k := by rw [Int.zero_add, ← Int.natCast_mul, ← Int.natCast_add, Int.toNat_natCast]
  rw [e1, e2, Nat.add_sub_cancel_left]
  rfl
theorem chunk_len {l : List UInt8} {k i : Nat} : (chunk l k i).length ≤ l.length := by
  unfold chunk
  rw [List.length_take, List.length_drop]
  omega
theorem cut_chunk {prog : Program} {w : World} {A : Around} {E : Value → Shared → Prop} {s : Shared} {value slice : PySem.Expr} {l : List UInt8} {t ta tc : Tok} {h₀ : Heap} {L : Addr} {m : Str → Option Value} {news : List (Addr × Obj)} {Q : Value → Shared → Prop} {i k : Nat} (hF : Fr h₀ L s.heap m) (hN : News h₀ L s.heap news) (hz : l.length ≤ 1000000)
    (h : ∀ h' t' k', Fr h₀ L h' m → News h₀ L h' news → (chunk l k i).length ≤ l.length → Q (.bytes (chunk l k i).toArray t') { s with heap := h', toks := k' })
    (hs : subscripted slice false (.bytes l.toArray t) (.ref s.heap.objs.size) = operate [.ref s.heap.objs.size, .bytes l.toArray t] (getItem (.bytes l.toArray t) (.ref s.heap.objs.size)) := by with_unfolding_all rfl)
    (ht : ∀ r, letTemporaryGo value (.bytes l.toArray t) r = pure () := by intro _; with_unfolding_all rfl) :
    wpAny (model prog w) A (subscriptTail value slice (.bytes l.toArray t) (.ref s.heap.objs.size)) Q E { s with heap := s.heap.push { cls := .type "slice", data := .fields #[.int ((0 : Int) + (i : Int) * (k : Int)) ta, .int ((0 : Int) + (i : Int) * (k : Int) + (k : Int)) tc, .none] } } := by
  have h0 : (0 : Int) ≤ 0 + (i : Int) * (k : Int) := by
    have := Int.mul_nonneg (Int.natCast_nonneg i) (Int.natCast_nonneg k)
    omega
  refine cut_mid hF hN h0 (by omega) (by omega) ?_ hs ht
  rw [chunk_cut]
  exact fun h' t' k' F N => h h' t' k' F N chunk_len
theorem frames_len {is : List Item} (h : ∀ it ∈ is, (framed it).length ≤ 200) : ((is.map framed).flatten).length ≤ 200 * is.length := by
  induction is with
  | nil => simp
  | cons it r ih =>
    rw [List.map_cons, List.flatten_cons, List.length_append, List.length_cons]
    have h1 := h it (.head _)
    have h2 := ih fun x hx => h x (.tail _ hx)
    omega
theorem nch_le (n k : Nat) : nch n k ≤ n := by
  unfold nch
  by_cases h : n = 0
  · rw [if_pos h]; omega
  · rw [if_neg h]
    have := Nat.div_le_self (n - 1) k
    omega
theorem sb_len {l : List UInt8} {k i c : Nat} {ps qs : List (List UInt8 × Tok)} (hl : l.length ≤ 100) (hi : i ≤ 100) (hps : ps.length ≤ 10) (hts : ∀ p ∈ ps, p.1.length ≤ 100) (h : SbOk l k (ps.map (·.1)) i ⟨qs, bv qs, c⟩) : (qs.map (·.1)).flatten.length ≤ 22000 ∧ qs.length ≤ 110 := by
  have e := h.2
  dsimp only at e
  have hlen := congrArg List.length e
  simp only [List.length_map, List.length_append, headsI, chunksI, List.length_range] at hlen
  refine ⟨?_, by omega⟩
  rw [e]
  have := frames_len (is := headsI (ps.map (·.1)) ++ chunksI l k i) (fun it hit => by
    rcases List.mem_append.mp hit with hit | hit
    · obtain ⟨r, hr, rfl⟩ := List.mem_map.mp hit
      obtain ⟨p, hp, rfl⟩ := List.mem_map.mp hr
      rw [framed_len, List.length_cons]
      have := hts p hp
      omega
    · obtain ⟨j, _, rfl⟩ := List.mem_map.mp hit
      rw [framed_len, List.length_cons]
      have := chunk_len (l := l) (k := k) (i := j)
      omega)
  have e2 : (headsI (ps.map (·.1)) ++ chunksI l k i).length ≤ 110 := by
    simp only [List.length_append, headsI, chunksI, List.length_map, List.length_range]
    omega
  exact Nat.le_trans this (by omega)
theorem sb_all {l : List UInt8} {k c : Nat} {ps qs : List (List UInt8 × Tok)} (h : SbOk l k (ps.map (·.1)) (nch l.length k) ⟨qs, bv qs, c⟩) : (qs.map (·.1)).flatten ++ framed (.mark 0) = frames (piecesI l k (ps.map (·.1))) := by
  have e := h.2
  dsimp only at e
  rw [e]
  unfold frames piecesI
  rw [List.map_append, List.flatten_append]
  simp
theorem sb_step {l : List UInt8} {k i c c' : Nat} {ts : List (List UInt8)} {qs : List (List UInt8 × Tok)} {vs : List Value} {t : Tok} (h : SbOk l k ts i ⟨qs, vs, c⟩) : SbOk l k ts (i + 1) ⟨qs ++ [(framed (.data (1 :: chunk l k i)), t)], vs ++ [.bytes (framed (.data (1 :: chunk l k i))).toArray t], c'⟩ := by
  obtain ⟨e1, e2⟩ := h
  dsimp only at e1 e2
  refine ⟨by dsimp only; rw [e1]; simp [bv], ?_⟩
  dsimp only
  rw [List.map_append, e2]
  simp [chunksI, List.range_succ]
set_option maxHeartbeats 8000000 in
theorem sbL (w : World) (mean : ExcName → Option Value) (mg mb : Str → Option Value) (l : List UInt8) (hl : l.length ≤ 100) (k : Nat) (hk1 : 1 ≤ k) (hk2 : k ≤ 100) (ps : List (List UInt8 × Tok)) (hps : ps.length ≤ 10) (hts : ∀ p ∈ ps, p.1.length ≤ 100) (P : Addr) (c : Nat) (t tk : Tok) :
    PureH w mean mg mb 105 16 200 [.bytes l.toArray t, .int (k : Nat) tk, .ref P] (fun h => h.get? P = some (listOf (sv ps).toArray c)) (fun _ v _ => ∃ t, v = .bytes (frames (piecesI l k (ps.map (·.1)))).toArray t) := by
  k_with_none
  k_with "k_ne" => (refine neN ?_; (try dsimp only); first | with_reducible assumption | (with_reducible refine Ne.symm ?_; with_reducible assumption) | (with_reducible refine' ne_lt ?z1q1 ?z1q2; (case z1q1 => with_reducible assumption); (case z1q2 => (with_reducible ((repeat (first | exact List.mem_cons_self | refine List.mem_cons_of_mem _ ?_)); done)))) | (with_reducible refine' ne_gt ?z1q1 ?z1q2; (case z1q1 => with_reducible assumption); (case z1q2 => (with_reducible ((repeat (first | exact List.mem_cons_self | refine List.mem_cons_of_mem _ ?_)); done)))) | (with_reducible refine' ne_of ?z1q1 ?z1q2; (case z1q1 => with_reducible assumption); (case z1q2 => (with_reducible ((repeat (first | exact List.mem_cons_self | refine List.mem_cons_of_mem _ ?_)); done)))) | (with_reducible refine' ne_fo ?z1q1 ?z1q2; (case z1q1 => with_reducible assumption); (case z1q2 => (with_reducible ((repeat (first | exact List.mem_cons_self | refine List.mem_cons_of_mem _ ?_)); done)))) | (with_reducible refine' off_I ?z1q1 ?z1q2; (case z1q1 => with_reducible assumption); (case z1q2 => (with_reducible ((repeat (first | exact List.mem_cons_self | refine List.mem_cons_of_mem _ ?_)); done)))) | (with_reducible refine' off_C ?z1q1 ?z1q2; (case z1q1 => with_reducible assumption); (case z1q2 => (with_reducible ((repeat (first | exact List.mem_cons_self | refine List.mem_cons_of_mem _ ?_)); done)))) | (with_reducible refine' off_D ?z1q1 ?z1q2; (case z1q1 => with_reducible assumption); (case z1q2 => (with_reducible ((repeat (first | exact List.mem_cons_self | refine List.mem_cons_of_mem _ ?_)); done)))) | (with_reducible refine' I_off ?z1q1 ?z1q2; (case z1q1 => with_reducible assumption); (case z1q2 => (with_reducible ((repeat (first | exact List.mem_cons_self | refine List.mem_cons_of_mem _ ?_)); done)))) | (with_reducible refine' C_off ?z1q1 ?z1q2; (case z1q1 => with_reducible assumption); (case z1q2 => (with_reducible ((repeat (first | exact List.mem_cons_self | refine List.mem_cons_of_mem _ ?_)); done)))) | (with_reducible refine' D_off ?z1q1 ?z1q2; (case z1q1 => with_reducible assumption); (case z1q2 => (with_reducible ((repeat (first | exact List.mem_cons_self | refine List.mem_cons_of_mem _ ?_)); done)))) | (first | exact And.left (by with_reducible assumption) | exact And.left (And.right (by with_reducible assumption)) | exact And.right (And.right (by with_reducible assumption)) | exact And.right (by with_reducible assumption) | exact And.left (And.right (And.right (by with_reducible assumption))) | exact And.left (And.right (And.right (And.right (by with_reducible assumption)))) | exact And.right (And.right (And.right (And.right (by with_reducible assumption)))) | exact And.right (And.right (And.right (by with_reducible assumption))) | exact And.left (And.left (by with_reducible assumption)) | exact And.left (And.right (And.left (by with_reducible assumption))) | exact And.right (And.right (And.left (by with_reducible assumption)))) | (with_reducible refine Ne.symm ?_; first | exact And.left (by with_reducible assumption) | exact And.left (And.right (by with_reducible assumption)) | exact And.right (And.right (by with_reducible assumption)) | exact And.right (by with_reducible assumption) | exact And.left (And.right (And.right (by with_reducible assumption))) | exact And.left (And.right (And.right (And.right (by with_reducible assumption)))) | exact And.right (And.right (And.right (And.right (by with_reducible assumption)))) | exact And.right (And.right (And.right (by with_reducible assumption))) | exact And.left (And.left (by with_reducible assumption)) | exact And.left (And.right (And.left (by with_reducible assumption))) | exact And.right (And.right (And.left (by with_reducible assumption)))) | omega)
  k_with "ktr_enter" => (refine' enterPC ?z2k1 ?z2k2 ?z2k3 ?z2k5 ?z2kA ?z2kF ?z2kK ?z2k6 ?z2k7 ?z2k8 ?z2k9 ?z2kB ?z2kD ?_ ?z2c2 ?z2c3 ?z2c4; (case z2kA => exact rfl); (case z2kF => exact rfl); (case z2kK => assumption); (case z2k1 => k_asm); (case z2k2 => k_asm); (case z2k3 => k_asm); (case z2k5 => k_asm); (case z2k6 => k_is); (case z2k7 => k_is); (case z2k8 => ktr_room); (case z2k9 => first | exact BindsTo.of_eq rfl | exact binds_K (by k_in) rfl (by k_is) rfl rfl rfl); (case z2kB => exact rfl); (case z2kD => decide +kernel); (case z2c2 => exact rfl); (case z2c3 => exact rfl); (case z2c4 => exact rfl); k_whole; intro L' h' tk' cells' F' N' Y' B' X' T'; k_cells Y'; (try simp only [List.cons_append, List.nil_append, List.append_nil] at N'); (try dsimp only); (try k_fold))
  k_with "ktr_enter" => (refine' enterP ?z3k1 ?z3k2 ?z3k3 ?z3k5 ?z3kA ?z3kF ?z3kK ?z3k6 ?z3k7 ?z3k8 ?z3k9 ?z3kB ?_ ?z3c2 ?z3c3 ?z3c4 ?z3c5; (case z3kA => exact rfl); (case z3kF => exact rfl); (case z3kK => assumption); (case z3k1 => k_asm); (case z3k2 => k_asm); (case z3k3 => k_asm); (case z3k5 => k_asm); (case z3k6 => k_is); (case z3k7 => k_is); (case z3k8 => ktr_room); (case z3k9 => first | exact BindsTo.of_eq rfl | exact binds_K (by k_in) rfl (by k_is) rfl rfl rfl); (case z3c5 => decide); (case z3kB => exact locs rfl); (case z3c2 => exact rfl); (case z3c3 => exact rfl); (case z3c4 => exact rfl); k_whole; intro L' h' F' N' B' X' T'; (try dsimp only); (try k_fold))
  k_with "exec Raise some none" => (k_here; (with_reducible show wpAny _ _ (exec (Stmt.Raise (some (Expr.Call (Expr.Name ("BadLine" : Str) _) _ _ _)) none _) _) _ _ _); refine raise_own_init (C := 57) rfl ?_)
  k_with "call ref" => (k_here; (with_reducible show wpAny _ _ (call (Value.ref 57) _) _ _ _); k_dflt (refine' call_excK (C := 57) (fI := 29) ?z5k1 ?z5k2 ?z5k3 PySem.F.excBase_Exception chainBL ?z5kC ?z5k4 ?z5k5 ?z5k6 ?_; (case z5k1 => k_asm); (case z5k2 => k_asm); (case z5k3 => k_asm); (case z5kC => k_is); (case z5k4 => k_is); (case z5k5 => k_is); (case z5k6 => size_fits); k_whole; intro x' d' h' F' N' l1 l2; (try k_lt l1); (try k_lt2 l2); (try k_sweep); k_enter))
  k_with "setAttr ref" => (k_here; k_dflt (refine' set_excK (pre := []) (C := 57) ?z6k1 ?z6k2 ?z6k3 ?z6h1 ?z6h2 ?z6k4 ?z6k5 ?z6k6 ?z6k7 ?z6k8 ?z6k9 ?z6k10 ?_; (case z6k1 => k_asm); (case z6k2 => k_asm); (case z6k3 => k_asm); (case z6h1 => exact List.forall_mem_nil _); (case z6h2 => k_all); (case z6k4 => k_is); (case z6k5 => exact rfl); (case z6k6 => exact rfl); (case z6k7 => decide); (case z6k8 => exact passBL); (case z6k9 => k_is); (case z6k10 => k_is); k_whole; intro x' h' F' N' l1; (try simp only [List.nil_append] at N')))
  k_with "ThrowX" => (k_here; k_dflt (refine' throwX_of ?z7k1 ?z7k2 ?z7k3 ?z7k4 ?z7k5 ?z7k6 ?_; (case z7k1 => k_asm); (case z7k2 => k_asm); (case z7k3 => k_asm); (case z7k4 => k_mem); (case z7k5 => k_is); (case z7k6 => k_is); k_whole))
  k_with "leaving ref" => (k_here; k_dflt (refine' leave_first ?z8k1 ?z8k2 ?z8k3 ?z8k4 ?z8k5 ?z8k6 ?z8k7 ?z8k8 ?_; (case z8k1 => k_asm); (case z8k2 => k_asm); (case z8k3 => k_asm); (case z8k4 => k_mem); (case z8k5 => k_mem); (case z8k6 => (intro _ q9; cases q9)); (case z8k7 => exact notModule); (case z8k8 => exact rfl); k_whole; intro h' R'))
  k_with "kba_size" => first | omega | ((simp only [List.length_append, List.length_take, List.length_drop, List.length_cons, List.length_nil]); omega)
  k_with "call builtin:len" => (k_here; (with_reducible show wpAny _ _ (call (Value.builtin "len") [Value.bytes (List.toArray _) _]) _ _ _); (refine bytes_len (by kba_size) ?_); (try simp only [List.length_append, List.length_take, List.length_drop]))
  k_with "binaryOp Add bytes bytes" => (k_here; (with_reducible show wpAny _ _ (binaryOp Operator.Add (Value.bytes (List.toArray _) _) (Value.bytes (List.toArray _) _)) _ _ _); (refine bytes_add (by kba_size) ?_); intro _ _)
  k_with "compareOp Eq bytes bytes" => (k_here; (with_reducible show wpAny _ _ (compareOp CmpOp.Eq (Value.bytes (List.toArray _) _) (Value.bytes (List.toArray _) _)) _ _ _); (refine bytes_eq ?_))
  k_with "compareOp NotEq bytes bytes" => (k_here; (with_reducible show wpAny _ _ (compareOp CmpOp.NotEq (Value.bytes (List.toArray _) _) (Value.bytes (List.toArray _) _)) _ _ _); (refine bytes_ne ?_))
  k_with "subscriptTail" => (k_here; (with_reducible show wpAny _ _ (subscriptTail _ (Expr.Slice _ _ none _) (Value.bytes (List.toArray _) _) (Value.ref _)) _ _ _); (with_reducible rename Fr _ _ _ _ => F'); (with_reducible rename News _ _ _ _ => N'); (first | refine cut_mid (s := ⟨_, _, _, _, _⟩) F' N' (by kba_size) (by kba_size) (by kba_size) ?_ | refine cut_from (s := ⟨_, _, _, _, _⟩) F' N' (by kba_size) (by kba_size) ?_ | refine cut_to (s := ⟨_, _, _, _, _⟩) F' N' (by kba_size) (by kba_size) ?_ | refine cut_back (s := ⟨_, _, _, _, _⟩) F' N' (by kba_size) (by kba_size) ?_); intro h' _ _ F' N')
  k_with "exec For Name Subscript cons nil" => (k_here; (rename Fr _ _ _ _ => lF'); (with_unfolding_all refine' For_invVF lF' ?z15k1 ?z15k2 ?_; (case z15k1 => exact rfl); (case z15k2 => exact rfl); k_whole))
  k_with "leaving ref" => (k_here; k_dflt (refine' leave_next ?z16k1 ?z16k2 ?z16k3 ?z16k7 ?z16k8 ?_; (case z16k3 => assumption); (case z16k1 => assumption); (case z16k2 => assumption); (case z16k7 => exact notModule); (case z16k8 => exact rfl); k_whole; intro h' R'))
  k_with "call builtin:list.append" => (k_here; (with_reducible show wpAny _ _ (call (Value.builtin _) [Value.ref _, _]) _ _ _); k_dflt (refine' append_L ?z17k1 ?z17k2 ?z17k3 ?z17z ?_; (case z17k1 => k_asm); (case z17k2 => k_asm); (case z17k3 => k_upd); (case z17z => kba_size); k_whole); intro h' F' N'; (try k_sweep))
  k_with "compareOp Eq bytes int" => (with_reducible refine eq_bytes_int ?_)
  k_with "compareOp Eq int bytes" => (with_reducible refine eq_int_bytes ?_)
  k_with "call type:bytes" => (k_here; (with_reducible show wpAny _ _ (call (Value.type _) [Value.ref _]) _ _ _); k_dflt (refine' bytes_mk ?z20F ?z20N ?z20m ?z20i ?z20z ?z20h ?_; (case z20F => k_asm); (case z20N => k_asm); (case z20m => k_mem); (case z20i => (first | assumption | exact .nil | exact .cons .nil | exact .cons (.cons .nil) | exact .cons (.cons (.cons .nil)) | exact .cons (.cons (.cons (.cons .nil))))); (case z20z => first | omega | (simp only [List.length_cons, List.length_nil]; omega)); (case z20h => with_unfolding_all rfl); k_whole); intro h' t' k' F' N'; (try k_sweep))
  k_with "call ref" => (k_here; (with_reducible show wpAny _ _ (call (Value.ref 69) [Value.str _ _]) _ _ _); k_dflt (refine' pure_use (oct _ _ _ _ _ ?z21kl _) ?z21k1 ?z21k2 ?z21k3 ?z21k4 ?z21k5 ?z21k6 ?z21k7 ?z21k8 ?_ (fun _ _ _ _ _ _ _ h9 => False.elim h9); (case z21kl => kba_size); (case z21k1 => k_asm); (case z21k2 => k_asm); (case z21k3 => k_asm); (case z21k4 => k_asm); (case z21k5 => k_asm); (case z21k6 => first | exact rfl | assumption); (case z21k7 => ktr_room); (case z21k8 => ktr_units); intro v9 h' tk' F' N' kF9 kN9 kk9 hR9; clear kF9 kN9 kk9; obtain ⟨tt9, e9⟩ := hR9; subst e9; (try dsimp only)))
  k_with "call ref" => (k_here; (with_reducible show wpAny _ _ (call (Value.ref 76) [Value.bytes _ _]) _ _ _); k_dflt (refine' pure_use (pkD _ _ _ _ _ ?z22kl _) ?z22k1 ?z22k2 ?z22k3 ?z22k4 ?z22k5 ?z22k6 ?z22k7 ?z22k8 ?_ (fun _ _ _ _ _ _ _ h9 => False.elim h9); (case z22kl => kba_size); (case z22k1 => k_asm); (case z22k2 => k_asm); (case z22k3 => k_asm); (case z22k4 => k_asm); (case z22k5 => k_asm); (case z22k6 => first | exact rfl | assumption); (case z22k7 => ktr_room); (case z22k8 => ktr_units); intro v9 h' tk' F' N' kF9 kN9 kk9 hR9; clear kF9 kN9 kk9; obtain ⟨tt9, e9⟩ := hR9; have hfm9 := data_len9 e9; subst e9; (try dsimp only)))
  k_with "call ref" => (k_here; (with_reducible show wpAny _ _ (call (Value.ref 76) [Value.int _ _]) _ _ _); k_dflt (refine' pure_use (pkI _ _ _ _ _ ?z23ka ?z23kb _) ?z23k1 ?z23k2 ?z23k3 ?z23k4 ?z23k5 ?z23k6 ?z23k7 ?z23k8 ?_ (fun _ _ _ _ _ _ _ h9 => False.elim h9); (case z23ka => omega); (case z23kb => omega); (case z23k1 => k_asm); (case z23k2 => k_asm); (case z23k3 => k_asm); (case z23k4 => k_asm); (case z23k5 => k_asm); (case z23k6 => first | exact rfl | assumption); (case z23k7 => ktr_room); (case z23k8 => ktr_units); intro v9 h' tk' F' N' kF9 kN9 kk9 hR9; clear kF9 kN9 kk9; obtain ⟨tt9, e9⟩ := hR9; have hfm9 := mark_len9 e9; subst e9; (try dsimp only)))
  k_with "exec Assign cons ListComp" => (k_here; k_dflt (refine Assign_ListComp_K (F₀ := by k_asm) (by rfl) (by with_unfolding_all rfl) (by with_unfolding_all rfl) (by decide) (by rfl) (by decide) (by rfl) (by rfl) (by rfl) ?_))
  k_with "exec For Name Call cons nil" => (k_here; (rename Fr _ _ _ _ => lF'); (with_unfolding_all refine' For_invVF lF' ?z25k1 ?z25k2 ?_; (case z25k1 => exact rfl); (case z25k2 => exact rfl); k_whole))
  k_with "getMethod bytes" => (k_here; (with_reducible refine method_join ?_))
  k_with "call builtin:bytes.join" => (k_here; k_dflt (refine' call_join ?z27N ?z27D ?z27z ?z27l ?_; (case z27N => k_asm); (case z27D => k_mem); (case z27z => omega); (case z27l => omega)); intro t9 k9)
  k_with "subscriptTail" => (k_here; (with_reducible show wpAny _ _ (subscriptTail _ (Expr.Slice _ _ none _) (Value.bytes (List.toArray _) _) (Value.ref _)) _ _ _); (with_reducible rename Fr _ _ _ _ => F'); (with_reducible rename News _ _ _ _ => N'); (refine cut_chunk (s := ⟨_, _, _, _, _⟩) F' N' (by omega) ?_); intro h' _ _ F' N' hz9)
  intro dp un gd cn cs a ccd cl outer A₀ base h₀ L m s Q E B F X T hk hdp hun hP hret
  have hlP : s.heap.IsList P (sv ps).toArray := ⟨_, hP, rfl, c, rfl⟩
  revert X; k_fill; intro X
  refine wpAny_call ?_
  k_dflt (first | ktr_enter | fail "no entry")
  clear B F X T
  k_with "CompK" => (k_dflt (refine' CompK.of (src_listG (by rfl) ?F0 hlP) ?z ?F ?N trivial (fun i ys nw => nw = [] ∧ HeadsOk (ps.map (·.1)) i ys) ?j0 ?step ?fin; (case F0 => k_asm); (case z => (rw [List.size_toArray]; simp only [sv, List.length_map]; omega)); (case F => k_asm); (case N => k_asm); (case j0 => exact ⟨rfl, heads_nil⟩)); (case' fin => (rintro g ys nw hl9 ⟨rfl, hJ⟩; obtain ⟨qs9, e9, hq9⟩ := heads_done hJ; subst e9; clear hJ)); (case' step => (rintro i ys nw hi hl9 ⟨rfl, hJ⟩ v I oI C oC D m₂ h' tk' E' hsg hC hx F' N' off ne; obtain ⟨r9, u9, hr9, hz9, rfl⟩ := sv_at hts hsg; clear hsg)))
  k_with "pyIter ref" => ((rename Fr _ _ _ _ => F0); (rename News _ _ _ _ => N0); k_dflt (refine' kst_K (σ := SbSt) (src_range (n := nch l.length k) (by rfl) (by assumption) (small_ok (by omega) hk1 (by omega)).1 (small_ok (by omega) hk1 (by omega)).2) (fun c => [(_, listOf c.vs.toArray c.c)]) (fun _ => []) [] (SbOk l k (ps.map (·.1))) ⟨_, _, _⟩ F0 N0 (fun _ => trivial) (List.forall_mem_nil _) (sb_start (by assumption)) ?turn ?done); (case' turn => (intro c9 i9 v9 u9 h' tk' own9 hi9 hP9 hoff9 hW9 F' N'; obtain ⟨qs8, vs8, c8⟩ := c9; simp only [List.cons_append, List.nil_append] at N'; obtain ⟨t9, rfl⟩ := hP9; have ev9 := hW9.1; dsimp only at ev9; subst ev9; have hz9 := (sb_len hl (by have := nch_le l.length k; omega) hps hts hW9).2; have hb9 : (bv qs8).length = qs8.length := List.length_map ..)); (case' done => (intro c9 u9 h' tk' hW9 F' N'; obtain ⟨qs8, vs8, c8⟩ := c9; have ev9 := hW9.1; dsimp only at ev9 N'; subst ev9; obtain ⟨hz8, hz9⟩ := sb_len hl (by have := nch_le l.length k; omega) hps hts hW9)))
  k_with "execs cons" => (k_fold; with_reducible refine wpAny_execs_cons ?_)
  w_top off
  k_steps
  · exact heads_snoc (by assumption) (by assumption)
  · exact hret _ _ _ (Fr.keep (by assumption)) (bytes_same (sb_all (by assumption)))
  · refine kstK_end ⟨_, _, _⟩ (by assumption) (by assumption) (by with_unfolding_all k_allIn) (by intro p hp; k_ownIn) (by rfl) trivial (List.forall_mem_nil _) ?_ (sb_step (by assumption))
    intro z h1 h2 h3
    simp only [h1, kstB, if_false, List.contains_nil, Bool.false_eq_true]
end

-- part K12
section
open PySem PySem.Calls PySem.W PyProof.Rows Builtin Builtin.ObjectAttr
set_option maxRecDepth 100000
theorem tuple_of {K : Frag} {h : Heap} {a : Addr} (X : K.In h) (e : K.lookup a = some (tupObj [])) : h.IsTuple a (sv []).toArray := ⟨_, X _ _ e, rfl, _, rfl⟩
set_option maxHeartbeats 8000000 in
theorem sbE (w : World) (mean : ExcName → Option Value) (mg mb : Str → Option Value) (l : List UInt8) (hl : l.length ≤ 100) (k : Nat) (hk1 : 1 ≤ k) (hk2 : k ≤ 100) (P : Addr) (t tk : Tok) :
    PureH w mean mg mb 105 16 200 [.bytes l.toArray t, .int (k : Nat) tk, .ref P] (fun h => h.get? P = some (tupObj [])) (fun _ v _ => ∃ t, v = .bytes (frames (piecesI l k ((([] : List (List UInt8 × Tok))).map (·.1)))).toArray t) := by
  k_with_none
  k_with "k_ne" => (refine neN ?_; (try dsimp only); first | with_reducible assumption | (with_reducible refine Ne.symm ?_; with_reducible assumption) | (with_reducible refine' ne_lt ?z1q1 ?z1q2; (case z1q1 => with_reducible assumption); (case z1q2 => (with_reducible ((repeat (first | exact List.mem_cons_self | refine List.mem_cons_of_mem _ ?_)); done)))) | (with_reducible refine' ne_gt ?z1q1 ?z1q2; (case z1q1 => with_reducible assumption); (case z1q2 => (with_reducible ((repeat (first | exact List.mem_cons_self | refine List.mem_cons_of_mem _ ?_)); done)))) | (with_reducible refine' ne_of ?z1q1 ?z1q2; (case z1q1 => with_reducible assumption); (case z1q2 => (with_reducible ((repeat (first | exact List.mem_cons_self | refine List.mem_cons_of_mem _ ?_)); done)))) | (with_reducible refine' ne_fo ?z1q1 ?z1q2; (case z1q1 => with_reducible assumption); (case z1q2 => (with_reducible ((repeat (first | exact List.mem_cons_self | refine List.mem_cons_of_mem _ ?_)); done)))) | (with_reducible refine' off_I ?z1q1 ?z1q2; (case z1q1 => with_reducible assumption); (case z1q2 => (with_reducible ((repeat (first | exact List.mem_cons_self | refine List.mem_cons_of_mem _ ?_)); done)))) | (with_reducible refine' off_C ?z1q1 ?z1q2; (case z1q1 => with_reducible assumption); (case z1q2 => (with_reducible ((repeat (first | exact List.mem_cons_self | refine List.mem_cons_of_mem _ ?_)); done)))) | (with_reducible refine' off_D ?z1q1 ?z1q2; (case z1q1 => with_reducible assumption); (case z1q2 => (with_reducible ((repeat (first | exact List.mem_cons_self | refine List.mem_cons_of_mem _ ?_)); done)))) | (with_reducible refine' I_off ?z1q1 ?z1q2; (case z1q1 => with_reducible assumption); (case z1q2 => (with_reducible ((repeat (first | exact List.mem_cons_self | refine List.mem_cons_of_mem _ ?_)); done)))) | (with_reducible refine' C_off ?z1q1 ?z1q2; (case z1q1 => with_reducible assumption); (case z1q2 => (with_reducible ((repeat (first | exact List.mem_cons_self | refine List.mem_cons_of_mem _ ?_)); done)))) | (with_reducible refine' D_off ?z1q1 ?z1q2; (case z1q1 => with_reducible assumption); (case z1q2 => (with_reducible ((repeat (first | exact List.mem_cons_self | refine List.mem_cons_of_mem _ ?_)); done)))) | (first | exact And.left (by with_reducible assumption) | exact And.left (And.right (by with_reducible assumption)) | exact And.right (And.right (by with_reducible assumption)) | exact And.right (by with_reducible assumption) | exact And.left (And.right (And.right (by with_reducible assumption))) | exact And.left (And.right (And.right (And.right (by with_reducible assumption)))) | exact And.right (And.right (And.right (And.right (by with_reducible assumption)))) | exact And.right (And.right (And.right (by with_reducible assumption))) | exact And.left (And.left (by with_reducible assumption)) | exact And.left (And.right (And.left (by with_reducible assumption))) | exact And.right (And.right (And.left (by with_reducible assumption)))) | (with_reducible refine Ne.symm ?_; first | exact And.left (by with_reducible assumption) | exact And.left (And.right (by with_reducible assumption)) | exact And.right (And.right (by with_reducible assumption)) | exact And.right (by with_reducible assumption) | exact And.left (And.right (And.right (by with_reducible assumption))) | exact And.left (And.right (And.right (And.right (by with_reducible assumption)))) | exact And.right (And.right (And.right (And.right (by with_reducible assumption)))) | exact And.right (And.right (And.right (by with_reducible assumption))) | exact And.left (And.left (by with_reducible assumption)) | exact And.left (And.right (And.left (by with_reducible assumption))) | exact And.right (And.right (And.left (by with_reducible assumption)))) | omega)
  k_with "ktr_enter" => (refine' enterPC ?z2k1 ?z2k2 ?z2k3 ?z2k5 ?z2kA ?z2kF ?z2kK ?z2k6 ?z2k7 ?z2k8 ?z2k9 ?z2kB ?z2kD ?_ ?z2c2 ?z2c3 ?z2c4; (case z2kA => exact rfl); (case z2kF => exact rfl); (case z2kK => assumption); (case z2k1 => k_asm); (case z2k2 => k_asm); (case z2k3 => k_asm); (case z2k5 => k_asm); (case z2k6 => k_is); (case z2k7 => k_is); (case z2k8 => ktr_room); (case z2k9 => first | exact BindsTo.of_eq rfl | exact binds_K (by k_in) rfl (by k_is) rfl rfl rfl); (case z2kB => exact rfl); (case z2kD => decide +kernel); (case z2c2 => exact rfl); (case z2c3 => exact rfl); (case z2c4 => exact rfl); k_whole; intro L' h' tk' cells' F' N' Y' B' X' T'; k_cells Y'; (try simp only [List.cons_append, List.nil_append, List.append_nil] at N'); (try dsimp only); (try k_fold))
  k_with "ktr_enter" => (refine' enterP ?z3k1 ?z3k2 ?z3k3 ?z3k5 ?z3kA ?z3kF ?z3kK ?z3k6 ?z3k7 ?z3k8 ?z3k9 ?z3kB ?_ ?z3c2 ?z3c3 ?z3c4 ?z3c5; (case z3kA => exact rfl); (case z3kF => exact rfl); (case z3kK => assumption); (case z3k1 => k_asm); (case z3k2 => k_asm); (case z3k3 => k_asm); (case z3k5 => k_asm); (case z3k6 => k_is); (case z3k7 => k_is); (case z3k8 => ktr_room); (case z3k9 => first | exact BindsTo.of_eq rfl | exact binds_K (by k_in) rfl (by k_is) rfl rfl rfl); (case z3c5 => decide); (case z3kB => exact locs rfl); (case z3c2 => exact rfl); (case z3c3 => exact rfl); (case z3c4 => exact rfl); k_whole; intro L' h' F' N' B' X' T'; (try dsimp only); (try k_fold))
  k_with "exec Raise some none" => (k_here; (with_reducible show wpAny _ _ (exec (Stmt.Raise (some (Expr.Call (Expr.Name ("BadLine" : Str) _) _ _ _)) none _) _) _ _ _); refine raise_own_init (C := 57) rfl ?_)
  k_with "call ref" => (k_here; (with_reducible show wpAny _ _ (call (Value.ref 57) _) _ _ _); k_dflt (refine' call_excK (C := 57) (fI := 29) ?z5k1 ?z5k2 ?z5k3 PySem.F.excBase_Exception chainBL ?z5kC ?z5k4 ?z5k5 ?z5k6 ?_; (case z5k1 => k_asm); (case z5k2 => k_asm); (case z5k3 => k_asm); (case z5kC => k_is); (case z5k4 => k_is); (case z5k5 => k_is); (case z5k6 => size_fits); k_whole; intro x' d' h' F' N' l1 l2; (try k_lt l1); (try k_lt2 l2); (try k_sweep); k_enter))
  k_with "setAttr ref" => (k_here; k_dflt (refine' set_excK (pre := []) (C := 57) ?z6k1 ?z6k2 ?z6k3 ?z6h1 ?z6h2 ?z6k4 ?z6k5 ?z6k6 ?z6k7 ?z6k8 ?z6k9 ?z6k10 ?_; (case z6k1 => k_asm); (case z6k2 => k_asm); (case z6k3 => k_asm); (case z6h1 => exact List.forall_mem_nil _); (case z6h2 => k_all); (case z6k4 => k_is); (case z6k5 => exact rfl); (case z6k6 => exact rfl); (case z6k7 => decide); (case z6k8 => exact passBL); (case z6k9 => k_is); (case z6k10 => k_is); k_whole; intro x' h' F' N' l1; (try simp only [List.nil_append] at N')))
  k_with "ThrowX" => (k_here; k_dflt (refine' throwX_of ?z7k1 ?z7k2 ?z7k3 ?z7k4 ?z7k5 ?z7k6 ?_; (case z7k1 => k_asm); (case z7k2 => k_asm); (case z7k3 => k_asm); (case z7k4 => k_mem); (case z7k5 => k_is); (case z7k6 => k_is); k_whole))
  k_with "leaving ref" => (k_here; k_dflt (refine' leave_first ?z8k1 ?z8k2 ?z8k3 ?z8k4 ?z8k5 ?z8k6 ?z8k7 ?z8k8 ?_; (case z8k1 => k_asm); (case z8k2 => k_asm); (case z8k3 => k_asm); (case z8k4 => k_mem); (case z8k5 => k_mem); (case z8k6 => (intro _ q9; cases q9)); (case z8k7 => exact notModule); (case z8k8 => exact rfl); k_whole; intro h' R'))
  k_with "kba_size" => first | omega | ((simp only [List.length_append, List.length_take, List.length_drop, List.length_cons, List.length_nil]); omega)
  k_with "call builtin:len" => (k_here; (with_reducible show wpAny _ _ (call (Value.builtin "len") [Value.bytes (List.toArray _) _]) _ _ _); (refine bytes_len (by kba_size) ?_); (try simp only [List.length_append, List.length_take, List.length_drop]))
  k_with "binaryOp Add bytes bytes" => (k_here; (with_reducible show wpAny _ _ (binaryOp Operator.Add (Value.bytes (List.toArray _) _) (Value.bytes (List.toArray _) _)) _ _ _); (refine bytes_add (by kba_size) ?_); intro _ _)
  k_with "compareOp Eq bytes bytes" => (k_here; (with_reducible show wpAny _ _ (compareOp CmpOp.Eq (Value.bytes (List.toArray _) _) (Value.bytes (List.toArray _) _)) _ _ _); (refine bytes_eq ?_))
  k_with "compareOp NotEq bytes bytes" => (k_here; (with_reducible show wpAny _ _ (compareOp CmpOp.NotEq (Value.bytes (List.toArray _) _) (Value.bytes (List.toArray _) _)) _ _ _); (refine bytes_ne ?_))
  k_with "subscriptTail" => (k_here; (with_reducible show wpAny _ _ (subscriptTail _ (Expr.Slice _ _ none _) (Value.bytes (List.toArray _) _) (Value.ref _)) _ _ _); (with_reducible rename Fr _ _ _ _ => F'); (with_reducible rename News _ _ _ _ => N'); (first | refine cut_mid (s := ⟨_, _, _, _, _⟩) F' N' (by kba_size) (by kba_size) (by kba_size) ?_ | refine cut_from (s := ⟨_, _, _, _, _⟩) F' N' (by kba_size) (by kba_size) ?_ | refine cut_to (s := ⟨_, _, _, _, _⟩) F' N' (by kba_size) (by kba_size) ?_ | refine cut_back (s := ⟨_, _, _, _, _⟩) F' N' (by kba_size) (by kba_size) ?_); intro h' _ _ F' N')
  k_with "exec For Name Subscript cons nil" => (k_here; (rename Fr _ _ _ _ => lF'); (with_unfolding_all refine' For_invVF lF' ?z15k1 ?z15k2 ?_; (case z15k1 => exact rfl); (case z15k2 => exact rfl); k_whole))
  k_with "leaving ref" => (k_here; k_dflt (refine' leave_next ?z16k1 ?z16k2 ?z16k3 ?z16k7 ?z16k8 ?_; (case z16k3 => assumption); (case z16k1 => assumption); (case z16k2 => assumption); (case z16k7 => exact notModule); (case z16k8 => exact rfl); k_whole; intro h' R'))
  k_with "call builtin:list.append" => (k_here; (with_reducible show wpAny _ _ (call (Value.builtin _) [Value.ref _, _]) _ _ _); k_dflt (refine' append_L ?z17k1 ?z17k2 ?z17k3 ?z17z ?_; (case z17k1 => k_asm); (case z17k2 => k_asm); (case z17k3 => k_upd); (case z17z => kba_size); k_whole); intro h' F' N'; (try k_sweep))
  k_with "compareOp Eq bytes int" => (with_reducible refine eq_bytes_int ?_)
  k_with "compareOp Eq int bytes" => (with_reducible refine eq_int_bytes ?_)
  k_with "call type:bytes" => (k_here; (with_reducible show wpAny _ _ (call (Value.type _) [Value.ref _]) _ _ _); k_dflt (refine' bytes_mk ?z20F ?z20N ?z20m ?z20i ?z20z ?z20h ?_; (case z20F => k_asm); (case z20N => k_asm); (case z20m => k_mem); (case z20i => (first | assumption | exact .nil | exact .cons .nil | exact .cons (.cons .nil) | exact .cons (.cons (.cons .nil)) | exact .cons (.cons (.cons (.cons .nil))))); (case z20z => first | omega | (simp only [List.length_cons, List.length_nil]; omega)); (case z20h => with_unfolding_all rfl); k_whole); intro h' t' k' F' N'; (try k_sweep))
  k_with "call ref" => (k_here; (with_reducible show wpAny _ _ (call (Value.ref 69) [Value.str _ _]) _ _ _); k_dflt (refine' pure_use (oct _ _ _ _ _ ?z21kl _) ?z21k1 ?z21k2 ?z21k3 ?z21k4 ?z21k5 ?z21k6 ?z21k7 ?z21k8 ?_ (fun _ _ _ _ _ _ _ h9 => False.elim h9); (case z21kl => kba_size); (case z21k1 => k_asm); (case z21k2 => k_asm); (case z21k3 => k_asm); (case z21k4 => k_asm); (case z21k5 => k_asm); (case z21k6 => first | exact rfl | assumption); (case z21k7 => ktr_room); (case z21k8 => ktr_units); intro v9 h' tk' F' N' kF9 kN9 kk9 hR9; clear kF9 kN9 kk9; obtain ⟨tt9, e9⟩ := hR9; subst e9; (try dsimp only)))
  k_with "call ref" => (k_here; (with_reducible show wpAny _ _ (call (Value.ref 76) [Value.bytes _ _]) _ _ _); k_dflt (refine' pure_use (pkD _ _ _ _ _ ?z22kl _) ?z22k1 ?z22k2 ?z22k3 ?z22k4 ?z22k5 ?z22k6 ?z22k7 ?z22k8 ?_ (fun _ _ _ _ _ _ _ h9 => False.elim h9); (case z22kl => kba_size); (case z22k1 => k_asm); (case z22k2 => k_asm); (case z22k3 => k_asm); (case z22k4 => k_asm); (case z22k5 => k_asm); (case z22k6 => first | exact rfl | assumption); (case z22k7 => ktr_room); (case z22k8 => ktr_units); intro v9 h' tk' F' N' kF9 kN9 kk9 hR9; clear kF9 kN9 kk9; obtain ⟨tt9, e9⟩ := hR9; have hfm9 := data_len9 e9; subst e9; (try dsimp only)))
  k_with "call ref" => (k_here; (with_reducible show wpAny _ _ (call (Value.ref 76) [Value.int _ _]) _ _ _); k_dflt (refine' pure_use (pkI _ _ _ _ _ ?z23ka ?z23kb _) ?z23k1 ?z23k2 ?z23k3 ?z23k4 ?z23k5 ?z23k6 ?z23k7 ?z23k8 ?_ (fun _ _ _ _ _ _ _ h9 => False.elim h9); (case z23ka => omega); (case z23kb => omega); (case z23k1 => k_asm); (case z23k2 => k_asm); (case z23k3 => k_asm); (case z23k4 => k_asm); (case z23k5 => k_asm); (case z23k6 => first | exact rfl | assumption); (case z23k7 => ktr_room); (case z23k8 => ktr_units); intro v9 h' tk' F' N' kF9 kN9 kk9 hR9; clear kF9 kN9 kk9; obtain ⟨tt9, e9⟩ := hR9; have hfm9 := mark_len9 e9; subst e9; (try dsimp only)))
  k_with "exec Assign cons ListComp" => (k_here; k_dflt (refine Assign_ListComp_K (F₀ := by k_asm) (by rfl) (by with_unfolding_all rfl) (by with_unfolding_all rfl) (by decide) (by rfl) (by decide) (by rfl) (by rfl) (by rfl) ?_))
  k_with "exec For Name Call cons nil" => (k_here; (rename Fr _ _ _ _ => lF'); (with_unfolding_all refine' For_invVF lF' ?z25k1 ?z25k2 ?_; (case z25k1 => exact rfl); (case z25k2 => exact rfl); k_whole))
  k_with "getMethod bytes" => (k_here; (with_reducible refine method_join ?_))
  k_with "call builtin:bytes.join" => (k_here; k_dflt (refine' call_join ?z27N ?z27D ?z27z ?z27l ?_; (case z27N => k_asm); (case z27D => k_mem); (case z27z => omega); (case z27l => omega)); intro t9 k9)
  k_with "subscriptTail" => (k_here; (with_reducible show wpAny _ _ (subscriptTail _ (Expr.Slice _ _ none _) (Value.bytes (List.toArray _) _) (Value.ref _)) _ _ _); (with_reducible rename Fr _ _ _ _ => F'); (with_reducible rename News _ _ _ _ => N'); (refine cut_chunk (s := ⟨_, _, _, _, _⟩) F' N' (by omega) ?_); intro h' _ _ F' N' hz9)
  intro dp un gd cn cs a ccd cl outer A₀ base h₀ L m s Q E B F X T hk hdp hun hP hret
  have hlP : s.heap.IsTuple P (sv []).toArray := ⟨_, hP, rfl, _, rfl⟩
  have hps : ([] : List (List UInt8 × Tok)).length ≤ 10 := by decide
  have hts : ∀ p ∈ ([] : List (List UInt8 × Tok)), p.1.length ≤ 100 := nofun
  revert X; k_fill; intro X
  refine wpAny_call ?_
  k_dflt (first | ktr_enter | fail "no entry")
  clear B F X T
  k_with "CompK" => (k_dflt (refine' CompK.of (src_tupleG (by rfl) ?F0 hlP) ?z ?F ?N trivial (fun i ys nw => nw = [] ∧ HeadsOk ((([] : List (List UInt8 × Tok))).map (·.1)) i ys) ?j0 ?step ?fin; (case F0 => k_asm); (case z => (rw [List.size_toArray]; simp only [sv, List.length_map]; omega)); (case F => k_asm); (case N => k_asm); (case j0 => exact ⟨rfl, heads_nil⟩)); (case step => (intro i ys nw hi; exact absurd hi (Nat.not_lt_zero _))); (case' fin => (rintro g ys nw hl9 ⟨rfl, hJ⟩; obtain ⟨qs9, e9, hq9⟩ := heads_done hJ; subst e9; clear hJ)))
  k_with "pyIter ref" => ((rename Fr _ _ _ _ => F0); (rename News _ _ _ _ => N0); k_dflt (refine' kst_K (σ := SbSt) (src_range (n := nch l.length k) (by rfl) (by assumption) (small_ok (by omega) hk1 (by omega)).1 (small_ok (by omega) hk1 (by omega)).2) (fun c => [(_, listOf c.vs.toArray c.c)]) (fun _ => []) [] (SbOk l k ((([] : List (List UInt8 × Tok))).map (·.1))) ⟨_, _, _⟩ F0 N0 (fun _ => trivial) (List.forall_mem_nil _) (sb_start (by assumption)) ?turn ?done); (case' turn => (intro c9 i9 v9 u9 h' tk' own9 hi9 hP9 hoff9 hW9 F' N'; obtain ⟨qs8, vs8, c8⟩ := c9; simp only [List.cons_append, List.nil_append] at N'; obtain ⟨t9, rfl⟩ := hP9; have ev9 := hW9.1; dsimp only at ev9; subst ev9; have hz9 := (sb_len hl (by have := nch_le l.length k; omega) hps hts hW9).2; have hb9 : (bv qs8).length = qs8.length := List.length_map ..)); (case' done => (intro c9 u9 h' tk' hW9 F' N'; obtain ⟨qs8, vs8, c8⟩ := c9; have ev9 := hW9.1; dsimp only at ev9 N'; subst ev9; obtain ⟨hz8, hz9⟩ := sb_len hl (by have := nch_le l.length k; omega) hps hts hW9)))
  k_with "execs cons" => (k_fold; with_reducible refine wpAny_execs_cons ?_)
  w_top off
  k_steps
  · exact hret _ _ _ (Fr.keep (by assumption)) (bytes_same (sb_all (by assumption)))
  · refine kstK_end ⟨_, _, _⟩ (by assumption) (by assumption) (by with_unfolding_all k_allIn) (by intro p hp; k_ownIn) (by rfl) trivial (List.forall_mem_nil _) ?_ (sb_step (by assumption))
    intro z h1 h2 h3
    simp only [h1, kstB, if_false, List.contains_nil, Bool.false_eq_true]
set_option maxHeartbeats 8000000 in
theorem sbD (w : World) (mean : ExcName → Option Value) (mg mb : Str → Option Value) (l : List UInt8) (hl : l.length ≤ 100) (k : Nat) (hk1 : 1 ≤ k) (hk2 : k ≤ 100) (t tk : Tok) :
    PureH w mean mg mb 105 16 200 [.bytes l.toArray t, .int (k : Nat) tk] (fun _ => True) (fun _ v _ => ∃ t, v = .bytes (frames (piecesI l k ((([] : List (List UInt8 × Tok))).map (·.1)))).toArray t) := by
  intro dp un gd cn cs a ccd cl outer A₀ base h₀ L m s Q E B F X T hk hdp hun hP hret
  have hps : ([] : List (List UInt8 × Tok)).length ≤ 10 := by decide
  have hts : ∀ p ∈ ([] : List (List UInt8 × Tok)), p.1.length ≤ 100 := nofun
  revert X; k_fill; intro X
  refine wpAny_call ?_
  k_dflt (first | ktr_enter | fail "no entry")
  clear B F X T
  k_with "CompK" => (k_dflt (refine' CompK.of (src_tupleG (by rfl) ?F0 ?hT) ?z ?F ?N trivial (fun i ys nw => nw = [] ∧ HeadsOk ((([] : List (List UInt8 × Tok))).map (·.1)) i ys) ?j0 ?step ?fin; (case F0 => k_asm); (case hT => exact tuple_of (by assumption) (by k_is)); (case z => (rw [List.size_toArray]; simp only [sv, List.length_map]; omega)); (case F => k_asm); (case N => k_asm); (case j0 => exact ⟨rfl, heads_nil⟩)); (case step => (intro i ys nw hi; exact absurd hi (Nat.not_lt_zero _))); (case' fin => (rintro g ys nw hl9 ⟨rfl, hJ⟩; obtain ⟨qs9, e9, hq9⟩ := heads_done hJ; subst e9; clear hJ)))
  k_with "pyIter ref" => ((rename Fr _ _ _ _ => F0); (rename News _ _ _ _ => N0); k_dflt (refine' kst_K (σ := SbSt) (src_range (n := nch l.length k) (by rfl) (by assumption) (small_ok (by omega) hk1 (by omega)).1 (small_ok (by omega) hk1 (by omega)).2) (fun c => [(_, listOf c.vs.toArray c.c)]) (fun _ => []) [] (SbOk l k ((([] : List (List UInt8 × Tok))).map (·.1))) ⟨_, _, _⟩ F0 N0 (fun _ => trivial) (List.forall_mem_nil _) (sb_start (by assumption)) ?turn ?done); (case' turn => (intro c9 i9 v9 u9 h' tk' own9 hi9 hP9 hoff9 hW9 F' N'; obtain ⟨qs8, vs8, c8⟩ := c9; simp only [List.cons_append, List.nil_append] at N'; obtain ⟨t9, rfl⟩ := hP9; have ev9 := hW9.1; dsimp only at ev9; subst ev9; have hz9 := (sb_len hl (by have := nch_le l.length k; omega) hps hts hW9).2; have hb9 : (bv qs8).length = qs8.length := List.length_map ..)); (case' done => (intro c9 u9 h' tk' hW9 F' N'; obtain ⟨qs8, vs8, c8⟩ := c9; have ev9 := hW9.1; dsimp only at ev9 N'; subst ev9; obtain ⟨hz8, hz9⟩ := sb_len hl (by have := nch_le l.length k; omega) hps hts hW9)))
  k_with "execs cons" => (k_fold; with_reducible refine wpAny_execs_cons ?_)
  k_steps
  · exact hret _ _ _ (Fr.keep (by assumption)) (bytes_same (sb_all (by assumption)))
  · refine kstK_end ⟨_, _, _⟩ (by assumption) (by assumption) (by with_unfolding_all k_allIn) (by intro p hp; k_ownIn) (by rfl) trivial (List.forall_mem_nil _) ?_ (sb_step (by assumption))
    intro z h1 h2 h3
    simp only [h1, kstB, if_false, List.contains_nil, Bool.false_eq_true]
end
local macro_rules | `(tactic| k_mem) => `(tactic| with_reducible ((repeat (first | exact List.mem_cons_self | refine List.mem_cons_of_mem _ ?_)); done))
section
local macro_rules | `(tactic| lcg_off) => `(tactic| k_extra "lcg_off")

-- part K13
section
open PySem PySem.Calls PySem.W PyProof.Rows Builtin Builtin.ObjectAttr PyProof.Rows.LCg
set_option maxRecDepth 100000
section
variable {prog : Program} {w : World} {A : Around} {s₁ : Shared} {h₀ : Heap} {L : Addr} {m : PySem.Str → Option Value} {env : Env} {news : List (Addr × Obj)}
/-- the ledger stands -/
theorem CompK.const {elt : PySem.Expr} {x : PySem.Str} {scope : Scope} {cl : List (PySem.Str × Addr)} {S : List (Addr × Obj) → Prop} {P : Nat → Value → Prop} {Fin : Shared → List Value → List (Addr × Obj) → Prop} {n : Nat} {xv : Value} (src : Src prog w A h₀ L xv n P S s₁) (hz : n ≤ 1000000) (F : Fr h₀ L s₁.heap m) (N : News h₀ L s₁.heap news) (hS : S news)
    (J : Nat → List Value → Prop) (j0 : J 0 [])
    (step : ∀ i ys, i < n → ys.length = i → J i ys → ∀ v I oI C oC D m₂ h tk (E' : Value → Shared → Prop), P i v → NsObj oC m₂ → m₂ x = some v → Fr h₀ L h m → News h₀ L h ((I, oI) :: (C, oC) :: (D, lst ys) :: news) → Off3 I C D news → ((@Ne Nat I C) ∧ (@Ne Nat I D) ∧ (@Ne Nat C D)) →
      wpAny (model prog w) A (eval elt (compEnvC scope cl C env)) (CompEnd h₀ L m { s₁ with heap := h, toks := tk } I oI C oC D (lst ys) S (fun y news' => news' = news ∧ J (i + 1) (ys ++ [y]))) E' { s₁ with heap := h, toks := tk })
    (fin : ∀ g ys, ys.length = n → J n ys → Fin { s₁ with heap := g } ys news) : CompK prog w A h₀ L m env elt x scope cl Fin xv s₁ :=
  CompK.of src hz F N hS (fun i ys nw => nw = news ∧ J i ys) ⟨rfl, j0⟩ (fun i ys nw hi hl ⟨e, j⟩ => by rw [e]; exact step i ys hi hl j) (fun g ys nw hl ⟨e, j⟩ => by rw [e]; exact fin g ys hl j)
/-- the signs of a text, each by its number -/
theorem CompK.signs {elt : PySem.Expr} {x : PySem.Str} {scope : Scope} {cl : List (PySem.Str × Addr)} {Fin : Shared → List Value → List (Addr × Obj) → Prop} {r : List UInt8} {t : Tok} (hh : A.handled = none) (hz : r.length ≤ 60000) (F : Fr h₀ L s₁.heap m) (N : News h₀ L s₁.heap news)
    (step : ∀ i ys (c : UInt8) u, r[i]? = some c → BytesAre ys (r.take i) → ys.length = i → ∀ I oI C oC D m₂ h tk (E' : Value → Shared → Prop), NsObj oC m₂ → m₂ x = some (.str (chrS c) u) → Fr h₀ L h m → News h₀ L h ((I, oI) :: (C, oC) :: (D, lst ys) :: news) → Off3 I C D news → ((@Ne Nat I C) ∧ (@Ne Nat I D) ∧ (@Ne Nat C D)) →
      wpAny (model prog w) A (eval elt (compEnvC scope cl C env)) (CompEnd h₀ L m { s₁ with heap := h, toks := tk } I oI C oC D (lst ys) (fun _ => True) (fun y news' => news' = news ∧ BytesAre (ys ++ [y]) (r.take (i + 1)))) E' { s₁ with heap := h, toks := tk })
    (fin : ∀ g ys, ys.length = r.length → BytesAre ys r → Fin { s₁ with heap := g } ys news) : CompK prog w A h₀ L m env elt x scope cl Fin (.str (textOf r) t) s₁ :=
  CompK.const (src_str hh) (by rw [textOf_size]; omega) F N trivial (fun i ys => BytesAre ys (r.take i)) .nil
    (fun i ys hi hl j v I oI C oC D m₂ h tk E' hP hC hx F N off ne => by
      obtain ⟨c, u, hc, rfl⟩ := sign_at hP
      exact step i ys c u hc j hl I oI C oC D m₂ h tk E' hC hx F N off ne)
    (fun g ys hl j => fin g ys (by rw [hl, textOf_size]) (by rw [textOf_size, List.take_length] at j; exact j))
end
theorem headsV_snoc {ts : List (List UInt8)} {i : Nat} {ys : List Value} {r : List UInt8} {t : Tok} (h : ItemsV (headsI (ts.take i)) ys) (hr : ts[i]? = some r) : ItemsV (headsI (ts.take (i + 1))) (ys ++ [.bytes (2 :: r).toArray t]) := by
  have e : headsI (ts.take (i + 1)) = headsI (ts.take i) ++ [.data (2 :: r)] := by
    unfold headsI
    rw [List.take_add_one, hr, List.map_append]
    rfl
  rw [e]
  exact h.snoc ⟨t, rfl⟩
theorem chunksV_snoc {l : List UInt8} {k i : Nat} {ys : List Value} {t : Tok} (h : ItemsV (chunksI l k i) ys) : ItemsV (chunksI l k (i + 1)) (ys ++ [.bytes (1 :: chunk l k i).toArray t]) := by
  have e : chunksI l k (i + 1) = chunksI l k i ++ [.data (1 :: chunk l k i)] := by
    unfold chunksI
    rw [List.range_succ, List.map_append]
    rfl
  rw [e]
  exact h.snoc ⟨t, rfl⟩
theorem ItemsV.app : ∀ {is js : List Item} {vs us : List Value}, ItemsV is vs → ItemsV js us → ItemsV (is ++ js) (vs ++ us)
  | [], _, [], _, _, h => h
  | [], _, _ :: _, _, h, _ => h.elim
  | _ :: _, _, [], _, h, _ => h.elim
  | _ :: is, _, _ :: vs, _, h, k => ⟨h.1, ItemsV.app h.2 k⟩
/-- the pieces, a list of its own -/
def LbR (l : List UInt8) (k : Nat) (ts : List (List UInt8)) (H : Heap) (v : Value) (h' : Heap) : Prop :=
  ∃ D vs c, v = .ref D ∧ h'.get? D = some (listOf vs.toArray c) ∧ H.get? D = none ∧ ItemsV (piecesI l k ts) vs
theorem headsV_done {ps : List (List UInt8 × Tok)} {ys : List Value} (h : ItemsV (headsI ((ps.map (·.1)).take (sv ps).toArray.size)) ys) : ItemsV (headsI (ps.map (·.1))) ys := by
  rw [List.take_of_length_le (by rw [List.size_toArray, List.length_map]; simp [sv])] at h
  exact h
theorem lb_ret {l : List UInt8} {k c : Nat} {ts : List (List UInt8)} {H h' : Heap} {L D : Addr} {t : Tok} {ys zs : List Value} {news : List (Addr × Obj)} (N : News H L h' news) (hD : (D, listOf (ys ++ zs ++ [Value.int 0 t]).toArray c) ∈ news) (hy : ItemsV (headsI ts) ys) (hz : ItemsV (chunksI l k (nch l.length k)) zs) : LbR l k ts H (.ref D) h' :=
  ⟨D, _, c, rfl, (N _ hD).1, (N _ hD).2.2, (hy.app hz).app (us := [Value.int 0 t]) (js := [.mark 0]) ⟨⟨t, rfl⟩, trivial⟩⟩
set_option maxHeartbeats 8000000 in
theorem lb (w : World) (mean : ExcName → Option Value) (mg mb : Str → Option Value) (l : List UInt8) (hl : l.length ≤ 100) (k : Nat) (hk1 : 1 ≤ k) (hk2 : k ≤ 100) (ps : List (List UInt8 × Tok)) (hps : ps.length ≤ 10) (hts : ∀ p ∈ ps, p.1.length ≤ 100) (P : Addr) (c : Nat) (t tk : Tok) :
    PureH w mean mg mb 156 16 200 [.bytes l.toArray t, .int (k : Nat) tk, .ref P] (fun h => h.get? P = some (listOf (sv ps).toArray c)) (LbR l k (ps.map (·.1))) := by
  k_with_none
  k_with "k_ne" => (refine neN ?_; (try dsimp only); first | with_reducible assumption | (with_reducible refine Ne.symm ?_; with_reducible assumption) | (with_reducible refine' ne_lt ?z1q1 ?z1q2; (case z1q1 => with_reducible assumption); (case z1q2 => (with_reducible ((repeat (first | exact List.mem_cons_self | refine List.mem_cons_of_mem _ ?_)); done)))) | (with_reducible refine' ne_gt ?z1q1 ?z1q2; (case z1q1 => with_reducible assumption); (case z1q2 => (with_reducible ((repeat (first | exact List.mem_cons_self | refine List.mem_cons_of_mem _ ?_)); done)))) | (with_reducible refine' ne_of ?z1q1 ?z1q2; (case z1q1 => with_reducible assumption); (case z1q2 => (with_reducible ((repeat (first | exact List.mem_cons_self | refine List.mem_cons_of_mem _ ?_)); done)))) | (with_reducible refine' ne_fo ?z1q1 ?z1q2; (case z1q1 => with_reducible assumption); (case z1q2 => (with_reducible ((repeat (first | exact List.mem_cons_self | refine List.mem_cons_of_mem _ ?_)); done)))) | (with_reducible refine' off_I ?z1q1 ?z1q2; (case z1q1 => with_reducible assumption); (case z1q2 => (with_reducible ((repeat (first | exact List.mem_cons_self | refine List.mem_cons_of_mem _ ?_)); done)))) | (with_reducible refine' off_C ?z1q1 ?z1q2; (case z1q1 => with_reducible assumption); (case z1q2 => (with_reducible ((repeat (first | exact List.mem_cons_self | refine List.mem_cons_of_mem _ ?_)); done)))) | (with_reducible refine' off_D ?z1q1 ?z1q2; (case z1q1 => with_reducible assumption); (case z1q2 => (with_reducible ((repeat (first | exact List.mem_cons_self | refine List.mem_cons_of_mem _ ?_)); done)))) | (with_reducible refine' I_off ?z1q1 ?z1q2; (case z1q1 => with_reducible assumption); (case z1q2 => (with_reducible ((repeat (first | exact List.mem_cons_self | refine List.mem_cons_of_mem _ ?_)); done)))) | (with_reducible refine' C_off ?z1q1 ?z1q2; (case z1q1 => with_reducible assumption); (case z1q2 => (with_reducible ((repeat (first | exact List.mem_cons_self | refine List.mem_cons_of_mem _ ?_)); done)))) | (with_reducible refine' D_off ?z1q1 ?z1q2; (case z1q1 => with_reducible assumption); (case z1q2 => (with_reducible ((repeat (first | exact List.mem_cons_self | refine List.mem_cons_of_mem _ ?_)); done)))) | (first | exact And.left (by with_reducible assumption) | exact And.left (And.right (by with_reducible assumption)) | exact And.right (And.right (by with_reducible assumption)) | exact And.right (by with_reducible assumption) | exact And.left (And.right (And.right (by with_reducible assumption))) | exact And.left (And.right (And.right (And.right (by with_reducible assumption)))) | exact And.right (And.right (And.right (And.right (by with_reducible assumption)))) | exact And.right (And.right (And.right (by with_reducible assumption))) | exact And.left (And.left (by with_reducible assumption)) | exact And.left (And.right (And.left (by with_reducible assumption))) | exact And.right (And.right (And.left (by with_reducible assumption)))) | (with_reducible refine Ne.symm ?_; first | exact And.left (by with_reducible assumption) | exact And.left (And.right (by with_reducible assumption)) | exact And.right (And.right (by with_reducible assumption)) | exact And.right (by with_reducible assumption) | exact And.left (And.right (And.right (by with_reducible assumption))) | exact And.left (And.right (And.right (And.right (by with_reducible assumption)))) | exact And.right (And.right (And.right (And.right (by with_reducible assumption)))) | exact And.right (And.right (And.right (by with_reducible assumption))) | exact And.left (And.left (by with_reducible assumption)) | exact And.left (And.right (And.left (by with_reducible assumption))) | exact And.right (And.right (And.left (by with_reducible assumption)))) | omega)
  k_with "ktr_enter" => (refine' enterPC ?z2k1 ?z2k2 ?z2k3 ?z2k5 ?z2kA ?z2kF ?z2kK ?z2k6 ?z2k7 ?z2k8 ?z2k9 ?z2kB ?z2kD ?_ ?z2c2 ?z2c3 ?z2c4; (case z2kA => exact rfl); (case z2kF => exact rfl); (case z2kK => assumption); (case z2k1 => k_asm); (case z2k2 => k_asm); (case z2k3 => k_asm); (case z2k5 => k_asm); (case z2k6 => k_is); (case z2k7 => k_is); (case z2k8 => ktr_room); (case z2k9 => first | exact BindsTo.of_eq rfl | exact binds_K (by k_in) rfl (by k_is) rfl rfl rfl); (case z2kB => exact rfl); (case z2kD => decide +kernel); (case z2c2 => exact rfl); (case z2c3 => exact rfl); (case z2c4 => exact rfl); k_whole; intro L' h' tk' cells' F' N' Y' B' X' T'; k_cells Y'; (try simp only [List.cons_append, List.nil_append, List.append_nil] at N'); (try dsimp only); (try k_fold))
  k_with "ktr_enter" => (refine' enterP ?z3k1 ?z3k2 ?z3k3 ?z3k5 ?z3kA ?z3kF ?z3kK ?z3k6 ?z3k7 ?z3k8 ?z3k9 ?z3kB ?_ ?z3c2 ?z3c3 ?z3c4 ?z3c5; (case z3kA => exact rfl); (case z3kF => exact rfl); (case z3kK => assumption); (case z3k1 => k_asm); (case z3k2 => k_asm); (case z3k3 => k_asm); (case z3k5 => k_asm); (case z3k6 => k_is); (case z3k7 => k_is); (case z3k8 => ktr_room); (case z3k9 => first | exact BindsTo.of_eq rfl | exact binds_K (by k_in) rfl (by k_is) rfl rfl rfl); (case z3c5 => decide); (case z3kB => exact locs rfl); (case z3c2 => exact rfl); (case z3c3 => exact rfl); (case z3c4 => exact rfl); k_whole; intro L' h' F' N' B' X' T'; (try dsimp only); (try k_fold))
  k_with "exec Raise some none" => (k_here; (with_reducible show wpAny _ _ (exec (Stmt.Raise (some (Expr.Call (Expr.Name ("BadLine" : Str) _) _ _ _)) none _) _) _ _ _); refine raise_own_init (C := 57) rfl ?_)
  k_with "call ref" => (k_here; (with_reducible show wpAny _ _ (call (Value.ref 57) _) _ _ _); k_dflt (refine' call_excK (C := 57) (fI := 29) ?z5k1 ?z5k2 ?z5k3 PySem.F.excBase_Exception chainBL ?z5kC ?z5k4 ?z5k5 ?z5k6 ?_; (case z5k1 => k_asm); (case z5k2 => k_asm); (case z5k3 => k_asm); (case z5kC => k_is); (case z5k4 => k_is); (case z5k5 => k_is); (case z5k6 => size_fits); k_whole; intro x' d' h' F' N' l1 l2; (try k_lt l1); (try k_lt2 l2); (try k_sweep); k_enter))
  k_with "setAttr ref" => (k_here; k_dflt (refine' set_excK (pre := []) (C := 57) ?z6k1 ?z6k2 ?z6k3 ?z6h1 ?z6h2 ?z6k4 ?z6k5 ?z6k6 ?z6k7 ?z6k8 ?z6k9 ?z6k10 ?_; (case z6k1 => k_asm); (case z6k2 => k_asm); (case z6k3 => k_asm); (case z6h1 => exact List.forall_mem_nil _); (case z6h2 => k_all); (case z6k4 => k_is); (case z6k5 => exact rfl); (case z6k6 => exact rfl); (case z6k7 => decide); (case z6k8 => exact passBL); (case z6k9 => k_is); (case z6k10 => k_is); k_whole; intro x' h' F' N' l1; (try simp only [List.nil_append] at N')))
  k_with "ThrowX" => (k_here; k_dflt (refine' throwX_of ?z7k1 ?z7k2 ?z7k3 ?z7k4 ?z7k5 ?z7k6 ?_; (case z7k1 => k_asm); (case z7k2 => k_asm); (case z7k3 => k_asm); (case z7k4 => k_mem); (case z7k5 => k_is); (case z7k6 => k_is); k_whole))
  k_with "leaving ref" => (k_here; k_dflt (refine' leave_first ?z8k1 ?z8k2 ?z8k3 ?z8k4 ?z8k5 ?z8k6 ?z8k7 ?z8k8 ?_; (case z8k1 => k_asm); (case z8k2 => k_asm); (case z8k3 => k_asm); (case z8k4 => k_mem); (case z8k5 => k_mem); (case z8k6 => (intro _ q9; cases q9)); (case z8k7 => exact notModule); (case z8k8 => exact rfl); k_whole; intro h' R'))
  k_with "kba_size" => first | omega | ((simp only [List.length_append, List.length_take, List.length_drop, List.length_cons, List.length_nil]); omega)
  k_with "call builtin:len" => (k_here; (with_reducible show wpAny _ _ (call (Value.builtin "len") [Value.bytes (List.toArray _) _]) _ _ _); (refine bytes_len (by kba_size) ?_); (try simp only [List.length_append, List.length_take, List.length_drop]))
  k_with "binaryOp Add bytes bytes" => (k_here; (with_reducible show wpAny _ _ (binaryOp Operator.Add (Value.bytes (List.toArray _) _) (Value.bytes (List.toArray _) _)) _ _ _); (refine bytes_add (by kba_size) ?_); intro _ _)
  k_with "compareOp Eq bytes bytes" => (k_here; (with_reducible show wpAny _ _ (compareOp CmpOp.Eq (Value.bytes (List.toArray _) _) (Value.bytes (List.toArray _) _)) _ _ _); (refine bytes_eq ?_))
  k_with "compareOp NotEq bytes bytes" => (k_here; (with_reducible show wpAny _ _ (compareOp CmpOp.NotEq (Value.bytes (List.toArray _) _) (Value.bytes (List.toArray _) _)) _ _ _); (refine bytes_ne ?_))
  k_with "subscriptTail" => (k_here; (with_reducible show wpAny _ _ (subscriptTail _ (Expr.Slice _ _ none _) (Value.bytes (List.toArray _) _) (Value.ref _)) _ _ _); (with_reducible rename Fr _ _ _ _ => F'); (with_reducible rename News _ _ _ _ => N'); (first | refine cut_mid (s := ⟨_, _, _, _, _⟩) F' N' (by kba_size) (by kba_size) (by kba_size) ?_ | refine cut_from (s := ⟨_, _, _, _, _⟩) F' N' (by kba_size) (by kba_size) ?_ | refine cut_to (s := ⟨_, _, _, _, _⟩) F' N' (by kba_size) (by kba_size) ?_ | refine cut_back (s := ⟨_, _, _, _, _⟩) F' N' (by kba_size) (by kba_size) ?_); intro h' _ _ F' N')
  k_with "exec For Name Subscript cons nil" => (k_here; (rename Fr _ _ _ _ => lF'); (with_unfolding_all refine' For_invVF lF' ?z15k1 ?z15k2 ?_; (case z15k1 => exact rfl); (case z15k2 => exact rfl); k_whole))
  k_with "leaving ref" => (k_here; k_dflt (refine' leave_next ?z16k1 ?z16k2 ?z16k3 ?z16k7 ?z16k8 ?_; (case z16k3 => assumption); (case z16k1 => assumption); (case z16k2 => assumption); (case z16k7 => exact notModule); (case z16k8 => exact rfl); k_whole; intro h' R'))
  k_with "call builtin:list.append" => (k_here; (with_reducible show wpAny _ _ (call (Value.builtin _) [Value.ref _, _]) _ _ _); k_dflt (refine' append_L ?z17k1 ?z17k2 ?z17k3 ?z17z ?_; (case z17k1 => k_asm); (case z17k2 => k_asm); (case z17k3 => k_upd); (case z17z => kba_size); k_whole); intro h' F' N'; (try k_sweep))
  k_with "compareOp Eq bytes int" => (with_reducible refine eq_bytes_int ?_)
  k_with "compareOp Eq int bytes" => (with_reducible refine eq_int_bytes ?_)
  k_with "call type:bytes" => (k_here; (with_reducible show wpAny _ _ (call (Value.type _) [Value.ref _]) _ _ _); k_dflt (refine' bytes_mk ?z20F ?z20N ?z20m ?z20i ?z20z ?z20h ?_; (case z20F => k_asm); (case z20N => k_asm); (case z20m => k_mem); (case z20i => (first | assumption | exact .nil | exact .cons .nil | exact .cons (.cons .nil) | exact .cons (.cons (.cons .nil)) | exact .cons (.cons (.cons (.cons .nil))))); (case z20z => first | omega | (simp only [List.length_cons, List.length_nil]; omega)); (case z20h => with_unfolding_all rfl); k_whole); intro h' t' k' F' N'; (try k_sweep))
  k_with "lcg_off" => ((with_reducible rename Off3 _ _ _ _ => off9); k_dflt (exact off9))
  k_with "exec Assign cons ListComp" => (k_here; k_dflt (refine Assign_ListComp_K (F₀ := by k_asm) (by rfl) (by with_unfolding_all rfl) (by with_unfolding_all rfl) (by decide) (by rfl) (by decide) (by rfl) (by rfl) (by rfl) ?_))
  k_with "eval ListComp" => (k_here; k_dflt (refine ListComp_K (F₀ := by k_asm) (by with_unfolding_all rfl) (by decide) (by rfl) (by decide) (by rfl) ?_))
  k_with "subscriptTail" => (k_here; (with_reducible show wpAny _ _ (subscriptTail _ (Expr.Slice _ _ none _) (Value.bytes (List.toArray _) _) (Value.ref _)) _ _ _); (with_reducible rename Fr _ _ _ _ => F'); (with_reducible rename News _ _ _ _ => N'); (refine cut_chunk (s := ⟨_, _, _, _, _⟩) F' N' (by omega) ?_); intro h' _ _ F' N' hz9)
  k_with "CompEnd" => (k_here; (refine CompEnd.intro (by assumption) (by assumption) _ (by lcg_sub) (by lcg_off) (by lcg_src) ⟨rfl, ?_⟩))
  intro dp un gd cn cs a ccd cl outer A₀ base h₀ L m s Q E B F X T hk hdp hun hP hret
  have hlP : s.heap.IsList P (sv ps).toArray := ⟨_, hP, rfl, c, rfl⟩
  revert X; k_fill; intro X
  refine wpAny_call ?_
  k_dflt (first | ktr_enter | fail "no entry")
  clear B F X T
  k_with "CompK" => (k_dflt (refine' CompK.const (src_listG (by rfl) ?F0a hlP) ?za ?Fa ?Na trivial (fun i ys => ItemsV (headsI ((ps.map (·.1)).take i)) ys) ?j0a (fun i ys hi hl9 hJ v I oI C oC D m₂ h' tk' E' hsg hC hx F' N' off ne => ?_) (fun g ys hl9 hJ => ?_); (case F0a => k_asm); (case za => (rw [List.size_toArray]; simp only [sv, List.length_map]; omega)); (case Fa => k_asm); (case Na => k_asm); (case j0a => exact trivial)); (all_goals (try (obtain ⟨r9, u9, hr9, hz9, rfl⟩ := sv_at hts hsg; clear hsg))); (all_goals (try (replace hJ := headsV_done hJ; rw [List.size_toArray] at hl9; simp only [sv, List.length_map] at hl9))))
  k_with "CompK" => (k_dflt (refine' CompK.signs (by rfl) ?zb ?Fb ?Nb (fun i ys c9 u9 hc9 hJ hl9 I oI C oC D m₂ h' tk' E' hC hx F' N' off ne => ?_) (fun g ys hl9 hJ => ?_); (case zb => omega); (case Fb => k_asm); (case Nb => k_asm)))
  k_with "CompK" => (k_dflt (refine' CompK.const (src_range (n := nch l.length k) (by rfl) (by assumption) (small_ok (by omega) hk1 (by omega)).1 (small_ok (by omega) hk1 (by omega)).2) ?zc ?Fc ?Nc trivial (fun i ys => ItemsV (chunksI l k i) ys) ?j0c (fun i ys hi hl9 hJ v I oI C oC D m₂ h' tk' E' hsg hC hx F' N' off ne => ?_) (fun g ys hl9 hJ => ?_); (case zc => (have := nch_le l.length k; omega)); (case Fc => k_asm); (case Nc => k_asm); (case j0c => exact trivial)); (all_goals (try (obtain ⟨t9, rfl⟩ := hsg))))
  have hn9 := nch_le l.length k
  k_with "execs cons" => (k_fold; with_reducible refine wpAny_execs_cons ?_)
  w_top off
  k_steps
  · exact BytesAre.step (by assumption) (by assumption)
  · exact headsV_snoc (by assumption) (by assumption)
  · exact chunksV_snoc (by assumption)
  · exact hret _ _ _ (Fr.keep (by assumption)) (lb_ret (by assumption) (by k_mem) (by assumption) (by assumption))

end

-- part K14
section
open PySem PySem.Calls PySem.W PyProof.Rows Builtin Builtin.ObjectAttr PyProof.Rows.LCg
set_option maxRecDepth 100000
def band1 : Item → Option (List UInt8)
  | .data (b :: r) => if b = 1 then some r else none
  | _ => none
def band2 : Item → Option (List UInt8)
  | .data (b :: r) => if b = 2 then some r else none
  | _ => none
def chunksOf (is : List Item) : List (List UInt8) := is.filterMap band1
def textsOf (is : List Item) : List (List UInt8) := is.filterMap band2
/-- an item of the first or the second band, short -/
def Banded (it : Item) : Prop := ∃ r : List UInt8, r.length ≤ 100 ∧ (it = .data (1 :: r) ∨ it = .data (2 :: r))
theorem chunksOf_snoc1 {is : List Item} {i : Nat} {r : List UInt8} (h : is[i]? = some (.data (1 :: r))) : chunksOf (is.take (i + 1)) = chunksOf (is.take i) ++ [r] := by
  unfold chunksOf
  rw [List.take_add_one, h, List.filterMap_append]
  rfl
theorem chunksOf_snoc2 {is : List Item} {i : Nat} {r : List UInt8} (h : is[i]? = some (.data (2 :: r))) : chunksOf (is.take (i + 1)) = chunksOf (is.take i) := by
  unfold chunksOf
  rw [List.take_add_one, h, List.filterMap_append]
  show _ ++ [] = _
  rw [List.append_nil]
theorem textsOf_snoc1 {is : List Item} {i : Nat} {r : List UInt8} (h : is[i]? = some (.data (1 :: r))) : textsOf (is.take (i + 1)) = textsOf (is.take i) := by
  unfold textsOf
  rw [List.take_add_one, h, List.filterMap_append]
  show _ ++ [] = _
  rw [List.append_nil]
theorem textsOf_snoc2 {is : List Item} {i : Nat} {r : List UInt8} (h : is[i]? = some (.data (2 :: r))) : textsOf (is.take (i + 1)) = textsOf (is.take i) ++ [r] := by
  unfold textsOf
  rw [List.take_add_one, h, List.filterMap_append]
  rfl
theorem filterMap_len {α β : Type} (f : α → Option β) : ∀ l : List α, (l.filterMap f).length ≤ l.length
  | [] => Nat.le_refl _
  | a :: r => by
    have := filterMap_len f r
    rw [List.filterMap_cons]
    cases f a with
    | none => simp only [List.length_cons]; omega
    | some b => simp only [List.length_cons]; omega
theorem flatten_le {k : Nat} : ∀ {ls : List (List UInt8)}, (∀ l ∈ ls, l.length ≤ k) → ls.flatten.length ≤ ls.length * k
  | [], _ => by simp
  | l :: r, h => by
    have h1 := h l (.head _)
    have h2 := flatten_le fun x hx => h x (.tail _ hx)
    rw [List.flatten_cons, List.length_append, List.length_cons, Nat.add_mul]
    omega
theorem chunksOf_len {is : List Item} (h : ∀ it ∈ is, Banded it) (hn : is.length ≤ 100) (i : Nat) : (chunksOf (is.take i)).flatten.length ≤ 10000 := by
  have h1 := flatten_le (k := 100) (ls := chunksOf (is.take i)) (fun l hl => by
    obtain ⟨it, hit, e⟩ := List.mem_filterMap.mp hl
    obtain ⟨r, hr, rfl | rfl⟩ := h it (List.mem_of_mem_take hit)
    · cases e; exact hr
    · cases e)
  have h2 := filterMap_len band1 (is.take i)
  have h3 : (is.take i).length ≤ 100 := by rw [List.length_take]; omega
  have h4 : (chunksOf (is.take i)).length ≤ 100 := Nat.le_trans h2 h3
  have := Nat.mul_le_mul_right 100 h4
  omega
theorem textsOf_len {is : List Item} (hn : is.length ≤ 100) (i : Nat) : (textsOf (is.take i)).length ≤ 100 := by
  have h2 := filterMap_len band2 (is.take i)
  have h3 : (is.take i).length ≤ 100 := by rw [List.length_take]; omega
  exact Nat.le_trans h2 h3
theorem ItemsV.split : ∀ {is : List Item} {last : Item} {vs : List Value}, ItemsV (is ++ [last]) vs → ∃ us z, vs = us ++ [z] ∧ ItemsV is us
  | [], _, [], h => h.elim
  | [], _, [z], _ => ⟨[], z, rfl, trivial⟩
  | [], _, _ :: _ :: _, h => h.2.elim
  | _ :: _, _, [], h => h.elim
  | _ :: is, _, v :: vs, h => by
    obtain ⟨us, z, e, hi⟩ := ItemsV.split (is := is) h.2
    exact ⟨v :: us, z, by rw [e]; rfl, h.1, hi⟩
theorem banded_at {is : List Item} {us : List Value} {i : Nat} {v : Value} (hb : ∀ it ∈ is, Banded it) (hI : ItemsV is us) (h : us.toArray[i]? = some v) : ∃ r t, r.length ≤ 100 ∧ ((is[i]? = some (.data (1 :: r)) ∧ v = .bytes (1 :: r).toArray t) ∨ (is[i]? = some (.data (2 :: r)) ∧ v = .bytes (2 :: r).toArray t)) := by
  have h1 : us[i]? = some v := by simpa using h
  obtain ⟨hlt, e⟩ := List.getElem?_eq_some_iff.mp h1
  obtain ⟨it, e1, hv⟩ := hI.at i hlt
  obtain ⟨r, hr, rfl | rfl⟩ := hb it (List.mem_of_getElem? e1)
  · obtain ⟨t, ht⟩ := hv
    exact ⟨r, t, hr, .inl ⟨e1, by rw [← e]; exact ht⟩⟩
  · obtain ⟨t, ht⟩ := hv
    exact ⟨r, t, hr, .inr ⟨e1, by rw [← e]; exact ht⟩⟩
structure LuSt where
  D : Addr
  vs : List Value
  c : Nat
  cs : List UInt8
  tc : Tok
  ts : List (List UInt8 × Tok)
structure LuW (is : List Item) (i : Nat) (c : LuSt) : Prop where
  e1 : c.vs = sv c.ts
  e2 : c.cs = (chunksOf (is.take i)).flatten
  e3 : c.ts.map (·.1) = textsOf (is.take i)
theorem LuW.len {is : List Item} {i : Nat} {c : LuSt} (h : LuW is i c) (hb : ∀ it ∈ is, Banded it) (hn : is.length ≤ 100) : c.cs.length ≤ 10000 ∧ c.ts.length ≤ 100 := by
  refine ⟨by rw [h.e2]; exact chunksOf_len hb hn i, ?_⟩
  have := textsOf_len hn i
  rw [← h.e3, List.length_map] at this
  exact this
def LuR (is : List Item) (q : Nat) (H : Heap) (v : Value) (h' : Heap) : Prop :=
  ∃ a D c ts tq t, v = .ref a ∧ h'.get? a = some (tupObj [.bytes (chunksOf is).flatten.toArray t, .ref D, .int (q : Nat) tq]) ∧ H.get? a = none ∧ h'.get? D = some (listOf (sv ts).toArray c) ∧ H.get? D = none ∧ a ≠ D ∧ ts.map (·.1) = textsOf is
theorem lu_read {l : List UInt8} {p q : Nat} {is : List Item} {last : Item} {H h' : Heap} {v : Value} (e : readF l (l.length + 1) p = some (is ++ [last], q)) (h : ReadV l p H v h') :
    ∃ a D us z c tq, ItemsV is us ∧ v = .ref a ∧ h'.get? a = some (tupObj [.ref D, .int (q : Nat) tq]) ∧ H.get? a = none ∧ h'.get? D = some (listOf (us ++ [z]).toArray c) ∧ H.get? D = none ∧ a ≠ D := by
  rcases h with ⟨h, _⟩ | ⟨a, D, vs, c, items, q', tq, hr, hi, hv, ha, hn, hD, hd, hne⟩
  · rw [e] at h; cases h
  · rw [e] at hr
    cases hr
    obtain ⟨us, z, rfl, hu⟩ := hi.split
    exact ⟨a, D, us, z, c, tq, hu, hv, ha, hn, hD, hd, hne⟩
section
variable {prog : Program} {w : World} {A : Around} {E : Value → Shared → Prop} {s s₁ : Shared} {h₀ : Heap} {L l : Addr} {m : PySem.Str → Option Value} {news : List (Addr × Obj)} {env : Env}
theorem gives_mul_same {b : Array UInt8} {n : Int} {t u : Tok} (hf : Bytes.fitsIndex n = true) (hs : b.size ≤ 16777216) (e : b.size * n.toNat = b.size) : Gives («bytes.__mul__» ⟨[.bytes b t, .int n u], []⟩) (.val (.bytes b t)) := by
  refine .of_wp fun M A E s Q hq => ?_
  show wpAny M A (Bytes.repeatArgs .bytes "__mul__" ⟨[.bytes b t, .int n u], []⟩ >>= fun r => _) _ E s
  refine wpAny_bind (wpAny_of_eq (BMul.args_eq hf) ?_)
  refine wpAny_bind (wpAny_of_eq (a := b) rfl ?_)
  show wpAny M A (if b.size * n.toNat ≥ 2 ^ 63 then _ else _) _ E s
  rw [if_neg (by rw [e]; omega)]
  refine bm_if_true (by rw [e]; exact beq_self_eq_true _) ?_
  refine wpAny_bind (wpAny_typeOf (typeIs_bytes s b t) ?_)
  exact wpAny_bind (wpAny_rule (wpAny_pure ⟨_, rfl, hq⟩))
theorem bytes_mul_same {b : List UInt8} {n : Int} {t u : Tok} {Q : Value → Shared → Prop} (hf : Bytes.fitsIndex n = true) (hs : b.length ≤ 100) (e : b.length * n.toNat = b.length) (h : Q (.bytes b.toArray t) s) :
    wpAny (model prog w) A (binaryOp .Mult (.bytes b.toArray t) (.int n u)) Q E s :=
  wpAny_binaryOp_repeat (T := "bytes") (U := "int") (by decide) (fun s' => typeIs_bytes s' _ t) (fun s' => typeIs_int s' n u) BMul.noFill F.fills_int_mul F.slot_int_rmul BMul.repeats F.slot_int_index.lookup
    (call_gives F.slot_int_rmul (typeIs_int s n u) F.entry_int_rmul (F.args_int_rmul_2 _ _) (BMul.int_declines n u _ t)
      ⟨rfl, call_gives BMul.slot_mul (typeIs_bytes s _ t) BMul.entry_mul (BMul.args_mul _ _) (gives_mul_same hf (by rw [List.size_toArray]; omega) (by rw [List.size_toArray]; exact e)) h⟩)
theorem bytes_mul1 {b : List UInt8} {n : Int} {t u : Tok} {Q : Value → Shared → Prop} (hn : n = 1) (hs : b.length ≤ 100) (h : Q (.bytes b.toArray t) s) :
    wpAny (model prog w) A (binaryOp .Mult (.bytes b.toArray t) (.int n u)) Q E s := by
  subst hn
  exact bytes_mul_same (by decide) hs (by simp) h
theorem bytes_mul0 {b : List UInt8} {n : Int} {t u : Tok} {Q : Value → Shared → Prop} (hn : n = 0) (hs : b.length ≤ 100) (h : ∀ t' k, Q (.bytes ([] : List UInt8).toArray t') { s with toks := k }) :
    wpAny (model prog w) A (binaryOp .Mult (.bytes b.toArray t) (.int n u)) Q E s := by
  subst hn
  by_cases hb : b = []
  · subst hb
    exact bytes_mul_same (by decide) hs rfl (h t s.toks)
  · have hpos : 0 < b.length := List.length_pos_iff.mpr hb
    have e3 : b.toArray.size = b.length := by simp
    refine wpAny_binaryOp_repeat (T := "bytes") (U := "int") (by decide) (fun s' => typeIs_bytes s' _ t) (fun s' => typeIs_int s' 0 u) BMul.noFill F.fills_int_mul F.slot_int_rmul BMul.repeats F.slot_int_index.lookup
      (call_gives F.slot_int_rmul (typeIs_int s 0 u) F.entry_int_rmul (F.args_int_rmul_2 _ _) (BMul.int_declines 0 u _ t)
        ⟨rfl, call_gives BMul.slot_mul (typeIs_bytes s _ t) BMul.entry_mul (BMul.args_mul _ _) (BMul.gives_mul (by decide) (by simp) (by rw [e3]; exact beq_false_of_ne (by simp; omega)) (by simp; decide)) ?_⟩)
    rw [BMul.repeated_list hb]
    exact ⟨by simp, h _ _⟩
theorem list_mul1 {vs : List Value} {x : Int} {u : Tok} {Q : Value → Shared → Prop} (hx : x = 1) (Fm : Fr h₀ L s.heap m) (N : News h₀ L s.heap news) (hl : s.heap.IsList l vs.toArray) (hz : vs.length ≤ 100)
    (h : ∀ D h', Fr h₀ L h' m → News h₀ L h' ((D, listOf vs.toArray 0) :: news) → (∀ p ∈ news, p.1 < D) → Q (.ref D) { s with heap := h' }) : wpAny (model prog w) A (binaryOp .Mult (.ref l) (.int x u)) Q E s := by
  subst hx
  exact KMa.mul Fm N hl (by decide) (by decide) (by simp; omega) (by simp) h
theorem list_mul0 {vs : List Value} {x : Int} {u : Tok} {Q : Value → Shared → Prop} (hx : x = 0) (Fm : Fr h₀ L s.heap m) (N : News h₀ L s.heap news) (hl : s.heap.IsList l vs.toArray)
    (h : ∀ D h', Fr h₀ L h' m → News h₀ L h' ((D, listOf ([] : List Value).toArray 0) :: news) → (∀ p ∈ news, p.1 < D) → Q (.ref D) { s with heap := h' }) : wpAny (model prog w) A (binaryOp .Mult (.ref l) (.int x u)) Q E s := by
  subst hx
  exact KMa.mul Fm N hl (by decide) (by decide) (by simp) (by simp) h
theorem add_vs {a b : Addr} {vs us : List Value} {Q : Value → Shared → Prop} (F : Fr h₀ L s.heap m) (N : News h₀ L s.heap news) (ha : s.heap.IsList a vs.toArray) (hb : s.heap.IsList b us.toArray) (hz : vs.length + us.length ≤ 100000)
    (h : ∀ D h', Fr h₀ L h' m → News h₀ L h' ((D, listOf (vs ++ us).toArray 0) :: news) → (∀ p ∈ news, p.1 < D) → Q (.ref D) { s with heap := h' }) : wpAny (model prog w) A (binaryOp .Add (.ref a) (.ref b)) Q E s :=
  kmk_add_lit F N ha hb (by simp) h (by rw [sizeLine_eq]; simp; omega)
theorem item_hdN {value slice : PySem.Expr} {b : UInt8} {r : List UInt8} {t : Tok} {Q : Value → Shared → Prop} {ui : Tok} {n : Int} (hb : ((b.toNat : Nat) : Int) = n) (hz : r.length ≤ 1000000) (h : Q (.int n s.toks) { s with toks := s.toks + 1 })
    (hs : subscripted slice false (.bytes (b :: r).toArray t) (.int 0 ui) = operate [.bytes (b :: r).toArray t, .int 0 ui] (getItem (.bytes (b :: r).toArray t) (.int 0 ui)) := by with_unfolding_all rfl)
    (ht : ∀ r', letTemporaryGo value (.bytes (b :: r).toArray t) r' = pure () := by intro _; with_unfolding_all rfl) :
    wpAny (model prog w) A (subscriptTail value slice (.bytes (b :: r).toArray t) (.int 0 ui)) Q E s :=
  item_hd hz (by rw [hb]; exact h) hs ht
theorem cut_last {value slice : PySem.Expr} {us : List Value} {z : Value} {t : Tok} {c : Nat} {Q : Value → Shared → Prop} (F : Fr h₀ L s.heap m) (N : News h₀ L s.heap news) (hm : (l, listOf (us ++ [z]).toArray c) ∈ news) (hz : us.length ≤ 1000000)
    (h : ∀ D h', Fr h₀ L h' m → News h₀ L h' ((D, listOf us.toArray 0) :: news) → (∀ p ∈ news, p.1 < D) → Q (.ref D) { s with heap := h' })
    (hs : subscripted slice false (.ref l) (.ref s.heap.objs.size) = operate [.ref s.heap.objs.size, .ref l] (getItem (.ref l) (.ref s.heap.objs.size)) := by with_unfolding_all rfl) (ht : ∀ r, letTemporaryGo value (.ref l) r = pure () := by intro _; with_unfolding_all rfl) :
    wpAny (model prog w) A (subscriptTail value slice (.ref l) (.ref s.heap.objs.size)) Q E { s with heap := s.heap.push { cls := .type "slice", data := .fields #[.none, .int (-1) t, .none] } } :=
  kms_slice_lit F N ⟨_, (N _ hm).1, rfl, c, rfl⟩ .none (.int _ _) (by simp [kms_pick, kms_lo, kms_hi]) h hs ht (by rw [sizeLine_eq]; simp; omega)
/-- the ledger stands -/
theorem CompK.bytes {elt : PySem.Expr} {x : PySem.Str} {scope : Scope} {cl : List (PySem.Str × Addr)} {Fin : Shared → List Value → List (Addr × Obj) → Prop} {r : List UInt8} {t : Tok} (hh : A.handled = none) (hz : r.length ≤ 60000) (F : Fr h₀ L s₁.heap m) (N : News h₀ L s₁.heap news)
    (step : ∀ i ys (c : UInt8) u, r.toArray[i]? = some c → SignsAre ys (r.take i) → ys.length = i → ∀ I oI C oC D m₂ h tk (E' : Value → Shared → Prop), NsObj oC m₂ → m₂ x = some (.int ((c.toNat : Nat) : Int) u) → Fr h₀ L h m → News h₀ L h ((I, oI) :: (C, oC) :: (D, lst ys) :: news) → Off3 I C D news → ((@Ne Nat I C) ∧ (@Ne Nat I D) ∧ (@Ne Nat C D)) →
      wpAny (model prog w) A (eval elt (compEnvC scope cl C env)) (CompEnd h₀ L m { s₁ with heap := h, toks := tk } I oI C oC D (lst ys) (fun _ => True) (fun y news' => news' = news ∧ SignsAre (ys ++ [y]) (r.take (i + 1)))) E' { s₁ with heap := h, toks := tk })
    (fin : ∀ g ys, ys.length = r.length → SignsAre ys (r.take r.toArray.size) → Fin { s₁ with heap := g } ys news) : CompK prog w A h₀ L m env elt x scope cl Fin (.bytes r.toArray t) s₁ :=
  CompK.of (src_bytes hh) (by rw [List.size_toArray]; omega) F N trivial (fun i ys nw => nw = news ∧ SignsAre ys (r.take i)) ⟨rfl, SignsAre.nil⟩
    (fun i ys nw hi hl ⟨en, j⟩ v I oI C oC D m₂ h tk E' hP hC hx F2 N2 off ne => by
      subst en
      obtain ⟨c, u, hc, rfl⟩ := hP
      exact step i ys c u hc j hl I oI C oC D m₂ h tk E' hC hx F2 N2 off ne)
    (fun g ys nw hl ⟨en, j⟩ => by rw [en]; exact fin g ys (by rw [hl, List.size_toArray]) j)
end
theorem lu_step1 {is : List Item} {i c c' : Nat} {D D' : Addr} {cs r : List UInt8} {tc tc' : Tok} {ts : List (List UInt8 × Tok)} (h : LuW is i ⟨D, sv ts, c, cs, tc, ts⟩) (hr : is[i]? = some (.data (1 :: r))) : LuW is (i + 1) ⟨D', sv ts ++ [], c', cs ++ r, tc', ts⟩ := by
  obtain ⟨_, e2, e3⟩ := h
  dsimp only at e2 e3
  refine ⟨List.append_nil _, ?_, ?_⟩
  · dsimp only
    rw [chunksOf_snoc1 hr, List.flatten_append, e2]
    simp
  · dsimp only
    rw [textsOf_snoc1 hr, e3]
theorem lu_step2 {is : List Item} {i c c' : Nat} {D D' : Addr} {cs r : List UInt8} {tc tc' t : Tok} {ts : List (List UInt8 × Tok)} (h : LuW is i ⟨D, sv ts, c, cs, tc, ts⟩) (hr : is[i]? = some (.data (2 :: r))) : LuW is (i + 1) ⟨D', sv ts ++ [.str (textOf r) t], c', cs ++ [], tc', ts ++ [(r, t)]⟩ := by
  obtain ⟨_, e2, e3⟩ := h
  dsimp only at e2 e3
  refine ⟨by simp [sv], ?_, ?_⟩
  · dsimp only
    rw [chunksOf_snoc2 hr, e2, List.append_nil]
  · dsimp only
    rw [textsOf_snoc2 hr, List.map_append, e3]
    rfl
theorem lu_ret {is : List Item} {n q c : Nat} {a D : Addr} {cs : List UInt8} {t tc tq : Tok} {ts : List (List UInt8 × Tok)} {H h' : Heap} {L : Addr} {news : List (Addr × Obj)} (N : News H L h' news) (ha : (a, tupObj [.bytes cs.toArray t, .ref D, .int (q : Nat) tq]) ∈ news) (hD : (D, listOf (sv ts).toArray c) ∈ news) (hne : a ≠ D)
    (h : LuW is n ⟨D, sv ts, c, cs, tc, ts⟩) (hn : is.length ≤ n) : LuR is q H (.ref a) h' := by
  obtain ⟨_, e2, e3⟩ := h
  dsimp only at e2 e3
  rw [List.take_of_length_le hn] at e2 e3
  subst e2
  exact ⟨a, D, c, ts, tq, t, rfl, (N _ ha).1, (N _ ha).2.2, (N _ hD).1, (N _ hD).2.2, hne, e3⟩
set_option maxHeartbeats 8000000 in
theorem lu (w : World) (mean : ExcName → Option Value) (mg mb : Str → Option Value) (l : List UInt8) (hl : l.length ≤ 60000) (p q : Nat) (tb t : Tok) (is : List Item) (last : Item) (hread : readF l (l.length + 1) p = some (is ++ [last], q)) (hb : ∀ it ∈ is, Banded it) (hn : is.length ≤ 100) :
    Pure w mean mg mb 161 40 500 [.bytes l.toArray tb, .int p t] (LuR is q) (fun _ => False) := by
  k_with_none
  k_with "k_ne" => (refine neN ?_; (try dsimp only); first | with_reducible assumption | (with_reducible refine Ne.symm ?_; with_reducible assumption) | (with_reducible refine' ne_lt ?z1q1 ?z1q2; (case z1q1 => with_reducible assumption); (case z1q2 => (with_reducible ((repeat (first | exact List.mem_cons_self | refine List.mem_cons_of_mem _ ?_)); done)))) | (with_reducible refine' ne_gt ?z1q1 ?z1q2; (case z1q1 => with_reducible assumption); (case z1q2 => (with_reducible ((repeat (first | exact List.mem_cons_self | refine List.mem_cons_of_mem _ ?_)); done)))) | (with_reducible refine' ne_of ?z1q1 ?z1q2; (case z1q1 => with_reducible assumption); (case z1q2 => (with_reducible ((repeat (first | exact List.mem_cons_self | refine List.mem_cons_of_mem _ ?_)); done)))) | (with_reducible refine' ne_fo ?z1q1 ?z1q2; (case z1q1 => with_reducible assumption); (case z1q2 => (with_reducible ((repeat (first | exact List.mem_cons_self | refine List.mem_cons_of_mem _ ?_)); done)))) | (with_reducible refine' off_I ?z1q1 ?z1q2; (case z1q1 => with_reducible assumption); (case z1q2 => (with_reducible ((repeat (first | exact List.mem_cons_self | refine List.mem_cons_of_mem _ ?_)); done)))) | (with_reducible refine' off_C ?z1q1 ?z1q2; (case z1q1 => with_reducible assumption); (case z1q2 => (with_reducible ((repeat (first | exact List.mem_cons_self | refine List.mem_cons_of_mem _ ?_)); done)))) | (with_reducible refine' off_D ?z1q1 ?z1q2; (case z1q1 => with_reducible assumption); (case z1q2 => (with_reducible ((repeat (first | exact List.mem_cons_self | refine List.mem_cons_of_mem _ ?_)); done)))) | (with_reducible refine' I_off ?z1q1 ?z1q2; (case z1q1 => with_reducible assumption); (case z1q2 => (with_reducible ((repeat (first | exact List.mem_cons_self | refine List.mem_cons_of_mem _ ?_)); done)))) | (with_reducible refine' C_off ?z1q1 ?z1q2; (case z1q1 => with_reducible assumption); (case z1q2 => (with_reducible ((repeat (first | exact List.mem_cons_self | refine List.mem_cons_of_mem _ ?_)); done)))) | (with_reducible refine' D_off ?z1q1 ?z1q2; (case z1q1 => with_reducible assumption); (case z1q2 => (with_reducible ((repeat (first | exact List.mem_cons_self | refine List.mem_cons_of_mem _ ?_)); done)))) | (first | exact And.left (by with_reducible assumption) | exact And.left (And.right (by with_reducible assumption)) | exact And.right (And.right (by with_reducible assumption)) | exact And.right (by with_reducible assumption) | exact And.left (And.right (And.right (by with_reducible assumption))) | exact And.left (And.right (And.right (And.right (by with_reducible assumption)))) | exact And.right (And.right (And.right (And.right (by with_reducible assumption)))) | exact And.right (And.right (And.right (by with_reducible assumption))) | exact And.left (And.left (by with_reducible assumption)) | exact And.left (And.right (And.left (by with_reducible assumption))) | exact And.right (And.right (And.left (by with_reducible assumption)))) | (with_reducible refine Ne.symm ?_; first | exact And.left (by with_reducible assumption) | exact And.left (And.right (by with_reducible assumption)) | exact And.right (And.right (by with_reducible assumption)) | exact And.right (by with_reducible assumption) | exact And.left (And.right (And.right (by with_reducible assumption))) | exact And.left (And.right (And.right (And.right (by with_reducible assumption)))) | exact And.right (And.right (And.right (And.right (by with_reducible assumption)))) | exact And.right (And.right (And.right (by with_reducible assumption))) | exact And.left (And.left (by with_reducible assumption)) | exact And.left (And.right (And.left (by with_reducible assumption))) | exact And.right (And.right (And.left (by with_reducible assumption)))) | omega)
  k_with "ktr_enter" => (refine' enterPC ?z2k1 ?z2k2 ?z2k3 ?z2k5 ?z2kA ?z2kF ?z2kK ?z2k6 ?z2k7 ?z2k8 ?z2k9 ?z2kB ?z2kD ?_ ?z2c2 ?z2c3 ?z2c4; (case z2kA => exact rfl); (case z2kF => exact rfl); (case z2kK => assumption); (case z2k1 => k_asm); (case z2k2 => k_asm); (case z2k3 => k_asm); (case z2k5 => k_asm); (case z2k6 => k_is); (case z2k7 => k_is); (case z2k8 => ktr_room); (case z2k9 => first | exact BindsTo.of_eq rfl | exact binds_K (by k_in) rfl (by k_is) rfl rfl rfl); (case z2kB => exact rfl); (case z2kD => decide +kernel); (case z2c2 => exact rfl); (case z2c3 => exact rfl); (case z2c4 => exact rfl); k_whole; intro L' h' tk' cells' F' N' Y' B' X' T'; k_cells Y'; (try simp only [List.cons_append, List.nil_append, List.append_nil] at N'); (try dsimp only); (try k_fold))
  k_with "ktr_enter" => (refine' enterP ?z3k1 ?z3k2 ?z3k3 ?z3k5 ?z3kA ?z3kF ?z3kK ?z3k6 ?z3k7 ?z3k8 ?z3k9 ?z3kB ?_ ?z3c2 ?z3c3 ?z3c4 ?z3c5; (case z3kA => exact rfl); (case z3kF => exact rfl); (case z3kK => assumption); (case z3k1 => k_asm); (case z3k2 => k_asm); (case z3k3 => k_asm); (case z3k5 => k_asm); (case z3k6 => k_is); (case z3k7 => k_is); (case z3k8 => ktr_room); (case z3k9 => first | exact BindsTo.of_eq rfl | exact binds_K (by k_in) rfl (by k_is) rfl rfl rfl); (case z3c5 => decide); (case z3kB => exact locs rfl); (case z3c2 => exact rfl); (case z3c3 => exact rfl); (case z3c4 => exact rfl); k_whole; intro L' h' F' N' B' X' T'; (try dsimp only); (try k_fold))
  k_with "exec Raise some none" => (k_here; (with_reducible show wpAny _ _ (exec (Stmt.Raise (some (Expr.Call (Expr.Name ("BadLine" : Str) _) _ _ _)) none _) _) _ _ _); refine raise_own_init (C := 57) rfl ?_)
  k_with "call ref" => (k_here; (with_reducible show wpAny _ _ (call (Value.ref 57) _) _ _ _); k_dflt (refine' call_excK (C := 57) (fI := 29) ?z5k1 ?z5k2 ?z5k3 PySem.F.excBase_Exception chainBL ?z5kC ?z5k4 ?z5k5 ?z5k6 ?_; (case z5k1 => k_asm); (case z5k2 => k_asm); (case z5k3 => k_asm); (case z5kC => k_is); (case z5k4 => k_is); (case z5k5 => k_is); (case z5k6 => size_fits); k_whole; intro x' d' h' F' N' l1 l2; (try k_lt l1); (try k_lt2 l2); (try k_sweep); k_enter))
  k_with "setAttr ref" => (k_here; k_dflt (refine' set_excK (pre := []) (C := 57) ?z6k1 ?z6k2 ?z6k3 ?z6h1 ?z6h2 ?z6k4 ?z6k5 ?z6k6 ?z6k7 ?z6k8 ?z6k9 ?z6k10 ?_; (case z6k1 => k_asm); (case z6k2 => k_asm); (case z6k3 => k_asm); (case z6h1 => exact List.forall_mem_nil _); (case z6h2 => k_all); (case z6k4 => k_is); (case z6k5 => exact rfl); (case z6k6 => exact rfl); (case z6k7 => decide); (case z6k8 => exact passBL); (case z6k9 => k_is); (case z6k10 => k_is); k_whole; intro x' h' F' N' l1; (try simp only [List.nil_append] at N')))
  k_with "ThrowX" => (k_here; k_dflt (refine' throwX_of ?z7k1 ?z7k2 ?z7k3 ?z7k4 ?z7k5 ?z7k6 ?_; (case z7k1 => k_asm); (case z7k2 => k_asm); (case z7k3 => k_asm); (case z7k4 => k_mem); (case z7k5 => k_is); (case z7k6 => k_is); k_whole))
  k_with "leaving ref" => (k_here; k_dflt (refine' leave_first ?z8k1 ?z8k2 ?z8k3 ?z8k4 ?z8k5 ?z8k6 ?z8k7 ?z8k8 ?_; (case z8k1 => k_asm); (case z8k2 => k_asm); (case z8k3 => k_asm); (case z8k4 => k_mem); (case z8k5 => k_mem); (case z8k6 => (intro _ q9; cases q9)); (case z8k7 => exact notModule); (case z8k8 => exact rfl); k_whole; intro h' R'))
  k_with "kba_size" => first | omega | ((simp only [List.length_append, List.length_take, List.length_drop, List.length_cons, List.length_nil]); omega)
  k_with "call builtin:len" => (k_here; (with_reducible show wpAny _ _ (call (Value.builtin "len") [Value.bytes (List.toArray _) _]) _ _ _); (refine bytes_len (by kba_size) ?_); (try simp only [List.length_append, List.length_take, List.length_drop]))
  k_with "binaryOp Add bytes bytes" => (k_here; (with_reducible show wpAny _ _ (binaryOp Operator.Add (Value.bytes (List.toArray _) _) (Value.bytes (List.toArray _) _)) _ _ _); (refine bytes_add (by kba_size) ?_); intro _ _)
  k_with "compareOp Eq bytes bytes" => (k_here; (with_reducible show wpAny _ _ (compareOp CmpOp.Eq (Value.bytes (List.toArray _) _) (Value.bytes (List.toArray _) _)) _ _ _); (refine bytes_eq ?_))
  k_with "compareOp NotEq bytes bytes" => (k_here; (with_reducible show wpAny _ _ (compareOp CmpOp.NotEq (Value.bytes (List.toArray _) _) (Value.bytes (List.toArray _) _)) _ _ _); (refine bytes_ne ?_))
  k_with "subscriptTail" => (k_here; (with_reducible show wpAny _ _ (subscriptTail _ (Expr.Slice _ _ none _) (Value.bytes (List.toArray _) _) (Value.ref _)) _ _ _); (with_reducible rename Fr _ _ _ _ => F'); (with_reducible rename News _ _ _ _ => N'); (first | refine cut_mid (s := ⟨_, _, _, _, _⟩) F' N' (by kba_size) (by kba_size) (by kba_size) ?_ | refine cut_from (s := ⟨_, _, _, _, _⟩) F' N' (by kba_size) (by kba_size) ?_ | refine cut_to (s := ⟨_, _, _, _, _⟩) F' N' (by kba_size) (by kba_size) ?_ | refine cut_back (s := ⟨_, _, _, _, _⟩) F' N' (by kba_size) (by kba_size) ?_); intro h' _ _ F' N')
  k_with "exec For Name Subscript cons nil" => (k_here; (rename Fr _ _ _ _ => lF'); (with_unfolding_all refine' For_invVF lF' ?z15k1 ?z15k2 ?_; (case z15k1 => exact rfl); (case z15k2 => exact rfl); k_whole))
  k_with "leaving ref" => (k_here; k_dflt (refine' leave_next ?z16k1 ?z16k2 ?z16k3 ?z16k7 ?z16k8 ?_; (case z16k3 => assumption); (case z16k1 => assumption); (case z16k2 => assumption); (case z16k7 => exact notModule); (case z16k8 => exact rfl); k_whole; intro h' R'))
  k_with "call builtin:list.append" => (k_here; (with_reducible show wpAny _ _ (call (Value.builtin _) [Value.ref _, _]) _ _ _); k_dflt (refine' append_L ?z17k1 ?z17k2 ?z17k3 ?z17z ?_; (case z17k1 => k_asm); (case z17k2 => k_asm); (case z17k3 => k_upd); (case z17z => kba_size); k_whole); intro h' F' N'; (try k_sweep))
  k_with "compareOp Eq bytes int" => (with_reducible refine eq_bytes_int ?_)
  k_with "compareOp Eq int bytes" => (with_reducible refine eq_int_bytes ?_)
  k_with "call type:bytes" => (k_here; (with_reducible show wpAny _ _ (call (Value.type _) [Value.ref _]) _ _ _); k_dflt (refine' bytes_mk ?z20F ?z20N ?z20m ?z20i ?z20z ?z20h ?_; (case z20F => k_asm); (case z20N => k_asm); (case z20m => k_mem); (case z20i => (first | assumption | exact .nil | exact .cons .nil | exact .cons (.cons .nil) | exact .cons (.cons (.cons .nil)) | exact .cons (.cons (.cons (.cons .nil))))); (case z20z => first | omega | (simp only [List.length_cons, List.length_nil]; omega)); (case z20h => with_unfolding_all rfl); k_whole); intro h' t' k' F' N'; (try k_sweep))
  k_with "lcg_off" => ((with_reducible rename Off3 _ _ _ _ => off9); k_dflt (exact off9))
  k_with "call builtin:chr" => refine P.chr_of_int (chr_ok _) ?_
  k_with "call builtin:str.join" => (k_here; k_dflt (refine' join_signs ?z23N ?z23D ?z23J ?z23l ?_; (case z23N => k_asm); (case z23D => k_mem); (case z23J => assumption); (case z23l => omega)); intro t9 k9)
  k_with "eval ListComp" => (k_here; k_dflt (refine ListComp_K (F₀ := by k_asm) (by with_unfolding_all rfl) (by decide) (by rfl) (by decide) (by rfl) ?_))
  k_with "CompK" => (k_here; k_dflt (refine CompK.bytes (by rfl) (by omega) (by k_asm) (by k_asm) (fun i ys c9 u9 hc9 hJ hl9 I oI C oC D m₂ h' tk' E' hC hx F' N' off ne => ?_) (fun g ys hl9 hJ => ?_)))
  k_with "CompEnd" => (k_here; (refine CompEnd.intro (by assumption) (by assumption) _ (by lcg_sub) (by lcg_off) (by lcg_src) ⟨rfl, ?_⟩))
  k_with "PostD" => (dsimp only [PostD])
  k_with "subscriptTail" => (k_here; (with_reducible show wpAny _ _ (subscriptTail _ (Expr.Slice _ _ none _) (Value.bytes (List.toArray (_ :: _)) _) (Value.ref _)) _ _ _); (with_reducible rename Fr _ _ _ _ => F'); (with_reducible rename News _ _ _ _ => N'); (refine cut_tail (s := ⟨_, _, _, _, _⟩) F' N' (by omega) ?_); intro h' _ _ F' N')
  k_with "subscriptTail" => (k_here; (with_reducible show wpAny _ _ (subscriptTail _ _ (Value.bytes (List.toArray (_ :: _)) _) (Value.int 0 _)) _ _ _); (first | refine item_hdN (n := 1) (by rfl) (by omega) ?_ | refine item_hdN (n := 2) (by rfl) (by omega) ?_))
  k_with "subscriptTail Name Slice ref ref" => (k_here; (with_reducible show wpAny _ _ (subscriptTail _ (Expr.Slice _ _ none _) (Value.ref _) (Value.ref _)) _ _ _); (with_reducible rename Fr _ _ _ _ => F'); (with_reducible rename News _ _ _ _ => N'); (refine cut_last (s := ⟨_, _, _, _, _⟩) F' N' (by k_mem) (by omega) ?_); intro D' h' F' N' l1; (try k_lt l1); (try k_sweep))
  k_with "binaryOp Mult bytes int" => (k_here; (with_reducible show wpAny _ _ (binaryOp Operator.Mult (Value.bytes (List.toArray _) _) (Value.int _ _)) _ _ _); (first | refine bytes_mul1 (by decide) (by omega) ?_ | (refine bytes_mul0 (by decide) (by omega) ?_; intro _ _)))
  k_with "binaryOp Mult ref int" => (k_here; (with_reducible show wpAny _ _ (binaryOp Operator.Mult (Value.ref _) (Value.int _ _)) _ _ _); (first | refine list_mul1 (by decide) (by k_asm) (by k_asm) (by is_list) (by (simp only [List.length_cons, List.length_nil]; decide)) ?_ | refine list_mul0 (by decide) (by k_asm) (by k_asm) (by is_list) ?_); intro D' h' F' N' l1; (try k_lt l1); (try k_sweep))
  k_with "binaryOp Add ref ref" => (k_here; (with_reducible show wpAny _ _ (binaryOp Operator.Add (Value.ref _) (Value.ref _)) _ _ _); k_dflt (refine add_vs (by k_asm) (by k_asm) (by is_list) (by is_list) (by (simp only [List.length_cons, List.length_nil]; omega)) ?_); intro D' h' F' N' l1; (try k_lt l1); (try k_sweep))
  k_with "exec For Name Subscript cons nil" => (k_here; (rename Fr _ _ _ _ => lF'); (with_unfolding_all refine' For_invVF lF' ?z34k1 ?z34k2 ?_; (case z34k1 => exact rfl); (case z34k2 => exact rfl); k_whole))
  intro dp un gd cn cs a ccd cl outer A₀ base h₀ L m s Q E B F X T hk hdp hun hret hexc
  have hl5 : l.length ≤ 100000 := by omega
  revert X; k_fill; intro X
  refine wpAny_call ?_
  k_dflt (first | ktr_enter | fail "no entry")
  clear B F X T hexc
  k_with "call ref" => (k_here; (with_reducible show wpAny _ _ (call (Value.ref 137) [Value.bytes _ _, Value.int _ _]) _ _ _); k_dflt (refine' pure_use (ll _ _ _ _ _ hl5 _ _ _) ?k1 ?k2 ?k3 ?k4 ?k5 ?k6 ?k7 ?k8 (fun v9 h' tk' F' N' kF9 kN9 kk9 hR9 => ?_) (fun _ _ _ _ _ _ _ h9 => False.elim h9); (case k1 => k_asm); (case k2 => k_asm); (case k3 => k_asm); (case k4 => k_asm); (case k5 => k_asm); (case k6 => first | exact rfl | assumption); (case k7 => ktr_room); (case k8 => ktr_units); (obtain ⟨a9, D9, us9, z9, c9, tq9, hi9, e9, ha9, hn9, hD9, hd9, hne9⟩ := lu_read hread hR9; subst e9; replace N' := news_add kF9 (news_add kF9 N' hD9 hd9) ha9 hn9; have ne9 := news_ne kN9 hn9; have nd9 := news_ne kN9 hd9; (try simp only [AllNe, and_true] at ne9 nd9); have hq9 := hi9.len; clear kF9 kN9 kk9 ha9 hn9 hD9 hd9; (try dsimp only))))
  k_with "pyIter ref" => ((rename Fr _ _ _ _ => F0); (rename News _ _ _ _ => N0); k_dflt (refine' kst_KD (σ := LuSt) (src_list (by rfl) N0 (.head _)) (fun c => [(c.D, listOf c.vs.toArray c.c), (_, listOf us9.toArray 0), (a9, tupObj [.ref D9, .int (q : Nat) tq9])]) (fun c => [(Str.ofString "content", .bytes c.cs.toArray c.tc), (Str.ofString "texts", .ref c.D)]) [Str.ofString "text"] (LuW is) ⟨_, [], 0, [], _, []⟩ F0 (fun q9 hq9 => N0 q9 ?sub9) (fun _ => .tail _ (.head _)) ?hk9 ⟨rfl, by simp [chunksOf], by simp [textsOf]⟩ (fun c9 i9 v9 u9 h' tk' I9 oI9 hi8 hP9 hne8 hW9 F' N' => ?_) (fun c9 u9 h' tk' hW9 F' N' => ?_); (case sub9 => (revert q9; lcg_sub)); (case hk9 => exact List.forall_mem_cons.mpr ⟨by rfl, List.forall_mem_cons.mpr ⟨by rfl, List.forall_mem_nil _⟩⟩)); (all_goals (obtain ⟨D8, v8, c8, cs8, tc8, ts8⟩ := c9; have ev9 := hW9.e1; have hz9 := hW9.len hb hn; dsimp only at ev9 hz9 N' F'; subst ev9; obtain ⟨hz8, hz7⟩ := hz9; (try (have hne7 := allNe_led hne8; simp only [AllNe, and_true] at hne7)); have hb9 : (sv ts8).length = ts8.length := List.length_map ..)); (all_goals (try (obtain ⟨r9, t9, hr9, ⟨hb8, rfl⟩ | ⟨hb8, rfl⟩⟩ := banded_at hb hi9 hP9))))
  k_with "execs cons" => (k_fold; with_reducible refine wpAny_execs_cons ?_)
  w_top off
  k_steps
  · exact SignsAre.snoc (by assumption) (by assumption)
  · refine' kstKD_end ⟨_, _, _, _, _, _⟩ ?F ?N ?hn ?ho ?ha ?hS ?hk ?hr (lu_step1 (by assumption) (by assumption))
    case F => assumption
    case N => assumption
    case hk => exact List.forall_mem_cons.mpr ⟨by rfl, List.forall_mem_cons.mpr ⟨by rfl, List.forall_mem_nil _⟩⟩
    case hn => lcg_sub
    case ho => k_mem
    case ha => (refine List.forall_mem_cons.mpr ⟨?x9, List.forall_mem_cons.mpr ⟨fun e => hne8 _ (.tail _ (.head _)) e, List.forall_mem_cons.mpr ⟨fun e => hne8 _ (.tail _ (.tail _ (.head _))) e, List.forall_mem_nil _⟩⟩⟩; (case x9 => (clear hne7 hne8; k_ne)))
    case hS => exact .tail _ (.head _)
    case hr => intro z h1 h2 h3; (have h4 : ¬ z = Str.ofString "content" := h2 _ (.head _)); (have h5 : ¬ z = Str.ofString "texts" := h2 _ (.tail _ (.head _))); simp only [List.contains_cons, List.contains_nil, Bool.or_false, beq_eq_false_iff_ne, ne_eq] at h3; simp only [kstB, List.contains_cons, List.contains_nil, Bool.or_false, beq_iff_eq, h1, h3, h4, h5, if_false]
  · exact SignsAre.snoc (by assumption) (by assumption)
  · refine' kstKD_end ⟨_, _, _, _, _, _⟩ ?F ?N ?hn ?ho ?ha ?hS ?hk ?hr (lu_step2 (by assumption) (by assumption))
    case F => assumption
    case N => assumption
    case hk => exact List.forall_mem_cons.mpr ⟨by rfl, List.forall_mem_cons.mpr ⟨by rfl, List.forall_mem_nil _⟩⟩
    case hn => lcg_sub
    case ho => k_mem
    case ha => (refine List.forall_mem_cons.mpr ⟨?x9, List.forall_mem_cons.mpr ⟨fun e => hne8 _ (.tail _ (.head _)) e, List.forall_mem_cons.mpr ⟨fun e => hne8 _ (.tail _ (.tail _ (.head _))) e, List.forall_mem_nil _⟩⟩⟩; (case x9 => (clear hne7 hne8; k_ne)))
    case hS => exact .tail _ (.head _)
    case hr => intro z h1 h2 h3; (have h4 : ¬ z = Str.ofString "content" := h2 _ (.head _)); (have h5 : ¬ z = Str.ofString "texts" := h2 _ (.tail _ (.head _))); simp only [List.contains_cons, List.contains_nil, Bool.or_false, beq_eq_false_iff_ne, ne_eq] at h3; simp only [kstB, List.contains_cons, List.contains_nil, Bool.or_false, beq_iff_eq, h1, h3, h4, h5, if_false]
  · exact hret _ _ _ (Fr.keep (by assumption)) (lu_ret (by assumption) (by k_mem) (by k_mem) (by k_ne) (by assumption) (by rw [List.size_toArray]; omega))
end
end

-- part K15
section
open PySem PySem.Calls PySem.W PyProof.Rows Builtin Builtin.ObjectAttr PyProof.Rows.LCg
set_option maxRecDepth 100000
/-- a draw out of a ledger -/
theorem draw_use {w : World} {mean : ExcName → Option Value} {mg mb : Str → Option Value} {dp un : Nat} {gd : Option (List Code)} {cn : Str} {cs : Scope} {a : Addr} {ccd : Value} {cl : List (Str × Addr)} {outer : List Env} {A₀ : Around} {base h₀ : Heap} {L : Addr} {m : Str → Option Value} {news : List (Addr × Obj)} {s : Shared} {Q E : Value → Shared → Prop} {d D : Addr} {od ol : Obj} {k : Int} {tk : Tok} {g : Obj → List (Addr × Obj)} {g2 : Obj → Obj → List (Addr × Obj)}
    (B : Below A₀ base outer h₀) (F : Fr h₀ L s.heap m) (X : (hd.heap_39 w.params).In h₀) (N : News h₀ L s.heap news) (T : Top hd.view_39 looseH mean mg mb h₀) (hk : cs.kind = .function) (hdp : dp + 6 < recursionLimit) (hu : un + 300 < cLine)
    (U1 : UpdF d od news g) (U2 : ∀ o, UpdF D ol (g o) (g2 o)) (hne : d ≠ D) (hdk : Deck w od D ol) (h1 : 1 ≤ k) (h2 : k ≤ 100)
    (ret : ∀ r t h' tk' od' ol', 0 ≤ r → r < k → Fr h₀ L h' m → News h₀ L h' (g2 od' ol') → Deck w od' D ol' → Q (.int r t) { s with heap := h', toks := tk' }) :
    wpAny (model PySem.Challenge.rw_nt0268_01.row.prog w) (ktrTop dp un gd cn cs L a ccd cl outer) (call (.ref 125) [.ref d, .int k tk]) Q E s := by
  obtain ⟨pre, post, rfl, hg, a1, a2⟩ := U1.split
  have hDm : (D, ol) ∈ pre ++ (d, od) :: post := by
    obtain ⟨p2, q2, e, _, _, _⟩ := (U2 od).split
    rw [hg] at e
    rw [e]
    exact List.mem_append.mpr (.inr (.head _))
  have hdm : (d, od) ∈ pre ++ (d, od) :: post := List.mem_append.mpr (.inr (.head _))
  refine draws w mean mg mb dp un gd cn cs a ccd cl outer A₀ base h₀ L m s Q E d D od ol k tk B F X T hk hdp hu (fun p hp => ?_) hne hdk h1 h2 ?_
  · rcases List.mem_cons.mp hp with rfl | hp
    · exact N _ hdm
    · rw [List.mem_singleton] at hp; subst hp; exact N _ hDm
  · intro r t h' tk' od' ol' r1 r2 keep e1 e2 dk
    have off : ∀ b, b ≠ d → b ≠ D → b ∉ [d, D] := fun b x y hb => by
      rcases List.mem_cons.mp hb with h | h
      · exact x h
      · exact y (List.mem_singleton.mp h)
    have hLd : L ≠ d := fun e => (N _ hdm).2.1 e.symm
    have hLD : L ≠ D := fun e => (N _ hDm).2.1 e.symm
    refine ret r t h' tk' od' ol' r1 r2 ?_ ?_ dk
    · obtain ⟨oL, es, ep, ho, rr⟩ := F.ns
      refine ⟨⟨oL, es, ep, keep _ _ ho (off _ hLd hLD), rr⟩, fun b o e => keep _ _ (F.keep b o e) (off _ (fun q => ?_) fun q => ?_), F.above⟩
      · have := (N _ hdm).2.2; rw [q] at e; rw [show h₀.get? d = none from this] at e; cases e
      · have := (N _ hDm).2.2; rw [q] at e; rw [show h₀.get? D = none from this] at e; cases e
    · obtain ⟨p2, q2, e, hg2, b1, b2⟩ := (U2 od').split
      rw [hg] at e
      rw [hg2]
      have key : ∀ p, p ∈ pre ++ (d, od') :: post → p.1 ≠ D → h'.get? p.1 = some p.2 ∧ p.1 ≠ L ∧ h₀.get? p.1 = none := fun p hp hpD => by
        rcases List.mem_append.mp hp with h | h
        · have := N p (List.mem_append.mpr (.inl h))
          exact ⟨keep _ _ this.1 (off _ (a1 p h) hpD), this.2⟩
        · rcases List.mem_cons.mp h with rfl | h
          · exact ⟨e1, (N _ hdm).2⟩
          · have := N p (List.mem_append.mpr (.inr (.tail _ h)))
            exact ⟨keep _ _ this.1 (off _ (a2 p h) hpD), this.2⟩
      intro p hp
      rcases List.mem_append.mp hp with h | h
      · exact key p (by rw [e]; exact List.mem_append.mpr (.inl h)) (b1 p h)
      · rcases List.mem_cons.mp h with rfl | h
        · exact ⟨e2, (N _ hDm).2⟩
        · exact key p (by rw [e]; exact List.mem_append.mpr (.inr (.tail _ h))) (b2 p h)
/-- what a def that draws hands back -/
def Likely (w : World) (mean : ExcName → Option Value) (mg mb : Str → Option Value) : Prop :=
  ∀ (dp un : Nat) (gd : Option (List Code)) (cn : Str) (cs : Scope) (a : Addr) (ccd : Value) (cl : List (Str × Addr)) (outer : List Env) (A₀ : Around) (base h₀ : Heap) (L : Addr) (m : Str → Option Value) (s : Shared) (Q E : Value → Shared → Prop) (d D : Addr) (od ol : Obj),
    Below A₀ base outer h₀ → Fr h₀ L s.heap m → (hd.heap_39 w.params).In h₀ → Top hd.view_39 looseH mean mg mb h₀ → cs.kind = .function → dp + 16 < recursionLimit → un + 500 < cLine →
    News h₀ L s.heap [(d, od), (D, ol)] → d ≠ D → Deck w od D ol →
    (∀ l t h' tk' od' ol', l.length ≤ 200 → (∀ b o, s.heap.get? b = some o → b ∉ [d, D] → h'.get? b = some o) → h'.get? d = some od' → h'.get? D = some ol' → Deck w od' D ol' → Q (.bytes (List.toArray l) t) { s with heap := h', toks := tk' }) →
    wpAny (model PySem.Challenge.rw_nt0268_01.row.prog w) (ktrTop dp un gd cn cs L a ccd cl outer) (call (.ref 151) [.ref d]) Q E s
theorem small_of {b : Int} (h0 : 0 ≤ b) (h1 : b ≤ 60000) : Builtin.Range.small 0 b 1 = true ∧ Builtin.Range.rangeSize 0 b 1 = ((b.toNat : Nat) : Int) := by
  have h := small_ok (n := b.toNat) (k := 1) (by omega) (by decide) (by decide)
  have e : ((b.toNat : Nat) : Int) = b := Int.toNat_of_nonneg h0
  have e2 : nch b.toNat 1 = b.toNat := by unfold nch; by_cases hb : b.toNat = 0; rw [if_pos hb, hb]; rw [if_neg hb, Nat.div_one]; omega
  rw [e2, e] at h
  exact ⟨h.1, by rw [e]; exact h.2⟩
theorem item3b {prog : Program} {w : World} {A : Around} {E : Value → Shared → Prop} {s : Shared} {Q : Value → Shared → Prop} {value slice : PySem.Expr} {h₀ : Heap} {L l : Addr} {news : List (Addr × Obj)} {k : Int} {u t0 t1 t2 : Tok} {b0 b1 b2 : List UInt8} {c : Nat} (N : News h₀ L s.heap news) (hm : (l, listOf [.bytes b0.toArray t0, .bytes b1.toArray t1, .bytes b2.toArray t2].toArray c) ∈ news) (h0 : 0 ≤ k) (h1 : k < 3) (hz : b0.length = 16 ∧ b1.length = 16 ∧ b2.length = 16)
    (h : ∀ b t, b.length = 16 → Q (.bytes (List.toArray b) t) s) (hs : subscripted slice false (.ref l) (.int k u) = operate [.ref l, .int k u] (getItem (.ref l) (.int k u)) := by with_unfolding_all rfl) :
    wpAny (model prog w) A (subscriptTail value slice (.ref l) (.int k u)) Q E s := by
  have hl : s.heap.IsList l [.bytes b0.toArray t0, .bytes b1.toArray t1, .bytes b2.toArray t2].toArray := ⟨_, (N _ hm).1, rfl, _, rfl⟩
  have : k = 0 ∨ k = 1 ∨ k = 2 := by omega
  rcases this with rfl | rfl | rfl
  · exact item_litK hl (by decide) (by decide) rfl (h b0 t0 hz.1) hs
  · exact item_litK hl (by decide) (by decide) rfl (h b1 t1 hz.2.1) hs
  · exact item_litK hl (by decide) (by decide) rfl (h b2 t2 hz.2.2) hs
theorem lk_end {w : World} {Q E : Value → Shared → Prop} {s : Shared} {h₀ g h' : Heap} {L L' d D : Addr} {m m' : Str → Option Value} {news' : List (Addr × Obj)} {od' ol' : Obj} {l : List UInt8} {t : Tok} {tk' : Nat} (G : GSub s.heap g [d, D]) (F' : Fr g L' h' m') (N' : News g L' h' news') (hd : (d, od') ∈ news') (hD : (D, ol') ∈ news') (hdk : Deck w od' D ol') (hl : l.length ≤ 200)
    (hret : ∀ l t h' tk' od' ol', l.length ≤ 200 → (∀ b o, s.heap.get? b = some o → b ∉ [d, D] → h'.get? b = some o) → h'.get? d = some od' → h'.get? D = some ol' → Deck w od' D ol' → Q (.bytes (List.toArray l) t) { s with heap := h', toks := tk' }) :
    LeaveK h₀ L m g (fun r s' => match r with | .ok (.ret v) => Q v s' | .ok _ => False | .error e => E e s') (.bytes l.toArray t) { s with heap := h', toks := tk' } :=
  ⟨L', m', news', F', N', fun _ _ => hret l t h' tk' od' ol' hl (fun b o e hb => F'.keep b o (G b o e hb)) (N' _ hd).1 (N' _ hD).1 hdk⟩
structure LkSt where
  l : List UInt8
  t : Tok
  od : Obj
  ol : Obj
structure LkW (w : World) (D : Addr) (i : Nat) (c : LkSt) : Prop where
  len : c.l.length ≤ 40 * i
  deck : Deck w c.od D c.ol
theorem tk_le {α : Type} {l : List α} {m k : Nat} : (List.take m (List.drop k l)).length ≤ l.length := by
  rw [List.length_take, List.length_drop]; exact Nat.le_trans (Nat.min_le_right _ _) (Nat.sub_le _ _)
theorem tk_le0 {α : Type} {l : List α} {m : Nat} : (List.take m l).length ≤ l.length := by
  rw [List.length_take]; exact Nat.min_le_right _ _
theorem lk_len {l b c : List UInt8} {x y z : UInt8} {i m n k : Nat} (h : l.length ≤ 40 * i) (hb : b.length = 16) (hc : c.length = 14) :
    ((l ++ x :: y :: z :: List.take m (List.drop k b)) ++ List.take n c).length ≤ 40 * (i + 1) := by
  have h1 := @tk_le _ b m k
  have h2 := @tk_le0 _ c n
  rw [List.length_append, List.length_append, List.length_cons, List.length_cons, List.length_cons]; omega
theorem lk_a {b : List UInt8} {x y z : UInt8} {m k : Nat} (hb : b.length = 16) : [x, y, z].length + (List.take m (List.drop k b)).length ≤ 16777216 :=
  Nat.le_trans (Nat.add_le_add_left (Nat.le_trans tk_le (Nat.le_of_eq hb)) 3) (by decide)
theorem lk_b {l b : List UInt8} {x y z : UInt8} {m k : Nat} (hl : l.length ≤ 120) (hb : b.length = 16) : l.length + ([x, y, z] ++ List.take m (List.drop k b)).length ≤ 16777216 := by
  have h1 := @tk_le _ b m k
  rw [List.length_append]; show _ + (3 + _) ≤ _; omega
theorem lk_c {l b c : List UInt8} {x y z : UInt8} {m k n : Nat} (hl : l.length ≤ 120) (hb : b.length = 16) (hc : c.length = 14) : (l ++ x :: y :: z :: List.take m (List.drop k b)).length + (List.take n c).length ≤ 16777216 := by
  have h1 := @tk_le _ b m k
  have h2 := @tk_le0 _ c n
  rw [List.length_append, List.length_cons, List.length_cons, List.length_cons]; omega
theorem lk_d {l b c : List UInt8} {x y z : UInt8} {m k n : Nat} (hl : l.length ≤ 120) (hb : b.length = 16) (hc : c.length = 14) : (l ++ ([x, y, z] ++ List.take m (List.drop k b))).length + (List.take n c).length ≤ 16777216 := lk_c hl hb hc
local macro_rules | `(tactic| units_room) => `(tactic| ktr_units)
set_option maxHeartbeats 8000000 in
theorem lk (w : World) (mean : ExcName → Option Value) (mg mb : Str → Option Value) : Likely w mean mg mb := by
  k_with_none
  k_with "k_ne" => (refine neN ?_; (try dsimp only); first | with_reducible assumption | (with_reducible refine Ne.symm ?_; with_reducible assumption) | (with_reducible refine' ne_lt ?z1q1 ?z1q2; (case z1q1 => with_reducible assumption); (case z1q2 => (with_reducible ((repeat (first | exact List.mem_cons_self | refine List.mem_cons_of_mem _ ?_)); done)))) | (with_reducible refine' ne_gt ?z1q1 ?z1q2; (case z1q1 => with_reducible assumption); (case z1q2 => (with_reducible ((repeat (first | exact List.mem_cons_self | refine List.mem_cons_of_mem _ ?_)); done)))) | (with_reducible refine' ne_of ?z1q1 ?z1q2; (case z1q1 => with_reducible assumption); (case z1q2 => (with_reducible ((repeat (first | exact List.mem_cons_self | refine List.mem_cons_of_mem _ ?_)); done)))) | (with_reducible refine' ne_fo ?z1q1 ?z1q2; (case z1q1 => with_reducible assumption); (case z1q2 => (with_reducible ((repeat (first | exact List.mem_cons_self | refine List.mem_cons_of_mem _ ?_)); done)))) | (with_reducible refine' off_I ?z1q1 ?z1q2; (case z1q1 => with_reducible assumption); (case z1q2 => (with_reducible ((repeat (first | exact List.mem_cons_self | refine List.mem_cons_of_mem _ ?_)); done)))) | (with_reducible refine' off_C ?z1q1 ?z1q2; (case z1q1 => with_reducible assumption); (case z1q2 => (with_reducible ((repeat (first | exact List.mem_cons_self | refine List.mem_cons_of_mem _ ?_)); done)))) | (with_reducible refine' off_D ?z1q1 ?z1q2; (case z1q1 => with_reducible assumption); (case z1q2 => (with_reducible ((repeat (first | exact List.mem_cons_self | refine List.mem_cons_of_mem _ ?_)); done)))) | (with_reducible refine' I_off ?z1q1 ?z1q2; (case z1q1 => with_reducible assumption); (case z1q2 => (with_reducible ((repeat (first | exact List.mem_cons_self | refine List.mem_cons_of_mem _ ?_)); done)))) | (with_reducible refine' C_off ?z1q1 ?z1q2; (case z1q1 => with_reducible assumption); (case z1q2 => (with_reducible ((repeat (first | exact List.mem_cons_self | refine List.mem_cons_of_mem _ ?_)); done)))) | (with_reducible refine' D_off ?z1q1 ?z1q2; (case z1q1 => with_reducible assumption); (case z1q2 => (with_reducible ((repeat (first | exact List.mem_cons_self | refine List.mem_cons_of_mem _ ?_)); done)))) | (first | exact And.left (by with_reducible assumption) | exact And.left (And.right (by with_reducible assumption)) | exact And.right (And.right (by with_reducible assumption)) | exact And.right (by with_reducible assumption) | exact And.left (And.right (And.right (by with_reducible assumption))) | exact And.left (And.right (And.right (And.right (by with_reducible assumption)))) | exact And.right (And.right (And.right (And.right (by with_reducible assumption)))) | exact And.right (And.right (And.right (by with_reducible assumption))) | exact And.left (And.left (by with_reducible assumption)) | exact And.left (And.right (And.left (by with_reducible assumption))) | exact And.right (And.right (And.left (by with_reducible assumption)))) | (with_reducible refine Ne.symm ?_; first | exact And.left (by with_reducible assumption) | exact And.left (And.right (by with_reducible assumption)) | exact And.right (And.right (by with_reducible assumption)) | exact And.right (by with_reducible assumption) | exact And.left (And.right (And.right (by with_reducible assumption))) | exact And.left (And.right (And.right (And.right (by with_reducible assumption)))) | exact And.right (And.right (And.right (And.right (by with_reducible assumption)))) | exact And.right (And.right (And.right (by with_reducible assumption))) | exact And.left (And.left (by with_reducible assumption)) | exact And.left (And.right (And.left (by with_reducible assumption))) | exact And.right (And.right (And.left (by with_reducible assumption)))) | omega)
  k_with "ktr_enter" => (refine' enterPC ?z2k1 ?z2k2 ?z2k3 ?z2k5 ?z2kA ?z2kF ?z2kK ?z2k6 ?z2k7 ?z2k8 ?z2k9 ?z2kB ?z2kD ?_ ?z2c2 ?z2c3 ?z2c4; (case z2kA => exact rfl); (case z2kF => exact rfl); (case z2kK => assumption); (case z2k1 => k_asm); (case z2k2 => k_asm); (case z2k3 => k_asm); (case z2k5 => k_asm); (case z2k6 => k_is); (case z2k7 => k_is); (case z2k8 => ktr_room); (case z2k9 => first | exact BindsTo.of_eq rfl | exact binds_K (by k_in) rfl (by k_is) rfl rfl rfl); (case z2kB => exact rfl); (case z2kD => decide +kernel); (case z2c2 => exact rfl); (case z2c3 => exact rfl); (case z2c4 => exact rfl); k_whole; intro L' h' tk' cells' F' N' Y' B' X' T'; k_cells Y'; (try simp only [List.cons_append, List.nil_append, List.append_nil] at N'); (try dsimp only); (try k_fold))
  k_with "ktr_enter" => (refine' enterP ?z3k1 ?z3k2 ?z3k3 ?z3k5 ?z3kA ?z3kF ?z3kK ?z3k6 ?z3k7 ?z3k8 ?z3k9 ?z3kB ?_ ?z3c2 ?z3c3 ?z3c4 ?z3c5; (case z3kA => exact rfl); (case z3kF => exact rfl); (case z3kK => assumption); (case z3k1 => k_asm); (case z3k2 => k_asm); (case z3k3 => k_asm); (case z3k5 => k_asm); (case z3k6 => k_is); (case z3k7 => k_is); (case z3k8 => ktr_room); (case z3k9 => first | exact BindsTo.of_eq rfl | exact binds_K (by k_in) rfl (by k_is) rfl rfl rfl); (case z3c5 => decide); (case z3kB => exact locs rfl); (case z3c2 => exact rfl); (case z3c3 => exact rfl); (case z3c4 => exact rfl); k_whole; intro L' h' F' N' B' X' T'; (try dsimp only); (try k_fold))
  k_with "exec Raise some none" => (k_here; (with_reducible show wpAny _ _ (exec (Stmt.Raise (some (Expr.Call (Expr.Name ("BadLine" : Str) _) _ _ _)) none _) _) _ _ _); refine raise_own_init (C := 57) rfl ?_)
  k_with "call ref" => (k_here; (with_reducible show wpAny _ _ (call (Value.ref 57) _) _ _ _); k_dflt (refine' call_excK (C := 57) (fI := 29) ?z5k1 ?z5k2 ?z5k3 PySem.F.excBase_Exception chainBL ?z5kC ?z5k4 ?z5k5 ?z5k6 ?_; (case z5k1 => k_asm); (case z5k2 => k_asm); (case z5k3 => k_asm); (case z5kC => k_is); (case z5k4 => k_is); (case z5k5 => k_is); (case z5k6 => size_fits); k_whole; intro x' d' h' F' N' l1 l2; (try k_lt l1); (try k_lt2 l2); (try k_sweep); k_enter))
  k_with "setAttr ref" => (k_here; k_dflt (refine' set_excK (pre := []) (C := 57) ?z6k1 ?z6k2 ?z6k3 ?z6h1 ?z6h2 ?z6k4 ?z6k5 ?z6k6 ?z6k7 ?z6k8 ?z6k9 ?z6k10 ?_; (case z6k1 => k_asm); (case z6k2 => k_asm); (case z6k3 => k_asm); (case z6h1 => exact List.forall_mem_nil _); (case z6h2 => k_all); (case z6k4 => k_is); (case z6k5 => exact rfl); (case z6k6 => exact rfl); (case z6k7 => decide); (case z6k8 => exact passBL); (case z6k9 => k_is); (case z6k10 => k_is); k_whole; intro x' h' F' N' l1; (try simp only [List.nil_append] at N')))
  k_with "ThrowX" => (k_here; k_dflt (refine' throwX_of ?z7k1 ?z7k2 ?z7k3 ?z7k4 ?z7k5 ?z7k6 ?_; (case z7k1 => k_asm); (case z7k2 => k_asm); (case z7k3 => k_asm); (case z7k4 => k_mem); (case z7k5 => k_is); (case z7k6 => k_is); k_whole))
  k_with "leaving ref" => (k_here; k_dflt (refine' leave_first ?z8k1 ?z8k2 ?z8k3 ?z8k4 ?z8k5 ?z8k6 ?z8k7 ?z8k8 ?_; (case z8k1 => k_asm); (case z8k2 => k_asm); (case z8k3 => k_asm); (case z8k4 => k_mem); (case z8k5 => k_mem); (case z8k6 => (intro _ q9; cases q9)); (case z8k7 => exact notModule); (case z8k8 => exact rfl); k_whole; intro h' R'))
  k_with "kba_size" => first | omega | ((simp only [List.length_append, List.length_take, List.length_drop, List.length_cons, List.length_nil]); omega)
  k_with "call builtin:len" => (k_here; (with_reducible show wpAny _ _ (call (Value.builtin "len") [Value.bytes (List.toArray _) _]) _ _ _); (refine bytes_len (by kba_size) ?_); (try simp only [List.length_append, List.length_take, List.length_drop]))
  k_with "binaryOp Add bytes bytes" => (k_here; (with_reducible show wpAny _ _ (binaryOp Operator.Add (Value.bytes (List.toArray _) _) (Value.bytes (List.toArray _) _)) _ _ _); (refine bytes_add (by kba_size) ?_); intro _ _)
  k_with "compareOp Eq bytes bytes" => (k_here; (with_reducible show wpAny _ _ (compareOp CmpOp.Eq (Value.bytes (List.toArray _) _) (Value.bytes (List.toArray _) _)) _ _ _); (refine bytes_eq ?_))
  k_with "compareOp NotEq bytes bytes" => (k_here; (with_reducible show wpAny _ _ (compareOp CmpOp.NotEq (Value.bytes (List.toArray _) _) (Value.bytes (List.toArray _) _)) _ _ _); (refine bytes_ne ?_))
  k_with "subscriptTail" => (k_here; (with_reducible show wpAny _ _ (subscriptTail _ (Expr.Slice _ _ none _) (Value.bytes (List.toArray _) _) (Value.ref _)) _ _ _); (with_reducible rename Fr _ _ _ _ => F'); (with_reducible rename News _ _ _ _ => N'); (first | refine cut_mid (s := ⟨_, _, _, _, _⟩) F' N' (by kba_size) (by kba_size) (by kba_size) ?_ | refine cut_from (s := ⟨_, _, _, _, _⟩) F' N' (by kba_size) (by kba_size) ?_ | refine cut_to (s := ⟨_, _, _, _, _⟩) F' N' (by kba_size) (by kba_size) ?_ | refine cut_back (s := ⟨_, _, _, _, _⟩) F' N' (by kba_size) (by kba_size) ?_); intro h' _ _ F' N')
  k_with "exec For Name Subscript cons nil" => (k_here; (rename Fr _ _ _ _ => lF'); (with_unfolding_all refine' For_invVF lF' ?z15k1 ?z15k2 ?_; (case z15k1 => exact rfl); (case z15k2 => exact rfl); k_whole))
  k_with "leaving ref" => (k_here; k_dflt (refine' leave_next ?z16k1 ?z16k2 ?z16k3 ?z16k7 ?z16k8 ?_; (case z16k3 => assumption); (case z16k1 => assumption); (case z16k2 => assumption); (case z16k7 => exact notModule); (case z16k8 => exact rfl); k_whole; intro h' R'))
  k_with "call builtin:list.append" => (k_here; (with_reducible show wpAny _ _ (call (Value.builtin _) [Value.ref _, _]) _ _ _); k_dflt (refine' append_L ?z17k1 ?z17k2 ?z17k3 ?z17z ?_; (case z17k1 => k_asm); (case z17k2 => k_asm); (case z17k3 => k_upd); (case z17z => kba_size); k_whole); intro h' F' N'; (try k_sweep))
  k_with "compareOp Eq bytes int" => (with_reducible refine eq_bytes_int ?_)
  k_with "compareOp Eq int bytes" => (with_reducible refine eq_int_bytes ?_)
  k_with "call type:bytes" => (k_here; (with_reducible show wpAny _ _ (call (Value.type _) [Value.ref _]) _ _ _); k_dflt (refine' bytes_mk ?z20F ?z20N ?z20m ?z20i ?z20z ?z20h ?_; (case z20F => k_asm); (case z20N => k_asm); (case z20m => k_mem); (case z20i => (first | assumption | exact .nil | exact .cons .nil | exact .cons (.cons .nil) | exact .cons (.cons (.cons .nil)) | exact .cons (.cons (.cons (.cons .nil))))); (case z20z => first | omega | (simp only [List.length_cons, List.length_nil]; omega)); (case z20h => with_unfolding_all rfl); k_whole); intro h' t' k' F' N'; (try k_sweep))
  k_with "call ref" => (k_here; (with_reducible show wpAny _ _ (call (Value.ref 125) [Value.ref _, Value.int _ _]) _ _ _); (rename Deck _ _ _ _ => dk9); k_dflt (refine' draw_use ?z21k1 ?z21k2 ?z21k3 ?z21k4 ?z21k5 ?z21k6 ?z21k7 ?z21k8 ?z21u1 ?z21u2 ?z21ne dk9 ?z21a ?z21b ?_; (case z21k1 => k_asm); (case z21k2 => k_asm); (case z21k3 => k_asm); (case z21k4 => k_asm); (case z21k5 => k_asm); (case z21k6 => first | exact rfl | assumption); (case z21k7 => ktr_room); (case z21k8 => ktr_units); (case z21u1 => k_updF); (case z21u2 => (intro o9; k_updF)); (case z21ne => k_ne); (case z21a => first | decide | omega); (case z21b => first | decide | omega); k_whole); intro r9 t9 h' tk' od9 ol9 r91 r92 F' N' dk8; clear dk9; (try dsimp only at N'); (try dsimp only))
  k_with "kba_size" => first | exact lk_a (by with_reducible assumption) | exact lk_b (by with_reducible assumption) (by with_reducible assumption) | exact lk_c (by with_reducible assumption) (by with_reducible assumption) rfl | exact lk_d (by with_reducible assumption) (by with_reducible assumption) rfl
  k_with "PostD" => (dsimp only [PostD])
  k_with "exec For Name Call cons nil" => (k_here; (rename Fr _ _ _ _ => lF'); (with_unfolding_all refine' For_invVF lF' ?z24k1 ?z24k2 ?_; (case z24k1 => exact rfl); (case z24k2 => exact rfl); k_whole))
  k_with "subscriptTail" => (k_here; (with_reducible show wpAny _ _ (subscriptTail _ (Expr.Call _ _ _ _) (Value.ref _) (Value.int _ _)) _ _ _); k_dflt (refine' item3b ?z25k1 ?z25k2 ?z25k3 ?z25k4 ?z25k5 ?_ ?z25k6; (case z25k1 => k_asm); (case z25k2 => k_mem); (case z25k3 => omega); (case z25k4 => omega); (case z25k5 => decide); (case z25k6 => with_unfolding_all rfl); k_whole); intro b9 t9 hb9)
  intro dp un gd cn cs a ccd cl outer A₀ base h₀ L m s Q E d D od ol B F X T hk hdp hun N hne hdeck hret
  have hne1 : @Ne Nat d D := hne
  have hne2 : @Ne Nat D d := Ne.symm hne
  revert X; k_fill; intro X
  refine wpAny_call ?_
  k_dflt (refine' code_defG ?k1 ?k2 ?k3 ?k4 ?k5 ?kA ?kF ?kK ?k6 ?k7 ?k8 ?k9 ?kB ?_ ?c2 ?c3 ?c4 ?c5; (case kA => exact rfl); (case kF => exact rfl); (case kK => assumption); (case k1 => k_asm); (case k2 => k_asm); (case k3 => k_asm); (case k4 => k_asm); (case k5 => k_asm); (case k6 => k_is); (case k7 => k_is); (case k8 => ktr_room); (case k9 => exact BindsTo.of_eq rfl); (case c5 => decide); (case kB => exact locs rfl); (case c2 => exact rfl); (case c3 => exact rfl); (case c4 => exact rfl); k_whole; intro g' L' h' FG' F' N' B' X' T' kG'; (try dsimp only); (try k_fold))
  clear B F X T
  k_with "pyIter ref" => ((rename Fr _ _ _ _ => F0); (rename News _ _ _ _ => N0); k_dflt (refine' kst_KD (σ := LkSt) (src_range (by rfl) (by assumption) (small_of (by omega) (by omega)).1 (small_of (by omega) (by omega)).2) (fun c => [(d, c.od), (D, c.ol)]) (fun c => [(Str.ofString "octets", .bytes c.l.toArray c.t)]) [Str.ofString "many", Str.ofString "head"] (LkW w D) ⟨[], _, _, _⟩ F0 (fun q9 hq9 => N0 q9 ?sub9) (fun _ => trivial) ?hk9 ⟨by simp, by assumption⟩ (fun c9 i9 v9 u9 h' tk' I9 oI9 hi8 hP9 hne8 hW9 F' N' => ?_) (fun c9 u9 h' tk' hW9 F' N' => ?_); (case sub9 => (revert q9; lcg_sub)); (case hk9 => exact List.forall_mem_cons.mpr ⟨by rfl, List.forall_mem_nil _⟩)); (all_goals (obtain ⟨l8, t8, od8, ol8⟩ := c9; obtain ⟨hz9, dk9⟩ := hW9; dsimp only at hz9 dk9 N' F')); (all_goals (try (have hne7 := allNe_led hne8; simp only [AllNe, and_true] at hne7))); (all_goals (try (obtain ⟨t7, rfl⟩ := hP9))); (all_goals (try (have hs9 : l8.length ≤ 120 := by omega))))
  k_with "execs cons" => (k_fold; with_reducible refine wpAny_execs_cons ?_)
  w_top off
  k_steps
  · refine' kstKD_end ⟨_, _, _, _⟩ ?F ?N ?hn ?ho ?ha ?hS ?hk ?hr ⟨?len, ?dk⟩
    case F => assumption
    case N => assumption
    case hn => lcg_sub
    case hk => exact List.forall_mem_cons.mpr ⟨by rfl, List.forall_mem_nil _⟩
    case ho => k_mem
    case ha => first | exact hne8 | exact led_of_allNe (by simp only [AllNe, and_true]; with_reducible assumption) | k_all
    case hS => exact trivial
    case dk => assumption
    case len => exact lk_len hz9 (by with_reducible assumption) rfl
    case hr => intro z h1 h2 h3; (have h4 : ¬ z = Str.ofString "octets" := h2 _ (.head _)); simp only [List.contains_cons, List.contains_nil, Bool.or_false, Bool.or_eq_false_iff, beq_eq_false_iff_ne, ne_eq] at h3; simp only [kstB, List.contains_cons, List.contains_nil, Bool.or_false, Bool.or_eq_true, beq_iff_eq, h1, h3.1, h3.2, h4, if_false, or_self, Bool.false_eq_true]
  · exact lk_end (s := s) (by assumption) (by assumption) (by assumption) (.head _) (.tail _ (.head _)) (by assumption) (by omega) hret
end

-- part PL
section
set_option maxRecDepth 100000
open PySem PySem.Calls PySem.W PyProof.Rows Builtin Builtin.ObjectAttr
theorem hexD_fig {d : Nat} (h : d < 16) : figZ (((hexD d).toNat : Nat) : Int) = some (d : Int) := by
  have key : ∀ d : Fin 16, figZ (((hexD d.val).toNat : Nat) : Int) = some (d.val : Int) := by decide +kernel
  exact key ⟨d, h⟩
theorem head_of {a b c d : Nat} (ha : a < 16) (hb : b < 16) (hc : c < 16) (hd : d < 16) :
    headZ ([hexD a, hexD b, hexD c, hexD d].map fun c => (c.toNat : Int)) 0 = some (((a * 4096 + b * 256 + c * 16 + d : Nat) : Nat) : Int) := by
  simp only [List.map_cons, List.map_nil, headZ, hexD_fig ha, hexD_fig hb, hexD_fig hc, hexD_fig hd]
  congr 1
  omega
theorem head_num {n : Nat} (h : n < 65536) : headZ ([hexD (n / 4096), hexD (n / 256 % 16), hexD (n / 16 % 16), hexD (n % 16)].map fun c => (c.toNat : Int)) 0 = some ((n : Nat) : Int) := by
  rw [head_of (by omega) (by omega) (by omega) (by omega)]
  congr 2
  omega
/-- an item that can be framed -/
def Fits : Item → Prop
  | .mark k => 0 ≤ k ∧ k ≤ 2
  | .data l => l.length ≤ 60000
theorem cut_pre {α : Type} {pre x post : List α} {n : Nat} (hn : n = x.length) : ((pre ++ (x ++ post)).drop pre.length).take n = x := by
  subst hn
  rw [List.drop_left, List.take_left]
theorem line_framed {pre post : List UInt8} {it : Item} (h : Fits it) : lineS (pre ++ (framed it ++ post)) pre.length = some (it, pre.length + (framed it).length) := by
  cases it with
  | mark k =>
    have hk : k = 0 ∨ k = 1 ∨ k = 2 := by have := h.1; have := h.2; omega
    have e4 : ((pre ++ (framed (.mark k) ++ post)).drop pre.length).take 4 = framed (.mark k) := cut_pre rfl
    unfold lineS
    rw [if_neg (by simp only [List.length_append]; have : (framed (.mark k)).length = 4 := rfl; omega), e4]
    rcases hk with rfl | rfl | rfl <;> rfl
  | data l =>
    have hl : l.length ≤ 60000 := h
    have hlen : (framed (.data l)).length = l.length + 4 := framed_len l
    have e4 : ((pre ++ (framed (.data l) ++ post)).drop pre.length).take 4 = [hexD ((l.length + 4) / 4096), hexD ((l.length + 4) / 256 % 16), hexD ((l.length + 4) / 16 % 16), hexD ((l.length + 4) % 16)] := by
      show ((pre ++ (([_, _, _, _] ++ l) ++ post)).drop pre.length).take 4 = _
      rw [List.append_assoc]
      exact cut_pre rfl
    have e5 : ((pre ++ (framed (.data l) ++ post)).drop (pre.length + 4)).take l.length = l := by
      have e : pre ++ (framed (.data l) ++ post) = (pre ++ [hexD ((l.length + 4) / 4096), hexD ((l.length + 4) / 256 % 16), hexD ((l.length + 4) / 16 % 16), hexD ((l.length + 4) % 16)]) ++ (l ++ post) := by
        show pre ++ (([_, _, _, _] ++ l) ++ post) = _
        simp
      rw [e, show pre.length + 4 = (pre ++ [hexD ((l.length + 4) / 4096), hexD ((l.length + 4) / 256 % 16), hexD ((l.length + 4) / 16 % 16), hexD ((l.length + 4) % 16)]).length from by simp]
      exact cut_pre rfl
    unfold lineS
    rw [if_neg (by simp only [List.length_append]; omega), e4, head_num (by omega)]
    dsimp only
    rw [if_neg (by omega), if_neg (by omega), if_neg (by omega), if_neg (by simp only [List.length_append]; omega)]
    have e6 : (((l.length + 4 : Nat) : Int)).toNat - 4 = l.length := by omega
    have e7 : (((l.length + 4 : Nat) : Int)).toNat = l.length + 4 := by omega
    rw [e6, e5, e7, hlen]
theorem frm_cons (it : Item) (is : List Item) : frames (it :: is) = framed it ++ frames is := rfl
theorem frm_app (is js : List Item) : frames (is ++ js) = frames is ++ frames js := by
  unfold frames
  rw [List.map_append, List.flatten_append]
theorem frm_nil : frames [] = [] := rfl
theorem line_at {L pre post : List UInt8} {it : Item} {p : Nat} (e : L = pre ++ (framed it ++ post)) (hp : p = pre.length) (h : Fits it) : lineS L p = some (it, p + (framed it).length) := by
  subst e hp
  exact line_framed h
theorem Banded.fits {it : Item} (h : Banded it) : Fits it := by
  obtain ⟨r, hr, rfl | rfl⟩ := h
  · show (1 :: r).length ≤ 60000; rw [List.length_cons]; omega
  · show (2 :: r).length ≤ 60000; rw [List.length_cons]; omega
/-- over banded items -/
theorem unband_banded {L post : List UInt8} : ∀ {is : List Item} {pre : List UInt8} {p n : Nat} {cs ts : List (List UInt8)}, (∀ it ∈ is, Banded it) → L = pre ++ (frames is ++ post) → p = pre.length →
    unbandF L (n + is.length) p cs ts = unbandF L n (p + (frames is).length) (cs ++ chunksOf is) (ts ++ textsOf is)
  | [], pre, p, n, cs, ts, _, _, _ => by simp [frames, chunksOf, textsOf]
  | it :: is, pre, p, n, cs, ts, hb, e, hp => by
    have h1 := hb it (.head _)
    have e' : L = pre ++ (framed it ++ (frames is ++ post)) := by rw [e, frm_cons, List.append_assoc]
    have hl := line_at e' hp h1.fits
    have ih := fun cs ts => unband_banded (L := L) (post := post) (is := is) (pre := pre ++ framed it) (p := p + (framed it).length) (n := n) (cs := cs) (ts := ts) (fun x hx => hb x (.tail _ hx)) (by rw [e', List.append_assoc]) (by rw [List.length_append, hp])
    have ef : p + (frames (it :: is)).length = p + (framed it).length + (frames is).length := by rw [frm_cons, List.length_append]; omega
    rw [ef, show n + (it :: is).length = (n + is.length) + 1 from rfl]
    obtain ⟨r, hr, rfl | rfl⟩ := h1
    · rw [unbandF, hl]
      dsimp only
      rw [if_pos rfl, ih]
      have a1 : chunksOf (Item.data (1 :: r) :: is) = r :: chunksOf is := rfl
      have a2 : textsOf (Item.data (1 :: r) :: is) = textsOf is := rfl
      rw [a1, a2, List.append_assoc]
      rfl
    · rw [unbandF, hl]
      dsimp only
      rw [if_neg (by decide), if_pos rfl, ih]
      have a1 : chunksOf (Item.data (2 :: r) :: is) = chunksOf is := rfl
      have a2 : textsOf (Item.data (2 :: r) :: is) = r :: textsOf is := rfl
      rw [a1, a2, List.append_assoc]
      rfl
theorem read_banded {L post : List UInt8} : ∀ {is : List Item} {pre : List UInt8} {p n : Nat}, (∀ it ∈ is, Banded it) → L = pre ++ (frames is ++ post) → p = pre.length →
    readF L (n + is.length) p = preI is (readF L n (p + (frames is).length))
  | [], pre, p, n, _, _, _ => by
    rw [frm_nil]
    show readF L n p = preI [] (readF L n p)
    cases readF L n p with
    | none => rfl
    | some x => rfl
  | it :: is, pre, p, n, hb, e, hp => by
    have h1 := hb it (.head _)
    have e' : L = pre ++ (framed it ++ (frames is ++ post)) := by rw [e, frm_cons, List.append_assoc]
    have hl := line_at e' hp h1.fits
    have ih := read_banded (L := L) (post := post) (is := is) (pre := pre ++ framed it) (p := p + (framed it).length) (n := n) (fun x hx => hb x (.tail _ hx)) (by rw [e', List.append_assoc]) (by rw [List.length_append, hp])
    have ef : p + (frames (it :: is)).length = p + (framed it).length + (frames is).length := by rw [frm_cons, List.length_append]; omega
    have hlt : ¬ L.length ≤ p := by
      have : 4 ≤ (framed it).length := by
        obtain ⟨r, _, rfl | rfl⟩ := h1
        · rw [framed_len]; omega
        · rw [framed_len]; omega
      rw [e', hp]
      simp only [List.length_append]
      omega
    have hs : stops it = false := by obtain ⟨r, _, rfl | rfl⟩ := h1 <;> rfl
    rw [ef, show n + (it :: is).length = (n + is.length) + 1 from rfl, readF, if_neg hlt, hl]
    dsimp only
    rw [hs, if_neg (by decide), ih, preI_preI]
    rfl
/-- each frame holds four octets at least -/
theorem frames_big : ∀ {is : List Item}, (∀ it ∈ is, Banded it) → 4 * is.length ≤ (frames is).length
  | [], _ => by simp
  | it :: is, hb => by
    have ih := frames_big (is := is) fun x hx => hb x (.tail _ hx)
    have : 4 ≤ (framed it).length := by
      obtain ⟨r, _, rfl | rfl⟩ := hb it (.head _)
      · rw [framed_len]; omega
      · rw [framed_len]; omega
    rw [frm_cons, List.length_append, List.length_cons]
    omega
theorem unband_at {L pre post : List UInt8} {is : List Item} {it : Item} {p : Nat} (hb : ∀ it ∈ is, Banded it) (e : L = pre ++ (frames is ++ (framed it ++ post))) (hp : p = pre.length) (hf : Fits it) :
    ∃ n, unbandF L (L.length + 1) p [] [] = unbandF L (n + 1) (p + (frames is).length) (chunksOf is) (textsOf is) ∧ lineS L (p + (frames is).length) = some (it, p + (frames is).length + (framed it).length) := by
  have hbig := frames_big hb
  have hlen : L.length = pre.length + ((frames is).length + ((framed it).length + post.length)) := by rw [e]; simp only [List.length_append]
  refine ⟨L.length - is.length, ?_, ?_⟩
  · have h := unband_banded (L := L) (post := framed it ++ post) (is := is) (pre := pre) (p := p) (n := L.length - is.length + 1) (cs := []) (ts := []) hb e hp
    rw [show L.length - is.length + 1 + is.length = L.length + 1 from by omega] at h
    rw [h, List.nil_append, List.nil_append]
  · refine line_at (pre := pre ++ frames is) (post := post) ?_ ?_ hf
    · rw [e, List.append_assoc]
    · rw [hp, List.length_append]
/-- a row of banded items and a flush -/
theorem unband_flush {L pre post : List UInt8} {is : List Item} {p : Nat} (hb : ∀ it ∈ is, Banded it) (e : L = pre ++ (frames (is ++ [.mark 0]) ++ post)) (hp : p = pre.length) :
    unbandF L (L.length + 1) p [] [] = .val (chunksOf is) (textsOf is) (p + (frames (is ++ [.mark 0])).length) := by
  have e2 : frames (is ++ [.mark 0]) = frames is ++ framed (.mark 0) := by rw [frm_app, frm_cons, frm_nil, List.append_nil]
  obtain ⟨n, h1, h2⟩ := unband_at (L := L) (post := post) (it := .mark 0) hb (by rw [e, e2, List.append_assoc]) hp ⟨by decide, by decide⟩
  rw [h1, unbandF, h2]
  dsimp only
  rw [if_pos rfl, e2, List.length_append, Nat.add_assoc]
theorem unband_told {L pre post r : List UInt8} {is : List Item} {p : Nat} (hb : ∀ it ∈ is, Banded it) (e : L = pre ++ (frames is ++ (framed (.data (3 :: r)) ++ post))) (hp : p = pre.length) (hr : r.length ≤ 1000) :
    unbandF L (L.length + 1) p [] [] = .told r := by
  obtain ⟨n, h1, h2⟩ := unband_at (it := .data (3 :: r)) hb e hp (by show (3 :: r).length ≤ 60000; rw [List.length_cons]; omega)
  rw [h1, unbandF, h2]
  dsimp only
  rw [if_neg (by decide), if_neg (by decide), if_pos rfl]
/-- an item that unband refuses -/
def Refused : Item → Prop
  | .mark k => k = 1 ∨ k = 2
  | .data [] => True
  | .data (b :: r) => b ≠ 1 ∧ b ≠ 2 ∧ b ≠ 3 ∧ r.length ≤ 100
theorem unband_bad {L pre post : List UInt8} {is : List Item} {it : Item} {p : Nat} (hb : ∀ it ∈ is, Banded it) (e : L = pre ++ (frames is ++ (framed it ++ post))) (hp : p = pre.length) (hr : Refused it) :
    unbandF L (L.length + 1) p [] [] = .bad := by
  have hf : Fits it := by
    match it, hr with
    | .mark k, h => rcases h with rfl | rfl <;> exact ⟨by decide, by decide⟩
    | .data [], _ => exact Nat.zero_le _
    | .data (b :: r), h => show (b :: r).length ≤ 60000; have := h.2.2.2; rw [List.length_cons]; omega
  obtain ⟨n, h1, h2⟩ := unband_at hb e hp hf
  rw [h1, unbandF, h2]
  match it, hr with
  | .mark k, h => rcases h with rfl | rfl <;> rfl
  | .data [], _ => rfl
  | .data (b :: r), h =>
    dsimp only
    rw [if_neg h.1, if_neg h.2.1, if_neg h.2.2.1]
/-- no end -/
theorem unband_cut {L : List UInt8} {is : List Item} (hb : ∀ it ∈ is, Banded it) (e : L = frames is) : unbandF L (L.length + 1) 0 [] [] = .bad := by
  have hbig := frames_big hb
  have h := unband_banded (L := L) (post := []) (is := is) (pre := []) (p := 0) (n := L.length - is.length + 1) (cs := []) (ts := []) hb (by rw [e]; simp) rfl
  rw [show L.length - is.length + 1 + is.length = L.length + 1 from by rw [e]; omega] at h
  rw [h, unbandF]
  have : lineS L (0 + (frames is).length) = none := lineS_short (by rw [e]; omega)
  rw [this]
theorem read_flush {L : List UInt8} {is : List Item} (hb : ∀ it ∈ is, Banded it) (e : L = frames (is ++ [.mark 0])) : readF L (L.length + 1) 0 = some (is ++ [.mark 0], L.length) := by
  have hbig := frames_big hb
  have e2 : frames (is ++ [.mark 0]) = frames is ++ framed (.mark 0) := by rw [frm_app, frm_cons, frm_nil, List.append_nil]
  have hlen : L.length = (frames is).length + 4 := by rw [e, e2, List.length_append]; rfl
  have h := read_banded (L := L) (post := framed (.mark 0)) (is := is) (pre := []) (p := 0) (n := L.length - is.length + 1) hb (by rw [e, e2]; simp) rfl
  rw [show L.length - is.length + 1 + is.length = L.length + 1 from by omega] at h
  have hl : lineS L (0 + (frames is).length) = some (.mark 0, 0 + (frames is).length + 4) := line_at (pre := frames is) (post := []) (by rw [e, e2]; simp) (by omega) ⟨by decide, by decide⟩
  rw [h, readF, if_neg (by omega), hl]
  dsimp only
  rw [show stops (.mark 0) = true from rfl, if_pos rfl, preI_some]
  congr 2
  omega
/-- the pieces of a content, banded -/
theorem heads_banded {ts : List (List UInt8)} (h : ∀ r ∈ ts, r.length ≤ 100) : ∀ it ∈ headsI ts, Banded it := fun it hit => by
  obtain ⟨r, hr, rfl⟩ := List.mem_map.mp hit
  exact ⟨r, h r hr, .inr rfl⟩
theorem chunks_banded {l : List UInt8} {k n : Nat} (h : l.length ≤ 100) : ∀ it ∈ chunksI l k n, Banded it := fun it hit => by
  obtain ⟨i, _, rfl⟩ := List.mem_map.mp hit
  exact ⟨_, Nat.le_trans chunk_len h, .inl rfl⟩
theorem pieces_banded {l : List UInt8} {k : Nat} {ts : List (List UInt8)} (hl : l.length ≤ 100) (ht : ∀ r ∈ ts, r.length ≤ 100) : ∀ it ∈ headsI ts ++ chunksI l k (nch l.length k), Banded it := fun it hit => by
  rcases List.mem_append.mp hit with h | h
  · exact heads_banded ht it h
  · exact chunks_banded hl it h
theorem chunksOf_heads (ts : List (List UInt8)) : chunksOf (headsI ts) = [] := by
  induction ts with
  | nil => rfl
  | cons t r ih => exact ih
theorem textsOf_heads (ts : List (List UInt8)) : textsOf (headsI ts) = ts := by
  induction ts with
  | nil => rfl
  | cons t r ih =>
    show t :: textsOf (headsI r) = _
    rw [ih]
theorem band1_map {α : Type} (f : α → List UInt8) (xs : List α) : (xs.map fun i => Item.data (1 :: f i)).filterMap band1 = xs.map f := by
  induction xs with
  | nil => rfl
  | cons x r ih =>
    show f x :: (r.map fun i => Item.data (1 :: f i)).filterMap band1 = _
    rw [ih]
    rfl
theorem band2_map {α : Type} (f : α → List UInt8) (xs : List α) : (xs.map fun i => Item.data (1 :: f i)).filterMap band2 = [] := by
  induction xs with
  | nil => rfl
  | cons x r ih => exact ih
theorem chunksOf_chunks (l : List UInt8) (k n : Nat) : chunksOf (chunksI l k n) = (List.range n).map fun i => chunk l k i := band1_map _ _
theorem textsOf_chunks (l : List UInt8) (k n : Nat) : textsOf (chunksI l k n) = [] := band2_map _ _
theorem chunks_flat (l : List UInt8) (k : Nat) (n : Nat) : ((List.range n).map fun i => chunk l k i).flatten = l.take (n * k) := by
  induction n with
  | zero => simp
  | succ n ih =>
    rw [List.range_succ, List.map_append, List.flatten_append, ih, Nat.add_mul, Nat.one_mul, List.take_add]
    simp [chunk]
theorem nch_ge (n k : Nat) (hk : 1 ≤ k) : n ≤ nch n k * k := by
  unfold nch
  by_cases h : n = 0
  · rw [if_pos h]; omega
  · rw [if_neg h, Nat.add_mul, Nat.one_mul]
    have h1 := Nat.div_add_mod (n - 1) k
    have h2 := Nat.mod_lt (n - 1) (show 0 < k by omega)
    rw [Nat.mul_comm] at h1
    omega
theorem pieces_chunks {l : List UInt8} {k : Nat} {ts : List (List UInt8)} (hk : 1 ≤ k) : (chunksOf (headsI ts ++ chunksI l k (nch l.length k))).flatten = l := by
  unfold chunksOf
  rw [List.filterMap_append]
  show (chunksOf (headsI ts) ++ chunksOf (chunksI l k (nch l.length k))).flatten = l
  rw [chunksOf_heads, chunksOf_chunks, List.nil_append, chunks_flat, List.take_of_length_le (nch_ge _ _ hk)]
theorem pieces_texts {l : List UInt8} {k : Nat} {ts : List (List UInt8)} : textsOf (headsI ts ++ chunksI l k (nch l.length k)) = ts := by
  unfold textsOf
  rw [List.filterMap_append]
  show textsOf (headsI ts) ++ textsOf (chunksI l k (nch l.length k)) = ts
  rw [textsOf_heads, textsOf_chunks, List.append_nil]
end

-- part LL
section
open PySem PySem.Calls PySem.W PyProof.Rows Builtin Builtin.ObjectAttr PyProof.Rows.LCg PySem.SeqAt
set_option maxRecDepth 100000
theorem fr_turn {h₀ h h' : Heap} {L : Addr} {m : Str → Option Value} (F : Fr h₀ L h m) (T : Turn [L] h h') : Fr h₀ L h' m := by
  obtain ⟨o, es, ep, ho, hdt, r⟩ := F.ns
  obtain ⟨sl, hsl⟩ := T.frame _ _ ho (List.mem_singleton.mpr rfl)
  refine ⟨⟨{ o with slots := sl }, es, ep, hsl, hdt, r⟩, fun b o e => T.other _ _ (F.keep b o e) fun hb => ?_, F.above⟩
  rw [List.mem_singleton.mp hb] at e
  exact absurd (Nat.lt_of_lt_of_le (Heap.lt_size e) F.above) (Nat.lt_irrefl _)
theorem news_turn {h₀ h h' : Heap} {L : Addr} {news : List (Addr × Obj)} (N : News h₀ L h news) (T : Turn [L] h h') : News h₀ L h' news := fun p hp =>
  ⟨T.other _ _ (N p hp).1 fun hb => (N p hp).2.1 (List.mem_singleton.mp hb), (N p hp).2⟩
theorem shut_use {w : World} {mean : ExcName → Option Value} {mg mb : Str → Option Value} {f : Addr} {d u : Nat} {vs : List Value} {R : Heap → Value → Heap → Prop} {dp un : Nat} {gd : Option (List Code)} {cn : Str} {cs : Scope} {a : Addr} {ccd : Value} {cl : List (Str × Addr)} {A₀ : Around} {h₀ : Heap} {L : Addr} {m : Str → Option Value} {news : List (Addr × Obj)} {s : Shared} {Q E : Value → Shared → Prop}
    (C : Shut w mean mg mb f d u vs R) (B : Below A₀ h₀ [] h₀) (F : Fr h₀ L s.heap m) (X : (hd.heap_39 w.params).In h₀) (N : News h₀ L s.heap news) (T : Top hd.view_39 looseH mean mg mb h₀) (hk : cs.kind = .function) (hd : dp + d < recursionLimit) (hu : un + u < cLine)
    (ret : ∀ v h' tk', Fr h₀ L h' m → News h₀ L h' news → Fr h₀ L s.heap m → News h₀ L s.heap news → R s.heap v h' → Q v { s with heap := h', toks := tk' }) :
    wpAny (model PySem.Challenge.rw_nt0268_01.row.prog w) (ktrTop dp un gd cn cs L a ccd cl []) (call (.ref f) vs) Q E s :=
  C _ _ _ _ _ _ _ _ _ _ _ _ _ _ _ B F X T hk hd hu (fun v h' tk' k r => ret v h' tk' (fr_turn F k) (news_turn N k) F N r)
/-- a draw deck out of a ledger, for _law_likely -/
theorem likely_use {w : World} {mean : ExcName → Option Value} {mg mb : Str → Option Value} {dp un : Nat} {gd : Option (List Code)} {cn : Str} {cs : Scope} {a : Addr} {ccd : Value} {cl : List (Str × Addr)} {outer : List Env} {A₀ : Around} {base h₀ : Heap} {L : Addr} {m : Str → Option Value} {news : List (Addr × Obj)} {s : Shared} {Q E : Value → Shared → Prop} {d D : Addr} {od ol : Obj} {g : Obj → List (Addr × Obj)} {g2 : Obj → Obj → List (Addr × Obj)}
    (B : Below A₀ base outer h₀) (F : Fr h₀ L s.heap m) (X : (hd.heap_39 w.params).In h₀) (N : News h₀ L s.heap news) (T : Top hd.view_39 looseH mean mg mb h₀) (hk : cs.kind = .function) (hdp : dp + 16 < recursionLimit) (hu : un + 500 < cLine)
    (U1 : UpdF d od news g) (U2 : ∀ o, UpdF D ol (g o) (g2 o)) (hne : d ≠ D) (hdk : Deck w od D ol)
    (ret : ∀ l t h' tk' od' ol', l.length ≤ 200 → Fr h₀ L h' m → News h₀ L h' (g2 od' ol') → Deck w od' D ol' → Q (.bytes (List.toArray l) t) { s with heap := h', toks := tk' }) :
    wpAny (model PySem.Challenge.rw_nt0268_01.row.prog w) (ktrTop dp un gd cn cs L a ccd cl outer) (call (.ref 151) [.ref d]) Q E s := by
  obtain ⟨pre, post, rfl, hg, a1, a2⟩ := U1.split
  have hDm : (D, ol) ∈ pre ++ (d, od) :: post := by
    obtain ⟨p2, q2, e, _, _, _⟩ := (U2 od).split
    rw [hg] at e
    rw [e]
    exact List.mem_append.mpr (.inr (.head _))
  have hdm : (d, od) ∈ pre ++ (d, od) :: post := List.mem_append.mpr (.inr (.head _))
  refine lk w mean mg mb dp un gd cn cs a ccd cl outer A₀ base h₀ L m s Q E d D od ol B F X T hk hdp hu (fun p hp => ?_) hne hdk ?_
  · rcases List.mem_cons.mp hp with rfl | hp
    · exact N _ hdm
    · rw [List.mem_singleton] at hp; subst hp; exact N _ hDm
  · intro l t h' tk' od' ol' hl keep e1 e2 dk
    have off : ∀ b, b ≠ d → b ≠ D → b ∉ [d, D] := fun b x y hb => by
      rcases List.mem_cons.mp hb with h | h
      · exact x h
      · exact y (List.mem_singleton.mp h)
    have hLd : L ≠ d := fun e => (N _ hdm).2.1 e.symm
    have hLD : L ≠ D := fun e => (N _ hDm).2.1 e.symm
    refine ret l t h' tk' od' ol' hl ?_ ?_ dk
    · obtain ⟨oL, es, ep, ho, rr⟩ := F.ns
      refine ⟨⟨oL, es, ep, keep _ _ ho (off _ hLd hLD), rr⟩, fun b o e => keep _ _ (F.keep b o e) (off _ (fun q => ?_) fun q => ?_), F.above⟩
      · have := (N _ hdm).2.2; rw [q] at e; rw [show h₀.get? d = none from this] at e; cases e
      · have := (N _ hDm).2.2; rw [q] at e; rw [show h₀.get? D = none from this] at e; cases e
    · obtain ⟨p2, q2, e, hg2, b1, b2⟩ := (U2 od').split
      rw [hg] at e
      rw [hg2]
      have key : ∀ p, p ∈ pre ++ (d, od') :: post → p.1 ≠ D → h'.get? p.1 = some p.2 ∧ p.1 ≠ L ∧ h₀.get? p.1 = none := fun p hp hpD => by
        rcases List.mem_append.mp hp with h | h
        · have := N p (List.mem_append.mpr (.inl h))
          exact ⟨keep _ _ this.1 (off _ (a1 p h) hpD), this.2⟩
        · rcases List.mem_cons.mp h with rfl | h
          · exact ⟨e1, (N _ hdm).2⟩
          · have := N p (List.mem_append.mpr (.inr (.tail _ h)))
            exact ⟨keep _ _ this.1 (off _ (a2 p h) hpD), this.2⟩
      intro p hp
      rcases List.mem_append.mp hp with h | h
      · exact key p (by rw [e]; exact List.mem_append.mpr (.inl h)) (b1 p h)
      · rcases List.mem_cons.mp h with rfl | h
        · exact ⟨e2, (N _ hDm).2⟩
        · exact key p (by rw [e]; exact List.mem_append.mpr (.inr (.tail _ h))) (b2 p h)
/-- an item of the law's pool -/
def Short : Item → Prop
  | .mark k => 0 ≤ k ∧ k ≤ 2
  | .data l => l.length ≤ 300
def PoolOk (o : Obj) : Prop := ∃ pv is, o = listOf (List.toArray pv) 0 ∧ pv.length = 10 ∧ ItemsV is pv ∧ ∀ it ∈ is, Short it
theorem pool_ok {b0 b1 b2 b3 b4 b5 b9 : List UInt8} {t0 t1 t2 t3 t4 t5 t6 t7 t8 t9 : Tok} (h : b0.length ≤ 300 ∧ b1.length ≤ 300 ∧ b2.length ≤ 300 ∧ b3.length ≤ 300 ∧ b4.length ≤ 300 ∧ b5.length ≤ 300 ∧ b9.length ≤ 300) :
    PoolOk (listOf [.bytes b0.toArray t0, .bytes b1.toArray t1, .bytes b2.toArray t2, .bytes b3.toArray t3, .bytes b4.toArray t4, .bytes b5.toArray t5, .int 0 t6, .int 1 t7, .int 2 t8, .bytes b9.toArray t9].toArray 0) :=
  ⟨_, [.data b0, .data b1, .data b2, .data b3, .data b4, .data b5, .mark 0, .mark 1, .mark 2, .data b9], rfl, rfl, ⟨⟨_, rfl⟩, ⟨_, rfl⟩, ⟨_, rfl⟩, ⟨_, rfl⟩, ⟨_, rfl⟩, ⟨_, rfl⟩, ⟨_, rfl⟩, ⟨_, rfl⟩, ⟨_, rfl⟩, ⟨_, rfl⟩, trivial⟩, by
    obtain ⟨h0, h1, h2, h3, h4, h5, h9⟩ := h
    simp only [List.forall_mem_cons]
    exact ⟨h0, h1, h2, h3, h4, h5, by unfold Short; omega, by unfold Short; omega, by unfold Short; omega, h9, fun _ h => nomatch h⟩⟩
theorem fold_in (xs : List Int) : ∀ a : Int, 0 ≤ a → a < 1000003 → 0 ≤ List.foldl (fun a' n' => (a' * 31 + n' + 1).fmod 1000003) a xs ∧ List.foldl (fun a' n' => (a' * 31 + n' + 1).fmod 1000003) a xs < 1000003 := by
  induction xs with
  | nil => exact fun a h1 h2 => ⟨h1, h2⟩
  | cons x r ih => exact fun a _ _ => ih _ (fm0 (by decide)).1 (fm0 (by decide)).2
theorem deck_ok {w : World} {od : Obj} {D : Addr} {ys : List Value} {xs : List Int} {t1 t2 t3 : Tok} (hI : IntsAre ys ((xs.take 24).map fun k' => k'.fmod 1000003))
    (hD : od.IsDictOf (PySem.strKind PySem.Challenge.rw_nt0268_01.row.prog w) (strPairs [(.str (Str.ofString "left") t1, .ref D), (.str (Str.ofString "mixed") t2, .int (List.foldl (fun a' n' => (a' * 31 + n' + 1).fmod 1000003) 503 ((xs.take 24).map fun k' => k'.fmod 1000003)) t3)])) :
    Deck w od D (lst ys) :=
  ⟨ys, _, _, _, t3, rfl, hI, by rw [List.length_map, List.length_take]; omega, fun x hx => by
    obtain ⟨k, _, rfl⟩ := List.mem_map.mp hx
    exact fm0 (by decide), (fold_in _ 503 (by decide) (by decide)).1, (fold_in _ 503 (by decide) (by decide)).2, hD⟩
/-- the deck and the pool, from where the law's walk goes on -/
theorem law_prep {h₀ h : Heap} {L pl d tu D sl cP cD : Addr} {pool od o3 ol o5 oP oD : Obj} {P : Prop} (N : News h₀ L h [(pl, pool), (d, od), (tu, o3), (D, ol), (sl, o5), (cP, oP), (cD, oD)]) (hp : PoolOk pool)
    (k : ∀ pool', PoolOk pool' → News h₀ L h [(pl, pool'), (d, od), (D, ol), (cP, oP), (cD, oD)] → P) : P :=
  k pool hp (fun p hp => N p (by
    simp only [List.mem_cons, List.not_mem_nil, or_false] at hp ⊢
    rcases hp with h | h | h | h | h
    · exact .inl h
    · exact .inr (.inl h)
    · exact .inr (.inr (.inr (.inl h)))
    · exact .inr (.inr (.inr (.inr (.inr (.inl h)))))
    · exact .inr (.inr (.inr (.inr (.inr (.inr h)))))))
section
variable {prog : Program} {w : World} {A : Around} {E : Value → Shared → Prop} {s s₁ : Shared} {Q : Value → Shared → Prop} {value slice : PySem.Expr} {h₀ : Heap} {L l : Addr} {m : PySem.Str → Option Value} {news : List (Addr × Obj)} {env : Env}
theorem pool_at {pool : Obj} {k : Int} {u : Tok} (N : News h₀ L s.heap news) (hm : (l, pool) ∈ news) (hp : PoolOk pool) (h0 : 0 ≤ k) (h1 : k < 10)
    (h : ∀ it v, ItemV it v → Short it → Q v s) (hs : subscripted slice false (.ref l) (.int k u) = operate [.ref l, .int k u] (getItem (.ref l) (.int k u)) := by with_unfolding_all rfl) :
    wpAny (model prog w) A (subscriptTail value slice (.ref l) (.int k u)) Q E s := by
  obtain ⟨pv, is, rfl, hlen, hI, hS⟩ := hp
  have hl : s.heap.IsList l pv.toArray := ⟨_, (N _ hm).1, rfl, _, rfl⟩
  have hk : k.toNat < pv.length := by omega
  obtain ⟨it, e, hv⟩ := hI.at k.toNat hk
  exact item_litK hl h0 (by omega) (List.getElem?_eq_some_iff.mpr ⟨hk, rfl⟩) (h it _ hv (hS it (List.mem_of_getElem? e))) hs
abbrev lawLed (pl d D cP cD : Addr) (pool od ol oP oD : Obj) : List (Addr × Obj) := [(pl, pool), (d, od), (D, ol), (cP, oP), (cD, oD)]
/-- the comprehension that draws the items -/
theorem CompK.items {elt : PySem.Expr} {x : PySem.Str} {scope : Scope} {cl : List (PySem.Str × Addr)} {Fin : Shared → List Value → List (Addr × Obj) → Prop} {r pl d D cP cD : Addr} {pool od ol oP oD : Obj} {b : Int} {t u v : Tok} (hh : A.handled = none) (hr : IsRange s₁.heap r 0 b 1 t u v) (hb0 : 0 ≤ b) (hb : b ≤ 60000)
    (F : Fr h₀ L s₁.heap m) (N : News h₀ L s₁.heap (lawLed pl d D cP cD pool od ol oP oD)) (dk : Deck w od D ol)
    (step : ∀ ys is od ol, ItemsV is ys → (∀ it ∈ is, Short it) → Deck w od D ol → ∀ v I oI C oC D' m₂ h tk (E' : Value → Shared → Prop), (∃ (t : Tok) (i : Nat), v = .int ((0 : Int) + i * 1) t) → NsObj oC m₂ → m₂ x = some v → Fr h₀ L h m → News h₀ L h ((I, oI) :: (C, oC) :: (D', lst ys) :: [(pl, pool), (d, od), (D, ol), (cP, oP), (cD, oD)]) → Off3 I C D' [(pl, pool), (d, od), (D, ol), (cP, oP), (cD, oD)] → ((@Ne Nat I C) ∧ (@Ne Nat I D') ∧ (@Ne Nat C D')) →
      wpAny (model prog w) A (eval elt (compEnvC scope cl C env)) (CompEnd h₀ L m { s₁ with heap := h, toks := tk } I oI C oC D' (lst ys) (fun _ => True) (fun y news' => ∃ it od ol, ItemV it y ∧ Short it ∧ Deck w od D ol ∧ news' = [(pl, pool), (d, od), (D, ol), (cP, oP), (cD, oD)])) E' { s₁ with heap := h, toks := tk })
    (fin : ∀ g ys is od ol, ItemsV is ys → (∀ it ∈ is, Short it) → ys.length = b.toNat → Deck w od D ol → Fin { s₁ with heap := g } ys [(pl, pool), (d, od), (D, ol), (cP, oP), (cD, oD)]) : CompK prog w A h₀ L m env elt x scope cl Fin (.ref r) s₁ :=
  CompK.of (src_range hh hr (small_of hb0 hb).1 (small_of hb0 hb).2) (by omega) F N trivial (fun i ys nw => ∃ is od ol, ItemsV is ys ∧ (∀ it ∈ is, Short it) ∧ Deck w od D ol ∧ nw = [(pl, pool), (d, od), (D, ol), (cP, oP), (cD, oD)])
    ⟨[], od, ol, trivial, (fun _ h => nomatch h), dk, rfl⟩
    (fun i ys nw hi hl ⟨is, od, ol, j1, j2, j3, e⟩ v I oI C oC D' m₂ h tk E' hP hC hx F2 N2 off ne => by
      subst e
      obtain ⟨t, rfl⟩ := hP
      refine wpAny_mono (step ys is od ol j1 j2 j3 _ I oI C oC D' m₂ h tk E' ⟨t, i, rfl⟩ hC hx F2 N2 off ne) (fun y s' ⟨h', tk', nw', e, F', N', off', hS, it, od', ol', i1, i2, i3, e2⟩ => ?_) fun _ _ e => e
      exact ⟨h', tk', nw', e, F', N', off', hS, is ++ [it], od', ol', j1.snoc i1, fun x hx => by
        rcases List.mem_append.mp hx with h | h
        · exact j2 x h
        · rw [List.mem_singleton] at h; subst h; exact i2, i3, e2⟩)
    (fun g ys nw hl ⟨is, od, ol, j1, j2, j3, e⟩ => by subst e; exact fin g ys is od ol j1 j2 hl j3)
/-- one of two -/
theorem item2i {k : Int} {u t0 t1 : Tok} {c : Nat} (N : News h₀ L s.heap news) (hm : (l, listOf [.int 0 t0, .int 4 t1].toArray c) ∈ news) (h0 : 0 ≤ k) (h1 : k < 2)
    (h : ∀ (n : Nat) t, n ≤ 4 → Q (.int (n : Nat) t) s) (hs : subscripted slice false (.ref l) (.int k u) = operate [.ref l, .int k u] (getItem (.ref l) (.int k u)) := by with_unfolding_all rfl) :
    wpAny (model prog w) A (subscriptTail value slice (.ref l) (.int k u)) Q E s := by
  have hl : s.heap.IsList l [.int 0 t0, .int 4 t1].toArray := ⟨_, (N _ hm).1, rfl, _, rfl⟩
  have : k = 0 ∨ k = 1 := by omega
  rcases this with rfl | rfl
  · exact item_litK hl (by decide) (by decide) rfl (h 0 t0 (by decide)) hs
  · exact item_litK hl (by decide) (by decide) rfl (h 4 t1 (by decide)) hs
theorem item2b {k : Int} {u t0 t1 : Tok} {c : Nat} {b0 b1 : List UInt8} (N : News h₀ L s.heap news) (hm : (l, listOf [.bytes (1 :: b0).toArray t0, .bytes (2 :: b1).toArray t1].toArray c) ∈ news) (h0 : 0 ≤ k) (h1 : k < 2) (hz : b0.length ≤ 90 ∧ b1.length ≤ 90)
    (h : ∀ (b : List UInt8) t, b.length ≤ 99 → Banded (.data b) → Q (.bytes b.toArray t) s) (hs : subscripted slice false (.ref l) (.int k u) = operate [.ref l, .int k u] (getItem (.ref l) (.int k u)) := by with_unfolding_all rfl) :
    wpAny (model prog w) A (subscriptTail value slice (.ref l) (.int k u)) Q E s := by
  have hl : s.heap.IsList l [.bytes (1 :: b0).toArray t0, .bytes (2 :: b1).toArray t1].toArray := ⟨_, (N _ hm).1, rfl, _, rfl⟩
  have : k = 0 ∨ k = 1 := by omega
  rcases this with rfl | rfl
  · exact item_litK hl (by decide) (by decide) rfl (h _ t0 (by rw [List.length_cons]; omega) ⟨b0, by omega, .inl rfl⟩) hs
  · exact item_litK hl (by decide) (by decide) rfl (h _ t1 (by rw [List.length_cons]; omega) ⟨b1, by omega, .inr rfl⟩) hs
/-- the first of a list of three texts -/
theorem cut_texts {b0 b1 b2 : List UInt8} {t0 t1 t2 tk : Tok} {n : Int} {c : Nat} (hn : 0 ≤ n) (F : Fr h₀ L s.heap m) (N : News h₀ L s.heap news) (hm : (l, listOf [.str (textOf b0) t0, .str (textOf b1) t1, .str (textOf b2) t2].toArray c) ∈ news) (hz : b0.length ≤ 100 ∧ b1.length ≤ 100 ∧ b2.length ≤ 100)
    (h : ∀ D h' (ps : List (List UInt8 × Tok)), ps.length ≤ 3 → (∀ p ∈ ps, p.1.length ≤ 100) → Fr h₀ L h' m → News h₀ L h' ((D, listOf (sv ps).toArray 0) :: news) → (∀ p ∈ news, p.1 < D) → Q (.ref D) { s with heap := h' })
    (hs : subscripted slice false (.ref l) (.ref s.heap.objs.size) = operate [.ref s.heap.objs.size, .ref l] (getItem (.ref l) (.ref s.heap.objs.size)) := by with_unfolding_all rfl) :
    wpAny (model prog w) A (subscriptTail value slice (.ref l) (.ref s.heap.objs.size)) Q E { s with heap := s.heap.push { cls := .type "slice", data := .fields #[.none, .int n tk, .none] } } := by
  refine kba_turn (value' := PySem.Expr.Name (PySem.Str.ofString "_") ⟨0, 0, 0, 0⟩) (fun _ => rfl) ?_
  have e : kms_pick [.str (textOf b0) t0, .str (textOf b1) t1, .str (textOf b2) t2] none (some n) = sv ((([(b0, t0), (b1, t1), (b2, t2)] : List (List UInt8 × Tok))).take (min n.toNat 3)) := by
    unfold kms_pick kms_lo kms_hi
    dsimp only
    rw [if_neg (by omega), List.drop_zero, Nat.sub_zero]
    show List.take (min n.toNat 3) (sv [(b0, t0), (b1, t1), (b2, t2)]) = _
    unfold sv
    rw [List.map_take]
  refine kms_slice_lit F N ⟨_, (N _ hm).1, rfl, c, rfl⟩ .none (.int _ _) e (fun D h' F' N' l1 => h D h' _ ?_ (fun p hp => ?_) F' N' l1) hs (fun _ => rfl) (by rw [sizeLine_eq]; simp)
  · rw [List.length_take]; simp; omega
  · have := List.mem_of_mem_take hp
    simp only [List.mem_cons, List.not_mem_nil, or_false] at this
    rcases this with rfl | rfl | rfl
    · exact hz.1
    · exact hz.2.1
    · exact hz.2.2
theorem ne_same {b : List UInt8} {t u : Tok} (h : Q (.bool false) s) : wpAny (model prog w) A (compareOp .NotEq (.bytes b.toArray t) (.bytes b.toArray u)) Q E s := bytes_ne (by simpa using h)
end
section
variable {A : Around} {s : Shared}
theorem eqat_texts {D D' : Addr} {ps qs : List (List UInt8 × Tok)} {c c' : Nat} (hD : s.heap.get? D = some (listOf (sv ps).toArray c)) (hD' : s.heap.get? D' = some (listOf (sv qs).toArray c')) (he : ps.map (·.1) = qs.map (·.1)) (hU : A.units < cLine) : EqAt A s (.ref D) (.ref D') true := by
  by_cases hne : D = D'
  · subst hne
    exact EqAt.same _
  have hlen : ps.length = qs.length := by have := congrArg List.length he; simpa using this
  have hsz : (sv ps).toArray.size = (sv qs).toArray.size := by simp [sv, hlen]
  have := RcAt.lists (A := A) (s := s) (e := fun _ => true) ⟨_, hD, rfl, c, rfl⟩ ⟨_, hD', rfl, c', rfl⟩ hsz hU (fun j h1 h2 => by
    have h1' : j < ps.length := by simpa [sv] using h1
    have h2' : j < qs.length := by simpa [sv] using h2
    have e1 : ps[j].1 = qs[j].1 := by
      have := congrArg (fun l => l[j]?) he
      simp only [List.getElem?_map, List.getElem?_eq_getElem h1', List.getElem?_eq_getElem h2', Option.map_some, Option.some.injEq] at this
      exact this
    have g1 : (sv ps).toArray[j] = .str (textOf ps[j].1) ps[j].2 := by simp [sv]
    have g2 : (sv qs).toArray[j] = .str (textOf qs[j].1) qs[j].2 := by simp [sv]
    rw [g1, g2, e1]
    exact eqat_str)
  rw [all_true] at this
  exact EqAt.of_refs hne this
end
/-- a reading by the law's own reader, its parts -/
def ReadP (items : List Item) (q : Nat) (H : Heap) (v : Value) (h' : Heap) : Prop :=
  ∃ a D vs c tq, ItemsV items vs ∧ v = .ref a ∧ h'.get? a = some (tupObj [.ref D, .int (q : Nat) tq]) ∧ H.get? a = none ∧ h'.get? D = some (listOf (List.toArray vs) c) ∧ H.get? D = none ∧ a ≠ D
theorem read_cases {l : List UInt8} {p : Nat} {H h' : Heap} {v : Value} (h : ReadV l p H v h') : (readF l (l.length + 1) p = none ∧ v = .none) ∨ ∃ items q, readF l (l.length + 1) p = some (items, q) ∧ ReadP items q H v h' := by
  rcases h with h | ⟨a, D, vs, c, items, q, tq, hr, hi, hv, ha, hn, hD, hd, hne⟩
  · exact .inl h
  · exact .inr ⟨items, q, hr, a, D, vs, c, tq, hi, hv, ha, hn, hD, hd, hne⟩
theorem read_none {l : List UInt8} {p : Nat} {H h' : Heap} {v : Value} (e : readF l (l.length + 1) p = none) (h : ReadV l p H v h') : v = .none := by
  rcases read_cases h with h | ⟨items, q, h, _⟩
  · exact h.2
  · rw [e] at h; cases h
theorem read_some {l : List UInt8} {p q : Nat} {items : List Item} {H h' : Heap} {v : Value} (e : readF l (l.length + 1) p = some (items, q)) (h : ReadV l p H v h') : ReadP items q H v h' := by
  rcases read_cases h with h | ⟨items', q', h, k⟩
  · rw [e] at h; cases h.1
  · rw [e] at h; cases h; exact k
end

-- part LM
section
open PySem PySem.Calls PySem.W PyProof.Rows Builtin Builtin.ObjectAttr PyProof.Rows.LCg PySem.SeqAt
set_option maxRecDepth 100000
theorem Pure.mono {w : World} {mean : ExcName → Option Value} {mg mb : Str → Option Value} {f : Addr} {d u : Nat} {vs : List Value} {R R' : Heap → Value → Heap → Prop} {X X' : Str → Prop} (C : Pure w mean mg mb f d u vs R X) (h : ∀ H v h', R H v h' → R' H v h') (k : ∀ x, X x → X' x) : Pure w mean mg mb f d u vs R' X' :=
  fun dp un gd cn cs a ccd cl outer A₀ base h₀ L m s Q E B F Xx T hk hd hu ret exc => C dp un gd cn cs a ccd cl outer A₀ base h₀ L m s Q E B F Xx T hk hd hu (fun v h' tk' e r => ret v h' tk' e (h _ _ _ r)) (fun e dx x tk tk2 h' tk' hX r => exc e dx x tk tk2 h' tk' (k _ hX) r)
theorem Shut.mono {w : World} {mean : ExcName → Option Value} {mg mb : Str → Option Value} {f : Addr} {d u : Nat} {vs : List Value} {R R' : Heap → Value → Heap → Prop} (C : Shut w mean mg mb f d u vs R) (h : ∀ H v h', R H v h' → R' H v h') : Shut w mean mg mb f d u vs R' :=
  fun dp un gd cn cs a ccd cl A₀ h₀ L m s Q E B F X T hk hd hu ret => C dp un gd cn cs a ccd cl A₀ h₀ L m s Q E B F X T hk hd hu (fun v h' tk' e r => ret v h' tk' e (h _ _ _ r))
/-- octets, a list of texts, a place -/
def TriR (l : List UInt8) (ts : List (List UInt8)) (q : Int) (H : Heap) (v : Value) (h' : Heap) : Prop :=
  ∃ a D c qs tq t, v = .ref a ∧ h'.get? a = some (tupObj [.bytes l.toArray t, .ref D, .int q tq]) ∧ H.get? a = none ∧ h'.get? D = some (listOf (sv qs).toArray c) ∧ H.get? D = none ∧ a ≠ D ∧ qs.map (·.1) = ts
theorem tri_of {L : List UInt8} {p q : Nat} {cs ts : List (List UInt8)} {H h' : Heap} {v : Value} (e : unbandF L (L.length + 1) p [] [] = .val cs ts q) (h : UbR L p H v h') : TriR cs.flatten ts (q : Nat) H v h' := by
  obtain ⟨a, D, c, cs', qs, q', tq, t, hr, hv, ha, hn, hD, hd, hne⟩ := h
  rw [e] at hr
  cases hr
  exact ⟨a, D, c, qs, tq, t, hv, ha, hn, hD, hd, hne, rfl⟩
theorem no_ubx {L : List UInt8} {p q : Nat} {cs ts : List (List UInt8)} {x : Str} (e : unbandF L (L.length + 1) p [] [] = .val cs ts q) (h : UbX L p x) : False := by
  rcases h with h | ⟨r, h, _⟩
  · rw [e] at h; cases h
  · rw [e] at h; cases h
theorem frames_len2 {l : List UInt8} {k : Nat} {ts : List (List UInt8)} (hl : l.length ≤ 100) (hn : ts.length ≤ 10) (ht : ∀ r ∈ ts, r.length ≤ 100) : (frames (piecesI l k ts)).length ≤ 30000 := by
  have h := frames_len (is := piecesI l k ts) (fun it hit => by
    rcases List.mem_append.mp hit with h | h
    · obtain ⟨r, hr, rfl | rfl⟩ := pieces_banded hl ht it h
      · rw [framed_len, List.length_cons]; omega
      · rw [framed_len, List.length_cons]; omega
    · rw [List.mem_singleton] at h; subst h; decide)
  have hz : (piecesI l k ts).length ≤ 120 := by
    unfold piecesI headsI chunksI
    have := nch_le l.length k
    simp only [List.length_append, List.length_map, List.length_range, List.length_cons, List.length_nil]
    omega
  have : (frames (piecesI l k ts)).length ≤ 200 * (piecesI l k ts).length := h
  omega
theorem lbZ (w : World) (mean : ExcName → Option Value) (mg mb : Str → Option Value) (l : List UInt8) (hl : l.length ≤ 100) (k : Int) (hk1 : 1 ≤ k) (hk2 : k ≤ 100) (ps : List (List UInt8 × Tok)) (hps : ps.length ≤ 10) (hts : ∀ p ∈ ps, p.1.length ≤ 100) (P : Addr) (c : Nat) (t tk : Tok) :
    PureH w mean mg mb 156 16 200 [.bytes l.toArray t, .int k tk, .ref P] (fun h => h.get? P = some (listOf (sv ps).toArray c)) (LbR l k.toNat (ps.map (·.1))) := by
  have h := lb w mean mg mb l hl k.toNat (by omega) (by omega) ps hps hts P c t tk
  rwa [Int.toNat_of_nonneg (by omega)] at h
theorem sbLZ (w : World) (mean : ExcName → Option Value) (mg mb : Str → Option Value) (l : List UInt8) (hl : l.length ≤ 100) (k : Int) (hk1 : 1 ≤ k) (hk2 : k ≤ 100) (ps : List (List UInt8 × Tok)) (hps : ps.length ≤ 10) (hts : ∀ p ∈ ps, p.1.length ≤ 100) (P : Addr) (c : Nat) (t tk : Tok) :
    PureH w mean mg mb 105 16 200 [.bytes l.toArray t, .int k tk, .ref P] (fun h => h.get? P = some (listOf (sv ps).toArray c)) (fun _ v _ => ∃ t, v = .bytes (frames (piecesI l k.toNat (ps.map (·.1)))).toArray t) := by
  have h := sbL w mean mg mb l hl k.toNat (by omega) (by omega) ps hps hts P c t tk
  rwa [Int.toNat_of_nonneg (by omega)] at h
theorem sbEZ (w : World) (mean : ExcName → Option Value) (mg mb : Str → Option Value) (l : List UInt8) (hl : l.length ≤ 100) (k : Int) (hk1 : 1 ≤ k) (hk2 : k ≤ 100) (P : Addr) (t tk : Tok) :
    PureH w mean mg mb 105 16 200 [.bytes l.toArray t, .int k tk, .ref P] (fun h => h.get? P = some (tupObj [])) (fun _ v _ => ∃ t, v = .bytes (frames (piecesI l k.toNat [])).toArray t) := by
  have h := sbE w mean mg mb l hl k.toNat (by omega) (by omega) P t tk
  rwa [Int.toNat_of_nonneg (by omega)] at h
theorem sbDZ (w : World) (mean : ExcName → Option Value) (mg mb : Str → Option Value) (l : List UInt8) (hl : l.length ≤ 100) (k : Int) (hk1 : 1 ≤ k) (hk2 : k ≤ 100) (t tk : Tok) :
    PureH w mean mg mb 105 16 200 [.bytes l.toArray t, .int k tk] (fun _ => True) (fun _ v _ => ∃ t, v = .bytes (frames (piecesI l k.toNat [])).toArray t) := by
  have h := sbD w mean mg mb l hl k.toNat (by omega) (by omega) t tk
  rwa [Int.toNat_of_nonneg (by omega)] at h
theorem ts_ok {ps : List (List UInt8 × Tok)} (h : ∀ p ∈ ps, p.1.length ≤ 100) : ∀ r ∈ ps.map (·.1), r.length ≤ 100 := fun r hr => by
  obtain ⟨p, hp, rfl⟩ := List.mem_map.mp hr
  exact h p hp
theorem ubLaw (w : World) (mean : ExcName → Option Value) (mg mb : Str → Option Value) (l : List UInt8) (hl : l.length ≤ 100) (k : Nat) (hk : 1 ≤ k) (ts : List (List UInt8)) (hn : ts.length ≤ 10) (ht : ∀ r ∈ ts, r.length ≤ 100) (tb t : Tok) :
    Pure w mean mg mb 113 26 300 [.bytes (([97, 98] : List UInt8) ++ frames (piecesI l k ts) ++ [120]).toArray tb, .int 2 t] (TriR l ts (2 + ((frames (piecesI l k ts)).length : Nat))) (fun _ => False) := by
  have hf := frames_len2 (k := k) hl hn ht
  have hL : (([97, 98] : List UInt8) ++ frames (piecesI l k ts) ++ [120]).length ≤ 60000 := by
    simp only [List.length_append, List.length_cons, List.length_nil]; omega
  have e := unband_flush (L := ([97, 98] : List UInt8) ++ frames (piecesI l k ts) ++ [120]) (pre := [97, 98]) (post := [120]) (p := 2) (pieces_banded (k := k) hl ht) (by rw [List.append_assoc]; rfl) rfl
  refine Pure.mono (ub w mean mg mb _ hL 2 (by decide) tb t) (fun H v h' h => ?_) (fun x h => no_ubx e h)
  have h2 := tri_of e h
  rw [pieces_chunks hk, pieces_texts] at h2
  have e3 : ((2 + (frames (headsI ts ++ chunksI l k (nch l.length k) ++ [.mark 0])).length : Nat) : Int) = 2 + ((frames (piecesI l k ts)).length : Nat) := by
    rw [Int.natCast_add]; rfl
  rw [e3] at h2
  exact h2
/-- the items of a bent row that still is one -/
def bentI (b : List UInt8) (l : List UInt8) (k : Nat) (ts : List (List UInt8)) : List Item := [.data b, .data [1, 122]] ++ (headsI ts ++ chunksI l k (nch l.length k))
theorem bent_eq (b l : List UInt8) (k : Nat) (ts : List (List UInt8)) : framed (.data b) ++ framed (.data [1, 122]) ++ frames (piecesI l k ts) = frames (bentI b l k ts ++ [.mark 0]) := by
  unfold bentI piecesI
  rw [List.append_assoc [Item.data b, Item.data [1, 122]], frm_app [Item.data b, Item.data [1, 122]], frm_cons, frm_cons, frm_nil, List.append_nil]
theorem bent_banded {b l : List UInt8} {k : Nat} {ts : List (List UInt8)} (hb : Banded (.data b)) (hl : l.length ≤ 100) (ht : ∀ r ∈ ts, r.length ≤ 100) : ∀ it ∈ bentI b l k ts, Banded it := fun it hit => by
  rcases List.mem_append.mp hit with h | h
  · simp only [List.mem_cons, List.not_mem_nil, or_false] at h
    rcases h with rfl | rfl
    · exact hb
    · exact ⟨[122], by decide, .inl rfl⟩
  · exact pieces_banded hl ht it h
theorem bent_few {b l : List UInt8} {k : Nat} {ts : List (List UInt8)} (hl : l.length ≤ 50) (hn : ts.length ≤ 10) : (bentI b l k ts).length ≤ 100 := by
  unfold bentI headsI chunksI
  have := nch_le l.length k
  simp only [List.length_append, List.length_map, List.length_range, List.length_cons, List.length_nil]
  omega
abbrev bentL (b x l : List UInt8) (k : Nat) (ts : List (List UInt8)) : List UInt8 := framed (.data b) ++ x ++ frames (piecesI l k ts)
theorem bentL_len {b x l : List UInt8} {k : Nat} {ts : List (List UInt8)} (hb : b.length ≤ 99) (hx : x.length ≤ 100) (hl : l.length ≤ 100) (hn : ts.length ≤ 10) (ht : ∀ r ∈ ts, r.length ≤ 100) : (bentL b x l k ts).length ≤ 60000 := by
  have := frames_len2 (k := k) hl hn ht
  unfold bentL
  rw [List.length_append, List.length_append, framed_len]
  omega
theorem heardVal (w : World) (mean : ExcName → Option Value) (mg mb : Str → Option Value) (b l : List UInt8) (hb : Banded (.data b)) (hbz : b.length ≤ 99) (hl : l.length ≤ 100) (k : Nat) (ts : List (List UInt8)) (hn : ts.length ≤ 10) (ht : ∀ r ∈ ts, r.length ≤ 100) (tb t : Tok) :
    Shut w mean mg mb 168 36 400 [.bytes (framed (.data b) ++ framed (.data [1, 122]) ++ frames (piecesI l k ts)).toArray tb, .int 0 t] (TriR (chunksOf (bentI b l k ts)).flatten (textsOf (bentI b l k ts)) (((framed (.data b) ++ framed (.data [1, 122]) ++ frames (piecesI l k ts)).length : Nat) : Int)) := by
  have hL : (framed (.data b) ++ framed (.data [1, 122]) ++ frames (piecesI l k ts)).length ≤ 60000 := bentL_len hbz (by decide) hl hn ht
  have e := unband_flush (L := framed (.data b) ++ framed (.data [1, 122]) ++ frames (piecesI l k ts)) (pre := []) (post := []) (p := 0) (bent_banded (k := k) hb hl ht) (by rw [bent_eq]; simp) rfl
  refine Shut.mono (lh w mean mg mb _ hL 0 (by decide) tb t) (fun H v h' h => ?_)
  rcases h with ⟨x, _, h, _⟩ | h
  · exact (no_ubx e h).elim
  · have h2 := tri_of e h
    rw [Nat.zero_add, ← bent_eq] at h2
    exact h2
theorem heardTold (w : World) (mean : ExcName → Option Value) (mg mb : Str → Option Value) (b r l : List UInt8) (hb : Banded (.data b)) (hbz : b.length ≤ 99) (hr : r.length ≤ 90) (hl : l.length ≤ 100) (k : Nat) (ts : List (List UInt8)) (hn : ts.length ≤ 10) (ht : ∀ r ∈ ts, r.length ≤ 100) (tb t : Tok) :
    Shut w mean mg mb 168 36 400 [.bytes (framed (.data b) ++ framed (.data (3 :: r)) ++ frames (piecesI l k ts)).toArray tb, .int 0 t] (fun _ v _ => ∃ t, v = .str (textOf r) t) := by
  have hL : (framed (.data b) ++ framed (.data (3 :: r)) ++ frames (piecesI l k ts)).length ≤ 60000 := bentL_len hbz (by rw [framed_len, List.length_cons]; omega) hl hn ht
  have e := unband_told (L := framed (.data b) ++ framed (.data (3 :: r)) ++ frames (piecesI l k ts)) (pre := []) (post := frames (piecesI l k ts)) (r := r) (is := [.data b]) (p := 0) (fun it hit => by rw [List.mem_singleton] at hit; subst hit; exact hb) (by rw [frm_cons, frm_nil, List.append_nil, List.append_assoc]; rfl) rfl (by omega)
  refine Shut.mono (lh w mean mg mb _ hL 0 (by decide) tb t) (fun H v h' h => ?_)
  rcases h with ⟨x, t', h, rfl⟩ | ⟨a, D, c2, cs, ts, q, tq, t', h, _⟩
  · rcases h with h | ⟨r', h, rfl⟩
    · rw [e] at h; cases h
    · rw [e] at h; cases h; exact ⟨t', rfl⟩
  · rw [e] at h; cases h
theorem heard_bad {w : World} {mean : ExcName → Option Value} {mg mb : Str → Option Value} {L : List UInt8} (hL : L.length ≤ 60000) (e : unbandF L (L.length + 1) 0 [] [] = .bad) (tb t : Tok) :
    Shut w mean mg mb 168 36 400 [.bytes L.toArray tb, .int 0 t] (fun _ v _ => ∃ x t, v = .str x t) := by
  refine Shut.mono (lh w mean mg mb _ hL 0 (by decide) tb t) (fun H v h' h => ?_)
  rcases h with ⟨x, t', _, rfl⟩ | ⟨a, D, c2, cs, ts, q, tq, t', h, _⟩
  · exact ⟨x, t', rfl⟩
  · rw [e] at h; cases h
theorem heardBad (w : World) (mean : ExcName → Option Value) (mg mb : Str → Option Value) (b l : List UInt8) (it : Item) (hit : Refused it) (hz : (framed it).length ≤ 100) (hb : Banded (.data b)) (hbz : b.length ≤ 99) (hl : l.length ≤ 100) (k : Nat) (ts : List (List UInt8)) (hn : ts.length ≤ 10) (ht : ∀ r ∈ ts, r.length ≤ 100) (tb t : Tok) :
    Shut w mean mg mb 168 36 400 [.bytes (framed (.data b) ++ framed it ++ frames (piecesI l k ts)).toArray tb, .int 0 t] (fun _ v _ => ∃ x t, v = .str x t) :=
  heard_bad (bentL_len hbz hz hl hn ht) (unband_bad (L := framed (.data b) ++ framed it ++ frames (piecesI l k ts)) (pre := []) (post := frames (piecesI l k ts)) (is := [.data b]) (fun it hit => by rw [List.mem_singleton] at hit; subst hit; exact hb) (by rw [frm_cons, frm_nil, List.append_nil, List.append_assoc]; rfl) rfl hit) tb t
theorem cut_end (l : List UInt8) (k : Nat) (ts : List (List UInt8)) : (frames (piecesI l k ts)).take ((frames (piecesI l k ts)).length - 4) = frames (headsI ts ++ chunksI l k (nch l.length k)) := by
  have e : frames (piecesI l k ts) = frames (headsI ts ++ chunksI l k (nch l.length k)) ++ framed (.mark 0) := by
    unfold piecesI
    rw [frm_app (headsI ts ++ chunksI l k (nch l.length k)), frm_cons, frm_nil, List.append_nil]
  rw [e, List.length_append, show (framed (.mark 0)).length = 4 from rfl, Nat.add_sub_cancel, List.take_left]
theorem heardCut (w : World) (mean : ExcName → Option Value) (mg mb : Str → Option Value) (l : List UInt8) (hl : l.length ≤ 100) (k : Nat) (ts : List (List UInt8)) (hn : ts.length ≤ 10) (ht : ∀ r ∈ ts, r.length ≤ 100) (tb t : Tok) :
    Shut w mean mg mb 168 36 400 [.bytes ((frames (piecesI l k ts)).take ((frames (piecesI l k ts)).length - 4)).toArray tb, .int 0 t] (fun _ v _ => ∃ x t, v = .str x t) :=
  heard_bad (by rw [List.length_take]; have := frames_len2 (k := k) hl hn ht; omega) (unband_cut (pieces_banded hl ht) (cut_end l k ts)) tb t
theorem luLaw (w : World) (mean : ExcName → Option Value) (mg mb : Str → Option Value) (b l : List UInt8) (hb : Banded (.data b)) (hbz : b.length ≤ 99) (hl : l.length ≤ 50) (k : Nat) (ts : List (List UInt8)) (hn : ts.length ≤ 10) (ht : ∀ r ∈ ts, r.length ≤ 100) (tb t : Tok) :
    Pure w mean mg mb 161 40 500 [.bytes (framed (.data b) ++ framed (.data [1, 122]) ++ frames (piecesI l k ts)).toArray tb, .int 0 t] (TriR (chunksOf (bentI b l k ts)).flatten (textsOf (bentI b l k ts)) (((framed (.data b) ++ framed (.data [1, 122]) ++ frames (piecesI l k ts)).length : Nat) : Int)) (fun _ => False) := by
  have hL : (framed (.data b) ++ framed (.data [1, 122]) ++ frames (piecesI l k ts)).length ≤ 60000 := bentL_len hbz (by decide) (by omega) hn ht
  have hbd := bent_banded (k := k) hb (show l.length ≤ 100 by omega) ht
  refine Pure.mono (lu w mean mg mb _ hL 0 _ tb t (bentI b l k ts) (.mark 0) (read_flush hbd (bent_eq b l k ts)) hbd (bent_few hl hn)) (fun H v h' h => ?_) (fun _ h => h)
  obtain ⟨a, D, c, qs, tq, t', hv, ha, hn', hD, hd, hne, e⟩ := h
  exact ⟨a, D, c, qs, tq, t', hv, ha, hn', hD, hd, hne, e⟩
section
variable {prog : Program} {w : World} {A : Around} {E : Value → Shared → Prop} {s s₁ : Shared} {Q : Value → Shared → Prop} {value slice : PySem.Expr} {h₀ : Heap} {L l : Addr} {m : PySem.Str → Option Value} {news : List (Addr × Obj)} {env : Env}
/-- one of six -/
theorem item6 {k : Int} {u : Tok} {v0 v1 v2 v3 v4 v5 : Value} {c : Nat} (N : News h₀ L s.heap news) (hm : (l, listOf [v0, v1, v2, v3, v4, v5].toArray c) ∈ news) (h0 : 0 ≤ k) (h1 : k < 6)
    (q0 : Q v0 s) (q1 : Q v1 s) (q2 : Q v2 s) (q3 : Q v3 s) (q4 : Q v4 s) (q5 : Q v5 s) (hs : ∀ k : Int, subscripted slice false (.ref l) (.int k u) = operate [.ref l, .int k u] (getItem (.ref l) (.int k u)) := by intro _; with_unfolding_all rfl) :
    wpAny (model prog w) A (subscriptTail value slice (.ref l) (.int k u)) Q E s := by
  have hl : s.heap.IsList l [v0, v1, v2, v3, v4, v5].toArray := ⟨_, (N _ hm).1, rfl, _, rfl⟩
  have : k = 0 ∨ k = 1 ∨ k = 2 ∨ k = 3 ∨ k = 4 ∨ k = 5 := by omega
  rcases this with rfl | rfl | rfl | rfl | rfl | rfl
  · exact item_litK hl (by decide) (by decide) rfl q0 (hs _)
  · exact item_litK hl (by decide) (by decide) rfl q1 (hs _)
  · exact item_litK hl (by decide) (by decide) rfl q2 (hs _)
  · exact item_litK hl (by decide) (by decide) rfl q3 (hs _)
  · exact item_litK hl (by decide) (by decide) rfl q4 (hs _)
  · exact item_litK hl (by decide) (by decide) rfl q5 (hs _)
theorem eq_lit {a b : List UInt8} {c : Bool} {t u : Tok} (e : decide (a = b) = c) (h : Q (.bool c) s) : wpAny (model prog w) A (compareOp .Eq (.bytes a.toArray t) (.bytes b.toArray u)) Q E s := bytes_eq (by rw [e]; exact h)
/-- the start of the law's content -/
theorem cut_abs {b : List UInt8} {n : Int} {t tc : Tok} (hF : Fr h₀ L s.heap m) (hN : News h₀ L s.heap news) (hn : 0 ≤ n) (hz : b.length ≤ 50)
    (h : ∀ h' t' k (l : List UInt8), l.length ≤ 50 → Fr h₀ L h' m → News h₀ L h' news → Q (.bytes l.toArray t') { s with heap := h', toks := k })
    (hs : subscripted slice false (.bytes b.toArray t) (.ref s.heap.objs.size) = operate [.ref s.heap.objs.size, .bytes b.toArray t] (getItem (.bytes b.toArray t) (.ref s.heap.objs.size)) := by with_unfolding_all rfl)
    (ht : ∀ r, letTemporaryGo value (.bytes b.toArray t) r = pure () := by intro _; with_unfolding_all rfl) :
    wpAny (model prog w) A (subscriptTail value slice (.bytes b.toArray t) (.ref s.heap.objs.size)) Q E { s with heap := s.heap.push { cls := .type "slice", data := .fields #[.none, .int n tc, .none] } } :=
  cut_to hF hN hn (by omega) (fun h' t' k F N => h h' t' k _ (by rw [List.length_take]; omega) F N) hs ht
end
structure OcSt where
  l : List UInt8
  t : Tok
structure OcW (i : Nat) (c : OcSt) : Prop where
  len : c.l.length ≤ 400 * i
structure RowSt where
  od : Obj
  ol : Obj
structure RowW (w : World) (D : Addr) (i : Nat) (c : RowSt) : Prop where
  deck : Deck w c.od D c.ol
structure DueW (is : List Item) (i : Nat) (c : OcSt) : Prop where
  eq : c.l = frames (is.take i)
  len : c.l.length ≤ 300 * i
theorem row_at {a b c d : List UInt8} {ta tb tc td : Tok} {i : Nat} {v : Value} (h : #[Value.bytes a.toArray ta, .bytes b.toArray tb, .bytes c.toArray tc, .bytes d.toArray td][i]? = some v) (hz : a.length ≤ 3000 ∧ b.length ≤ 3000 ∧ c.length ≤ 3000 ∧ d.length ≤ 3000) : ∃ (l : List UInt8) (t : Tok), l.length ≤ 3000 ∧ v = .bytes l.toArray t := by
  match i, h with
  | 0, h => exact ⟨a, ta, hz.1, (Option.some.inj h).symm⟩
  | 1, h => exact ⟨b, tb, hz.2.1, (Option.some.inj h).symm⟩
  | 2, h => exact ⟨c, tc, hz.2.2.1, (Option.some.inj h).symm⟩
  | 3, h => exact ⟨d, td, hz.2.2.2, (Option.some.inj h).symm⟩
  | n + 4, h => simp at h
theorem items_at {is : List Item} {us : List Value} {i : Nat} {v : Value} (hI : ItemsV is us) (h : us.toArray[i]? = some v) : ∃ it, is[i]? = some it ∧ it ∈ is ∧ ItemV it v := by
  have h1 : us[i]? = some v := by simpa using h
  obtain ⟨hlt, e⟩ := List.getElem?_eq_some_iff.mp h1
  obtain ⟨it, e1, hv⟩ := hI.at i hlt
  exact ⟨it, e1, List.mem_of_getElem? e1, by rw [← e]; exact hv⟩
theorem oc_at {is : List Item} {us : List Value} {i : Nat} {v : Value} (hI : ItemsV is us) (hs : ∀ it ∈ is, Short it) (h : us.toArray[i]? = some v) : (∃ k t, 0 ≤ k ∧ k ≤ 2 ∧ v = .int k t) ∨ ∃ (l : List UInt8) (t : Tok), l.length ≤ 300 ∧ v = .bytes l.toArray t := by
  obtain ⟨it, _, hm, hv⟩ := items_at hI h
  have := hs it hm
  cases it with
  | mark k => obtain ⟨t, rfl⟩ := hv; exact .inl ⟨k, t, this.1, this.2, rfl⟩
  | data l => obtain ⟨t, rfl⟩ := hv; exact .inr ⟨l, t, this, rfl⟩
theorem due_at {l : List UInt8} {k : Nat} {ts : List (List UInt8)} {us : List Value} {i : Nat} {v : Value} (hI : ItemsV (piecesI l k ts) us) (hl : l.length ≤ 100) (ht : ∀ r ∈ ts, r.length ≤ 100) (h : us.toArray[i]? = some v) :
    (∃ t, (piecesI l k ts)[i]? = some (.mark 0) ∧ v = .int 0 t) ∨ ∃ (r : List UInt8) (t : Tok), r.length ≤ 101 ∧ (piecesI l k ts)[i]? = some (.data r) ∧ v = .bytes r.toArray t := by
  obtain ⟨it, e, hm, hv⟩ := items_at hI h
  rcases List.mem_append.mp hm with h | h
  · obtain ⟨r, hr, rfl | rfl⟩ := pieces_banded hl ht it h
    · obtain ⟨t, rfl⟩ := hv; exact .inr ⟨_, t, by rw [List.length_cons]; omega, e, rfl⟩
    · obtain ⟨t, rfl⟩ := hv; exact .inr ⟨_, t, by rw [List.length_cons]; omega, e, rfl⟩
  · rw [List.mem_singleton] at h; subst h
    obtain ⟨t, rfl⟩ := hv; exact .inl ⟨t, e, rfl⟩
theorem due_step {is : List Item} {i : Nat} {d : List UInt8} {t t' : Tok} {it : Item} (h : DueW is i ⟨d, t⟩) (e : is[i]? = some it) (hz : (framed it).length ≤ 200) : DueW is (i + 1) ⟨d ++ framed it, t'⟩ := by
  obtain ⟨h1, h2⟩ := h
  dsimp only at h1 h2
  refine ⟨?_, ?_⟩
  · dsimp only
    rw [h1, List.take_add_one, e, frm_app]
    simp [frames]
  · dsimp only
    rw [List.length_append]
    omega
theorem due_done {is : List Item} {us : List Value} {c : OcSt} (hI : ItemsV is us) (h : DueW is us.toArray.size c) : c.l = frames is := by
  rw [h.eq, List.take_of_length_le (by rw [List.size_toArray, hI.len]; exact Nat.le_refl _)]
end

-- part LN
section
open PySem PySem.Calls PySem.W PyProof.Rows Builtin Builtin.ObjectAttr PyProof.Rows.LCg PySem.SeqAt
set_option maxRecDepth 100000
theorem lr0 (w : World) (mean : ExcName → Option Value) (mg mb : Str → Option Value) (l : List UInt8) (hl : l.length ≤ 100000) (tb t : Tok) : Shut w mean mg mb 144 36 400 [.bytes l.toArray tb, .int 0 t] (ReadV l 0) := lr w mean mg mb l hl 0 tb t
theorem ll0 (w : World) (mean : ExcName → Option Value) (mg mb : Str → Option Value) (l : List UInt8) (hl : l.length ≤ 100000) (tb t : Tok) : Pure w mean mg mb 137 26 300 [.bytes l.toArray tb, .int 0 t] (ReadV l 0) (fun _ => False) := ll w mean mg mb l hl 0 tb t
theorem news_tl2 {h₀ h : Heap} {L : Addr} {a b : Addr × Obj} {l : List (Addr × Obj)} (N : News h₀ L h (a :: b :: l)) : News h₀ L h l := fun q hq => N q (.tail _ (.tail _ hq))
theorem news_tl5 {h₀ h : Heap} {L : Addr} {a b c d e : Addr × Obj} {l : List (Addr × Obj)} (N : News h₀ L h (a :: b :: c :: d :: e :: l)) : News h₀ L h l := news_tl2 (news_tl2 fun q hq => N q (.tail _ hq))
theorem txt_no2 : textOf [110, 111] = Str.ofString "no" := by decide
theorem heardNo (w : World) (mean : ExcName → Option Value) (mg mb : Str → Option Value) (b l : List UInt8) (hb : Banded (.data b)) (hbz : b.length ≤ 99) (hl : l.length ≤ 100) (k : Nat) (ts : List (List UInt8)) (hn : ts.length ≤ 10) (ht : ∀ r ∈ ts, r.length ≤ 100) (tb t : Tok) :
    Shut w mean mg mb 168 36 400 [.bytes (framed (.data b) ++ framed (.data [3, 110, 111]) ++ frames (piecesI l k ts)).toArray tb, .int 0 t] (fun _ v _ => ∃ t, v = .str (Str.ofString "no") t) :=
  Shut.mono (heardTold w mean mg mb b [110, 111] l hb hbz (by decide) hl k ts hn ht tb t) (fun _ v _ h => by rw [txt_no2] at h; exact h)
theorem tri_texts {qs qs' : List (List UInt8 × Tok)} {ts : List (List UInt8)} (h : qs.map (·.1) = ts) (h' : qs'.map (·.1) = ts) : qs.map (·.1) = qs'.map (·.1) := h.trans h'.symm
section
variable {prog : Program} {w : World} {A : Around} {E : Value → Shared → Prop} {s : Shared} {Q : Value → Shared → Prop} {value slice : PySem.Expr} {h₀ : Heap} {L : Addr} {m : PySem.Str → Option Value} {news : List (Addr × Obj)}
theorem cut_four {l : List UInt8} {t tc : Tok} (hF : Fr h₀ L s.heap m) (hN : News h₀ L s.heap news) (hz : l.length ≤ 60000)
    (h : ∀ h' t' k, Fr h₀ L h' m → News h₀ L h' news → Q (.bytes (l.take (l.length - 4)).toArray t') { s with heap := h', toks := k })
    (hs : subscripted slice false (.bytes l.toArray t) (.ref s.heap.objs.size) = operate [.ref s.heap.objs.size, .bytes l.toArray t] (getItem (.bytes l.toArray t) (.ref s.heap.objs.size)) := by with_unfolding_all rfl)
    (ht : ∀ r, letTemporaryGo value (.bytes l.toArray t) r = pure () := by intro _; with_unfolding_all rfl) :
    wpAny (model prog w) A (subscriptTail value slice (.bytes l.toArray t) (.ref s.heap.objs.size)) Q E { s with heap := s.heap.push { cls := .type "slice", data := .fields #[.none, .int (-4) tc, .none] } } :=
  cut_back hF hN (by decide) (by omega) h hs ht
end
abbrev ocPs (nm : Str) (c : OcSt) : List (Str × Value) := [(nm, .bytes c.l.toArray c.t)]
abbrev OcJ (S : List (Addr × Obj) → Prop) (news : List (Addr × Obj)) (nm x : Str) (m₀ : Str → Option Value) (W : Nat → OcSt → Prop) (i : Nat) (m' : Str → Option Value) (nx : List (Addr × Obj)) : Prop :=
  S nx ∧ KstK (fun _ => news) (ocPs nm) x [] m₀ W i m' nx
section
variable {prog : Program} {w : World} {A : Around} {E : Value → Shared → Prop} {s : Shared} {h₀ : Heap} {env : Env} {x : PySem.Str} {body : List Stmt} {Q : Flow → Shared → Prop} {news : List (Addr × Obj)} {m₀ : Str → Option Value}
/-- a loop over a list that turns one name's octets -/
theorem loop_oc {a : Addr} {us : Array Value} {k : Nat} {nm : Str} {l0 : List UInt8} {t0 : Tok} (hh : A.handled = none) (F : Fr h₀ env.locals s.heap m₀) (N : News h₀ env.locals s.heap news)
    (ha : (a, ({ cls := .type "list", data := .seq us k } : Obj)) ∈ news) (W : Nat → OcSt → Prop) (hk : m₀ nm = some (.bytes l0.toArray t0)) (h0 : W 0 ⟨l0, t0⟩)
    (turn : ∀ l t i v h tk I oI, i < us.size → us[i]? = some v → AllNe I news → W i ⟨l, t⟩ → Fr h₀ env.locals h (fun y => if y = x then some v else if y = nm then some (.bytes l.toArray t) else m₀ y) → News h₀ env.locals h ((I, oI) :: news) →
      wpAny (model prog w) A (execs body env) (PostD h₀ env.locals (OcJ (fun nw => (a, ({ cls := .type "list", data := .seq us k } : Obj)) ∈ nw) news nm x m₀ W (i + 1)) I oI { s with heap := h, toks := tk } Q) E { s with heap := h, toks := tk })
    (done : ∀ l t (u : Str → Option Value) h tk, W us.size ⟨l, t⟩ → Fr h₀ env.locals h (fun y => if y = x then u y else if y = nm then some (.bytes l.toArray t) else m₀ y) → News h₀ env.locals h news → Q .next { s with heap := h, toks := tk }) :
    wpAny (model prog w) A (pyIter (.ref a)) (fun it s₂ => LoopAtV prog w A h₀ env x body Q E it s₂) E s := by
  have hm : (fun y => (if ([] : List Str).contains y then (none : Option Value) else m₀ y)) = m₀ := by funext y; rfl
  refine kst_KD (σ := OcSt) (src_list hh N ha) (fun _ => news) (ocPs nm) [] W ⟨l0, t0⟩ F N (fun _ => ha) (fun p hp => by rw [List.mem_singleton] at hp; subst hp; exact hk) h0 (fun c i v u h tk I oI hi hP hne hW F' N' => ?_) (fun c u h tk hW F' N' => ?_)
  · exact turn c.l c.t i v h tk I oI hi hP (allNe_led hne) hW F' N'
  · exact done c.l c.t u h tk hW F' N'
theorem oc_end {S : List (Addr × Obj) → Prop} {nm : Str} {m' : Str → Option Value} {W : Nat → OcSt → Prop} {i : Nat} {L I : Addr} {oI : Obj} {news' : List (Addr × Obj)} {s₁ : Shared} {h' : Heap} {tk : Nat} {l : List UInt8} {t : Tok}
    (F : Fr h₀ L h' m') (N : News h₀ L h' news') (hn : ∀ p ∈ news, p ∈ news') (ho : (I, oI) ∈ news') (ha : ∀ p ∈ news, p.1 ≠ I) (hS : S news) (hk : m' nm = some (.bytes l.toArray t)) (hr : ∀ z, z ≠ x → z ≠ nm → m' z = m₀ z) (hp : W i ⟨l, t⟩) :
    EndD h₀ L (OcJ S news nm x m₀ W i) I oI s₁ { s₁ with heap := h', toks := tk } :=
  kstKD_end ⟨l, t⟩ F N hn ho ha hS (fun p hp => by rw [List.mem_singleton] at hp; subst hp; exact hk) (fun z h1 h2 _ => hr z h1 (h2 _ (.head _))) hp
/-- a loop over a tuple whose turns draw -/
abbrev RowLed (T a1 a2 d D cP cD : Addr) (its : Array Value) (o1 o2 oP oD od ol : Obj) : List (Addr × Obj) := [(T, ({ cls := .type "tuple", data := .seq its } : Obj)), (a1, o1), (a2, o2), (d, od), (D, ol), (cP, oP), (cD, oD)]
abbrev RowJ (T a1 a2 d D cP cD : Addr) (its : Array Value) (o1 o2 oP oD : Obj) (st : List Str) (x : Str) (m₀ : Str → Option Value) (i : Nat) (m' : Str → Option Value) (nx : List (Addr × Obj)) : Prop :=
  (T, ({ cls := .type "tuple", data := .seq its } : Obj)) ∈ nx ∧ KstK (fun c : RowSt => RowLed T a1 a2 d D cP cD its o1 o2 oP oD c.od c.ol) (fun _ => []) x st m₀ (RowW w D) i m' nx
theorem loop_rows {T a1 a2 d D cP cD : Addr} {its : Array Value} {o1 o2 oP oD od ol : Obj} (st : List Str) (hh : A.handled = none) (F : Fr h₀ env.locals s.heap m₀) (N : News h₀ env.locals s.heap (RowLed T a1 a2 d D cP cD its o1 o2 oP oD od ol)) (dk : Deck w od D ol)
    (turn : ∀ od ol i v (u : Str → Option Value) h tk I oI, i < its.size → its[i]? = some v → AllNe I (RowLed T a1 a2 d D cP cD its o1 o2 oP oD od ol) → Deck w od D ol → Fr h₀ env.locals h (fun y => if y = x then some v else kstB (fun z => if st.contains z then u z else m₀ z) [] y) → News h₀ env.locals h [(I, oI), (T, ({ cls := .type "tuple", data := .seq its } : Obj)), (a1, o1), (a2, o2), (d, od), (D, ol), (cP, oP), (cD, oD)] →
      wpAny (model prog w) A (execs body env) (PostD h₀ env.locals (RowJ (w := w) T a1 a2 d D cP cD its o1 o2 oP oD st x m₀ (i + 1)) I oI { s with heap := h, toks := tk } Q) E { s with heap := h, toks := tk })
    (done : ∀ od ol (u : Str → Option Value) h tk, Deck w od D ol → Fr h₀ env.locals h (fun y => if y = x then u y else kstB (fun z => if st.contains z then u z else m₀ z) [] y) → News h₀ env.locals h [(d, od), (D, ol), (cP, oP), (cD, oD)] → Q .next { s with heap := h, toks := tk }) :
    wpAny (model prog w) A (pyIter (.ref T)) (fun it s₂ => LoopAtV prog w A h₀ env x body Q E it s₂) E s := by
  refine kst_KD (σ := RowSt) (src_tuple hh N (.head _)) (fun c => RowLed T a1 a2 d D cP cD its o1 o2 oP oD c.od c.ol) (fun _ => []) st (RowW w D) ⟨od, ol⟩ F N (fun _ => .head _) (List.forall_mem_nil _) ⟨dk⟩ (fun c i v u h tk I oI hi hP hne hW F' N' => ?_) (fun c u h tk hW F' N' => ?_)
  · exact turn c.od c.ol i v u h tk I oI hi hP (allNe_led hne) hW.deck F' N'
  · exact done c.od c.ol u h tk hW.deck F' (fun p hp => N' p (.tail _ (.tail _ (.tail _ hp))))
theorem row_end {T a1 a2 d D cP cD : Addr} {its : Array Value} {o1 o2 oP oD od ol : Obj} {st : List Str} {m' : Str → Option Value} {i : Nat} {L I : Addr} {oI : Obj} {news' : List (Addr × Obj)} {s₁ : Shared} {h' : Heap} {tk : Nat}
    (F : Fr h₀ L h' m') (N : News h₀ L h' news') (dk : Deck w od D ol) (hn : ∀ p ∈ RowLed T a1 a2 d D cP cD its o1 o2 oP oD od ol, p ∈ news') (ho : (I, oI) ∈ news') (ha : ∀ p ∈ RowLed T a1 a2 d D cP cD its o1 o2 oP oD od ol, p.1 ≠ I) (hr : ∀ z, z ≠ x → st.contains z = false → m' z = m₀ z) :
    EndD h₀ L (RowJ (w := w) T a1 a2 d D cP cD its o1 o2 oP oD st x m₀ i) I oI s₁ { s₁ with heap := h', toks := tk } :=
  kstKD_end (σ := RowSt) ⟨od, ol⟩ F N hn ho ha (.head _) (List.forall_mem_nil _) (fun z h1 _ h3 => hr z h1 h3) ⟨dk⟩
/-- the word of the loop over the framed pieces -/
abbrev DueOf {is : List Item} {us : List Value} (_ : ItemsV is us) : Nat → OcSt → Prop := DueW is
theorem due_zero {is : List Item} {t : Tok} : DueW is 0 ⟨[], t⟩ := ⟨rfl, Nat.zero_le _⟩
theorem pieces_few {l : List UInt8} {k : Nat} {ts : List (List UInt8)} (hl : l.length ≤ 100) (hn : ts.length ≤ 10) : (piecesI l k ts).length ≤ 120 := by
  unfold piecesI headsI chunksI
  have := nch_le l.length k
  simp only [List.length_append, List.length_map, List.length_range, List.length_cons, List.length_nil]
  omega
theorem due_size {l : List UInt8} {k : Nat} {ts : List (List UInt8)} {us : List Value} (hI : ItemsV (piecesI l k ts) us) (hl : l.length ≤ 100) (hn : ts.length ≤ 10) : us.toArray.size ≤ 120 := by
  rw [List.size_toArray, hI.len]
  exact pieces_few hl hn
theorem due_len {l : List UInt8} {k : Nat} {ts : List (List UInt8)} {us : List Value} (_ : ItemsV (piecesI l k ts) us) (hl : l.length ≤ 100) (hn : ts.length ≤ 10) (ht : ∀ r ∈ ts, r.length ≤ 100) : (frames (piecesI l k ts)).length ≤ 30000 := frames_len2 hl hn ht
theorem oc_zero {t : Tok} : OcW 0 ⟨[], t⟩ := ⟨Nat.zero_le _⟩
end
end

-- part L3
section
open PySem PySem.Calls PySem.W PyProof.Rows Builtin Builtin.ObjectAttr PyProof.Rows.LCg
set_option maxRecDepth 100000
theorem law_room {d : Nat} (h : 302 + d < 1000) : 1 + claimMargin + 1 + d < recursionLimit := h
theorem law_units {u : Nat} (h : 7 + u < 9900) : 4 + 3 + u < cLine := h
theorem txt_on : (Str.ofString "on") = textOf [111, 110] := by decide
theorem txt_no : (Str.ofString "") = textOf [] := by decide
theorem txt_done : (Str.ofString "done 3") = textOf [100, 111, 110, 101, 32, 51] := by decide
local macro_rules | `(tactic| k_qdec) => `(tactic| decide +kernel)
set_option maxHeartbeats 20000000 in
theorem law_holds : PySem.Challenge.rw_nt0268_01.Holds := by
  k_with_none
  k_with "k_ne" => (refine neN ?_; (try dsimp only); first | with_reducible assumption | (with_reducible refine Ne.symm ?_; with_reducible assumption) | (with_reducible refine' ne_lt ?z1q1 ?z1q2; (case z1q1 => with_reducible assumption); (case z1q2 => (with_reducible ((repeat (first | exact List.mem_cons_self | refine List.mem_cons_of_mem _ ?_)); done)))) | (with_reducible refine' ne_gt ?z1q1 ?z1q2; (case z1q1 => with_reducible assumption); (case z1q2 => (with_reducible ((repeat (first | exact List.mem_cons_self | refine List.mem_cons_of_mem _ ?_)); done)))) | (with_reducible refine' ne_of ?z1q1 ?z1q2; (case z1q1 => with_reducible assumption); (case z1q2 => (with_reducible ((repeat (first | exact List.mem_cons_self | refine List.mem_cons_of_mem _ ?_)); done)))) | (with_reducible refine' ne_fo ?z1q1 ?z1q2; (case z1q1 => with_reducible assumption); (case z1q2 => (with_reducible ((repeat (first | exact List.mem_cons_self | refine List.mem_cons_of_mem _ ?_)); done)))) | (with_reducible refine' off_I ?z1q1 ?z1q2; (case z1q1 => with_reducible assumption); (case z1q2 => (with_reducible ((repeat (first | exact List.mem_cons_self | refine List.mem_cons_of_mem _ ?_)); done)))) | (with_reducible refine' off_C ?z1q1 ?z1q2; (case z1q1 => with_reducible assumption); (case z1q2 => (with_reducible ((repeat (first | exact List.mem_cons_self | refine List.mem_cons_of_mem _ ?_)); done)))) | (with_reducible refine' off_D ?z1q1 ?z1q2; (case z1q1 => with_reducible assumption); (case z1q2 => (with_reducible ((repeat (first | exact List.mem_cons_self | refine List.mem_cons_of_mem _ ?_)); done)))) | (with_reducible refine' I_off ?z1q1 ?z1q2; (case z1q1 => with_reducible assumption); (case z1q2 => (with_reducible ((repeat (first | exact List.mem_cons_self | refine List.mem_cons_of_mem _ ?_)); done)))) | (with_reducible refine' C_off ?z1q1 ?z1q2; (case z1q1 => with_reducible assumption); (case z1q2 => (with_reducible ((repeat (first | exact List.mem_cons_self | refine List.mem_cons_of_mem _ ?_)); done)))) | (with_reducible refine' D_off ?z1q1 ?z1q2; (case z1q1 => with_reducible assumption); (case z1q2 => (with_reducible ((repeat (first | exact List.mem_cons_self | refine List.mem_cons_of_mem _ ?_)); done)))) | (first | exact And.left (by with_reducible assumption) | exact And.left (And.right (by with_reducible assumption)) | exact And.right (And.right (by with_reducible assumption)) | exact And.right (by with_reducible assumption) | exact And.left (And.right (And.right (by with_reducible assumption))) | exact And.left (And.right (And.right (And.right (by with_reducible assumption)))) | exact And.right (And.right (And.right (And.right (by with_reducible assumption)))) | exact And.right (And.right (And.right (by with_reducible assumption))) | exact And.left (And.left (by with_reducible assumption)) | exact And.left (And.right (And.left (by with_reducible assumption))) | exact And.right (And.right (And.left (by with_reducible assumption)))) | (with_reducible refine Ne.symm ?_; first | exact And.left (by with_reducible assumption) | exact And.left (And.right (by with_reducible assumption)) | exact And.right (And.right (by with_reducible assumption)) | exact And.right (by with_reducible assumption) | exact And.left (And.right (And.right (by with_reducible assumption))) | exact And.left (And.right (And.right (And.right (by with_reducible assumption)))) | exact And.right (And.right (And.right (And.right (by with_reducible assumption)))) | exact And.right (And.right (And.right (by with_reducible assumption))) | exact And.left (And.left (by with_reducible assumption)) | exact And.left (And.right (And.left (by with_reducible assumption))) | exact And.right (And.right (And.left (by with_reducible assumption)))) | omega)
  k_with "ktr_enter" => (refine' enterPC ?z2k1 ?z2k2 ?z2k3 ?z2k5 ?z2kA ?z2kF ?z2kK ?z2k6 ?z2k7 ?z2k8 ?z2k9 ?z2kB ?z2kD ?_ ?z2c2 ?z2c3 ?z2c4; (case z2kA => exact rfl); (case z2kF => exact rfl); (case z2kK => assumption); (case z2k1 => k_asm); (case z2k2 => k_asm); (case z2k3 => k_asm); (case z2k5 => k_asm); (case z2k6 => k_is); (case z2k7 => k_is); (case z2k8 => ktr_room); (case z2k9 => first | exact BindsTo.of_eq rfl | exact binds_K (by k_in) rfl (by k_is) rfl rfl rfl); (case z2kB => exact rfl); (case z2kD => decide +kernel); (case z2c2 => exact rfl); (case z2c3 => exact rfl); (case z2c4 => exact rfl); k_whole; intro L' h' tk' cells' F' N' Y' B' X' T'; k_cells Y'; (try simp only [List.cons_append, List.nil_append, List.append_nil] at N'); (try dsimp only); (try k_fold))
  k_with "ktr_enter" => (refine' enterP ?z3k1 ?z3k2 ?z3k3 ?z3k5 ?z3kA ?z3kF ?z3kK ?z3k6 ?z3k7 ?z3k8 ?z3k9 ?z3kB ?_ ?z3c2 ?z3c3 ?z3c4 ?z3c5; (case z3kA => exact rfl); (case z3kF => exact rfl); (case z3kK => assumption); (case z3k1 => k_asm); (case z3k2 => k_asm); (case z3k3 => k_asm); (case z3k5 => k_asm); (case z3k6 => k_is); (case z3k7 => k_is); (case z3k8 => ktr_room); (case z3k9 => first | exact BindsTo.of_eq rfl | exact binds_K (by k_in) rfl (by k_is) rfl rfl rfl); (case z3c5 => decide); (case z3kB => exact locs rfl); (case z3c2 => exact rfl); (case z3c3 => exact rfl); (case z3c4 => exact rfl); k_whole; intro L' h' F' N' B' X' T'; (try dsimp only); (try k_fold))
  k_with "exec Raise some none" => (k_here; (with_reducible show wpAny _ _ (exec (Stmt.Raise (some (Expr.Call (Expr.Name ("BadLine" : Str) _) _ _ _)) none _) _) _ _ _); refine raise_own_init (C := 57) rfl ?_)
  k_with "call ref" => (k_here; (with_reducible show wpAny _ _ (call (Value.ref 57) _) _ _ _); k_dflt (refine' call_excK (C := 57) (fI := 29) ?z5k1 ?z5k2 ?z5k3 PySem.F.excBase_Exception chainBL ?z5kC ?z5k4 ?z5k5 ?z5k6 ?_; (case z5k1 => k_asm); (case z5k2 => k_asm); (case z5k3 => k_asm); (case z5kC => k_is); (case z5k4 => k_is); (case z5k5 => k_is); (case z5k6 => size_fits); k_whole; intro x' d' h' F' N' l1 l2; (try k_lt l1); (try k_lt2 l2); (try k_sweep); k_enter))
  k_with "setAttr ref" => (k_here; k_dflt (refine' set_excK (pre := []) (C := 57) ?z6k1 ?z6k2 ?z6k3 ?z6h1 ?z6h2 ?z6k4 ?z6k5 ?z6k6 ?z6k7 ?z6k8 ?z6k9 ?z6k10 ?_; (case z6k1 => k_asm); (case z6k2 => k_asm); (case z6k3 => k_asm); (case z6h1 => exact List.forall_mem_nil _); (case z6h2 => k_all); (case z6k4 => k_is); (case z6k5 => exact rfl); (case z6k6 => exact rfl); (case z6k7 => decide); (case z6k8 => exact passBL); (case z6k9 => k_is); (case z6k10 => k_is); k_whole; intro x' h' F' N' l1; (try simp only [List.nil_append] at N')))
  k_with "ThrowX" => (k_here; k_dflt (refine' throwX_of ?z7k1 ?z7k2 ?z7k3 ?z7k4 ?z7k5 ?z7k6 ?_; (case z7k1 => k_asm); (case z7k2 => k_asm); (case z7k3 => k_asm); (case z7k4 => k_mem); (case z7k5 => k_is); (case z7k6 => k_is); k_whole))
  k_with "leaving ref" => (k_here; k_dflt (refine' leave_first ?z8k1 ?z8k2 ?z8k3 ?z8k4 ?z8k5 ?z8k6 ?z8k7 ?z8k8 ?_; (case z8k1 => k_asm); (case z8k2 => k_asm); (case z8k3 => k_asm); (case z8k4 => k_mem); (case z8k5 => k_mem); (case z8k6 => (intro _ q9; cases q9)); (case z8k7 => exact notModule); (case z8k8 => exact rfl); k_whole; intro h' R'))
  k_with "kba_size" => first | omega | ((simp only [List.length_append, List.length_take, List.length_drop, List.length_cons, List.length_nil]); omega)
  k_with "call builtin:len" => (k_here; (with_reducible show wpAny _ _ (call (Value.builtin "len") [Value.bytes (List.toArray _) _]) _ _ _); (refine bytes_len (by kba_size) ?_); (try simp only [List.length_append, List.length_take, List.length_drop]))
  k_with "binaryOp Add bytes bytes" => (k_here; (with_reducible show wpAny _ _ (binaryOp Operator.Add (Value.bytes (List.toArray _) _) (Value.bytes (List.toArray _) _)) _ _ _); (refine bytes_add (by kba_size) ?_); intro _ _)
  k_with "compareOp Eq bytes bytes" => (k_here; (with_reducible show wpAny _ _ (compareOp CmpOp.Eq (Value.bytes (List.toArray _) _) (Value.bytes (List.toArray _) _)) _ _ _); (refine bytes_eq ?_))
  k_with "compareOp NotEq bytes bytes" => (k_here; (with_reducible show wpAny _ _ (compareOp CmpOp.NotEq (Value.bytes (List.toArray _) _) (Value.bytes (List.toArray _) _)) _ _ _); (refine bytes_ne ?_))
  k_with "subscriptTail" => (k_here; (with_reducible show wpAny _ _ (subscriptTail _ (Expr.Slice _ _ none _) (Value.bytes (List.toArray _) _) (Value.ref _)) _ _ _); (with_reducible rename Fr _ _ _ _ => F'); (with_reducible rename News _ _ _ _ => N'); (first | refine cut_mid (s := ⟨_, _, _, _, _⟩) F' N' (by kba_size) (by kba_size) (by kba_size) ?_ | refine cut_from (s := ⟨_, _, _, _, _⟩) F' N' (by kba_size) (by kba_size) ?_ | refine cut_to (s := ⟨_, _, _, _, _⟩) F' N' (by kba_size) (by kba_size) ?_ | refine cut_back (s := ⟨_, _, _, _, _⟩) F' N' (by kba_size) (by kba_size) ?_); intro h' _ _ F' N')
  k_with "exec For Name Subscript cons nil" => (k_here; (rename Fr _ _ _ _ => lF'); (with_unfolding_all refine' For_invVF lF' ?z15k1 ?z15k2 ?_; (case z15k1 => exact rfl); (case z15k2 => exact rfl); k_whole))
  k_with "leaving ref" => (k_here; k_dflt (refine' leave_next ?z16k1 ?z16k2 ?z16k3 ?z16k7 ?z16k8 ?_; (case z16k3 => assumption); (case z16k1 => assumption); (case z16k2 => assumption); (case z16k7 => exact notModule); (case z16k8 => exact rfl); k_whole; intro h' R'))
  k_with "call builtin:list.append" => (k_here; (with_reducible show wpAny _ _ (call (Value.builtin _) [Value.ref _, _]) _ _ _); k_dflt (refine' append_L ?z17k1 ?z17k2 ?z17k3 ?z17z ?_; (case z17k1 => k_asm); (case z17k2 => k_asm); (case z17k3 => k_upd); (case z17z => kba_size); k_whole); intro h' F' N'; (try k_sweep))
  k_with "compareOp Eq bytes int" => (with_reducible refine eq_bytes_int ?_)
  k_with "compareOp Eq int bytes" => (with_reducible refine eq_int_bytes ?_)
  k_with "call type:bytes" => (k_here; (with_reducible show wpAny _ _ (call (Value.type _) [Value.ref _]) _ _ _); k_dflt (refine' bytes_mk ?z20F ?z20N ?z20m ?z20i ?z20z ?z20h ?_; (case z20F => k_asm); (case z20N => k_asm); (case z20m => k_mem); (case z20i => (first | assumption | exact .nil | exact .cons .nil | exact .cons (.cons .nil) | exact .cons (.cons (.cons .nil)) | exact .cons (.cons (.cons (.cons .nil))))); (case z20z => first | omega | (simp only [List.length_cons, List.length_nil]; omega)); (case z20h => with_unfolding_all rfl); k_whole); intro h' t' k' F' N'; (try k_sweep))
  k_with "exec Assign cons ListComp" => (k_here; k_dflt (refine Assign_ListComp_K (F₀ := by k_asm) (by rfl) (by with_unfolding_all rfl) (by with_unfolding_all rfl) (by decide) (by rfl) (by decide) (by rfl) (by rfl) (by rfl) ?_))
  k_with "eval Dict" => (k_here; k_dflt (refine' kdn_eval (knd := PySem.strKind _ _) ?z22F ?z22N ?z22b ?z22a ?z22l ?z22e ?z22n ?_; (case z22F => k_asm); (case z22N => first | k_asm | exact News.nil); (case z22b => exact Top.nolimit (by k_asm)); (case z22a => rfl); (case z22l => rfl); (case z22e => exact List.cons_ne_nil _ _); (case z22n => exact Nat.le_of_ble_eq_true rfl)); intro d' h' o' F' N' l1 lo' hd'; (try k_lt l1))
  k_with "PostD" => (dsimp only [PostD])
  k_with "CompEnd" => (k_here; (refine CompEnd.intro (by assumption) (by assumption) _ (by lcg_sub) (by lcg_off) (by lcg_src) ⟨_, _, _, by assumption, by assumption, by assumption, rfl⟩))
  k_with "exec For Name Name cons nil" => (k_here; (with_reducible rename Fr _ _ _ _ => lF'); (with_unfolding_all refine' For_invVF lF' ?z25k1 ?z25k2 ?_; (case z25k1 => exact rfl); (case z25k2 => exact rfl); k_whole))
  k_with "exec For Name Tuple cons nil" => (k_here; (with_reducible rename Fr _ _ _ _ => lF'); (with_unfolding_all refine' For_invVF lF' ?z26k1 ?z26k2 ?_; (case z26k1 => exact rfl); (case z26k2 => exact rfl); k_whole))
  k_with "exec For Name Call cons nil" => (k_here; (with_reducible rename Fr _ _ _ _ => lF'); (with_unfolding_all refine' For_invVF lF' ?z27k1 ?z27k2 ?_; (case z27k1 => exact rfl); (case z27k2 => exact rfl); k_whole))
  k_with "call ref" => (k_here; (with_reducible show wpAny _ _ (call (Value.ref 125) [Value.ref _, Value.int _ _]) _ _ _); (fail_if_success (with_reducible rename Deck _ _ _ _ => dk9)); (with_reducible rename News _ _ _ _ => N9); k_dflt (refine' law_prep N9 ?z28hp (fun pool9 hp9 N' => ?_); (case z28hp => exact pool_ok (by decide)); clear N9; have dk9 := deck_ok (by assumption) (by assumption)))
  k_with "call ref" => (k_here; (with_reducible show wpAny _ _ (call (Value.ref 125) [Value.ref _, Value.int _ _]) _ _ _); (with_reducible rename Deck _ _ _ _ => dk9); k_dflt (refine' draw_use ?z29k1 ?z29k2 ?z29k3 ?z29k4 ?z29k5 ?z29k6 ?z29k7 ?z29k8 ?z29u1 ?z29u2 ?z29ne dk9 ?z29a ?z29b ?_; (case z29k1 => k_asm); (case z29k2 => k_asm); (case z29k3 => k_asm); (case z29k4 => k_asm); (case z29k5 => k_asm); (case z29k6 => first | exact rfl | assumption); (case z29k7 => (refine law_room ?_; decide)); (case z29k8 => (refine law_units ?_; decide)); (case z29u1 => k_updF); (case z29u2 => (intro o9; k_updF)); (case z29ne => k_ne); (case z29a => first | decide | omega); (case z29b => first | decide | omega); k_whole); intro r9 t9 h' tk' od9 ol9 r91 r92 F' N' dk8; clear dk9; (try dsimp only at N'); (try dsimp only))
  k_with "call ref" => (k_here; (with_reducible show wpAny _ _ (call (Value.ref 151) [Value.ref _]) _ _ _); (with_reducible rename Deck _ _ _ _ => dk9); k_dflt (refine' likely_use ?z30k1 ?z30k2 ?z30k3 ?z30k4 ?z30k5 ?z30k6 ?z30k7 ?z30k8 ?z30u1 ?z30u2 ?z30ne dk9 ?_; (case z30k1 => k_asm); (case z30k2 => k_asm); (case z30k3 => k_asm); (case z30k4 => k_asm); (case z30k5 => k_asm); (case z30k6 => first | exact rfl | assumption); (case z30k7 => (refine law_room ?_; decide)); (case z30k8 => (refine law_units ?_; decide)); (case z30u1 => k_updF); (case z30u2 => (intro o9; k_updF)); (case z30ne => k_ne); k_whole); intro l9 t9 h' tk' od9 ol9 hl9 F' N' dk8; clear dk9; (try dsimp only at N'); (try dsimp only))
  k_with "CompK" => (k_here; k_dflt (refine' CompK.items (by rfl) ?z31q1 ?z31q2 ?z31q3 ?z31q4 ?z31q5 ?z31q6 (fun ys is od9 ol9 hI9 hS9 dk8 v I oI C oC D' m₂ h' tk' E' hP9 hC hx F' N' off ne => ?_) (fun g ys is od9 ol9 hI9 hS9 hl9 dk8 => ?_); (case z31q1 => with_reducible assumption); (case z31q2 => omega); (case z31q3 => omega); (case z31q4 => k_asm); (case z31q5 => k_asm); (case z31q6 => with_reducible assumption)); (all_goals (try (obtain ⟨ne1, ne2, ne3⟩ := ne))); (all_goals (try (obtain ⟨t7, i7, rfl⟩ := hP9))))
  k_with "subscriptTail" => (k_here; (with_reducible show wpAny _ _ (subscriptTail _ (Expr.Call _ _ _ _) (Value.ref _) (Value.int _ _)) _ _ _); k_dflt (refine' pool_at ?z32k1 ?z32k2 ?z32k3 ?z32k4 ?z32k5 (fun it9 v9 hi9 hs9 => ?_) ?z32k6; (case z32k1 => k_asm); (case z32k2 => k_mem); (case z32k3 => assumption); (case z32k4 => omega); (case z32k5 => omega); (case z32k6 => with_unfolding_all rfl)))
  k_with "call ref" => (k_here; (with_reducible show wpAny _ _ (call (Value.ref 76) [Value.bytes _ _]) _ _ _); k_dflt (refine' pure_use (pkD _ _ _ _ _ ?z33kl _) ?z33k1 ?z33k2 ?z33k3 ?z33k4 ?z33k5 ?z33k6 ?z33k7 ?z33k8 (fun v9 h' tk' F' N' kF9 kN9 kk9 hR9 => ?_) (fun _ _ _ _ _ _ _ h9 => False.elim h9); (case z33kl => kba_size); (case z33k1 => k_asm); (case z33k2 => k_asm); (case z33k3 => k_asm); (case z33k4 => k_asm); (case z33k5 => k_asm); (case z33k6 => first | exact rfl | assumption); (case z33k7 => (refine law_room ?_; decide)); (case z33k8 => (refine law_units ?_; decide))); clear kF9 kN9 kk9; obtain ⟨tt9, e9⟩ := hR9; have hfm9 := data_len9 e9; (try simp only [List.length_cons, List.length_nil] at hfm9); subst e9; (try dsimp only))
  k_with "call ref" => (k_here; (with_reducible show wpAny _ _ (call (Value.ref 76) [Value.int _ _]) _ _ _); k_dflt (refine' pure_use (pkI _ _ _ _ _ ?z34ka ?z34kb _) ?z34k1 ?z34k2 ?z34k3 ?z34k4 ?z34k5 ?z34k6 ?z34k7 ?z34k8 (fun v9 h' tk' F' N' kF9 kN9 kk9 hR9 => ?_) (fun _ _ _ _ _ _ _ h9 => False.elim h9); (case z34ka => omega); (case z34kb => omega); (case z34k1 => k_asm); (case z34k2 => k_asm); (case z34k3 => k_asm); (case z34k4 => k_asm); (case z34k5 => k_asm); (case z34k6 => first | exact rfl | assumption); (case z34k7 => (refine law_room ?_; decide)); (case z34k8 => (refine law_units ?_; decide))); clear kF9 kN9 kk9; obtain ⟨tt9, e9⟩ := hR9; have hfm9 := mark_len9 e9; subst e9; (try dsimp only))
  k_with "call ref" => (k_here; (with_reducible show wpAny _ _ (call (Value.ref 130) [Value.bytes _ _]) _ _ _); k_dflt (refine' pure_use (lfD _ _ _ _ _ ?z35kl _) ?z35k1 ?z35k2 ?z35k3 ?z35k4 ?z35k5 ?z35k6 ?z35k7 ?z35k8 (fun v9 h' tk' F' N' kF9 kN9 kk9 hR9 => ?_) (fun _ _ _ _ _ _ _ h9 => False.elim h9); (case z35kl => kba_size); (case z35k1 => k_asm); (case z35k2 => k_asm); (case z35k3 => k_asm); (case z35k4 => k_asm); (case z35k5 => k_asm); (case z35k6 => first | exact rfl | assumption); (case z35k7 => (refine law_room ?_; decide)); (case z35k8 => (refine law_units ?_; decide))); clear kF9 kN9 kk9; obtain ⟨tt9, e9⟩ := hR9; have hfm9 := data_len9 e9; (try simp only [List.length_cons, List.length_nil] at hfm9); subst e9; (try dsimp only))
  k_with "call ref" => (k_here; (with_reducible show wpAny _ _ (call (Value.ref 130) [Value.int _ _]) _ _ _); k_dflt (refine' pure_use (lfI _ _ _ _ _ ?z36ka ?z36kb _) ?z36k1 ?z36k2 ?z36k3 ?z36k4 ?z36k5 ?z36k6 ?z36k7 ?z36k8 (fun v9 h' tk' F' N' kF9 kN9 kk9 hR9 => ?_) (fun _ _ _ _ _ _ _ h9 => False.elim h9); (case z36ka => omega); (case z36kb => omega); (case z36k1 => k_asm); (case z36k2 => k_asm); (case z36k3 => k_asm); (case z36k4 => k_asm); (case z36k5 => k_asm); (case z36k6 => first | exact rfl | assumption); (case z36k7 => (refine law_room ?_; decide)); (case z36k8 => (refine law_units ?_; decide))); clear kF9 kN9 kk9; obtain ⟨tt9, e9⟩ := hR9; have hfm9 := mark_len9 e9; subst e9; (try dsimp only))
  k_with "compareOp NotEq bytes bytes" => (k_here; (with_reducible show wpAny _ _ (compareOp CmpOp.NotEq (Value.bytes (List.toArray _) _) (Value.bytes (List.toArray _) _)) _ _ _); (refine ne_same ?_))
  k_with "subscriptTail" => (k_here; (with_reducible show wpAny _ _ (subscriptTail _ (Expr.Call _ _ _ _) (Value.ref _) (Value.int _ _)) _ _ _); k_dflt (refine' item2i ?z38k1 ?z38k2 ?z38k4 ?z38k5 (fun n9 t9 hn9 => ?_) ?z38k6; (case z38k1 => k_asm); (case z38k2 => k_mem); (case z38k4 => omega); (case z38k5 => omega); (case z38k6 => with_unfolding_all rfl)))
  k_with "call ref" => (k_here; (with_reducible show wpAny _ _ (call (Value.ref 144) [Value.bytes _ _, Value.int ((_ : Nat) : Int) _]) _ _ _); k_dflt (refine' shut_use (lr _ _ _ _ _ ?z39kl _ _ _) ?z39k1 ?z39k2 ?z39k3 ?z39k4 ?z39k5 ?z39k6 ?z39k7 ?z39k8 (fun v9 h' tk' F' N' kF9 kN9 hR9 => ?_); (case z39kl => kba_size); (case z39k1 => k_asm); (case z39k2 => k_asm); (case z39k3 => k_asm); (case z39k4 => k_asm); (case z39k5 => k_asm); (case z39k6 => first | exact rfl | assumption); (case z39k7 => (refine law_room ?_; decide)); (case z39k8 => (refine law_units ?_; decide))); k_dflt ((obtain h9 | ⟨is9, q9, hr9, a9, D9, vs9, c9, tq9, hi9, e9, ha9, hn9, hD9, hd9, hne9⟩ := read_cases hR9); (all_goals (try (obtain ⟨hr9, e9⟩ := h9; subst e9))); (all_goals (try (subst e9; replace N' := news_add kF9 (news_add kF9 N' hD9 hd9) ha9 hn9; clear ha9 hn9 hD9 hd9))); (all_goals clear kF9 kN9 hR9); (all_goals (try dsimp only))))
  k_with "call ref" => (k_here; (with_reducible show wpAny _ _ (call (Value.ref 144) [Value.bytes _ _, Value.int 0 _]) _ _ _); k_dflt (refine' shut_use (lr0 _ _ _ _ _ ?z40kl _ _) ?z40k1 ?z40k2 ?z40k3 ?z40k4 ?z40k5 ?z40k6 ?z40k7 ?z40k8 (fun v9 h' tk' F' N' kF9 kN9 hR9 => ?_); (case z40kl => kba_size); (case z40k1 => k_asm); (case z40k2 => k_asm); (case z40k3 => k_asm); (case z40k4 => k_asm); (case z40k5 => k_asm); (case z40k6 => first | exact rfl | assumption); (case z40k7 => (refine law_room ?_; decide)); (case z40k8 => (refine law_units ?_; decide))); k_dflt ((obtain h9 | ⟨is9, q9, hr9, a9, D9, vs9, c9, tq9, hi9, e9, ha9, hn9, hD9, hd9, hne9⟩ := read_cases hR9); (all_goals (try (obtain ⟨hr9, e9⟩ := h9; subst e9))); (all_goals (try (subst e9; replace N' := news_add kF9 (news_add kF9 N' hD9 hd9) ha9 hn9; clear ha9 hn9 hD9 hd9))); (all_goals clear kF9 kN9 hR9); (all_goals (try dsimp only))))
  k_with "call ref" => (k_here; (with_reducible show wpAny _ _ (call (Value.ref 137) [Value.bytes _ _, Value.int ((_ : Nat) : Int) _]) _ _ _); k_dflt (refine' pure_use (ll _ _ _ _ _ ?z41kl _ _ _) ?z41k1 ?z41k2 ?z41k3 ?z41k4 ?z41k5 ?z41k6 ?z41k7 ?z41k8 (fun v9 h' tk' F' N' kF9 kN9 kk9 hR9 => ?_) (fun _ _ _ _ _ _ _ h9 => False.elim h9); (case z41kl => kba_size); (case z41k1 => k_asm); (case z41k2 => k_asm); (case z41k3 => k_asm); (case z41k4 => k_asm); (case z41k5 => k_asm); (case z41k6 => first | exact rfl | assumption); (case z41k7 => (refine law_room ?_; decide)); (case z41k8 => (refine law_units ?_; decide))); k_dflt ((first | (have e9 := read_none (by with_reducible assumption) hR9; subst e9; clear kF9 kN9 kk9 hR9) | (obtain ⟨a8, D8, vs8, c8, tq8, hi8, e8, ha8, hn8, hD8, hd8, hne8⟩ := read_some (by with_reducible assumption) hR9; subst e8; replace N' := news_add kF9 (news_add kF9 N' hD8 hd8) ha8 hn8; clear kF9 kN9 kk9 hR9 ha8 hn8 hD8 hd8)); (try dsimp only)))
  k_with "call ref" => (k_here; (with_reducible show wpAny _ _ (call (Value.ref 137) [Value.bytes _ _, Value.int 0 _]) _ _ _); k_dflt (refine' pure_use (ll0 _ _ _ _ _ ?z42kl _ _) ?z42k1 ?z42k2 ?z42k3 ?z42k4 ?z42k5 ?z42k6 ?z42k7 ?z42k8 (fun v9 h' tk' F' N' kF9 kN9 kk9 hR9 => ?_) (fun _ _ _ _ _ _ _ h9 => False.elim h9); (case z42kl => kba_size); (case z42k1 => k_asm); (case z42k2 => k_asm); (case z42k3 => k_asm); (case z42k4 => k_asm); (case z42k5 => k_asm); (case z42k6 => first | exact rfl | assumption); (case z42k7 => (refine law_room ?_; decide)); (case z42k8 => (refine law_units ?_; decide))); k_dflt ((first | (have e9 := read_none (by with_reducible assumption) hR9; subst e9; clear kF9 kN9 kk9 hR9) | (obtain ⟨a8, D8, vs8, c8, tq8, hi8, e8, ha8, hn8, hD8, hd8, hne8⟩ := read_some (by with_reducible assumption) hR9; subst e8; replace N' := news_add kF9 (news_add kF9 N' hD8 hd8) ha8 hn8; clear kF9 kN9 kk9 hR9 ha8 hn8 hD8 hd8)); (try dsimp only)))
  k_with "compareOp NotEq ref ref" => (k_here; (with_reducible show wpAny _ _ (compareOp CmpOp.NotEq (Value.ref _) (Value.ref _)) _ _ _); (with_reducible rename News _ _ _ _ => N9); k_dflt (refine' rcne_pair (N9 (_, _) ?z43ma).1 (N9 (_, _) ?z43mb).1 ?z43u (eqat_items (N9 (_, _) ?z43mc).1 (N9 (_, _) ?z43md).1 ?z43va ?z43vb ?z43u2) eqat_int ?_; (case z43ma => k_mem); (case z43mb => k_mem); (case z43mc => k_mem); (case z43md => k_mem); (case z43va => assumption); (case z43vb => assumption); (case z43u => first | exact (show 7 < 9900 by decide) | exact (show 7 + 1 < 9900 by decide) | exact (show 7 + 2 < 9900 by decide) | exact (show 7 + 3 < 9900 by decide) | exact (show 7 + 4 < 9900 by decide)); (case z43u2 => first | exact (show 7 < 9900 by decide) | exact (show 7 + 1 < 9900 by decide) | exact (show 7 + 2 < 9900 by decide) | exact (show 7 + 3 < 9900 by decide) | exact (show 7 + 4 < 9900 by decide))))
  k_with "subscriptTail" => (k_here; (with_reducible show wpAny _ _ (subscriptTail (Expr.Constant _ _ _) (Expr.Slice _ _ none _) (Value.bytes (List.toArray _) _) (Value.ref _)) _ _ _); (with_reducible rename Fr _ _ _ _ => F'); (with_reducible rename News _ _ _ _ => N'); (refine cut_abs (s := ⟨_, _, _, _, _⟩) F' N' (by assumption) (by decide) ?_); intro h' _ _ l9 hl9 F' N')
  k_with "subscriptTail" => (k_here; (with_reducible show wpAny _ _ (subscriptTail (Expr.List _ _) (Expr.Slice _ _ none _) (Value.ref _) (Value.ref _)) _ _ _); (with_reducible rename Fr _ _ _ _ => F'); (with_reducible rename News _ _ _ _ => N'); (simp only [txt_on, txt_no, txt_done] at N'); (refine cut_texts (s := ⟨_, _, _, _, _⟩) (by assumption) F' N' (by k_mem) (by decide) ?_); intro D9 h' ps9 hps9 hts9 F' N' l1; (try k_lt l1); (try k_sweep))
  k_with "subscriptTail List Slice ref ref" => (k_here; (with_reducible show wpAny _ _ (subscriptTail (Expr.List _ _) (Expr.Slice _ _ none _) (Value.ref _) (Value.ref _)) _ _ _); (with_reducible rename Fr _ _ _ _ => F'); (with_reducible rename News _ _ _ _ => N'); (simp only [txt_on, txt_no, txt_done] at N'); (refine cut_texts (s := ⟨_, _, _, _, _⟩) (by assumption) F' N' (by k_mem) (by decide) ?_); intro D9 h' ps9 hps9 hts9 F' N' l1; (try k_lt l1); (try k_sweep))
  k_with "subscriptTail Name Slice ref ref" => (k_here; (with_reducible show wpAny _ _ (subscriptTail (Expr.List _ _) (Expr.Slice _ _ none _) (Value.ref _) (Value.ref _)) _ _ _); (with_reducible rename Fr _ _ _ _ => F'); (with_reducible rename News _ _ _ _ => N'); (simp only [txt_on, txt_no, txt_done] at N'); (refine cut_texts (s := ⟨_, _, _, _, _⟩) (by assumption) F' N' (by k_mem) (by decide) ?_); intro D9 h' ps9 hps9 hts9 F' N' l1; (try k_lt l1); (try k_sweep))
  k_with "call ref" => (k_here; (with_reducible show wpAny _ _ (call (Value.ref 156) [Value.bytes _ _, Value.int _ _, Value.ref _]) _ _ _); k_dflt (refine' pureH_use (lbZ _ _ _ _ _ ?z48kl _ ?z48ka ?z48kb _ ?z48kc ?z48kd _ _ _ _) ?z48k1 ?z48k2 ?z48k3 ?z48k4 ?z48k5 ?z48k6 ?z48k7 ?z48k8 ?z48pre (fun v9 h' tk' F' N' kF9 kN9 kk9 hR9 => ?_); (case z48kl => kba_size); (case z48ka => omega); (case z48kb => omega); (case z48kd => assumption); (case z48kc => omega); (case z48k1 => k_asm); (case z48k2 => k_asm); (case z48k3 => k_asm); (case z48k4 => k_asm); (case z48k5 => k_asm); (case z48k6 => first | exact rfl | assumption); (case z48k7 => (refine law_room ?_; decide)); (case z48k8 => (refine law_units ?_; decide)); (case z48pre => ((with_reducible rename News _ _ _ _ => N9); exact (N9 (_, _) (by k_mem)).1))); k_dflt (obtain ⟨D9, vs9, c9, e9, hD9, hd9, hi9⟩ := hR9); subst e9; replace N' := news_add kF9 N' hD9 hd9; clear kF9 kN9 kk9 hD9 hd9; (try dsimp only))
  k_with "call ref" => (k_here; (with_reducible show wpAny _ _ (call (Value.ref 105) [Value.bytes _ _, Value.int _ _, Value.ref _]) _ _ _); k_dflt (refine' pureH_use (sbLZ _ _ _ _ _ ?z49kl _ ?z49ka ?z49kb _ ?z49kc ?z49kd _ _ _ _) ?z49k1 ?z49k2 ?z49k3 ?z49k4 ?z49k5 ?z49k6 ?z49k7 ?z49k8 ?z49pre (fun v9 h' tk' F' N' kF9 kN9 kk9 hR9 => ?_); (case z49kl => kba_size); (case z49ka => omega); (case z49kb => omega); (case z49kd => assumption); (case z49kc => omega); (case z49k1 => k_asm); (case z49k2 => k_asm); (case z49k3 => k_asm); (case z49k4 => k_asm); (case z49k5 => k_asm); (case z49k6 => first | exact rfl | assumption); (case z49k7 => (refine law_room ?_; decide)); (case z49k8 => (refine law_units ?_; decide)); (case z49pre => ((with_reducible rename News _ _ _ _ => N9); exact (N9 (_, _) (by k_mem)).1))); clear kF9 kN9 kk9; obtain ⟨tt9, e9⟩ := hR9; subst e9; (try dsimp only))
  k_with "call ref" => (k_here; (with_reducible show wpAny _ _ (call (Value.ref 105) [Value.bytes _ _, Value.int _ _, Value.ref _]) _ _ _); k_dflt (refine' pureH_use (sbEZ _ _ _ _ _ ?z50kl _ ?z50ka ?z50kb _ _ _) ?z50k1 ?z50k2 ?z50k3 ?z50k4 ?z50k5 ?z50k6 ?z50k7 ?z50k8 ?z50pre (fun v9 h' tk' F' N' kF9 kN9 kk9 hR9 => ?_); (case z50kl => kba_size); (case z50ka => omega); (case z50kb => omega); (case z50k1 => k_asm); (case z50k2 => k_asm); (case z50k3 => k_asm); (case z50k4 => k_asm); (case z50k5 => k_asm); (case z50k6 => first | exact rfl | assumption); (case z50k7 => (refine law_room ?_; decide)); (case z50k8 => (refine law_units ?_; decide)); (case z50pre => ((with_reducible rename News _ _ _ _ => N9); exact (N9 (_, _) (by k_mem)).1))); clear kF9 kN9 kk9; obtain ⟨tt9, e9⟩ := hR9; subst e9; (try dsimp only))
  k_with "call ref" => (k_here; (with_reducible show wpAny _ _ (call (Value.ref 105) [Value.bytes _ _, Value.int _ _]) _ _ _); k_dflt (refine' pureH_use (sbDZ _ _ _ _ _ ?z51kl _ ?z51ka ?z51kb _ _) ?z51k1 ?z51k2 ?z51k3 ?z51k4 ?z51k5 ?z51k6 ?z51k7 ?z51k8 ?z51pre (fun v9 h' tk' F' N' kF9 kN9 kk9 hR9 => ?_); (case z51kl => kba_size); (case z51ka => omega); (case z51kb => omega); (case z51k1 => k_asm); (case z51k2 => k_asm); (case z51k3 => k_asm); (case z51k4 => k_asm); (case z51k5 => k_asm); (case z51k6 => first | exact rfl | assumption); (case z51k7 => (refine law_room ?_; decide)); (case z51k8 => (refine law_units ?_; decide)); (case z51pre => exact trivial)); clear kF9 kN9 kk9; obtain ⟨tt9, e9⟩ := hR9; subst e9; (try dsimp only))
  k_with "call ref" => (k_here; (with_reducible show wpAny _ _ (call (Value.ref 113) [Value.bytes _ _, Value.int _ _]) _ _ _); k_dflt (refine' pure_use (ubLaw _ _ _ _ _ ?z52kl _ ?z52ka _ ?z52kc ?z52kd _ _) ?z52k1 ?z52k2 ?z52k3 ?z52k4 ?z52k5 ?z52k6 ?z52k7 ?z52k8 (fun v9 h' tk' F' N' kF9 kN9 kk9 hR9 => ?_) (fun _ _ _ _ _ _ _ h9 => False.elim h9); (case z52kl => kba_size); (case z52ka => omega); (case z52kd => exact ts_ok (by assumption)); (case z52kc => ((rw [List.length_map]); omega)); (case z52k1 => k_asm); (case z52k2 => k_asm); (case z52k3 => k_asm); (case z52k4 => k_asm); (case z52k5 => k_asm); (case z52k6 => first | exact rfl | assumption); (case z52k7 => (refine law_room ?_; decide)); (case z52k8 => (refine law_units ?_; decide))); k_dflt (obtain ⟨a9, D9, c9, qs9, tq9, tt9, e9, ha9, hn9, hD9, hd9, hne9, hq9⟩ := hR9); subst e9; replace N' := news_add kF9 (news_add kF9 N' hD9 hd9) ha9 hn9; clear kF9 kN9 ha9 hn9 hD9 hd9; (try dsimp only); clear kk9)
  k_with "compareOp NotEq ref ref" => (k_here; (with_reducible show wpAny _ _ (compareOp CmpOp.NotEq (Value.ref _) (Value.ref _)) _ _ _); (with_reducible rename News _ _ _ _ => N9); k_dflt (refine' rcne_triple (N9 (_, _) ?z53ma).1 (N9 (_, _) ?z53mb).1 ?z53u eqat_bytes (eqat_texts (N9 (_, _) ?z53mc).1 (N9 (_, _) ?z53md).1 ?z53va ?z53u2) eqat_int ?_; (case z53ma => k_mem); (case z53mb => k_mem); (case z53mc => k_mem); (case z53md => k_mem); (case z53va => (first | assumption | (symm; assumption))); (case z53u => first | exact (show 7 < 9900 by decide) | exact (show 7 + 1 < 9900 by decide) | exact (show 7 + 2 < 9900 by decide) | exact (show 7 + 3 < 9900 by decide) | exact (show 7 + 4 < 9900 by decide)); (case z53u2 => first | exact (show 7 < 9900 by decide) | exact (show 7 + 1 < 9900 by decide) | exact (show 7 + 2 < 9900 by decide) | exact (show 7 + 3 < 9900 by decide) | exact (show 7 + 4 < 9900 by decide))); (replace N9 := news_tl5 N9))
  k_with "compareOp Eq ref ref" => (k_here; (with_reducible show wpAny _ _ (compareOp CmpOp.Eq (Value.ref _) (Value.ref _)) _ _ _); (with_reducible rename News _ _ _ _ => N9); k_dflt (refine' rceq_triple (N9 (_, _) ?z54ma).1 (N9 (_, _) ?z54mb).1 ?z54u eqat_bytes (eqat_texts (N9 (_, _) ?z54mc).1 (N9 (_, _) ?z54md).1 ?z54va ?z54u2) eqat_int ?_; (case z54ma => k_mem); (case z54mb => k_mem); (case z54mc => k_mem); (case z54md => k_mem); (case z54va => exact tri_texts (by with_reducible assumption) (by with_reducible assumption)); (case z54u => first | exact (show 7 < 9900 by decide) | exact (show 7 + 1 < 9900 by decide) | exact (show 7 + 2 < 9900 by decide) | exact (show 7 + 3 < 9900 by decide) | exact (show 7 + 4 < 9900 by decide)); (case z54u2 => first | exact (show 7 < 9900 by decide) | exact (show 7 + 1 < 9900 by decide) | exact (show 7 + 2 < 9900 by decide) | exact (show 7 + 3 < 9900 by decide) | exact (show 7 + 4 < 9900 by decide))))
  k_with "subscriptTail" => (k_here; (with_reducible show wpAny _ _ (subscriptTail _ (Expr.Call _ _ _ _) (Value.ref _) (Value.int _ _)) _ _ _); k_dflt (refine' item2b ?z55k1 ?z55k2 ?z55k4 ?z55k5 ?z55k3 (fun b9 t9 hz9 hb9 => ?_) ?z55k6; (case z55k1 => k_asm); (case z55k2 => k_mem); (case z55k3 => decide); (case z55k4 => omega); (case z55k5 => omega); (case z55k6 => with_unfolding_all rfl)))
  k_with "subscriptTail" => (k_here; (with_reducible show wpAny _ _ (subscriptTail _ (Expr.Call _ _ _ _) (Value.ref _) (Value.int _ _)) _ _ _); k_dflt (refine' item6 ?z56k1 ?z56k2 ?z56k4 ?z56k5 ?_ ?_ ?_ ?_ ?_ ?_ ?z56k6; (case z56k1 => k_asm); (case z56k2 => k_mem); (case z56k4 => omega); (case z56k5 => omega); (case z56k6 => (intro _; with_unfolding_all rfl))))
  k_with "call ref" => (k_here; (with_reducible show wpAny _ _ (call (Value.ref 168) [Value.bytes (List.toArray (List.take _ _)) _, Value.int 0 _]) _ _ _); k_dflt (refine' shut_use (heardCut _ _ _ _ _ ?z57hl _ _ ?z57hn ?z57ht _ _) ?z57k1 ?z57k2 ?z57k3 ?z57k4 ?z57k5 ?z57k6 ?z57k7 ?z57k8 (fun v9 h' tk' F' N' kF9 kN9 hR9 => ?_); (case z57hl => omega); (case z57hn => ((rw [List.length_map]); omega)); (case z57ht => exact ts_ok (by with_reducible assumption)); (case z57k1 => k_asm); (case z57k2 => k_asm); (case z57k3 => k_asm); (case z57k4 => k_asm); (case z57k5 => k_asm); (case z57k6 => first | exact rfl | assumption); (case z57k7 => (refine law_room ?_; decide)); (case z57k8 => (refine law_units ?_; decide))); clear kF9 kN9; obtain ⟨x9, t9, e9⟩ := hR9; subst e9; (try dsimp only))
  k_with "call ref" => (k_here; (with_reducible show wpAny _ _ (call (Value.ref 168) [Value.bytes (List.toArray (framed _ ++ framed _ ++ frames _)) _, Value.int 0 _]) _ _ _); k_dflt (refine' shut_use (heardBad _ _ _ _ _ _ _ ?z58hr ?z58hz ?z58hb ?z58hbz ?z58hl _ _ ?z58hn ?z58ht _ _) ?z58k1 ?z58k2 ?z58k3 ?z58k4 ?z58k5 ?z58k6 ?z58k7 ?z58k8 (fun v9 h' tk' F' N' kF9 kN9 hR9 => ?_); (case z58hr => first | exact .inl rfl | exact .inr rfl | exact trivial | exact ⟨by decide, by decide, by decide, by decide⟩); (case z58hz => first | omega | decide); (case z58hb => with_reducible assumption); (case z58hbz => omega); (case z58hl => omega); (case z58hn => ((rw [List.length_map]); omega)); (case z58ht => exact ts_ok (by with_reducible assumption)); (case z58k1 => k_asm); (case z58k2 => k_asm); (case z58k3 => k_asm); (case z58k4 => k_asm); (case z58k5 => k_asm); (case z58k6 => first | exact rfl | assumption); (case z58k7 => (refine law_room ?_; decide)); (case z58k8 => (refine law_units ?_; decide))); clear kF9 kN9; obtain ⟨x9, t9, e9⟩ := hR9; subst e9; (try dsimp only))
  k_with "call ref" => (k_here; (with_reducible show wpAny _ _ (call (Value.ref 168) [Value.bytes (List.toArray (framed _ ++ framed (Item.data [3, 110, 111]) ++ frames _)) _, Value.int 0 _]) _ _ _); k_dflt (refine' shut_use (heardNo _ _ _ _ _ _ ?z59hb ?z59hbz ?z59hl _ _ ?z59hn ?z59ht _ _) ?z59k1 ?z59k2 ?z59k3 ?z59k4 ?z59k5 ?z59k6 ?z59k7 ?z59k8 (fun v9 h' tk' F' N' kF9 kN9 hR9 => ?_); (case z59hb => with_reducible assumption); (case z59hbz => omega); (case z59hl => omega); (case z59hn => ((rw [List.length_map]); omega)); (case z59ht => exact ts_ok (by with_reducible assumption)); (case z59k1 => k_asm); (case z59k2 => k_asm); (case z59k3 => k_asm); (case z59k4 => k_asm); (case z59k5 => k_asm); (case z59k6 => first | exact rfl | assumption); (case z59k7 => (refine law_room ?_; decide)); (case z59k8 => (refine law_units ?_; decide))); clear kF9 kN9; obtain ⟨t9, e9⟩ := hR9; subst e9; (try dsimp only))
  k_with "call ref" => (k_here; (with_reducible show wpAny _ _ (call (Value.ref 168) [Value.bytes (List.toArray (framed _ ++ framed (Item.data [1, 122]) ++ frames _)) _, Value.int 0 _]) _ _ _); k_dflt (refine' shut_use (heardVal _ _ _ _ _ _ ?z60hb ?z60hbz ?z60hl _ _ ?z60hn ?z60ht _ _) ?z60k1 ?z60k2 ?z60k3 ?z60k4 ?z60k5 ?z60k6 ?z60k7 ?z60k8 (fun v9 h' tk' F' N' kF9 kN9 hR9 => ?_); (case z60hb => with_reducible assumption); (case z60hbz => omega); (case z60hl => omega); (case z60hn => ((rw [List.length_map]); omega)); (case z60ht => exact ts_ok (by with_reducible assumption)); (case z60k1 => k_asm); (case z60k2 => k_asm); (case z60k3 => k_asm); (case z60k4 => k_asm); (case z60k5 => k_asm); (case z60k6 => first | exact rfl | assumption); (case z60k7 => (refine law_room ?_; decide)); (case z60k8 => (refine law_units ?_; decide))); k_dflt (obtain ⟨a9, D9, c9, qs9, tq9, tt9, e9, ha9, hn9, hD9, hd9, hne9, hq9⟩ := hR9); subst e9; replace N' := news_add kF9 (news_add kF9 N' hD9 hd9) ha9 hn9; clear kF9 kN9 ha9 hn9 hD9 hd9; (try dsimp only))
  k_with "call ref" => (k_here; (with_reducible show wpAny _ _ (call (Value.ref 161) [Value.bytes _ _, Value.int 0 _]) _ _ _); k_dflt (refine' pure_use (luLaw _ _ _ _ _ _ ?z61hb ?z61hbz ?z61hl _ _ ?z61hn ?z61ht _ _) ?z61k1 ?z61k2 ?z61k3 ?z61k4 ?z61k5 ?z61k6 ?z61k7 ?z61k8 (fun v9 h' tk' F' N' kF9 kN9 kk9 hR9 => ?_) (fun _ _ _ _ _ _ _ h9 => False.elim h9); (case z61hb => with_reducible assumption); (case z61hbz => omega); (case z61hl => omega); (case z61hn => ((rw [List.length_map]); omega)); (case z61ht => exact ts_ok (by with_reducible assumption)); (case z61k1 => k_asm); (case z61k2 => k_asm); (case z61k3 => k_asm); (case z61k4 => k_asm); (case z61k5 => k_asm); (case z61k6 => first | exact rfl | assumption); (case z61k7 => (refine law_room ?_; decide)); (case z61k8 => (refine law_units ?_; decide))); k_dflt (obtain ⟨a9, D9, c9, qs9, tq9, tt9, e9, ha9, hn9, hD9, hd9, hne9, hq9⟩ := hR9); subst e9; replace N' := news_add kF9 (news_add kF9 N' hD9 hd9) ha9 hn9; clear kF9 kN9 ha9 hn9 hD9 hd9; (try dsimp only); clear kk9)
  k_with "compareOp Eq bytes bytes" => (k_here; (with_reducible show wpAny _ _ (compareOp CmpOp.Eq (Value.bytes (List.toArray _) _) (Value.bytes (List.toArray _) _)) _ _ _); (first | refine eq_lit (c := true) (by decide) ?_ | refine eq_lit (c := false) (by decide) ?_))
  k_with "subscriptTail" => (k_here; (with_reducible show wpAny _ _ (subscriptTail _ (Expr.Slice none _ none _) (Value.bytes (List.toArray (frames _)) _) (Value.ref _)) _ _ _); (with_reducible rename Fr _ _ _ _ => F'); (with_reducible rename News _ _ _ _ => N'); (refine cut_four (s := ⟨_, _, _, _, _⟩) F' N' (by kba_size) ?_); intro h' _ _ F' N')
  refine hd ?_
  k_go0
  all_goals (try k_fold)
  k_with "pyIter ref" => first
    | (k_of "item" => ((with_reducible rename Fr _ _ _ _ => F0); (with_reducible rename News _ _ _ _ => N0); k_dflt (refine' loop_oc (nm := Str.ofString "octets") (l0 := []) (by rfl) F0 N0 (.head _) OcW (by rfl) oc_zero (fun l9 t9 i9 v9 h' tk' I9 oI9 hi8 hP9 hne9 hW9 F' N' => ?_) (fun l9 t9 u9 h' tk' hW9 F' N' => ?_)); (all_goals (have hW8 := hW9.len; dsimp only at hW8; clear hW9; clear F0 N0)); (all_goals (try (rw [List.size_toArray] at hi8; (have hi7 : i9 ≤ 5 := by omega); (rcases oc_at (by assumption) (by assumption) hP9 with ⟨k9, u9, hk91, hk92, rfl⟩ | ⟨l8, u9, hl8, rfl⟩)))); (all_goals (try (rw [List.size_toArray] at hW8; replace hW8 : l9.length ≤ 2400 := by omega)))))
    | (k_of "row" => ((with_reducible rename Fr _ _ _ _ => F0); (with_reducible rename News _ _ _ _ => N0); (with_reducible rename Deck _ _ _ _ => dk0); k_dflt (refine' loop_rows [Str.ofString "at"] (by rfl) F0 N0 dk0 (fun od9 ol9 i9 v9 u9 h' tk' I9 oI9 hi8 hP9 hne9 dk9 F' N' => ?_) (fun od9 ol9 u9 h' tk' dk9 F' N' => ?_)); (all_goals (clear F0 N0 dk0)); (all_goals (try ((obtain ⟨l8, t8, hl8, rfl⟩ := row_at hP9 (by (refine ⟨?_, ?_, ?_, ?_⟩ <;> kba_size))))))))
    | (k_of "item" => ((with_reducible rename Fr _ _ _ _ => F0); (with_reducible rename News _ _ _ _ => N0); (with_reducible rename ItemsV (piecesI _ _ _) _ => hi0); (have hc0 := due_size hi0 (by omega) (by (rw [List.length_map]; omega))); k_dflt (refine' loop_oc (nm := Str.ofString "due") (l0 := []) (by rfl) F0 N0 (.head _) (DueOf hi0) (by rfl) due_zero (fun l9 t9 i9 v9 h' tk' I9 oI9 hi8 hP9 hne9 hW9 F' N' => ?_) (fun l9 t9 u9 h' tk' hW9 F' N' => ?_)); (all_goals (clear F0 N0)); (all_goals (try ((have hW8 := hW9.len); dsimp only at hW8; (rcases due_at hi0 (by omega) (ts_ok (by with_reducible assumption)) hP9 with ⟨u9, hu9, rfl⟩ | ⟨l8, u9, hl8, hu9, rfl⟩)))); (all_goals (try ((replace N' := news_tl2 N'); (have hd9 := due_done hi0 hW9); dsimp only at hd9; subst hd9; (have hz9 := due_len hi0 (by omega) (by (rw [List.length_map]; omega)) (ts_ok (by with_reducible assumption))))))))
  k_with "execs cons" => (k_fold; with_reducible refine wpAny_execs_cons ?_)
  w_top off
  k_steps
  · refine' oc_end ?zF ?zN ?za ?zb ?zc ?zS ?zd ?ze ?zf
    case zF => ((with_reducible rename Fr _ _ _ _ => F9); exact F9)
    case zN => ((with_reducible rename News _ _ _ _ => N9); exact N9)
    case zS => exact .head _
    case za => lcg_sub
    case zb => k_mem
    case zc => ((with_reducible rename AllNe _ _ => ne9); exact led_of_allNe ne9)
    case zd => rfl
    case ze => intro z h1 h2; simp only [h1, h2, if_false]
    case zf => (refine ⟨?_⟩; dsimp only; simp only [List.length_append]; omega)
  · refine' oc_end ?zF ?zN ?za ?zb ?zc ?zS ?zd ?ze ?zf
    case zF => ((with_reducible rename Fr _ _ _ _ => F9); exact F9)
    case zN => ((with_reducible rename News _ _ _ _ => N9); exact N9)
    case zS => exact .head _
    case za => lcg_sub
    case zb => k_mem
    case zc => ((with_reducible rename AllNe _ _ => ne9); exact led_of_allNe ne9)
    case zd => rfl
    case ze => intro z h1 h2; simp only [h1, h2, if_false]
    case zf => (refine ⟨?_⟩; dsimp only; simp only [List.length_append]; omega)
  · refine' row_end ?zF ?zN ?zk ?za ?zb ?zc ?zd
    case zF => ((with_reducible rename Fr _ _ _ _ => F9); exact F9)
    case zN => ((with_reducible rename News _ _ _ _ => N9); exact N9)
    case zk => with_reducible assumption
    case za => lcg_sub
    case zb => k_mem
    case zc => ((with_reducible rename AllNe _ _ => ne9); exact led_of_allNe ne9)
    case zd =>
      intro z h1 h3
      simp only [List.contains_cons, List.contains_nil, Bool.or_false, beq_eq_false_iff_ne, ne_eq] at h3
      simp only [kstB, List.contains_cons, List.contains_nil, Bool.or_false, beq_iff_eq, h1, h3, if_false]
  · refine' row_end ?zF ?zN ?zk ?za ?zb ?zc ?zd
    case zF => ((with_reducible rename Fr _ _ _ _ => F9); exact F9)
    case zN => ((with_reducible rename News _ _ _ _ => N9); exact N9)
    case zk => with_reducible assumption
    case za => lcg_sub
    case zb => k_mem
    case zc => ((with_reducible rename AllNe _ _ => ne9); exact led_of_allNe ne9)
    case zd =>
      intro z h1 h3
      simp only [List.contains_cons, List.contains_nil, Bool.or_false, beq_eq_false_iff_ne, ne_eq] at h3
      simp only [kstB, List.contains_cons, List.contains_nil, Bool.or_false, beq_iff_eq, h1, h3, if_false]
  · refine' row_end ?zF ?zN ?zk ?za ?zb ?zc ?zd
    case zF => ((with_reducible rename Fr _ _ _ _ => F9); exact F9)
    case zN => ((with_reducible rename News _ _ _ _ => N9); exact N9)
    case zk => with_reducible assumption
    case za => lcg_sub
    case zb => k_mem
    case zc => ((with_reducible rename AllNe _ _ => ne9); exact led_of_allNe ne9)
    case zd =>
      intro z h1 h3
      simp only [List.contains_cons, List.contains_nil, Bool.or_false, beq_eq_false_iff_ne, ne_eq] at h3
      simp only [kstB, List.contains_cons, List.contains_nil, Bool.or_false, beq_iff_eq, h1, h3, if_false]
  · refine' row_end ?zF ?zN ?zk ?za ?zb ?zc ?zd
    case zF => ((with_reducible rename Fr _ _ _ _ => F9); exact F9)
    case zN => ((with_reducible rename News _ _ _ _ => N9); exact N9)
    case zk => with_reducible assumption
    case za => lcg_sub
    case zb => k_mem
    case zc => ((with_reducible rename AllNe _ _ => ne9); exact led_of_allNe ne9)
    case zd =>
      intro z h1 h3
      simp only [List.contains_cons, List.contains_nil, Bool.or_false, beq_eq_false_iff_ne, ne_eq] at h3
      simp only [kstB, List.contains_cons, List.contains_nil, Bool.or_false, beq_iff_eq, h1, h3, if_false]
  · refine' oc_end ?zF ?zN ?za ?zb ?zc ?zS ?zd ?ze ?zf
    case zF => ((with_reducible rename Fr _ _ _ _ => F9); exact F9)
    case zN => ((with_reducible rename News _ _ _ _ => N9); exact N9)
    case zS => exact .head _
    case za => lcg_sub
    case zb => k_mem
    case zc => ((with_reducible rename AllNe _ _ => ne9); exact led_of_allNe ne9)
    case zd => rfl
    case ze => intro z h1 h2; simp only [h1, h2, if_false]
    case zf => exact due_step (by with_reducible assumption) (by with_reducible assumption) (by omega)
  · refine' oc_end ?zF ?zN ?za ?zb ?zc ?zS ?zd ?ze ?zf
    case zF => ((with_reducible rename Fr _ _ _ _ => F9); exact F9)
    case zN => ((with_reducible rename News _ _ _ _ => N9); exact N9)
    case zS => exact .head _
    case za => lcg_sub
    case zb => k_mem
    case zc => ((with_reducible rename AllNe _ _ => ne9); exact led_of_allNe ne9)
    case zd => rfl
    case ze => intro z h1 h2; simp only [h1, h2, if_false]
    case zf => exact due_step (by with_reducible assumption) (by with_reducible assumption) (by omega)
end
end
end Mine
end

theorem PySem.Challenge.cw_nt0268_01_holds : PySem.Challenge.rw_nt0268_01.Holds := by
  exact Mine.law_holds
