import PyProof.Rows.All
import Wide.All
import OpenK.AllK
import Wide.FinOn
import PyProof.EqAt
import PyProof.EqKinds
import PyProof.TupleCall
import PyProof.ReprRoads
import KE.KIsAll
import HandS.Base
import HandS.Call
import HandS.List
import HandS.Dict
import HandS.Comp
import HandS.Exc
import HandS.ExcOwn
import HandS.ExcInit
import HandS.ExcIs
import HandS.ExcField
import HandS.Words
import HandS.WordsList
import HandS.WordsExc
import HandS.Defaults
import HandS.TryOnly
import HandS.HotCalls
import HandS.Iter
import HandS.Wide
import HandS.IsInst
import KE.KExcIs
import HandS.RaiseMore
import HandS.TupAny
import HandS.TupMul
import HandS.Style
import HandS.HeadHook1
import HandS.HeadHook2
import PyProof.ReprLen
import PyProof.Rows.StrJoinMade
import HandS.Head0
import HandS.Head1
import HandS.Head2
import HandS.HeadEnd
import PySem.Challenge.RW_fieldpapers_k01_errors_as_told
set_option Elab.async false
set_option linter.all false
set_option maxRecDepth 100000
set_option maxHeartbeats 0
namespace Fp
open PySem PySem.Spec PyProof.Rows L2

/-! ### room: no repr is under way -/
structure RoomG (k : Nat) (A : Around) : Prop where
  r : Room k A
  g : A.guards = some []
theorem RoomG.mono {j k : Nat} {A : Around} (r : RoomG k A) (h : j ≤ k) : RoomG j A := ⟨r.r.mono h, r.g⟩
theorem RoomG.deeper {k : Nat} {A : Around} (r : RoomG (k + 1) A) (env : Env) : RoomG k (A.deeper env) := ⟨r.r.deeper env, r.g⟩
/-- room where an exception may be in hand -/
structure RoomC (k : Nat) (A : Around) : Prop where
  dp : A.depth + 3 * k + 5 < recursionLimit
  un : A.units + 16 * k + 200 < cLine
  g : A.guards = some []
theorem RoomC.mono {j k : Nat} {A : Around} (r : RoomC k A) (h : j ≤ k) : RoomC j A := ⟨by have := r.dp; omega, by have := r.un; omega, r.g⟩
theorem RoomC.deeper {k : Nat} {A : Around} (r : RoomC (k + 1) A) (env : Env) : RoomC k (A.deeper env) :=
  ⟨by have := r.dp; show A.depth + 1 + 3 * k + 5 < _; omega, by have := r.un; show A.units + 3 + 16 * k + 200 < _; omega, r.g⟩
theorem RoomC.depth {k : Nat} {A : Around} (r : RoomC k A) : A.depth < recursionLimit := by have := r.dp; omega
theorem RoomG.c {k : Nat} {A : Around} (r : RoomG k A) : RoomC k A := ⟨r.r.dp, r.r.un, r.g⟩
theorem RoomC.mark {k : Nat} {A : Around} (r : RoomC k A) (v : Option Value) : RoomC k (A.mark v) := ⟨r.dp, r.un, r.g⟩

/-! ### what a def promises -/
structure FnG (P : Program) (w : World) (K : PySem.W.Frag) (mg : Str → Option Value) (base : Heap) (CX : CXT) (k : Nat) (f : Addr) (fd : FuncData) (ps : List Str) (sp : Sp) : Prop where
  len : ∀ vs H Q E, sp vs H Q E → vs.length = ps.length
  run : ∀ (A : Around) (outer : List Env) (s : Shared) (H : Hp) (args : Args) (us : List Value) (vs : List V) (Q : VK) (E : XK), RoomG k A → Env0 P w K mg base A outer s H → BindsTo s fd args (ps.zip us) → Vals vs us → sp vs H Q E →
    codeAny (model P w) A (.call (.ref f) args) (CR CX outer P w H s Q E) s
/-- the same where an exception may be in hand -/
structure FnC (P : Program) (w : World) (K : PySem.W.Frag) (mg : Str → Option Value) (base : Heap) (CX : CXT) (k : Nat) (f : Addr) (fd : FuncData) (ps : List Str) (sp : Sp) : Prop where
  len : ∀ vs H Q E, sp vs H Q E → vs.length = ps.length
  run : ∀ (A : Around) (outer : List Env) (s : Shared) (H : Hp) (args : Args) (us : List Value) (vs : List V) (Q : VK) (E : XK), RoomC k A → Env0 P w K mg base A outer s H → BindsTo s fd args (ps.zip us) → Vals vs us → sp vs H Q E →
    codeAny (model P w) A (.call (.ref f) args) (CR CX outer P w H s Q E) s
section
variable {P : Program} {w : World} {K : PySem.W.Frag} {mg : Str → Option Value} {base : Heap} {CX : CXT} {k : Nat} {f : Addr} {fd : FuncData} {ps : List Str} {sp : Sp}
theorem FnC.g (F : FnC P w K mg base CX k f fd ps sp) : FnG P w K mg base CX k f fd ps sp := ⟨F.len, fun A outer s H args us vs Q E hr => F.run A outer s H args us vs Q E hr.c⟩
theorem ofOk (F : FnOk P w K mg base CX k f fd ps sp) : FnG P w K mg base CX k f fd ps sp := ⟨F.len, fun A outer s H args us vs Q E hr => F.run A outer s H args us vs Q E hr.r⟩
theorem FnG.mono {j : Nat} (F : FnG P w K mg base CX j f fd ps sp) (h : j ≤ k) : FnG P w K mg base CX k f fd ps sp := ⟨F.len, fun A outer s H args us vs Q E hr => F.run A outer s H args us vs Q E (hr.mono h)⟩
theorem FnC.mono {j : Nat} (F : FnC P w K mg base CX j f fd ps sp) (h : j ≤ k) : FnC P w K mg base CX k f fd ps sp := ⟨F.len, fun A outer s H args us vs Q E hr => F.run A outer s H args us vs Q E (hr.mono h)⟩
theorem FnG.imp {sp' : Sp} (F : FnG P w K mg base CX k f fd ps sp) (h : ∀ vs H Q E, sp' vs H Q E → sp vs H Q E) : FnG P w K mg base CX k f fd ps sp' :=
  ⟨fun vs H Q E q => F.len vs H Q E (h _ _ _ _ q), fun A outer s H args us vs Q E hr he hb hv hs => F.run A outer s H args us vs Q E hr he hb hv (h _ _ _ _ hs)⟩
end

/-- the context of a body where an exception may be in hand -/
def cxC (CX : CXT) (P : Program) (w : World) (K : PySem.W.Frag) (mg : Str → Option Value) (base : Heap) (N : List Str) (qual : Str) (scope : Scope) (f : Addr) (cd : Value) (A : Around) (outer : List Env) (s : Shared) (H : Hp) (E : XK) : Cx :=
  { cxOf CX P w K mg base N qual scope f cd A outer s H E with calm := false }

section
variable {CX : CXT} {P : Program} {w : World} {K : PySem.W.Frag} {mg : Str → Option Value} {base : Heap} {N ps : List Str} {qual : Str} {scope : Scope} {f : Addr} {cd : Value} {A : Around} {outer : List Env} {s s1 : Shared} {H : Hp} {E : XK} {us : List Value} {vs : List V}
theorem inv_startC (S : FnScope N ps scope) (e0 : Env0 P w K mg base A outer s H) (hl : vs.length = ps.length) (r : Vals vs us)
    (x : InCallC s s.heap.objs.size (bindL (envOfC qual scope s.heap.objs.size f cd).kindOf (ps.zip us) fun _ => none) (cellsFrom (s.heap.objs.size + 1) scope.names []) (bindC (envOfC qual scope s.heap.objs.size f cd).kindOf (ps.zip us) fun _ => none) s1) :
    Inv (cxC CX P w K mg base N qual scope f cd A outer s H E) [] (L2.start N vs) H s1 := by
  have hpl : ps.length ≤ N.length := by have := congrArg List.length S.pre; rw [List.length_take] at this; omega
  obtain ⟨h1, tk, rfl, hk⟩ := x.done
  have noA : ∀ b : Addr, b ∉ (cxC CX P w K mg base N qual scope f cd A outer s H E).ex := fun b z => absurd (show b ∈ ([] : List Addr) from z) (by simp)
  refine ⟨⟨e0.mod, S.kind, rfl, rfl, Nat.le_refl _, fun y z c h1 h2 => ?_, fun y hy => ?_, fun y c _ h => ?_, (fun z => Bool.noConfusion (show false = true from z)), Around.frames_deeper e0.frames, .inr ⟨rfl, rfl⟩, fun b z => absurd z (noA b), e0.bs, e0.bsz, fun b _ _ => noA b, fun b z => absurd z (noA b), e0.funs, e0.frf⟩,
    rfl, e0.bare, Un.kept hk, ⟨_, x.toInCall.ns, fun i y v h1 h2 h3 => ?_⟩, fun y c h => ⟨_, x.cell y c h⟩, e0.hok.fresh (Nat.le_refl _), fun y c h => ?_, fun q hq => absurd (show q ∈ ([] : List (Addr × Obj)) ++ [] from hq) (by simp), e0.hok.kept hk, ?_⟩
  · exact name_of_addr x.apart (PySem.mem_of_lookup h1) (PySem.mem_of_lookup h2)
  · have hy : scope.names.lookup y = some .cell ∨ scope.names.lookup y = some .free := hy
    rcases hy with hy | hy
    · exact cell_has hy
    · exact absurd rfl (S.nofree _ (PySem.mem_of_lookup hy))
  · exact Nat.le_of_lt (x.above y c (PySem.mem_of_lookup h))
  · have hi : i < vs.length := by
      unfold L2.start at h2
      by_cases hi : i < vs.length
      · exact hi
      · rw [List.getElem?_append_right (by simpa using hi)] at h2
        rw [List.getElem?_replicate] at h2
        split at h2 <;> cases h2
    have ha : vs[i]? = some v := by
      unfold L2.start at h2
      rw [List.getElem?_append_left (by simpa using hi), List.getElem?_map] at h2
      cases e : vs[i]? with
      | none => rw [e] at h2; cases h2
      | some a => rw [e] at h2; cases h2; rfl
    obtain ⟨u, hu, rv⟩ := r.get ha
    have hp : ps[i]? = some y := by
      rw [← S.pre, List.getElem?_take_of_lt (by omega)]; exact h1
    have ndP : ps.Nodup := by rw [← S.pre]; exact S.nd.sublist (List.take_sublist _ _)
    refine ⟨u, rv, ?_⟩
    rcases S.par y (List.mem_of_getElem? hp) with k | k
    · exact .inl ⟨k, bindL_get ndP hp hu k⟩
    · obtain ⟨c, e⟩ := cell_has (n := s.heap.objs.size + 1) k
      refine .inr ⟨.inl k, c, e, ?_⟩
      have q := x.cell y c e
      rw [bindC_get ndP hp hu (by show scope.names.lookup y ≠ _; rw [k]; decide)] at q
      exact q
  · exact e0.hok.fresh (Nat.le_of_lt (x.above y c (PySem.mem_of_lookup h)))
  · unfold L2.start
    show _ = N.length
    rw [List.length_append, List.length_map, List.length_replicate]
    omega
end

section
variable {P : Program} {w : World} {K : PySem.W.Frag} {mg : Str → Option Value} {base : Heap} {x qual : Str} {params : Arguments} {body : List Stmt} {scope : Scope} {dvs : List V} {kws : List (Str × V)} {f : Addr} {fd : FuncData} {CX : CXT} {N ps : List Str} {k : Nat} {sp : Sp}
/-- THE RULE for a def -/
theorem okG (F : FunD K x qual params body scope dvs kws f fd) (S : FnScope N ps scope) (len : ∀ vs H Q E, sp vs H Q E → vs.length = ps.length)
    (hbody : ∀ (cdv : Value) (A : Around) (outer : List Env) (s : Shared) (H : Hp) (vs : List V) (Q : VK) (E : XK), RoomG k (A.deeper (envOfC qual scope s.heap.objs.size f cdv)) → sp vs H Q E →
      ∃ t, PSs (cxOf CX P w K mg base N qual scope f cdv A outer s H E) body t ∧ t { nx := fun _ H' => Q .non H', rt := Q } (L2.start N vs) H) : FnG P w K mg base CX (k + 1) f fd ps sp := by
  obtain ⟨oc, od, dV, kV, doc, pm, an, cdv, ct, osl, rfl, lk, hcd, _, _⟩ := F.ex
  refine ⟨len, fun A outer s H args us vs Q E hr e0 hb r hsp => ?_⟩
  have hl := len _ _ _ _ hsp
  have KX : K.In s.heap := e0.mod.kin.keeps fun b o e => (e0.bs b o e).1
  have lim : s.heap.NoLimit := e0.mod.nolimit.keeps fun b o e => (e0.bs b o e).1
  have hkind : ∀ y ∈ ps.zip us, scope.names.lookup y.1 = some .local ∨ (scope.names.lookup y.1 = some .cell ∧ ((cellsFrom (s.heap.objs.size + 1) scope.names []).lookup y.1).isSome = true) := fun ⟨n, v⟩ hy => by
    rcases S.par n (List.of_mem_zip hy).1 with q | q
    · exact .inl q
    · exact .inr ⟨q, PySem.W.cellsFrom_some _ _ _ (.inl q)⟩
  refine codeAny_call_function hr.r.depth (KX _ _ lk) rfl S.co S.gen rfl (PySem.W.codeRec_of KX hcd) (hb _ _ _ _ ?_)
  refine wpAny_newFunctionEnv_cells S.kind hkind fun env he s1 x => ?_
  subst he
  refine ⟨lim.keeps x.toInCall.keep, codeAny_func ?_⟩
  obtain ⟨t, ht, hq⟩ := hbody cdv A outer s H vs Q E (hr.deeper _) hsp
  have I : Inv (cxOf CX P w K mg base N qual scope f cdv A outer s H E) [] (L2.start N vs) H s1 := inv_start S hr.r.hd e0 hl r x
  refine wpAny_mono (ht.run [] s1 (L2.start N vs) H _ I hq) (fun fl s' hs => ?_) fun e s' hs => hs
  have fin : ∀ {σ' : L2.St} {H' : Hp} {v : V} {u : Value}, Inv (cxOf CX P w K mg base N qual scope f cdv A outer s H E) [] σ' H' s' → RelV v u → Q v H' → CE outer P w H s Q u s' :=
    fun {σ' H' v u} J rv q => ⟨v, H', J.os, J.bare, J.base, J.hok, rv, q⟩
  cases fl with
  | ret u =>
    obtain ⟨v, σ', H', J, rv, q⟩ := hs
    exact fin J rv q
  | next =>
    obtain ⟨σ', H', J, q⟩ := hs
    exact fin (v := V.non) (u := Value.none) J rfl q
  | brk =>
    obtain ⟨_, _, _, q⟩ := hs
    exact False.elim q
  | cont =>
    obtain ⟨_, _, _, q⟩ := hs
    exact False.elim q
theorem okC (F : FunD K x qual params body scope dvs kws f fd) (S : FnScope N ps scope) (len : ∀ vs H Q E, sp vs H Q E → vs.length = ps.length)
    (hbody : ∀ (cdv : Value) (A : Around) (outer : List Env) (s : Shared) (H : Hp) (vs : List V) (Q : VK) (E : XK), RoomC k (A.deeper (envOfC qual scope s.heap.objs.size f cdv)) → sp vs H Q E →
      ∃ t, PSs (cxC CX P w K mg base N qual scope f cdv A outer s H E) body t ∧ t { nx := fun _ H' => Q .non H', rt := Q } (L2.start N vs) H) : FnC P w K mg base CX (k + 1) f fd ps sp := by
  obtain ⟨oc, od, dV, kV, doc, pm, an, cdv, ct, osl, rfl, lk, hcd, _, _⟩ := F.ex
  refine ⟨len, fun A outer s H args us vs Q E hr e0 hb r hsp => ?_⟩
  have hl := len _ _ _ _ hsp
  have KX : K.In s.heap := e0.mod.kin.keeps fun b o e => (e0.bs b o e).1
  have lim : s.heap.NoLimit := e0.mod.nolimit.keeps fun b o e => (e0.bs b o e).1
  have hkind : ∀ y ∈ ps.zip us, scope.names.lookup y.1 = some .local ∨ (scope.names.lookup y.1 = some .cell ∧ ((cellsFrom (s.heap.objs.size + 1) scope.names []).lookup y.1).isSome = true) := fun ⟨n, v⟩ hy => by
    rcases S.par n (List.of_mem_zip hy).1 with q | q
    · exact .inl q
    · exact .inr ⟨q, PySem.W.cellsFrom_some _ _ _ (.inl q)⟩
  refine codeAny_call_function hr.depth (KX _ _ lk) rfl S.co S.gen rfl (PySem.W.codeRec_of KX hcd) (hb _ _ _ _ ?_)
  refine wpAny_newFunctionEnv_cells S.kind hkind fun env he s1 x => ?_
  subst he
  refine ⟨lim.keeps x.toInCall.keep, codeAny_func ?_⟩
  obtain ⟨t, ht, hq⟩ := hbody cdv A outer s H vs Q E (hr.deeper _) hsp
  have I : Inv (cxC CX P w K mg base N qual scope f cdv A outer s H E) [] (L2.start N vs) H s1 := inv_startC S e0 hl r x
  refine wpAny_mono (ht.run [] s1 (L2.start N vs) H _ I hq) (fun fl s' hs => ?_) fun e s' hs => hs
  have fin : ∀ {σ' : L2.St} {H' : Hp} {v : V} {u : Value}, Inv (cxC CX P w K mg base N qual scope f cdv A outer s H E) [] σ' H' s' → RelV v u → Q v H' → CE outer P w H s Q u s' :=
    fun {σ' H' v u} J rv q => ⟨v, H', J.os, J.bare, J.base, J.hok, rv, q⟩
  cases fl with
  | ret u =>
    obtain ⟨v, σ', H', J, rv, q⟩ := hs
    exact fin J rv q
  | next =>
    obtain ⟨σ', H', J, q⟩ := hs
    exact fin (v := V.non) (u := Value.none) J rfl q
  | brk =>
    obtain ⟨_, _, _, q⟩ := hs
    exact False.elim q
  | cont =>
    obtain ⟨_, _, _, q⟩ := hs
    exact False.elim q
end
end Fp
namespace Fp
open PySem PySem.Spec PyProof.Rows L2

/-! ### calls -/
section
variable {X : Cx} {CX : CXT} {k : Nat} {f C : Addr} {fd : FuncData} {ps : List Str} {sp : Sp} {E : L2.St → XK} {x m : Str} {p pos apos : Pos} {e o : Expr} {es : List Expr} {ta : TE} {t : TA}
theorem run_fnG {pins : List (Addr × Obj)} {σ : L2.St} {H : Hp} {s : Shared} {Q : VK} {us : List Value} {vs : List V} (F : FnG X.prog X.w X.K X.mg X.base CX k f fd ps sp) (hr : RoomG k X.A) (hb : Binds X.K fd ps []) (hx : PassesAt CX X σ (E σ))
    (I : Inv X pins σ H s) (r : Vals vs us) (h : sp vs H Q (E σ)) : wpAny (model X.prog X.w) X.A (call (.ref f) us) (EP X pins σ Q) X.xe s := by
  have hl : us.length = ps.length := by rw [← r.length]; exact F.len _ _ _ _ h
  have b := hb s us I.kIn (by rw [List.append_nil]; exact hl)
  rw [List.append_nil] at b
  refine wpAny_call (codeAny_mono (F.run X.A X.stack s H ⟨us, []⟩ us vs Q (E σ) hr I.env0 b r h) fun r s' hq => ?_)
  cases r with
  | error e => exact hx pins H s e s' I hq
  | ok fl =>
    cases fl with
    | ret u => exact I.after hq
    | next => exact False.elim hq
    | brk => exact False.elim hq
    | cont => exact False.elim hq
theorem pe_callG (F : FnG X.prog X.w X.K X.mg X.base CX k f fd ps sp) (hr : RoomG k X.A) (hg : Gl X x) (hm : X.mg x = some (.ref f)) (hk : PySem.W.keepIn X.K (.ref f) = true) (hb : Binds X.K fd ps []) (hx : ∀ σ, PassesAt CX X σ (E σ))
    (ha : PA X (e :: es) t) (hdb : (x == ("__debug__" : Str)) = false := by decide) (he : starEach (e :: es) X.env = (false, eval e X.env) :: starEach es X.env := by rfl) (hpl : (backTo pos (starEach es X.env)).any (·.1) = false := by rfl) :
    PE X (.Call (.Name x p) (e :: es) [] pos) (tCallS sp E t) := by
  refine ⟨fun pins s σ H Q I h => ?_⟩
  refine wpAny_Call_Name_kw (ld_glob I hg hm ?_ hdb)
  refine PySem.W.callWith_K (h₀ := X.base) I.ok.mod.kin hk (thn (ha.run pos pins s σ H _ I h) fun us s1 ⟨vs, H1, I1, r, q⟩ => ⟨I1.kIn, ?_⟩) he hpl
  exact run_fnG F hr hb (hx σ) I1 r q
theorem pe_callG0 (F : FnG X.prog X.w X.K X.mg X.base CX k f fd ps sp) (hr : RoomG k X.A) (hg : Gl X x) (hm : X.mg x = some (.ref f)) (hk : PySem.W.keepIn X.K (.ref f) = true) (hb : Binds X.K fd ps []) (hx : ∀ σ, PassesAt CX X σ (E σ))
    (hdb : (x == ("__debug__" : Str)) = false := by decide) : PE X (.Call (.Name x p) [] [] pos) (tCallS sp E tNil) := by
  refine ⟨fun pins s σ H Q I h => ?_⟩
  refine wpAny_Call_Name_kw (ld_glob I hg hm ?_ hdb)
  exact PySem.W.callWith_K0 I.kIn hk (run_fnG (us := []) F hr hb (hx σ) I .nil h)
end

/-! ### a call within an except suite, the exception handed on as a thing that is known -/
/-- an exception's record, known: class at C, its own dict at d -/
def ExO2 (C d : Addr) : HO := .ext fun _ => True
/-- H with the exception at a frozen -/
def frzE (H : Hp) (a : Addr) (oe : Obj) : Hp := upd H a (.frz oe (.ext fun h => h.get? a = some oe))
theorem frzE_same {H : Hp} {a : Addr} {oe : Obj} : frzE H a oe a = some (.frz oe (.ext fun h => h.get? a = some oe)) := upd_same
theorem frzE_ne {H : Hp} {a b : Addr} {oe : Obj} (h : b ≠ a) : frzE H a oe b = H b := upd_ne h
theorem frzE_ok {P : Program} {w : World} {H : Hp} {h : Heap} {a : Addr} {oe : Obj} (x : HOk P w H h) (e : h.get? a = some oe) (n : H a = none) : HOk P w (frzE H a oe) h := fun b o q => by
  by_cases hb : b = a
  · subst hb
    rw [frzE_same] at q
    cases q
    exact ⟨e, e, ⟨oe, e⟩, fun h1 h2 z k => k _ z⟩
  · rw [frzE_ne hb] at q
    refine (x b o q).stay (fun c u _ r => r) (fun c r => ?_) fun c xs r => ?_
    · rw [frzE_ne (ne_of_none r n)]; exact r
    · rw [frzE_ne (ne_of_none r n)]; exact r
theorem del_ok {P : Program} {w : World} {H : Hp} {h : Heap} {a : Addr} {oe : Obj} {u : HO} (x : HOk P w H h) (e : H a = some (.frz oe u)) : HOk P w (L2.del H a) h := fun b o q => by
  by_cases hb : b = a
  · subst hb
    rw [L2.del_same] at q
    cases q
  · rw [L2.del_ne hb] at q
    refine (x b o q).stay (fun c u _ r => r) (fun c r => ?_) fun c xs r => ?_
    · rw [L2.del_ne (fun z => by rw [z, e] at r; cases r)]; exact r
    · rw [L2.del_ne (fun z => by rw [z, e] at r; cases r)]; exact r
/-- the exception at a is known: an object of the base, or frozen -/
def HE (base : Heap) (H : Hp) (a : Addr) (oe : Obj) : Prop := base.get? a = some oe ∨ H a = some (.frz oe (.ext fun h => h.get? a = some oe))
/-- behind the call it is let go -/
def Lost (a : Addr) (oe : Obj) (H2 H3 : Hp) : Prop := H3 = H2 ∨ (H3 = L2.del H2 a ∧ H2 a = some (.frz oe (.ext fun h => h.get? a = some oe)))
section
variable {X : Cx} {k : Nat} {f : Addr} {fd : FuncData} {ps : List Str} {sp : Sp} {x : Str} {p pos : Pos} {e : Expr} {es : List Expr} {t : TA} {a : Addr} {oe : Obj}
/-- what is told of the heap of a call with the exception at a handed on -/
def tCallZ (sp : Sp) (base : Heap) (a : Addr) (oe : Obj) (t : TA) : TE := fun σ H Q => t σ H fun vs H1 => H1 a = none → ∀ H1', Same H1 H1' → HE base H1' a oe → sp vs H1' (fun v H2 => ∀ H3, Lost a oe H2 H3 → Q v H3) (fun _ _ _ => False)
theorem pe_callZ (hp : (a, oe) ∈ X.pn) (F : FnC X.prog X.w X.K X.mg X.base (L2.CX X.prog X.w) k f fd ps sp) (hr : RoomC k X.A) (hg : Gl X x) (hm : X.mg x = some (.ref f)) (hk : PySem.W.keepIn X.K (.ref f) = true) (hb : Binds X.K fd ps [])
    (ha : PA X (e :: es) t) (hdb : (x == ("__debug__" : Str)) = false := by decide) (he : starEach (e :: es) X.env = (false, eval e X.env) :: starEach es X.env := by rfl) (hpl : (backTo pos (starEach es X.env)).any (·.1) = false := by rfl) :
    PE X (.Call (.Name x p) (e :: es) [] pos) (tCallZ sp X.base a oe t) := by
  refine ⟨fun pins s σ H Q I h => ?_⟩
  refine wpAny_Call_Name_kw (ld_glob I hg hm ?_ hdb)
  refine PySem.W.callWith_K (h₀ := X.base) I.ok.mod.kin hk (thn (ha.run pos pins s σ H _ I h) fun us s1 ⟨vs, H1, I1, r, q⟩ => ⟨I1.kIn, ?_⟩) he hpl
  obtain ⟨pe, pn, pL, pF, pd⟩ := I1.pin (a, oe) (List.mem_append_left _ hp)
  dsimp only at pe pn pL pF pd
  have pst : a ∉ frs X.stack := fun hm => (List.mem_cons.mp (I1.stkSub a hm)).elim pL pF
  have e0 := I1.env0
  have hxe : ∀ outer H s e s', ¬ L2.CX X.prog X.w outer H s (fun _ _ _ => False) e s' := fun _ _ _ _ _ h => by
    obtain ⟨_, _, _, _, _, _, _, _, _, _, _, _, z⟩ := h
    exact z
  cases hba : X.base.get? a with
  | some ob =>
    have eo : ob = oe := by
      have z := I1.bk a ob hba
      rw [pe] at z
      exact (Option.some.inj z).symm
    subst eo
    have q' := q pn H1 (Same.refl _) (.inl hba)
    have hl : us.length = ps.length := by rw [← r.length]; exact F.len _ _ _ _ q'
    have b := hb s1 us I1.kIn (by rw [List.append_nil]; exact hl)
    rw [List.append_nil] at b
    refine wpAny_call (codeAny_mono (F.run X.A X.stack s1 H1 ⟨us, []⟩ us vs _ _ hr e0 b r q') fun r2 s' hq => ?_)
    cases r2 with
    | error e => exact (hxe _ _ _ _ _ hq).elim
    | ok fl =>
      cases fl with
      | next => exact False.elim hq
      | brk => exact False.elim hq
      | cont => exact False.elim hq
      | ret u =>
        obtain ⟨v, H2, os, bare, un, hok, rv, qv⟩ := hq
        exact I1.after ⟨v, H2, os, bare, un, hok, rv, qv H2 (.inl rfl)⟩
  | none =>
    have sm : Same H1 (frzE H1 a oe) := fun b o eb => by
      rw [frzE_ne (fun z => by rw [z, pn] at eb; cases eb)]
      exact eb
    have q' := q pn (frzE H1 a oe) sm (.inr frzE_same)
    have hl : us.length = ps.length := by rw [← r.length]; exact F.len _ _ _ _ q'
    have b := hb s1 us I1.kIn (by rw [List.append_nil]; exact hl)
    rw [List.append_nil] at b
    have e1 : Env0 X.prog X.w X.K X.mg X.base X.A X.stack s1 (frzE H1 a oe) :=
      ⟨e0.frames, e0.mod, fun b o eb => ⟨(e0.bs b o eb).1, by rw [frzE_ne (fun z => by rw [z, hba] at eb; cases eb)]; exact (e0.bs b o eb).2⟩, e0.bsz, e0.funs,
        fun b hb' => by rw [frzE_ne (fun z => by subst z; exact pst hb')]; exact e0.frf b hb', frzE_ok e0.hok pe pn, e0.bare⟩
    refine wpAny_call (codeAny_mono (F.run X.A X.stack s1 (frzE H1 a oe) ⟨us, []⟩ us vs _ _ hr e1 b r q') fun r2 s' hq => ?_)
    cases r2 with
    | error e => exact (hxe _ _ _ _ _ hq).elim
    | ok fl =>
      cases fl with
      | next => exact False.elim hq
      | brk => exact False.elim hq
      | cont => exact False.elim hq
      | ret u =>
        obtain ⟨v, H2, os, bare, un, hok, rv, qv⟩ := hq
        have fz := un.frzs a oe _ frzE_same
        obtain ⟨ga, _⟩ := hok a _ fz
        refine I1.after ⟨v, L2.del H2 a, os, bare, ⟨fun b o eb n hf hx => ?_, fun b o eb n hf hx => ?_, fun b o eb n hx => ?_, fun b o eb hx => un.there b o eb hx, fun b xs eb => ?_, fun b o u' eb => ?_, fun b qs eb => ?_⟩, del_ok hok fz, rv, qv _ (.inr ⟨rfl, fz⟩)⟩
        · by_cases hb : b = a
          · subst hb
            rw [pe] at eb
            cases eb
            exact ga
          · exact un.keep b o eb (by rw [frzE_ne hb]; exact n) hf hx
        · exact un.slot b o eb (by rw [frzE_ne (fun z => by subst z; exact pst hf)]; exact n) hf hx
        · by_cases hb : b = a
          · subst hb
            exact L2.del_same
          · rw [L2.del_ne hb]
            exact un.free b o eb (by rw [frzE_ne hb]; exact n) hx
        · have hb : b ≠ a := fun z => by rw [z, pn] at eb; cases eb
          rw [L2.del_ne hb]
          exact un.tups b xs (by rw [frzE_ne hb]; exact eb)
        · have hb : b ≠ a := fun z => by rw [z, pn] at eb; cases eb
          rw [L2.del_ne hb]
          exact un.frzs b o u' (by rw [frzE_ne hb]; exact eb)
        · have hb : b ≠ a := fun z => by rw [z, pn] at eb; cases eb
          rw [L2.del_ne hb]
          exact un.tbls b qs (by rw [frzE_ne hb]; exact eb)
end
/-! ### isinstance and fields of an exception that is handed on -/
/-- an exception of the class at D stands at a, its own dict (if any) with the fields fs -/
structure ExAt (base : Heap) (H : Hp) (a D : Addr) (fs : List (Str × V)) : Prop where
  ex : ∃ (oe : Obj) (d : Option Addr), HE base H a oe ∧ Zc (.ref D) d oe ∧ (∃ vs, oe.data = .fields vs) ∧ ((d = none ∧ fs = []) ∨ ∃ dd, d = some dd ∧ H dd = some (.xd fs))
theorem ExAt.mono {base : Heap} {H H' : Hp} {a D : Addr} {fs : List (Str × V)} (x : ExAt base H a D fs) (e : Same H H') : ExAt base H' a D fs := by
  obtain ⟨oe, d, h, z, f, q⟩ := x
  refine ⟨oe, d, h.imp id (e _ _), z, f, q.imp id fun ⟨dd, e1, e2⟩ => ⟨dd, e1, e _ _ e2⟩⟩
section
variable {X : Cx} {pins : List (Addr × Obj)} {σ : L2.St} {H : Hp} {s : Shared} {a D : Addr} {fs : List (Str × V)}
theorem HE.get {oe : Obj} (I : Inv X pins σ H s) (h : HE X.base H a oe) : s.heap.get? a = some oe := by
  rcases h with h | h
  · exact I.bk a oe h
  · exact (I.hok a _ h).1
theorem ExAt.inst (I : Inv X pins σ H s) (x : ExAt X.base H a D fs) : ∃ (oe : Obj) (od : Option Obj), PySem.W.InstAt s.heap a oe D od ∧ ∀ n v, fs.lookup n = some v → ∃ o u, od = some o ∧ PySem.W.lookIn n o = some (some u) ∧ RelV v u := by
  obtain ⟨oe, d, h, z, ⟨vs, f⟩, q⟩ := x
  have g := HE.get I h
  rcases q with ⟨rfl, rfl⟩ | ⟨dd, rfl, hd⟩
  · refine ⟨oe, none, ⟨g, z.1, by unfold PySem.W.notCls; rw [f] <;> rfl, by rw [z.2]; trivial⟩, fun n v e => nomatch e⟩
  · have hx : ObjOk X.prog X.w H s.heap dd (.xd fs) := I.hok dd _ hd
    obtain ⟨mA, hns, hr⟩ := hx
    obtain ⟨od, ho, hl⟩ := lookIn_ns hns
    refine ⟨oe, some od, ⟨g, z.1, by unfold PySem.W.notCls; rw [f] <;> rfl, by rw [z.2]; exact ho⟩, fun n v e => ?_⟩
    obtain ⟨u, hu, ru⟩ := RelO.some_of (v := v) (o := mA n) (by rw [← e]; exact hr n)
    exact ⟨od, u, rfl, by rw [hl, hu], ru⟩
/-- isinstance(e, c), e an exception that is handed on -/
def rIsX (K : PySem.W.Frag) (base : Heap) : List V → Hp → VK → Prop := fun xs H Q => ∃ (a D : Addr) (fs : List (Str × V)) (c : V) (cv : Value) (b : Bool), xs = [.ref a, c] ∧ ExAt base H a D fs ∧ ExcC K D ∧ (∀ u, RelV c u → u = cv) ∧ PySem.W.kitOne K (.ref D) cv = some b ∧ Q (.bl b) H
theorem call_isX : CallR X (.builtin "isinstance") (rIsX X.K X.base) := by
  intro pins s σ H xs us Q I r h
  obtain ⟨a, D, fs, c, cv, b, rfl, x, C, hcv, e, q⟩ := h
  cases r with
  | cons rx rr =>
    cases rr with
    | cons rt rr =>
      cases rr
      cases rx
      have ec := hcv _ rt
      subst ec
      obtain ⟨oe, od, J, _⟩ := x.inst I
      have hcl : (PySem.W.clsIn X.K D).isSome = true := by
        obtain ⟨cd, hc, _⟩ := PySem.W.any_some C.hd
        rw [hc]; rfl
      exact PySem.W.kia_one (PySem.W.kitx_exc hcl C.hg C.hk C.hs C.ha C.hn C.ht C.hm) I.kIn J e (fun z => nomatch z) fun tk => ⟨.bl b, H, I.kept (t' := tk) fun _ _ z => z, rfl, q⟩
/-- e.f -/
def tXat (K : PySem.W.Frag) (base : Heap) (f : Str) (te : TE) : TE := fun σ H Q => te σ H fun x H1 => ∃ (a D : Addr) (fs : List (Str × V)) (v : V), x = .ref a ∧ ExAt base H1 a D fs ∧ ExcC K D ∧ PySem.W.findIn K (.ref D) f = some none ∧ fs.lookup f = some v ∧ Q v H1
theorem pe_xat {e : Expr} {te : TE} {pos : Pos} {n : Str} (he : PE X e te) (hb : attributeBase e n X.env (eval e X.env) = eval e X.env := by rfl) : PE X (.Attribute e n pos) (tXat X.K X.base n te) := by
  refine ⟨fun pins s σ H Q I h => ?_⟩
  refine attr_of hb (thn (he.run pins s σ H _ I h) fun u s1 hh => ?_)
  obtain ⟨x, H1, I1, rx, a, D, fs, v, ex, xa, C, hno, l, q⟩ := hh
  subst ex
  obtain rfl : u = Value.ref a := rx
  obtain ⟨oe, od, J, hf⟩ := xa.inst I1
  obtain ⟨o, u, eo, hl, ru⟩ := hf n v l
  subst eo
  exact HandSPX.exc_get I1.kIn J C.hg C.hk C.hs (PySem.W.findObj_own C.hd hno rfl hl) (handed_of ru) ⟨v, H1, I1.tok _, ru, q⟩
end
end Fp
namespace Fp
open PySem PySem.Spec PyProof.Rows L2

/-! ### data -/
def kd : Key → PyData
  | .inl i => .int i
  | .inr x => .str x
mutual
/-- v is the data d in H -/
def Dt (K : PySem.W.Frag) (H : Hp) : PyData → V → Prop
  | .none, v => v = .non
  | .bool b, v => v = .bl b
  | .int i, v => v = .int i
  | .str x, v => v = .str x
  | .list ds, v => ∃ a xs, v = .ref a ∧ SqL K H a xs ∧ DtAll K H ds xs
  | .tuple ds, v => ∃ a xs, v = .ref a ∧ SqT K H a xs ∧ DtAll K H ds xs
  | .dict kvs, v => ∃ a es, v = .ref a ∧ H a = some (.dK es) ∧ DtKv K H kvs es
def DtAll (K : PySem.W.Frag) (H : Hp) : List PyData → List V → Prop
  | [], xs => xs = []
  | d :: ds, xs => ∃ x r, xs = x :: r ∧ Dt K H d x ∧ DtAll K H ds r
def DtKv (K : PySem.W.Frag) (H : Hp) : List (PyData × PyData) → List (Key × V) → Prop
  | [], es => es = []
  | (k, d) :: r, es => ∃ kk v q, es = (kk, v) :: q ∧ kd kk = k ∧ Dt K H d v ∧ DtKv K H r q
end
theorem rd_mono {H H' : Hp} {a : Addr} {u : HO} (e : Same H H') (h : Rd H a u) : Rd H' a u := by
  rcases h with h | ⟨o, h⟩
  · exact .inl (e a _ h)
  · exact .inr ⟨o, e a _ h⟩
theorem sql_mono {K : PySem.W.Frag} {H H' : Hp} {a : Addr} {xs : List V} (e : Same H H') (h : SqL K H a xs) : SqL K H' a xs := h.imp (rd_mono e) id
theorem sqt_mono {K : PySem.W.Frag} {H H' : Hp} {a : Addr} {xs : List V} (e : Same H H') (h : SqT K H a xs) : SqT K H' a xs := h.imp (rd_mono e) id
section
variable {K : PySem.W.Frag} {H H' : Hp} (e : Same H H')
include e
mutual
theorem Dt.mono : ∀ {d : PyData} {v : V}, Dt K H d v → Dt K H' d v
  | .none, _, h | .bool _, _, h | .int _, _, h | .str _, _, h => by unfold Dt at h ⊢; exact h
  | .list ds, _, h => by
    unfold Dt at h ⊢
    obtain ⟨a, xs, ev, s, r⟩ := h
    exact ⟨a, xs, ev, sql_mono e s, DtAll.mono r⟩
  | .tuple ds, _, h => by
    unfold Dt at h ⊢
    obtain ⟨a, xs, ev, s, r⟩ := h
    exact ⟨a, xs, ev, sqt_mono e s, DtAll.mono r⟩
  | .dict kvs, _, h => by
    unfold Dt at h ⊢
    obtain ⟨a, xs, ev, s, r⟩ := h
    exact ⟨a, xs, ev, e _ _ s, DtKv.mono r⟩
theorem DtAll.mono : ∀ {ds : List PyData} {xs : List V}, DtAll K H ds xs → DtAll K H' ds xs
  | [], _, h => by unfold DtAll at h ⊢; exact h
  | d :: ds, _, h => by
    unfold DtAll at h ⊢
    obtain ⟨x, r, ex, h1, h2⟩ := h
    exact ⟨x, r, ex, Dt.mono h1, DtAll.mono h2⟩
theorem DtKv.mono : ∀ {ds : List (PyData × PyData)} {xs : List (Key × V)}, DtKv K H ds xs → DtKv K H' ds xs
  | [], _, h => by unfold DtKv at h ⊢; exact h
  | (k, d) :: ds, _, h => by
    unfold DtKv at h ⊢
    obtain ⟨kk, v, q, ex, ek, h1, h2⟩ := h
    exact ⟨kk, v, q, ex, ek, Dt.mono h1, DtKv.mono h2⟩
end
end

section
variable {X : Cx} {pins : List (Addr × Obj)} {σ : L2.St} {H : Hp} {s : Shared}
theorem sys_ne {a : Addr} {o : Obj} (hm : ∃ o es ep, X.base.get? sysModules = some o ∧ o.data = .dict es ep) (I : Inv X pins σ H s) (e : s.heap.get? a = some o) (hd : ∀ es ep, o.data ≠ .dict es ep) : sysModules ≠ a := fun z => by
  obtain ⟨o', es, ep, h1, h2⟩ := hm
  have q := I.bk _ _ h1
  rw [z, e] at q
  cases q
  exact hd _ _ h2
mutual
theorem Dt.reads (hm : ∃ o es ep, X.base.get? sysModules = some o ∧ o.data = .dict es ep) (I : Inv X pins σ H s) : ∀ {d : PyData} {v : V} {u : Value}, Dt X.K H d v → RelV v u → ∃ as, Reads s.heap u d as ∧ sysModules ∉ as
  | .none, _, _, h, r => by
    unfold Dt at h; subst h
    obtain rfl : _ = Value.none := r
    exact ⟨[], .none, by simp⟩
  | .bool b, _, _, h, r => by
    unfold Dt at h; subst h
    obtain rfl : _ = Value.bool b := r
    exact ⟨[], .bool b, by simp⟩
  | .int i, _, _, h, r => by
    unfold Dt at h; subst h
    obtain ⟨t, rfl⟩ := (show ∃ t, _ = Value.int i t from r)
    exact ⟨[], .int i t, by simp⟩
  | .str x, _, _, h, r => by
    unfold Dt at h; subst h
    obtain ⟨t, rfl⟩ := (show ∃ t, _ = Value.str x t from r)
    exact ⟨[], .str x t, by simp⟩
  | .list ds, _, _, h, r => by
    unfold Dt at h
    obtain ⟨a, xs, rfl, sq, ra⟩ := h
    obtain rfl : _ = Value.ref a := r
    obtain ⟨its, rv, ⟨o, n, e1, e2, e3, e4⟩, _⟩ := I.list sq
    obtain ⟨as, h1, h2⟩ := DtAll.reads hm I ra rv
    refine ⟨a :: as, .list e1 e2 e4 (by simpa using h1), ?_⟩
    intro z
    rcases List.mem_cons.mp z with z | z
    · exact sys_ne hm I e1 (fun es ep q => by rw [e4] at q; cases q) z
    · exact h2 z
  | .tuple ds, _, _, h, r => by
    unfold Dt at h
    obtain ⟨a, xs, rfl, sq, ra⟩ := h
    obtain rfl : _ = Value.ref a := r
    obtain ⟨its, rv, ⟨o, e1, e2, n, e4⟩, _⟩ := I.tuple sq
    obtain ⟨as, h1, h2⟩ := DtAll.reads hm I ra rv
    exact ⟨as, .tuple e1 e2 e4 (by simpa using h1), h2⟩
  | .dict kvs, _, _, h, r => by
    unfold Dt at h
    obtain ⟨a, es, rfl, ea, ra⟩ := h
    obtain rfl : _ = Value.ref a := r
    have ok : ObjOk X.prog X.w H s.heap a (.dK es) := I.hok a _ ea
    obtain ⟨hz, hs, vs, rv, hD⟩ := ok
    obtain ⟨o, es', ep, e1, e2, e3, e4⟩ := hD
    obtain ⟨as, bs, h1, h2, h3, h4⟩ := DtKv.reads hm I ra rv e4.2.1
    refine ⟨a :: as ++ bs, .dict e1 e2.1 e3 h1 h2, ?_⟩
    intro z
    rcases List.mem_append.mp z with z | z
    · rcases List.mem_cons.mp z with z | z
      · rw [← z] at hs; simp at hs
      · exact h3 z
    · exact h4 z
theorem DtAll.reads (hm : ∃ o es ep, X.base.get? sysModules = some o ∧ o.data = .dict es ep) (I : Inv X pins σ H s) : ∀ {ds : List PyData} {xs : List V} {us : List Value}, DtAll X.K H ds xs → Vals xs us → ∃ as, ReadsAll s.heap us ds as ∧ sysModules ∉ as
  | [], _, _, h, r => by
    unfold DtAll at h; subst h
    cases r
    exact ⟨[], .nil, by simp⟩
  | d :: ds, _, _, h, r => by
    unfold DtAll at h
    obtain ⟨x, q, rfl, h1, h2⟩ := h
    cases r with
    | cons r1 r2 =>
      obtain ⟨as, a1, a2⟩ := Dt.reads hm I h1 r1
      obtain ⟨bs, b1, b2⟩ := DtAll.reads hm I h2 r2
      exact ⟨as ++ bs, .cons a1 b1, fun z => (List.mem_append.mp z).elim a2 b2⟩
theorem DtKv.reads (hm : ∃ o es ep, X.base.get? sysModules = some o ∧ o.data = .dict es ep) (I : Inv X pins σ H s) : ∀ {ds : List (PyData × PyData)} {es : List (Key × V)} {vs : List (Key × Value)} {en : List DictEntry}, DtKv X.K H ds es → KV es vs → Pairs (mixKind X.prog X.w) en vs →
    ∃ as bs, ReadsAll s.heap (en.map (·.key)) (ds.map (·.1)) as ∧ ReadsAll s.heap (en.map (·.val)) (ds.map (·.2)) bs ∧ sysModules ∉ as ∧ sysModules ∉ bs
  | [], _, _, _, h, r, p => by
    unfold DtKv at h; subst h
    cases r
    cases p
    exact ⟨[], [], .nil, .nil, by simp, by simp⟩
  | (k, d) :: ds, _, _, _, h, r, p => by
    unfold DtKv at h
    obtain ⟨kk, v, q, rfl, rfl, h1, h2⟩ := h
    cases r with
    | cons r1 r2 =>
      obtain ⟨r1a, r1b⟩ := r1
      cases p with
      | cons p1 pv p2 =>
        obtain ⟨as, bs, a1, a2, a3, a4⟩ := DtKv.reads hm I h2 r2 p2
        obtain ⟨cs, c1, c2⟩ := Dt.reads hm I h1 r1b
        have p1 := (show keyIs _ _ = true from p1)
        rw [← show kk = _ from r1a] at p1
        rw [← pv] at c1
        have hk : ∀ {u : Value}, keyIs kk u = true → Reads s.heap u (kd kk) [] := fun {u} h => by
          rcases keyIs_shape h with ⟨i, t, e1, e2⟩ | ⟨x, t, e1, e2⟩
          · subst e1 e2; exact .int i t
          · subst e1 e2; exact .str x t
        exact ⟨[] ++ as, cs ++ bs, .cons (hk p1) a1, .cons c1 a2, by simpa using a3, fun z => (List.mem_append.mp z).elim c2 a4⟩
end
/-- repr of data -/
def rRepr (K : PySem.W.Frag) : List V → Hp → VK → Prop := fun xs H Q => ∃ (v : V) (d : PyData), xs = [v] ∧ Dt K H d v ∧ d.showable = true ∧ d.depth ≤ 100 ∧ d.shown.length ≤ sizeLine ∧ Q (.str d.shown) H
theorem call_repr (hm : ∃ o es ep, X.base.get? sysModules = some o ∧ o.data = .dict es ep) {k : Nat} (hr : RoomG k X.A) : CallR X (.builtin "repr") (rRepr X.K) := by
  intro pins s σ H xs us Q I r h
  obtain ⟨v, d, rfl, hd, hs, hdp, hl, q⟩ := h
  obtain ⟨u, rfl, ru⟩ := vals1 r
  obtain ⟨as, hR, hn⟩ := Dt.reads hm I hd ru
  have hun : X.A.units + 200 < cLine := by have := hr.r.un; omega
  have fin : ∀ (h' : Heap) (u' tk : Tok), (∀ b o, s.heap.get? b = some o → h'.get? b = some o) → EP X pins σ Q (.str d.shown u') { s with heap := h', toks := tk } := fun h' u' tk k =>
    ⟨.str d.shown, H, I.kept (t' := tk) k, ⟨_, rfl⟩, q⟩
  cases hR with
  | none => exact PySem.P.repr_of_none (by simpa [PyData.shown] using fin s.heap _ _ fun _ _ z => z)
  | bool b => exact PySem.P.repr_of_bool (by simpa [PyData.shown] using fin s.heap _ _ fun _ _ z => z)
  | int i t => exact PySem.P.repr_of_int (by simpa [PyData.showable] using hs) (by simpa [PyData.shown] using fin s.heap _ _ fun _ _ z => z)
  | str x t => exact PySem.P.repr_of_str (by simpa [PyData.shown] using fin s.heap _ _ fun _ _ z => z) (by simpa [PyData.shown] using hl)
  | list h1 h2 h3 h4 => exact repr_of_reads' (.list h1 h2 h3 h4) hs (fun _ => hn) hr.g (by omega) (fun _ _ z => z) fin hl
  | tuple h1 h2 h3 h4 => exact repr_of_reads' (.tuple h1 h2 h3 h4) hs (fun _ => hn) hr.g (by omega) (fun _ _ z => z) fin hl
  | dict h1 h2 h3 h4 h5 => exact repr_of_reads' (.dict h1 h2 h3 h4 h5) hs (fun _ => hn) hr.g (by omega) (fun _ _ z => z) fin hl
end
end Fp
namespace Fp
open PySem PySem.Spec PyProof.Rows L2

/-! ### operators of any kind of value -/
section
variable {X : Cx}
def rAddP (K : PySem.W.Frag) : R2 := fun x y H Q => rI0 (fun i j => .int (i + j)) x y H Q ∨ rCat x y H Q ∨ rCatA K x y H Q ∨ (∃ i j, x = .str i ∧ y = .str j ∧ i.length + j.length ≤ sizeLine ∧ Q (.str (i ++ j)) H)
theorem opAdd : OpR X (binaryOp .Add) (rAddP X.K) := op_add.or (op_cat.or (op_catA.or op_add_str))
def rMulP (K : PySem.W.Frag) : R2 := fun x y H Q => rI CMul (fun i j => .int (i * j)) x y H Q ∨ rI CMulW (fun i j => .int (i * j)) x y H Q ∨ rRep x y H Q ∨ rRepT K x y H Q
theorem opMul : OpR X (binaryOp .Mult) (rMulP X.K) := op_mul.or (op_mulW.or (op_rep.or op_repT))
def rFdivP : R2 := fun x y H Q => rI CDiv (fun i j => .int (i / j)) x y H Q ∨ rI CDivW (fun i j => .int (i / j)) x y H Q
theorem opFdiv : OpR X (binaryOp .FloorDiv) rFdivP := op_fdiv.or op_fdivW
def rEqP (K : PySem.W.Frag) : R2 := fun x y H Q => rEq x y H Q ∨ rEqD K x y H Q
theorem opEq {k : Nat} {X : Cx} (hr : RoomG k X.A) : OpR X (compareOp .Eq) (rEqP X.K) := op_eq.or (op_eqD (by have := hr.r.un; omega))
def rNeP (K : PySem.W.Frag) : R2 := fun x y H Q => rNe x y H Q ∨ rNeD K x y H Q
theorem opNe {k : Nat} {X : Cx} (hr : RoomG k X.A) : OpR X (compareOp .NotEq) (rNeP X.K) := op_ne.or (op_neD (by have := hr.r.un; omega))
theorem huG {k : Nat} {A : Around} (hr : RoomG k A) : A.units + 1 < cLine := by have := hr.r.un; omega
theorem huC {k : Nat} {A : Around} (hr : RoomC k A) : A.units + 1 < cLine := by have := hr.un; omega
end

/-! ### the source of draws -/
def penK (c : Addr) (i g n f : Int) : List (Key × V) := [(.inr "cells", .ref c), (.inr "at", .int i), (.inr "digits", .int g), (.inr "count", .int n), (.inr "fold", .int f)]
structure PenV (i g f : Int) : Prop where
  i0 : 0 ≤ i
  g0 : 0 ≤ g
  f0 : 0 ≤ f
  f1 : f < 4294967296
theorem pen_cells {c i g n f} : valV (penK c i g n f) (.inr "cells") = some (.ref c) := rfl
theorem pen_at {c i g n f} : valV (penK c i g n f) (.inr "at") = some (.int i) := rfl
theorem pen_digits {c i g n f} : valV (penK c i g n f) (.inr "digits") = some (.int g) := rfl
theorem pen_count {c i g n f} : valV (penK c i g n f) (.inr "count") = some (.int n) := rfl
theorem pen_fold {c i g n f} : valV (penK c i g n f) (.inr "fold") = some (.int f) := rfl
theorem put_at {c i g n f j} : putK (penK c i g n f) (.inr "at") (.int j) = penK c j g n f := rfl
theorem put_digits {c i g n f j} : putK (penK c i g n f) (.inr "digits") (.int j) = penK c i j n f := rfl
theorem put_count {c i g n f j} : putK (penK c i g n f) (.inr "count") (.int j) = penK c i g j f := rfl
theorem put_fold {c i g n f j} : putK (penK c i g n f) (.inr "fold") (.int j) = penK c i g n j := rfl
/-- the pen as a table -/
def PenT (H : Hp) (p : Addr) (c : Addr) (ns : List Int) (i g n f : Int) : Prop := H p = some (.dK (penK c i g n f)) ∧ H c = some (.lst (ns.map V.int)) ∧ PenV i g f
def spDrawT : Sp := fun vs H Q _ => ∃ (p c : Addr) (ns : List Int) (i g n f many : Int), vs = [.ref p, .int many] ∧ PenT H p c ns i g n f ∧ 1 ≤ many ∧ many < 1000000000 ∧
  ∀ r i' g' n' f', 0 ≤ r → r < many → PenV i' g' f' → Q (.int r) (upd H p (.dK (penK c i' g' n' f')))
theorem upd_upd' {H : Hp} {a : Addr} {o u : HO} : upd (upd H a o) a u = upd H a u := upd_upd
theorem getPen {H : Hp} {p : Addr} {kvs : List (Key × V)} {k : Str} {v : V} (h : H p = some (.dK kvs)) (e : valV kvs (.inr k) = some v) : DGet H p (.str k) (some v) := by
  have := DGet.k (k := .inr k) h
  rw [e] at this
  exact this
theorem putPen {H : Hp} {p : Addr} {kvs kvs' : List (Key × V)} {k : Str} {v : V} (h : H p = some (.dK kvs)) (e : putK kvs (.inr k) v = kvs') (hl : kvs.length ≤ 1000) : DPut H p (.str k) v (upd H p (.dK kvs')) := by
  have := DPut.k (k := .inr k) (v := v) h (small1000 hl)
  rw [e] at this
  exact this
end Fp
namespace Fp
open PySem PySem.Spec PyProof.Rows L2
theorem seq_rest {t u : TS} {D : Ends} {σ : L2.St} {H : Hp} (W : L2.St → Hp → Prop) (h2 : ∀ σ' H', W σ' H' → u D σ' H') (h1 : (∀ σ' H', W σ' H' → u D σ' H') → t { D with nx := u D } σ H) : tSeq t u D σ H := h1 h2
theorem iteB {A B : Prop} {b : Bool} (h1 : b = true → A) (h2 : b = false → B) : if b = true then A else B := by
  cases b with
  | true => exact h1 rfl
  | false => exact h2 rfl
end Fp
namespace Fp
open PySem PySem.Spec PyProof.Rows L2
theorem same_new {H : Hp} {p : Addr} {o : HO} (h : H p = none) : Same H (upd H p o) := fun b u e => by rw [upd_ne (ne_of_none e h)]; exact e
section
variable {P : Program} {w : World} {K : PySem.W.Frag} {mg : Str → Option Value} {base : Heap} {k : Nat} {f : Addr} {fd : FuncData}
/-- a pen at p, its cells at c -/
def PenO (P : Program) (w : World) (p c : Addr) : HO := .ext fun h => (p == sysModules) = false ∧ ∃ i g n f, PenV i g f ∧ ∃ vs, KV (penK c i g n f) vs ∧ h.DictOf (mixKind P w) p vs
def Pen (P : Program) (w : World) (H : Hp) (p : Addr) : Prop := ∃ (c : Addr) (ns : List Int), H p = some (PenO P w p c) ∧ H c = some (.lst (ns.map V.int))
theorem Pen.mono {H H' : Hp} {p : Addr} (e : Same H H') (h : Pen P w H p) : Pen P w H' p := by
  obtain ⟨c, ns, h1, h2⟩ := h
  exact ⟨c, ns, e _ _ h1, e _ _ h2⟩
theorem penO_ok {H : Hp} {h : Heap} {p c : Addr} {i g n f : Int} (x : ObjOk P w H h p (.dK (penK c i g n f))) (hv : PenV i g f) {H' : Hp} : ObjOk P w H' h p (PenO P w p c) := by
  obtain ⟨_, hs, vs, rv, hD⟩ := x
  obtain ⟨o, es, ep, e1, e2⟩ := hD
  refine ⟨⟨hs, i, g, n, f, hv, vs, rv, o, es, ep, e1, e2⟩, ⟨o, e1⟩, fun h1 h2 z kp => ?_⟩
  obtain ⟨hs, i, g, n, f, hv, vs, rv, o, es, ep, e1, e2⟩ := z
  exact ⟨hs, i, g, n, f, hv, vs, rv, o, es, ep, kp _ e1, e2⟩
theorem penO_at {H : Hp} {h : Heap} {p c : Addr} (x : ObjOk P w H h p (PenO P w p c)) {H' : Hp} : ∃ i g n f, PenV i g f ∧ ObjOk P w H' h p (.dK (penK c i g n f)) := by
  obtain ⟨⟨hs, i, g, n, f, hv, vs, rv, hD⟩, _⟩ := x
  exact ⟨i, g, n, f, hv, by show (5 : Nat) ≤ sizeLine; decide, hs, vs, rv, hD⟩
theorem penO_tup {p c : Addr} {xs : List V} : PenO P w p c ≠ .tup xs := fun z => by have z' : HO.ext _ = HO.tup xs := z; cases z'
theorem penO_own {p c x : Addr} : PenO P w p c ≠ .own x := fun z => by have z' : HO.ext _ = HO.own x := z; cases z'
theorem penO_lst {p c : Addr} {xs : List V} : PenO P w p c ≠ .lst xs := fun z => by have z' : HO.ext _ = HO.lst xs := z; cases z'
/-- a tracked thing that is told in another way -/
theorem hok_retell {H : Hp} {h : Heap} {p : Addr} {o o' : HO} (x : HOk P w H h) (e : H p = some o) (ok : ObjOk P w (upd H p o') h p o') (nt : ∀ xs, o ≠ .tup xs) (no : ∀ y, o ≠ .own y) : HOk P w (upd H p o') h := fun b u q => by
  by_cases hb : b = p
  · subst hb
    rw [upd_same] at q
    cases q
    exact ok
  · rw [upd_ne hb] at q
    refine (x b u q).stay (fun c v _ r => r) (fun c r => ?_) fun c xs r => ?_
    · rw [upd_ne (fun z => by rw [z, e] at r; exact no _ (Option.some.inj r))]; exact r
    · rw [upd_ne (fun z => by rw [z, e] at r; exact nt _ (Option.some.inj r))]; exact r
def spDraw (P : Program) (w : World) : Sp := fun vs H Q _ => ∃ (p : Addr) (many : Int), vs = [.ref p, .int many] ∧ Pen P w H p ∧ 1 ≤ many ∧ many < 1000000000 ∧ ∀ r, 0 ≤ r → r < many → Q (.int r) H
theorem ok_drawE (F : FnG P w K mg base (L2.CX P w) k f fd ["pen", "many"] spDrawT) : FnG P w K mg base (L2.CX P w) k f fd ["pen", "many"] (spDraw P w) := by
  refine ⟨fun vs H Q E ⟨_, _, e, _⟩ => by rw [e]; rfl, fun A outer s H args us vs Q E hr e0 hb r hs => ?_⟩
  obtain ⟨p, many, ev, ⟨c, ns, hp, hc⟩, m1, m2, q⟩ := hs
  have ox := e0.hok p _ hp
  obtain ⟨i, g, n, fo, hv, ok1⟩ := penO_at (H' := upd H p (.dK [])) ox
  obtain ok1 : ∀ H', ObjOk P w H' s.heap p (.dK (penK c i g n fo)) := fun _ => ok1
  have hcp : c ≠ p := fun z => by rw [z, hp] at hc; exact penO_lst (Option.some.inj hc)
  have hok' := hok_retell e0.hok hp (ok1 _) (fun _ => penO_tup) (fun _ => penO_own)
  have e1 : Env0 P w K mg base A outer s (upd H p (.dK (penK c i g n fo))) := ⟨e0.frames, e0.mod, fun b o eb => ⟨(e0.bs b o eb).1, by rw [upd_ne (fun z => by have := (e0.bs b o eb).2; rw [z, hp] at this; cases this)]; exact (e0.bs b o eb).2⟩, e0.bsz, e0.funs,
    fun b hb' => by rw [upd_ne (fun z => by have := e0.frf b hb'; rw [z, hp] at this; cases this)]; exact e0.frf b hb', hok', e0.bare⟩
  refine codeAny_mono (F.run A outer s _ args us vs (fun v H2 => ∃ r i g n fo, v = .int r ∧ 0 ≤ r ∧ r < many ∧ PenV i g fo ∧ H2 = upd (upd H p (.dK (penK c i g n fo))) p (.dK (penK c i g n fo))) (fun _ _ _ => False) hr e1 hb r ?_) fun rs s' hq => ?_
  · exact ⟨p, c, ns, i, g, n, fo, many, ev, ⟨upd_same, by rw [upd_ne hcp]; exact hc, hv⟩, m1, m2, fun r i' g' n' f' h1 h2 h3 => ⟨r, i', g', n', f', rfl, h1, h2, h3, by rw [upd_upd, upd_upd]⟩⟩
  cases rs with
  | error e =>
    obtain ⟨_, _, _, _, _, _, _, _, _, _, _, _, z⟩ := hq
    exact z.elim
  | ok fl =>
    cases fl with
    | next => exact False.elim hq
    | brk => exact False.elim hq
    | cont => exact False.elim hq
    | ret u =>
      obtain ⟨v, H2, os, bare, un, hok2, rv, rr, i2, g2, n2, f2, ev2, r0, r1, hv2, eH⟩ := hq
      subst ev2
      rw [upd_upd] at eH
      subst eH
      have np : ∀ {b : Addr}, H b = none → b ≠ p := fun {b} n z => by rw [z, hp] at n; cases n
      have eq : upd (upd H p (.dK (penK c i2 g2 n2 f2))) p (PenO P w p c) = H := by
        funext b
        by_cases hb : b = p
        · rw [hb, upd_same, hp]
        · rw [upd_ne hb, upd_ne hb]
      refine ⟨.int rr, H, os, bare, ⟨fun b o h1 h2 h3 h4 => ?_, fun b o h1 h2 h3 h4 => ?_, fun b o h1 h2 h4 => h2, fun b o h1 h4 => un.there b o h1 h4, fun b xs h => h, fun b o u h => h, fun b qs h => ⟨#[], by rw [h]; simp⟩⟩, ?_, rv, q rr r0 r1⟩
      · exact un.keep b o h1 (by rw [upd_ne (np h2)]; exact h2) h3 h4
      · exact un.slot b o h1 (by rw [upd_ne (np h2)]; exact h2) h3 h4
      · have := hok_retell (o' := PenO P w p c) hok2 upd_same (penO_ok (hok2 p _ upd_same) hv2) (fun _ z => nomatch z) (fun _ z => nomatch z)
        rw [eq] at this
        exact this
/-- a new pen -/
def spPenT (K : PySem.W.Frag) : Sp := fun vs H Q _ => ∃ (a : Addr) (ns : List Int), vs = [.ref a] ∧ SqL K H a (ns.map V.int) ∧ ∀ p c i g n f H', Same H H' → H p = none → H' p = some (.dK (penK c i g n f)) → H' c = some (.lst (ns.map V.int)) → PenV i g f → Q (.ref p) H'
def spPen (P : Program) (w : World) (K : PySem.W.Frag) : Sp := fun vs H Q _ => ∃ (a : Addr) (ns : List Int), vs = [.ref a] ∧ SqL K H a (ns.map V.int) ∧ ∀ p H', Same H H' → Pen P w H' p → Q (.ref p) H'
theorem ok_penE (F : FnG P w K mg base (L2.CX P w) k f fd ["script"] (spPenT K)) : FnG P w K mg base (L2.CX P w) k f fd ["script"] (spPen P w K) := by
  refine ⟨fun vs H Q E ⟨_, _, e, _⟩ => by rw [e]; rfl, fun A outer s H args us vs Q E hr e0 hb r hs => ?_⟩
  obtain ⟨a, ns, ev, hS, q⟩ := hs
  refine codeAny_mono (F.run A outer s H args us vs (fun v H2 => ∃ p c i g n f, v = .ref p ∧ Same H H2 ∧ H p = none ∧ H2 p = some (.dK (penK c i g n f)) ∧ H2 c = some (.lst (ns.map V.int)) ∧ PenV i g f) (fun _ _ _ => False) hr e0 hb r ?_) fun rs s' hq => ?_
  · exact ⟨a, ns, ev, hS, fun p c i g n f H' h1 h2 h3 h4 h5 => ⟨p, c, i, g, n, f, rfl, h1, h2, h3, h4, h5⟩⟩
  cases rs with
  | error e =>
    obtain ⟨_, _, _, _, _, _, _, _, _, _, _, _, z⟩ := hq
    exact z.elim
  | ok fl =>
    cases fl with
    | next => exact False.elim hq
    | brk => exact False.elim hq
    | cont => exact False.elim hq
    | ret u =>
      obtain ⟨v, H2, os, bare, un, hok2, rv, p, c, i, g, n, f, ev2, sm, hp0, hp, hc, hv⟩ := hq
      subst ev2
      have ne : ∀ {b : Addr} {o : HO}, H b = some o → b ≠ p := fun {b o} h z => by rw [z, hp0] at h; cases h
      have hcp : c ≠ p := fun z => by rw [z, hp] at hc; cases hc
      have sm2 : Same H (upd H2 p (PenO P w p c)) := fun b o h => by rw [upd_ne (ne h)]; exact sm b o h
      refine ⟨.ref p, upd H2 p (PenO P w p c), os, bare, ⟨un.keep, un.slot, fun b o h1 h2 h4 => ?_, un.there, fun b xs h => ?_, fun b o u h => ?_, fun b qs h => ⟨#[], ?_⟩⟩, ?_, rv, q p _ sm2 ⟨c, ns, upd_same, by rw [upd_ne hcp]; exact hc⟩⟩
      · have := un.free b o h1 h2 h4
        rw [upd_ne (fun z => by rw [z, hp] at this; cases this)]; exact this
      · exact sm2 _ _ h
      · exact sm2 _ _ h
      · rw [sm2 _ _ h]; simp
      · exact hok_retell (o' := PenO P w p c) hok2 hp (penO_ok (hok2 p _ hp) hv) (fun _ z => nomatch z) (fun _ z => nomatch z)
end
end Fp
namespace Fp
open PySem PySem.Spec PyProof.Rows L2

/-! ### errors with fields -/
/-- __init__(self, f1, ..) of such a class: each field is kept -/
def spInit (K : PySem.W.Frag) (C : Addr) (fs : List Str) : Sp := fun vs H Q _ => ∃ (a : Addr) (ws : List V), vs = .ref a :: ws ∧ ws.length = fs.length ∧ H a = some (exo a C none) ∧
  ∀ d H2, (∀ b o, b ≠ a → H b = some o → H2 b = some o) → H d = none → d ≠ a → H2 a = some (exo a C (some d)) → H2 d = some (exd d (fs.zip ws).reverse) → Q .non H2
/-- the class of an error that has fields -/
structure ErrI (P : Program) (w : World) (K : PySem.W.Frag) (mg : Str → Option Value) (base : Heap) (x : Str) (C : Addr) (fs : List Str) : Prop where
  g : mg x = some (.ref C)
  T : OexC K C
  ex : ∃ fI fd, PySem.W.findIn K (.ref C) "__init__" = some (some (.ref fI)) ∧ PySem.W.typeIn K (.ref fI) = some (.type "function") ∧ FnOk P w K mg base CX0 1 fI fd ("self" :: fs) (spInit K C fs) ∧ Binds K fd ("self" :: fs) []
/-- X(e, ..) -/
def tErr (C : Addr) (fs : List Str) (ta : TA) : L2.St → Hp → XK → Prop := fun σ H Q => ta σ H fun vs H1 => vs.length = fs.length ∧ ∀ d H3, Same H1 H3 → H1 d = none → H3 d = some (.xd (fs.zip vs).reverse) → Q (.ref C) (some d) H3
theorem PA.up {X : Cx} {es : List Expr} {t : TA} (h : PA X es t) : PA X es (fun σ H Q => ∃ R : List V → Hp → Prop, t σ H R ∧ ∀ vs H1, R vs H1 → Q vs H1) := by
  refine ⟨fun pos pins s σ H Q I ⟨R, h1, h2⟩ => ?_⟩
  refine wpAny_mono (h.run pos pins s σ H R I h1) (fun us s1 hs => ?_) fun _ _ z => z
  obtain ⟨vs, H1, I1, r, q⟩ := hs
  exact ⟨vs, H1, I1, r, h2 _ _ q⟩
theorem mk_err {X : Cx} {x : Str} {C : Addr} {fs : List Str} {e : Expr} {es : List Expr} {ta : TA} {p pos : Pos} (T : ErrI X.prog X.w X.K X.mg X.base x C fs) (hl : fs.length ≤ 10) (hr : RoomG 2 X.A) (hg : Gl X x) (ha : PA X (e :: es) ta)
    (hdb : (x == ("__debug__" : Str)) = false := by decide) (he : starEach (e :: es) X.env = (false, eval e X.env) :: starEach es X.env := by rfl) (hpl : (backTo pos (starEach es X.env)).any (·.1) = false := by rfl) :
    PMk X (.Call (.Name x p) (e :: es) [] pos) (tErr C fs ta) := by
  obtain ⟨fI, fd, h1, h2, h3, h4⟩ := T.ex
  have m := pmk_oex (p := p) (pos := pos) T.T h1 h2 h3 hr.r h4 .nil pass0 hg T.g (PA.up ha) hdb he hpl
  intro pins s σ H Q I h
  refine m pins s σ H Q I ⟨_, h, fun vs H1 hh => ?_⟩
  obtain ⟨hn, q⟩ := hh
  refine ⟨by omega, fun a na => ?_⟩
  rw [List.append_nil]
  refine ⟨a, vs, rfl, hn, upd_same, fun d H2 k nd dne ea ed => ⟨rfl, d, _, ea, ed, ?_, ?_⟩⟩
  · rw [upd_ne dne] at nd; exact nd
  · have nd' : H1 d = none := by rw [upd_ne dne] at nd; exact nd
    refine q d _ (fun b o eb => ?_) nd' upd_same
    have hba := ne_of_none eb na
    rw [upd_ne (ne_of_none eb nd'), L2.del_ne hba]
    exact k b o hba (by rw [upd_ne hba]; exact eb)
/-- X(), X without fields -/
theorem mk_err0 {X : Cx} {x : Str} {C : Addr} {bmB : List Value} {B newId initId : String} {p pos : Pos} (F : ExcBaseFacts B newId initId bmB) (q : PySem.W.excIn X.K C bmB newId = true) (gC : X.mg x = some (.ref C)) (kC : PySem.W.keepIn X.K (.ref C) = true) (r : Raises X (.ref C)) (hg : Gl X x)
    (hdb : (x == ("__debug__" : Str)) = false := by decide) : PMk X (.Call (.Name x p) [] [] pos) (fun _ H Q => Q (.ref C) none H) := by
  intro pins s σ H Q I h
  refine wpAny_Call_Name_kw (ld_glob I hg gC ?_ hdb)
  refine PySem.W.callWith_K0 I.kIn kC ?_
  obtain ⟨bm, N, nm, qn, bs, hdct, sn, sub, ab, col, dd, k0, k1, k2, k3, k5, mN, hC, hN, hni, T⟩ := exc_obj I.kIn q
  refine wpAny_call_exc_subT F T hC hN hni (fun h' e hm => ?_) (by show 0 ≤ sizeLine; rw [sizeLine_eq]; omega)
  exact mk_of I hm r h (I.hok.gone hm.new)

section
variable {K : PySem.W.Frag} {C : Addr} {f1 f2 f3 : Str} {vs : List V} {H : Hp} {Q : VK} {E : XK}
theorem init1 {N : List Str} (hN : N = [("self" : Str), f1]) (T : OexC K C) (n1 : PySem.W.findIn K (.ref C) f1 = some none) (h : spInit K C [f1] vs H Q E) : tOst K f1 (tVar 0) (tVar 1) { nx := fun _ H' => Q .non H', rt := Q } (L2.start N vs) H := by
  subst hN
  obtain ⟨a, ws, rfl, hl, ha, q⟩ := h
  obtain ⟨v1, rfl⟩ : ∃ v, ws = [v] := by
    cases ws with
    | nil => cases hl
    | cons v r => cases r with
      | nil => exact ⟨v, rfl⟩
      | cons _ _ => simp at hl
  refine ⟨v1, rfl, _, rfl, a, C, rfl, T, n1, .inl ⟨ha, fun d nd dne => ?_⟩⟩
  refine q d _ (fun b o hb e => ?_) nd dne upd_same (by rw [upd_ne dne, upd_same]; rfl)
  rw [upd_ne hb, upd_ne (ne_of_none e nd)]
  exact e
theorem init2 {N : List Str} (hN : N = [("self" : Str), f1, f2]) (T : OexC K C) (n1 : PySem.W.findIn K (.ref C) f1 = some none) (n2 : PySem.W.findIn K (.ref C) f2 = some none) (h : spInit K C [f1, f2] vs H Q E) :
    tSeq (tOst K f1 (tVar 0) (tVar 1)) (tOst K f2 (tVar 0) (tVar 2)) { nx := fun _ H' => Q .non H', rt := Q } (L2.start N vs) H := by
  subst hN
  obtain ⟨a, ws, rfl, hl, ha, q⟩ := h
  obtain ⟨v1, v2, rfl⟩ : ∃ v u, ws = [v, u] := by
    match ws, hl with
    | [v, u], _ => exact ⟨v, u, rfl⟩
  refine ⟨v1, rfl, _, rfl, a, C, rfl, T, n1, .inl ⟨ha, fun d nd dne => ?_⟩⟩
  refine ⟨v2, rfl, _, rfl, a, C, rfl, T, n2, .inr ⟨d, [(f1, v1)], upd_same, by rw [upd_ne dne, upd_same], (by show (_ : Nat) ≤ 900; simp), ?_⟩⟩
  refine q d _ (fun b o hb e => ?_) nd dne (by rw [upd_ne (Ne.symm dne), upd_same]) upd_same
  rw [upd_ne (ne_of_none e nd), upd_ne hb, upd_ne (ne_of_none e nd)]
  exact e
theorem init3 {N : List Str} (hN : N = [("self" : Str), f1, f2, f3]) (T : OexC K C) (n1 : PySem.W.findIn K (.ref C) f1 = some none) (n2 : PySem.W.findIn K (.ref C) f2 = some none) (n3 : PySem.W.findIn K (.ref C) f3 = some none) (h : spInit K C [f1, f2, f3] vs H Q E) :
    tSeq (tOst K f1 (tVar 0) (tVar 1)) (tSeq (tOst K f2 (tVar 0) (tVar 2)) (tOst K f3 (tVar 0) (tVar 3))) { nx := fun _ H' => Q .non H', rt := Q } (L2.start N vs) H := by
  subst hN
  obtain ⟨a, ws, rfl, hl, ha, q⟩ := h
  obtain ⟨v1, v2, v3, rfl⟩ : ∃ v u t, ws = [v, u, t] := by
    match ws, hl with
    | [v, u, t], _ => exact ⟨v, u, t, rfl⟩
  refine ⟨v1, rfl, _, rfl, a, C, rfl, T, n1, .inl ⟨ha, fun d nd dne => ?_⟩⟩
  refine ⟨v2, rfl, _, rfl, a, C, rfl, T, n2, .inr ⟨d, [(f1, v1)], upd_same, by rw [upd_ne dne, upd_same], (by show (_ : Nat) ≤ 900; simp), ?_⟩⟩
  refine ⟨v3, rfl, _, rfl, a, C, rfl, T, n3, .inr ⟨d, [(f2, v2), (f1, v1)], by rw [upd_ne (Ne.symm dne), upd_same], upd_same, (by show (_ : Nat) ≤ 900; simp), ?_⟩⟩
  refine q d _ (fun b o hb e => ?_) nd dne (by rw [upd_ne (Ne.symm dne), upd_ne (Ne.symm dne), upd_same]) upd_same
  rw [upd_ne (ne_of_none e nd), upd_ne (ne_of_none e nd), upd_ne hb, upd_ne (ne_of_none e nd)]
  exact e
end
end Fp
namespace Fp
open PySem PySem.Spec PyProof.Rows L2
/-! ### what the head tells of the error classes -/
abbrev veB : List Value := [.type "ValueError", .type "Exception", .type "BaseException", .type "object"]
/-- an error class: as a class of exceptions -/
structure ErrC (K : PySem.W.Frag) (mg : Str → Option Value) (x : Str) (C : Addr) : Prop where
  g : mg x = some (.ref C)
  X : ExcC K C
  k : PySem.W.keepIn K (.ref C) = true
  ex : PySem.W.subIn K (.ref C) (.type "BaseException") = some true
  ty : PySem.W.typeIn K (.ref C) = some (.type "type")
  ve : PySem.W.kitOne K (.ref C) (.type "ValueError") = some true
def errB (K : PySem.W.Frag) (x : Str) : Bool :=
  He.eqO (PySem.W.nsIn K mainGlobals x) (some (some (.ref (He.ga K x)))) && (
  He.eqO (PySem.W.findIn K (.ref (He.ga K x)) "__getattribute__") (some (some (.builtin "BaseException.__getattribute__"))) && (
  He.eqO (PySem.W.findIn K (.ref (He.ga K x)) "__getattr__") (some none) && (
  decide (PySem.W.subIn K (.ref (He.ga K x)) (.type "BaseException") = some true) && (
  PySem.W.hasDictIn K (He.ga K x) && (
  He.eqO (PySem.W.findIn K (.ref (He.ga K x)) "__class__") (some (some (.builtin "object.__class__"))) && (
  He.eqO (PySem.W.specialIn K (.builtin "object.__class__") "__get__") (some (some (.builtin "getset_descriptor.__get__"))) && (
  decide (PySem.W.takesIn K (.builtin "object.__class__") = some true) && (
  decide (PySem.W.mroIn K (He.ga K x) (.type "object") = some true) && (
  PySem.W.keepIn K (.ref (He.ga K x)) && (
  decide (PySem.W.typeIn K (.ref (He.ga K x)) = some (.type "type")) &&
  decide (PySem.W.kitOne K (.ref (He.ga K x)) (.type "ValueError") = some true)))))))))))
theorem errB_ok {K : PySem.W.Frag} {h : Heap} {mg : Str → Option Value} {x : Str} (X : K.In h) (G : h.Ns mainGlobals mg) (c : errB K x = true) : ErrC K mg x (He.ga K x) := by
  unfold errB at c
  simp only [Bool.and_eq_true] at c
  obtain ⟨c1, c2, c3, c4, c5, c6, c7, c8, c9, c10, c11, c12⟩ := c
  exact ⟨PySem.W.mg_of X G (He.eqO_ok c1), ⟨He.eqO_ok c2, He.eqO_ok c3, of_decide_eq_true c4, c5, He.eqO_ok c6, He.eqO_ok c7, of_decide_eq_true c8, of_decide_eq_true c9⟩, c10, of_decide_eq_true c4, of_decide_eq_true c11, of_decide_eq_true c12⟩
/-- a class whose instances have fields -/
def oexB (K : PySem.W.Frag) (x : Str) (fs : List Str) : Bool :=
  (match K.lookup (He.ga K x) with
    | some ⟨.type "type", _, .cls cd, sl⟩ => (match cd.mro, sl.toList with
      | .ref C' :: bm, [_, _, _, _, some (.builtin n), _] => decide (C' = He.ga K x) && (decide (n = "ValueError.__new__") && (cd.hasDict && (!cd.hasDel && PySem.HandSPX.refsVE bm)))
      | _, _ => false)
    | _ => false) && (
  He.eqO (PySem.W.findIn K (.ref (He.ga K x)) "__setattr__") (some (some (.builtin "object.__setattr__"))) && (
  He.eqO (PySem.W.findIn K (.ref (He.ga K x)) "__init__") (some (some (.ref (He.ma K (He.ga K x) "__init__")))) && (
  decide (PySem.W.typeIn K (.ref (He.ma K (He.ga K x) "__init__")) = some (.type "function")) &&
  fs.all fun f => He.eqO (PySem.W.findIn K (.ref (He.ga K x)) f) (some none))))
theorem oexB_ok {K : PySem.W.Frag} {mg : Str → Option Value} {x : Str} {fs : List Str} (e : ErrC K mg x (He.ga K x)) (c : oexB K x fs = true) :
    OexC K (He.ga K x) ∧ PySem.W.findIn K (.ref (He.ga K x)) "__init__" = some (some (.ref (He.ma K (He.ga K x) "__init__"))) ∧ PySem.W.typeIn K (.ref (He.ma K (He.ga K x) "__init__")) = some (.type "function") ∧ ∀ f ∈ fs, PySem.W.findIn K (.ref (He.ga K x)) f = some none := by
  unfold oexB at c
  simp only [Bool.and_eq_true] at c
  obtain ⟨c1, c2, c3, c4, c5⟩ := c
  refine ⟨⟨?_, He.eqO_ok c2, e.ex, e.ty, e.k⟩, He.eqO_ok c3, of_decide_eq_true c4, fun f hf => He.eqO_ok (List.all_eq_true.mp c5 f hf)⟩
  split at c1
  · rename_i dd cd sl ho
    split at c1
    · rename_i C' bm k0 k1 k2 k3 n k5 hm hs
      simp only [Bool.and_eq_true, decide_eq_true_eq, Bool.not_eq_true'] at c1
      obtain ⟨h1, h2, h3, h4, h5⟩ := c1
      subst h1 h2
      obtain ⟨nm, bs, mro, ns, qn, hd, sn, sub, ab, col, del⟩ := cd
      dsimp only at hm h3 h4
      subst hm h3 h4
      have hsl : sl = #[k0, k1, k2, k3, some (.builtin "ValueError.__new__"), k5] := by
        obtain ⟨l⟩ := sl
        simp only at hs
        rw [hs]
      subst hsl
      exact ⟨nm, qn, ns, bs, bm, sn, sub, ab, col, dd, k0, k1, k2, k3, k5, ho, h5⟩
    · cases c1
  · cases c1
/-- a class without fields -/
def zexB (K : PySem.W.Frag) (x : Str) : Bool := PySem.W.excIn K (He.ga K x) veB "ValueError.__new__"
/-- all pairs: is x one of y -/
def kitB (K : PySem.W.Frag) (x y : Str) (b : Bool) : Bool := decide (PySem.W.kitOne K (.ref (He.ga K x)) (.ref (He.ga K y)) = some b)
def exmB (K : PySem.W.Frag) (x y : Str) (b : Bool) : Bool := decide (PySem.W.exmOne K (.ref (He.ga K x)) (.ref (He.ga K y)) = some b)
end Fp
namespace Fp
open PySem PySem.Spec PyProof.Rows L2
section
variable {X : Cx} {CX : CXT} {k : Nat} {f C : Addr} {fd : FuncData} {ps : List Str} {sp : Sp} {E : L2.St → XK} {x m : Str} {p pos apos : Pos} {e o : Expr} {es : List Expr} {ta : TE} {t : TA}
theorem run_fnC {pins : List (Addr × Obj)} {σ : L2.St} {H : Hp} {s : Shared} {Q : VK} {us : List Value} {vs : List V} (F : FnC X.prog X.w X.K X.mg X.base CX k f fd ps sp) (hr : RoomC k X.A) (hb : Binds X.K fd ps []) (hx : PassesAt CX X σ (E σ))
    (I : Inv X pins σ H s) (r : Vals vs us) (h : sp vs H Q (E σ)) : wpAny (model X.prog X.w) X.A (call (.ref f) us) (EP X pins σ Q) X.xe s := by
  have hl : us.length = ps.length := by rw [← r.length]; exact F.len _ _ _ _ h
  have b := hb s us I.kIn (by rw [List.append_nil]; exact hl)
  rw [List.append_nil] at b
  refine wpAny_call (codeAny_mono (F.run X.A X.stack s H ⟨us, []⟩ us vs Q (E σ) hr I.env0 b r h) fun r s' hq => ?_)
  cases r with
  | error e => exact hx pins H s e s' I hq
  | ok fl =>
    cases fl with
    | ret u => exact I.after hq
    | next => exact False.elim hq
    | brk => exact False.elim hq
    | cont => exact False.elim hq
theorem pe_callC (F : FnC X.prog X.w X.K X.mg X.base CX k f fd ps sp) (hr : RoomC k X.A) (hg : Gl X x) (hm : X.mg x = some (.ref f)) (hk : PySem.W.keepIn X.K (.ref f) = true) (hb : Binds X.K fd ps []) (hx : ∀ σ, PassesAt CX X σ (E σ))
    (ha : PA X (e :: es) t) (hdb : (x == ("__debug__" : Str)) = false := by decide) (he : starEach (e :: es) X.env = (false, eval e X.env) :: starEach es X.env := by rfl) (hpl : (backTo pos (starEach es X.env)).any (·.1) = false := by rfl) :
    PE X (.Call (.Name x p) (e :: es) [] pos) (tCallS sp E t) := by
  refine ⟨fun pins s σ H Q I h => ?_⟩
  refine wpAny_Call_Name_kw (ld_glob I hg hm ?_ hdb)
  refine PySem.W.callWith_K (h₀ := X.base) I.ok.mod.kin hk (thn (ha.run pos pins s σ H _ I h) fun us s1 ⟨vs, H1, I1, r, q⟩ => ⟨I1.kIn, ?_⟩) he hpl
  exact run_fnC F hr hb (hx σ) I1 r q
end
/-- repr where an exception may be in hand -/
theorem call_reprC {X : Cx} (hm : ∃ o es ep, X.base.get? sysModules = some o ∧ o.data = .dict es ep) {k : Nat} (hr : RoomC k X.A) : CallR X (.builtin "repr") (rRepr X.K) := by
  intro pins s σ H xs us Q I r h
  obtain ⟨v, d, rfl, hd, hs, hdp, hl, q⟩ := h
  obtain ⟨u, rfl, ru⟩ := vals1 r
  obtain ⟨as, hR, hn⟩ := Dt.reads hm I hd ru
  have hun : X.A.units + 200 < cLine := by have := hr.un; omega
  have fin : ∀ (h' : Heap) (u' tk : Tok), (∀ b o, s.heap.get? b = some o → h'.get? b = some o) → EP X pins σ Q (.str d.shown u') { s with heap := h', toks := tk } := fun h' u' tk k =>
    ⟨.str d.shown, H, I.kept (t' := tk) k, ⟨_, rfl⟩, q⟩
  cases hR with
  | none => exact PySem.P.repr_of_none (by simpa [PyData.shown] using fin s.heap _ _ fun _ _ z => z)
  | bool b => exact PySem.P.repr_of_bool (by simpa [PyData.shown] using fin s.heap _ _ fun _ _ z => z)
  | int i t => exact PySem.P.repr_of_int (by simpa [PyData.showable] using hs) (by simpa [PyData.shown] using fin s.heap _ _ fun _ _ z => z)
  | str x t => exact PySem.P.repr_of_str (by simpa [PyData.shown] using fin s.heap _ _ fun _ _ z => z) (by simpa [PyData.shown] using hl)
  | list h1 h2 h3 h4 => exact repr_of_reads' (.list h1 h2 h3 h4) hs (fun _ => hn) hr.g (by omega) (fun _ _ z => z) fin hl
  | tuple h1 h2 h3 h4 => exact repr_of_reads' (.tuple h1 h2 h3 h4) hs (fun _ => hn) hr.g (by omega) (fun _ _ z => z) fin hl
  | dict h1 h2 h3 h4 h5 => exact repr_of_reads' (.dict h1 h2 h3 h4 h5) hs (fun _ => hn) hr.g (by omega) (fun _ _ z => z) fin hl
/-- isinstance(e, c), e the exception that the suite holds; it may have fields -/
def rIsE2 (K : PySem.W.Frag) (cls : Value) (d : Option Addr) (a : Addr) : List V → Hp → VK → Prop := fun xs H Q => ∃ (D : Addr) (c : V) (cv : Value) (b : Bool), cls = .ref D ∧ xs = [.ref a, c] ∧ ExcC K D ∧ (d = none ∨ ∃ dd fs, d = some dd ∧ H dd = some (.xd fs)) ∧ (∀ u, RelV c u → u = cv) ∧ PySem.W.kitOne K (.ref D) cv = some b ∧ Q (.bl b) H
theorem call_isE2 {X : Cx} {a : Addr} {oe : Obj} {cls : Value} {d : Option Addr} {pn : List (Addr × Obj)} (hz : Zc cls d oe) (hf : ∃ vs, oe.data = .fields vs) : CallR (X.suite a ((a, oe) :: pn)) (.builtin "isinstance") (rIsE2 X.K cls d a) := by
  intro pins s σ H xs us Q I r h
  obtain ⟨D, c, cv, b, rfl, rfl, C, hd, hcv, e, q⟩ := h
  cases r with
  | cons rx rr =>
    cases rr with
    | cons rt rr =>
      cases rr
      cases rx
      have ec := hcv _ rt
      subst ec
      obtain ⟨hget, _⟩ := I.pin (a, oe) (List.mem_append.mpr (.inl List.mem_cons_self))
      obtain ⟨vs, hv⟩ := hf
      have J : ∃ od, PySem.W.InstAt s.heap a oe D od := by
        rcases hd with rfl | ⟨dd, fs, rfl, hxd⟩
        · exact ⟨none, hget, hz.1, by unfold PySem.W.notCls; rw [hv] <;> rfl, by rw [hz.2]; trivial⟩
        · obtain ⟨mA, ⟨o, es, ep, ho, _⟩, _⟩ := (show ObjOk X.prog X.w H s.heap dd (.xd fs) from I.hok dd _ hxd)
          exact ⟨some o, hget, hz.1, by unfold PySem.W.notCls; rw [hv] <;> rfl, by rw [hz.2]; exact ho⟩
      obtain ⟨od, J⟩ := J
      have hcl : (PySem.W.clsIn X.K D).isSome = true := by
        obtain ⟨cd, hc, _⟩ := PySem.W.any_some C.hd
        rw [hc]; rfl
      exact PySem.W.kia_one (PySem.W.kitx_exc hcl C.hg C.hk C.hs C.ha C.hn C.ht C.hm) I.kIn J e (fun z => nomatch z) fun tk => ⟨.bl b, H, I.kept (t' := tk) fun _ _ z => z, rfl, q⟩
end Fp
namespace Fp
open PySem PySem.Spec PyProof.Rows L2
/-- a def of the module, by its name: what it promises -/
structure PrG (P : Program) (w : World) (K : PySem.W.Frag) (mg : Str → Option Value) (base : Heap) (x : Str) (k : Nat) (ps : List Str) (sp : Sp) : Prop where
  ex : ∃ f fd, mg x = some (.ref f) ∧ PySem.W.keepIn K (.ref f) = true ∧ Binds K fd ps [] ∧ FnG P w K mg base (L2.CX P w) k f fd ps sp
structure PrC (P : Program) (w : World) (K : PySem.W.Frag) (mg : Str → Option Value) (base : Heap) (x : Str) (k : Nat) (ps : List Str) (sp : Sp) : Prop where
  ex : ∃ f fd, mg x = some (.ref f) ∧ PySem.W.keepIn K (.ref f) = true ∧ Binds K fd ps [] ∧ FnC P w K mg base (L2.CX P w) k f fd ps sp
/-- a def's text stands there -/
structure Df (K : PySem.W.Frag) (mg : Str → Option Value) (x : Str) (st : Stmt) : Prop where
  ex : ∃ f fd, FunD K x x (defArgs st) (defBody st) (defScope st) [] [] f fd ∧ mg x = some (.ref f)
section
variable {P : Program} {w : World} {K : PySem.W.Frag} {mg : Str → Option Value} {base : Heap} {k : Nat} {ps : List Str} {sp sp' : Sp} {x : Str} {st : Stmt}
theorem Df.prG (D : Df K mg x st) (hb : ∀ (kV doc pm : Value) (an : Option Addr) (cdv ct : Value) (us : List Value), us.length = ps.length → bindArgs (PySem.W.fnOf x x (defArgs st) (defBody st) (defScope st) .none kV doc pm an cdv ct) ⟨us, []⟩ = pure (ps.zip us))
    (h : ∀ f fd, FunD K x x (defArgs st) (defBody st) (defScope st) [] [] f fd → FnG P w K mg base (L2.CX P w) k f fd ps sp) : PrG P w K mg base x k ps sp := by
  obtain ⟨f, fd, F, g⟩ := D.ex
  exact ⟨f, fd, g, F.kp, F.bindsN hb, h f fd F⟩
theorem Df.prC (D : Df K mg x st) (hb : ∀ (kV doc pm : Value) (an : Option Addr) (cdv ct : Value) (us : List Value), us.length = ps.length → bindArgs (PySem.W.fnOf x x (defArgs st) (defBody st) (defScope st) .none kV doc pm an cdv ct) ⟨us, []⟩ = pure (ps.zip us))
    (h : ∀ f fd, FunD K x x (defArgs st) (defBody st) (defScope st) [] [] f fd → FnC P w K mg base (L2.CX P w) k f fd ps sp) : PrC P w K mg base x k ps sp := by
  obtain ⟨f, fd, F, g⟩ := D.ex
  exact ⟨f, fd, g, F.kp, F.bindsN hb, h f fd F⟩
theorem PrG.map {j : Nat} (h : PrG P w K mg base x k ps sp) (hm : ∀ f fd, FnG P w K mg base (L2.CX P w) k f fd ps sp → FnG P w K mg base (L2.CX P w) j f fd ps sp') : PrG P w K mg base x j ps sp' := by
  obtain ⟨f, fd, h1, h2, h3, h4⟩ := h.ex
  exact ⟨f, fd, h1, h2, h3, hm f fd h4⟩
end
section
variable {X : Cx} {k : Nat} {ps : List Str} {sp : Sp} {x : Str} {p pos : Pos} {e : Expr} {es : List Expr} {t : TA} {W : L2.St → XK} {E : L2.St → XK}
theorem pe_callP (h : PrG X.prog X.w X.K X.mg X.base x k ps sp) (hr : RoomG k X.A) (hg : Gl X x) (hx : ∀ σ, PassesAt (L2.CX X.prog X.w) X σ (E σ))
    (ha : PA X (e :: es) t) (hdb : (x == ("__debug__" : Str)) = false := by decide) (he : starEach (e :: es) X.env = (false, eval e X.env) :: starEach es X.env := by rfl) (hpl : (backTo pos (starEach es X.env)).any (·.1) = false := by rfl) :
    PE X (.Call (.Name x p) (e :: es) [] pos) (tCallS sp E t) := by
  obtain ⟨f, fd, h1, h2, h3, h4⟩ := h.ex
  exact pe_callG h4 hr hg h1 h2 h3 hx ha hdb he hpl
theorem pe_callP0 (h : PrG X.prog X.w X.K X.mg X.base x k ps sp) (hr : RoomG k X.A) (hg : Gl X x) (hx : ∀ σ, PassesAt (L2.CX X.prog X.w) X σ (E σ))
    (hdb : (x == ("__debug__" : Str)) = false := by decide) : PE X (.Call (.Name x p) [] [] pos) (tCallS sp E tNil) := by
  obtain ⟨f, fd, h1, h2, h3, h4⟩ := h.ex
  exact pe_callG0 h4 hr hg h1 h2 h3 hx hdb
theorem pe_callPC (h : PrC X.prog X.w X.K X.mg X.base x k ps sp) (hr : RoomC k X.A) (hg : Gl X x) (hx : ∀ σ, PassesAt (L2.CX X.prog X.w) X σ (E σ))
    (ha : PA X (e :: es) t) (hdb : (x == ("__debug__" : Str)) = false := by decide) (he : starEach (e :: es) X.env = (false, eval e X.env) :: starEach es X.env := by rfl) (hpl : (backTo pos (starEach es X.env)).any (·.1) = false := by rfl) :
    PE X (.Call (.Name x p) (e :: es) [] pos) (tCallS sp E t) := by
  obtain ⟨f, fd, h1, h2, h3, h4⟩ := h.ex
  exact pe_callC h4 hr hg h1 h2 h3 hx ha hdb he hpl
theorem pe_callPZ {a : Addr} {oe : Obj} (hp : (a, oe) ∈ X.pn) (h : PrC X.prog X.w X.K X.mg X.base x k ps sp) (hr : RoomC k X.A) (hg : Gl X x)
    (ha : PA X (e :: es) t) (hdb : (x == ("__debug__" : Str)) = false := by decide) (he : starEach (e :: es) X.env = (false, eval e X.env) :: starEach es X.env := by rfl) (hpl : (backTo pos (starEach es X.env)).any (·.1) = false := by rfl) :
    PE X (.Call (.Name x p) (e :: es) [] pos) (tCallZ sp X.base a oe t) := by
  obtain ⟨f, fd, h1, h2, h3, h4⟩ := h.ex
  exact pe_callZ hp h4 hr hg h1 h2 h3 ha hdb he hpl
end
end Fp
namespace Fp
open PySem PySem.Spec PyProof.Rows L2

/-! ### signs of shown data -/
def OkS (x : Str) : Prop := ∀ c ∈ x.cps.toList, c < 16 ^ 8
theorem okS_append {x y : Str} (hx : OkS x) (hy : OkS y) : OkS (x ++ y) := fun c h => by
  have e : (x ++ y).cps.toList = x.cps.toList ++ y.cps.toList := by
    show (x.cps ++ y.cps).toList = _
    simp
  rw [e] at h
  rcases List.mem_append.mp h with h | h
  · exact hx c h
  · exact hy c h
theorem char_lt (c : Char) : c.toNat < 16 ^ 8 := by
  have h := c.valid
  have e : (16 : Nat) ^ 8 = 4294967296 := by decide
  rw [e]
  exact c.val.toNat_lt
theorem okS_ofString (s : String) : OkS (Str.ofString s) := fun c h => by
  have e : (Str.ofString s).cps.toList = s.toList.map Char.toNat := PyProof.Rows.signs_ofString s
  rw [e] at h
  obtain ⟨d, _, rfl⟩ := List.mem_map.mp h
  exact char_lt d
theorem hex_ok (n c : Nat) : ∀ d ∈ List.replicate n 48 ++ (Nat.toDigits 16 c).map Char.toNat, d < 16 ^ 8 := fun d h => by
  rcases List.mem_append.mp h with h | h
  · rw [(List.mem_replicate.mp h).2]; decide
  · obtain ⟨e, _, rfl⟩ := List.mem_map.mp h
    exact char_lt e
theorem reprChar_ok (q c : Nat) (hc : c < 16 ^ 8) : ∀ d ∈ Builtin.Str.reprChar q c, d < 16 ^ 8 := by
  intro d h
  unfold Builtin.Str.reprChar at h
  dsimp only at h
  have k : ∀ {l : List Nat} {m : List Nat}, (∀ x ∈ l, x < 16 ^ 8) → (∀ x ∈ m, x < 16 ^ 8) → ∀ x ∈ l ++ m, x < 16 ^ 8 := fun h1 h2 x hx => (List.mem_append.mp hx).elim (h1 x) (h2 x)
  have two : ∀ a b : Nat, a < 16 ^ 8 → b < 16 ^ 8 → ∀ x ∈ [a, b], x < 16 ^ 8 := fun a b h1 h2 x hx => by
    rcases List.mem_cons.mp hx with e | hx
    · rw [e]; exact h1
    · rw [List.mem_singleton.mp hx]; exact h2
  repeat' split at h
  all_goals first
    | exact two _ _ (by decide) hc d h
    | exact two _ _ (by decide) (by decide) d h
    | (rw [List.mem_singleton.mp h]; exact hc)
    | exact k (two _ _ (by decide) (by decide)) (hex_ok _ _) d h
theorem okS_repr {x : Str} (hx : OkS x) : OkS (reprText x) := by
  intro c h
  unfold reprText at h
  rw [Array.toList_push] at h
  have hq : reprQuote x < 16 ^ 8 := by unfold reprQuote; split <;> decide
  have key : ∀ (l : List Nat) (acc : Array Nat), (∀ c ∈ l, c < 16 ^ 8) → (∀ c ∈ acc.toList, c < 16 ^ 8) → ∀ c ∈ (l.foldl (fun out c => out ++ (Builtin.Str.reprChar (reprQuote x) c).toArray) acc).toList, c < 16 ^ 8 := by
    intro l
    induction l with
    | nil => intro acc _ h2; exact h2
    | cons a r ih =>
      intro acc h1 h2
      refine ih _ (fun c hc => h1 c (List.mem_cons_of_mem _ hc)) fun c hc => ?_
      rw [Array.toList_append] at hc
      rcases List.mem_append.mp hc with hc | hc
      · exact h2 c hc
      · exact reprChar_ok _ _ (h1 a (List.mem_cons_self ..)) c (by simpa using hc)
  rcases List.mem_append.mp h with h | h
  · rw [← Array.foldl_toList] at h
    refine key _ _ hx (fun c hc => ?_) c h
    have : c = reprQuote x := by simpa using hc
    rw [this]; exact hq
  · rw [List.mem_singleton.mp h]; exact hq
theorem okS_join (y : Str) (hy : OkS y) : ∀ ts : List Str, (∀ t ∈ ts, OkS t) → OkS (Str.join y ts)
  | [], _ => fun c h => by simp [Str.join, Str.empty] at h
  | [x], h => h x (List.mem_cons_self ..)
  | x :: z :: r, h => by
    show OkS (x ++ y ++ Str.join y (z :: r))
    exact okS_append (okS_append (h x (List.mem_cons_self ..)) hy) (okS_join y hy (z :: r) fun t ht => h t (List.mem_cons_of_mem _ ht))
theorem okS_list {ts : List Str} (h : ∀ t ∈ ts, OkS t) : OkS (listText ts) := by
  rw [listText_eq_join]
  exact okS_append (okS_append (okS_ofString _) (okS_join _ (okS_ofString _) _ h)) (okS_ofString _)
theorem okS_tuple {ts : List Str} (h : ∀ t ∈ ts, OkS t) : OkS (tupleText ts) := by
  unfold tupleText
  exact okS_append (okS_append (okS_ofString _) (okS_join _ (okS_ofString _) _ h)) (okS_ofString _)
theorem okS_dict {ts : List Str} (h : ∀ t ∈ ts, OkS t) : OkS (dictText ts) := by
  unfold dictText
  exact okS_append (okS_append (okS_ofString _) (okS_join _ (okS_ofString _) _ h)) (okS_ofString _)
mutual
theorem okS_shown (B : Nat) : ∀ d : PyData, d.leavesShort B = true → OkS d.shown
  | .none, _ => okS_ofString _
  | .bool b, _ => by simp only [PyData.shown]; split <;> exact okS_ofString _
  | .int i, _ => by simp only [PyData.shown]; exact okS_ofString _
  | .str x, h => by
    have hx : ∀ c ∈ x.cps.toList, c < 16 ^ 8 := by simpa only [PyData.leavesShort, List.all_eq_true, decide_eq_true_eq] using h
    simp only [PyData.shown]
    exact okS_repr hx
  | .list xs, h => by
    simp only [PyData.shown]
    exact okS_list (okS_shownAll B xs (by simpa only [PyData.leavesShort] using h))
  | .tuple xs, h => by
    simp only [PyData.shown]
    exact okS_tuple (okS_shownAll B xs (by simpa only [PyData.leavesShort] using h))
  | .dict kvs, h => by
    simp only [PyData.shown]
    exact okS_dict (okS_shownKv B kvs (by simpa only [PyData.leavesShort] using h))
theorem okS_shownAll (B : Nat) : ∀ xs : List PyData, PyData.leavesShortAll B xs = true → ∀ t ∈ PyData.shownAll xs, OkS t
  | [], _, t, ht => by simp [PyData.shownAll] at ht
  | x :: xs, h, t, ht => by
    have h' : x.leavesShort B = true ∧ PyData.leavesShortAll B xs = true := by simpa only [PyData.leavesShortAll, Bool.and_eq_true] using h
    simp only [PyData.shownAll] at ht
    rcases List.mem_cons.mp ht with e | ht
    · rw [e]; exact okS_shown B x h'.1
    · exact okS_shownAll B xs h'.2 t ht
theorem okS_shownKv (B : Nat) : ∀ kvs : List (PyData × PyData), PyData.leavesShortKv B kvs = true → ∀ t ∈ PyData.shownKv kvs, OkS t
  | [], _, t, ht => by simp [PyData.shownKv] at ht
  | (k, v) :: r, h, t, ht => by
    have h' : (k.leavesShort B = true ∧ v.leavesShort B = true) ∧ PyData.leavesShortKv B r = true := by simpa only [PyData.leavesShortKv, Bool.and_eq_true] using h
    simp only [PyData.shownKv] at ht
    rcases List.mem_cons.mp ht with e | ht
    · rw [e]; exact okS_append (okS_append (okS_shown B k h'.1.1) (okS_ofString _)) (okS_shown B v h'.1.2)
    · exact okS_shownKv B r h'.2 t ht
end
/-- data that can be shown: depth, weight -/
structure Gd (n W : Nat) (d : PyData) : Prop where
  sh : d.showable = true
  dp : d.depth ≤ n
  lf : d.leavesShort 42 = true
  wt : d.weight ≤ W
theorem Gd.len {n W : Nat} {d : PyData} (g : Gd n W d) : d.shown.length ≤ 44 * W + 42 := by
  have h := PyData.shown_le 42 (by decide) d g.lf
  have := g.wt
  have h2 : (42 + 2) * d.weight ≤ 44 * W := Nat.mul_le_mul (by decide) g.wt
  omega
theorem Gd.mono {n W n' W' : Nat} {d : PyData} (g : Gd n W d) (h1 : n ≤ n') (h2 : W ≤ W') : Gd n' W' d := ⟨g.sh, Nat.le_trans g.dp h1, g.lf, Nat.le_trans g.wt h2⟩
/-- its text is data again -/
theorem Gd.text {n W : Nat} {d : PyData} (g : Gd n W d) : Gd 0 (44 * W + 42) (.str d.shown) := by
  refine ⟨by simp [PyData.showable], by simp [PyData.depth], ?_, ?_⟩
  · have := okS_shown 42 d g.lf
    simp only [PyData.leavesShort, List.all_eq_true, decide_eq_true_eq]
    exact this
  · have := g.len
    simp only [PyData.weight]
    exact this
theorem gd_str (x : Str) (h : OkS x) : Gd 0 x.length (.str x) := ⟨by simp [PyData.showable], by simp [PyData.depth], by simp only [PyData.leavesShort, List.all_eq_true, decide_eq_true_eq]; exact h, by simp only [PyData.weight]; exact Nat.le_refl _⟩
theorem gd_int {i : Int} (h0 : 0 ≤ i) (h1 : i < 10 ^ 41) : Gd 0 140 (.int i) := by
  have hn : i.natAbs < 2 ^ 137 := by
    have : (10 : Int) ^ 41 < 2 ^ 137 := by decide
    omega
  have hl : i.natAbs.log2 < 137 := by
    by_cases z : i.natAbs = 0
    · rw [z]; decide
    · exact (Nat.log2_lt z).mpr hn
  refine ⟨by simp only [PyData.showable, decide_eq_true_eq]; omega, by simp [PyData.depth], ?_, ?_⟩
  · simp only [PyData.leavesShort, PyData.shown]
    refine decide_eq_true ?_
    exact Nat.le_trans (toString_length_le (k := 41) h0 (by decide) h1) (show 41 ≤ 42 by decide)
  · simp only [PyData.weight]
    split <;> omega
/-- lists of such -/
structure GdAll (n W : Nat) (ds : List PyData) : Prop where
  sh : PyData.showableAll ds = true
  dp : PyData.depthAll ds ≤ n
  lf : PyData.leavesShortAll 42 ds = true
  wt : PyData.weightAll ds ≤ W
theorem gdAll_nil : GdAll 0 0 [] := ⟨by simp [PyData.showableAll], by simp [PyData.depthAll], by simp [PyData.leavesShortAll], by simp [PyData.weightAll]⟩
theorem gdAll_cons {n W n' W' : Nat} {d : PyData} {ds : List PyData} (g : Gd n W d) (r : GdAll n' W' ds) : GdAll (max n n') (W + 1 + W') (d :: ds) := by
  have := g.dp; have := r.dp; have := g.wt; have := r.wt
  refine ⟨by simp [PyData.showableAll, g.sh, r.sh], ?_, by simp [PyData.leavesShortAll, g.lf, r.lf], ?_⟩
  · simp only [PyData.depthAll]; omega
  · simp only [PyData.weightAll]; omega
theorem Gd.tuple {n W : Nat} {ds : List PyData} (g : GdAll n W ds) : Gd (n + 1) W (.tuple ds) := by
  have := g.dp; have := g.wt
  exact ⟨by simp [PyData.showable, g.sh], by simp only [PyData.depth]; omega, by simp [PyData.leavesShort, g.lf], by simp only [PyData.weight]; omega⟩
theorem Gd.list {n W : Nat} {ds : List PyData} (g : GdAll n W ds) : Gd (n + 1) W (.list ds) := by
  have := g.dp; have := g.wt
  exact ⟨by simp [PyData.showable, g.sh], by simp only [PyData.depth]; omega, by simp [PyData.leavesShort, g.lf], by simp only [PyData.weight]; omega⟩
theorem Gd.big {n W : Nat} {d : PyData} (g : Gd n W d) (h : W ≤ 300000) : d.shown.length ≤ sizeLine := by
  have := g.len
  have e : sizeLine = 16777216 := by decide
  omega
end Fp
namespace Fp
theorem ite_no {A B : Prop} {b : Bool} (h : b = false) (x : B) : if b = true then A else B := by rw [h, if_neg (by decide)]; exact x
theorem ite_ye {A B : Prop} {b : Bool} (h : b = true) (x : A) : if b = true then A else B := by rw [h, if_pos rfl]; exact x
end Fp
namespace Fp
theorem relRef {a : PySem.Addr} : L2.RelV (.ref a) (PySem.Value.ref a) := rfl
theorem relTy {n : String} : L2.RelV (.ty n) (PySem.Value.type n) := rfl
end Fp
namespace Fp
open PySem PySem.Spec PyProof.Rows L2
/-- a call within a suite with the caught exception handed on, told without its record -/
def tCallZZ (sp : Sp) (base : Heap) (a : Addr) (cls : Value) (d : Option Addr) (t : TA) : TE := fun σ H Q => t σ H fun vs H1 => H1 a = none → ∀ oe, Zc cls d oe → (∃ vs, oe.data = .fields vs) → ∀ H1', Same H1 H1' → HE base H1' a oe → sp vs H1' (fun v H2 => ∀ H3, Lost a oe H2 H3 → Q v H3) (fun _ _ _ => False)
theorem pe_callPZZ {X : Cx} {k : Nat} {ps : List Str} {sp : Sp} {x : Str} {p pos : Pos} {e : Expr} {es : List Expr} {t : TA} {a : Addr} {oe : Obj} {cls : Value} {d : Option Addr} (B : Heap) (hB : X.base = B) (hz : Zc cls d oe) (hf : ∃ vs, oe.data = .fields vs) (hp : (a, oe) ∈ X.pn) (h : PrC X.prog X.w X.K X.mg X.base x k ps sp) (hr : RoomC k X.A) (hg : Gl X x)
    (ha : PA X (e :: es) t) (hdb : (x == ("__debug__" : Str)) = false := by decide) (he : starEach (e :: es) X.env = (false, eval e X.env) :: starEach es X.env := by rfl) (hpl : (backTo pos (starEach es X.env)).any (·.1) = false := by rfl) :
    PE X (.Call (.Name x p) (e :: es) [] pos) (tCallZZ sp B a cls d t) := by
  subst hB
  have q := pe_callPZ (p := p) (pos := pos) hp h hr hg (PA.up ha) hdb he hpl
  refine ⟨fun pins s σ H Q I hh => q.run pins s σ H Q I ⟨_, hh, fun vs H1 g na H1' s1 he => g na oe hz hf H1' s1 he⟩⟩
theorem Lost.keep {a : Addr} {oe : Obj} {H2 H3 : Hp} {b : Addr} {o : HO} (l : Lost a oe H2 H3) (h : H2 b = some o) (n : ∀ ob u, o ≠ .frz ob u) : H3 b = some o := by
  rcases l with rfl | ⟨rfl, hf⟩
  · exact h
  · have hb : b ≠ a := fun z => by rw [z, hf] at h; exact n _ _ (Option.some.inj h).symm
    rw [L2.del_ne hb]; exact h
theorem Lost.same {a : Addr} {oe : Obj} {H H2 H3 : Hp} (l : Lost a oe H2 H3) (s : Same H H2) (n : H a = none) : Same H H3 := fun b o e => by
  rcases l with rfl | ⟨rfl, hf⟩
  · exact s b o e
  · have hb : b ≠ a := fun z => by rw [z, n] at e; cases e
    rw [L2.del_ne hb]; exact s b o e
end Fp
namespace Fp
open PySem PySem.Spec PyProof.Rows L2
section
variable {X : Cx}
theorem opIn : OpR X (compareOp .In) (rIn X.K false) := op_in_seq
theorem opNotIn : OpR X (compareOp .NotIn) (rIn X.K true) := op_notIn_seq
theorem opIs : OpR X (compareOp .Is) (fun x y H Q => y = .non ∧ Q (.bl (decide (x = .non))) H) := op_isN
theorem opIsNot : OpR X (compareOp .IsNot) (fun x y H Q => y = .non ∧ Q (.bl (!decide (x = .non))) H) := op_notN
end
theorem dtAll_cons {K : PySem.W.Frag} {H : Hp} {d : PyData} {ds : List PyData} {v : V} {vs : List V} (h : Dt K H d v) (r : DtAll K H ds vs) : DtAll K H (d :: ds) (v :: vs) := by unfold DtAll; exact ⟨v, vs, rfl, h, r⟩
theorem dtAll_nil {K : PySem.W.Frag} {H : Hp} : DtAll K H [] [] := by unfold DtAll; rfl
theorem dt_str {K : PySem.W.Frag} {H : Hp} {x : Str} : Dt K H (.str x) (.str x) := by unfold Dt; rfl
theorem dt_int {K : PySem.W.Frag} {H : Hp} {i : Int} : Dt K H (.int i) (.int i) := by unfold Dt; rfl
theorem dt_tup {K : PySem.W.Frag} {H : Hp} {a : Addr} {xs : List V} {ds : List PyData} (h : SqT K H a xs) (r : DtAll K H ds xs) : Dt K H (.tuple ds) (.ref a) := by unfold Dt; exact ⟨a, xs, rfl, h, r⟩
theorem dt_lst {K : PySem.W.Frag} {H : Hp} {a : Addr} {xs : List V} {ds : List PyData} (h : SqL K H a xs) (r : DtAll K H ds xs) : Dt K H (.list ds) (.ref a) := by unfold Dt; exact ⟨a, xs, rfl, h, r⟩
end Fp
namespace Fp
open PySem PySem.Spec PyProof.Rows L2

/-! ### the end of a law -/
/-- there is a dict at sysModules -/
def ModD (h : Heap) : Prop := ∃ o es ep, h.get? sysModules = some o ∧ o.data = .dict es ep
/-- what may be tracked at the start: the script, if the module does not name it -/
structure Only1 (K : PySem.W.Frag) (H : Hp) (a : Addr) (vs : List Value) (ns : List Int) : Prop where
  only : ∀ b u, H b = some u → b = a ∧ K.lookup a = none ∧ u = .frz { cls := .type "list", data := .seq vs.toArray } (.lst (ns.map V.int))
  sq : SqL K H a (ns.map V.int)
section
variable {P : Program} {w : World} {K : PySem.W.Frag} {mg mb : Str → Option Value} {k : Nat} {fa a : Addr} {fd : FuncData} {x : Str} {sp : Sp} {s₁ : Shared} {vs : List Value} {ns : List Int} {H : Hp}
theorem Only1.keeps (o1 : Only1 K H a vs ns) (ha : s₁.heap.get? a = some { cls := .type "list", data := .seq vs.toArray }) {b : Addr} {o : Obj} (e : s₁.heap.get? b = some o) (d : ∀ us n, o.data ≠ .seq us n) : (hidT s₁.heap H).get? b = some o := by
  refine hidT_get e ?_
  cases hb : H b with
  | none => rfl
  | some u =>
    obtain ⟨rfl, _, _⟩ := o1.only b u hb
    rw [ha] at e
    obtain rfl := Option.some.inj e
    exact (d _ _ rfl).elim
theorem Only1.ns' (o1 : Only1 K H a vs ns) (ha : s₁.heap.get? a = some { cls := .type "list", data := .seq vs.toArray }) {b : Addr} {m : Str → Option Value} (n : s₁.heap.Ns b m) : (hidT s₁.heap H).Ns b m := by
  obtain ⟨o, es, ep, e, d, r⟩ := n
  exact ⟨o, es, ep, o1.keeps ha e (fun _ _ z => by rw [d] at z; cases z), d, r⟩
theorem Only1.inK (o1 : Only1 K H a vs ns) (KX : K.In s₁.heap) : K.In (hidT s₁.heap H) := fun b o e => by
  refine hidT_get (KX b o e) ?_
  cases hb : H b with
  | none => rfl
  | some u =>
    obtain ⟨rfl, kn, _⟩ := o1.only b u hb
    rw [kn] at e
    cases e
theorem Only1.hok (o1 : Only1 K H a vs ns) (ha : s₁.heap.get? a = some { cls := .type "list", data := .seq vs.toArray }) (hi : IntsAre vs ns) (hl : ns.length ≤ sizeLine) : HOk P w H s₁.heap := fun b u e => by
  obtain ⟨rfl, _, rfl⟩ := o1.only b u e
  exact ⟨ha, by simpa using hl, vs, _, vals_ints hi, ha⟩
/-- the law's def is called with the script -/
theorem call_law (KX : K.In s₁.heap) (hns : s₁.heap.Ns mainGlobals mg) (hb : s₁.heap.Ns builtinsNs mb) (hbb : ∀ x : Str, x ≠ "__name__" → mb x = bootBuiltins x) (hlim : s₁.heap.NoLimit) (hg : s₁.gens = #[]) (hM : ModD s₁.heap)
    (ha : s₁.heap.get? a = some { cls := .type "list", data := .seq vs.toArray }) (hi : IntsAre vs ns) (hl : ns.length ≤ sizeLine) (hr : RoomG k callerA)
    (F : ∀ base : Heap, K.In base → base.Ns mainGlobals mg → ModD base → FnG P w K mg base (L2.CX P w) k fa fd [x] sp) (hbind : ∀ (s : Shared) (u : Value), BindsTo s fd ⟨[u], []⟩ [(x, u)])
    (hsp : ∀ H : Hp, SqL K H a (ns.map V.int) → sp [.ref a] H (fun v _ => v = .bl true) fun _ _ _ => False) :
    codeAny (model P w) callerA (.call (.ref fa) ⟨[.ref a], []⟩) (fun r s' => r = .ok (.ret (.bool true)) ∧ OldK s₁.heap s'.heap ∧ s'.os = s₁.os ∧ AllBare s'.gens) s₁ := by
  have start : ∃ H, Only1 K H a vs ns := by
    cases hk : K.lookup a with
    | some o =>
      have e := KX a o hk
      rw [ha] at e
      obtain rfl := Option.some.inj e
      exact ⟨fun _ => none, ⟨fun b u z => (nomatch (show (none : Option HO) = some u from z)), .inr ⟨_, vs.toArray, _, hk, rfl, rfl, rfl, by rw [List.size_toArray, hi.length]; exact hl, by simpa using vals_ints hi⟩⟩⟩
    | none =>
      refine ⟨upd (fun _ => none) a (.frz { cls := .type "list", data := .seq vs.toArray } (.lst (ns.map V.int))), ⟨fun b u z => ?_, .inl (.inr ⟨_, upd_same⟩)⟩⟩
      by_cases h : b = a
      · subst h
        rw [upd_same] at z
        exact ⟨rfl, hk, (Option.some.inj z).symm⟩
      · rw [upd_ne h] at z
        cases z
  obtain ⟨H, o1⟩ := start
  have inK := o1.inK KX
  have nsG := o1.ns' ha hns
  have md : ModD (hidT s₁.heap H) := by
    obtain ⟨o, es, ep, e, d⟩ := hM
    exact ⟨o, es, ep, o1.keeps ha e (fun _ _ z => by rw [d] at z; cases z), d⟩
  have md2 : Mod K mg (hidT s₁.heap H) := by
    obtain ⟨mc, c1, c2⟩ := hlim
    exact ⟨inK, nsG, ⟨mb, o1.ns' ha hb, hbb⟩, mc, o1.ns' ha c1, c2⟩
  have hok : HOk P w H s₁.heap := o1.hok ha hi hl
  have e0 : Env0 P w K mg (hidT s₁.heap H) callerA [] s₁ H := { frames := rfl, mod := md2, bs := fun b o e => of_hidT e, bsz := Nat.le_of_eq (hidT_size _ _), funs := trivial, frf := fun b z => absurd z (by intro q; cases q), hok := hok, bare := .of_eq hg }
  have run := (F _ inK nsG md).run callerA [] s₁ H ⟨[.ref a], []⟩ [.ref a] [.ref a] (fun v _ => v = .bl true) (fun _ _ _ => False) hr e0 (hbind s₁ (.ref a)) (.cons rfl .nil) (hsp H o1.sq)
  refine codeAny_mono run fun r s' h => ?_
  match r, h with
  | .error e, h =>
    obtain ⟨_, _, _, _, _, _, _, _, _, _, _, _, z⟩ := h
    exact z.elim
  | .ok .next, h => exact (show False from h).elim
  | .ok .brk, h => exact (show False from h).elim
  | .ok .cont, h => exact (show False from h).elim
  | .ok (.ret u), h =>
    obtain ⟨v, H', os, bare, un, hok', rv, ev⟩ := h
    obtain rfl : v = .bl true := ev
    obtain rfl : u = Value.bool true := rv
    refine ⟨rfl, OldK.of_keep fun b o e => ?_, os, bare⟩
    cases hb : H b with
    | none => exact un.keep b o e hb (fun z => nomatch (show b ∈ ([] : List Addr) from z)) (fun z => nomatch z)
    | some u =>
      obtain ⟨rfl, _, rfl⟩ := o1.only b u hb
      have z := (hok' _ _ (un.frzs _ _ _ hb)).1
      rw [ha] at e
      rw [z]; exact e
end
theorem walk_law {l : PySem.W.OpenLaw} {n k : Nat} {q : Program} {loose : List Str} {XP : (Str → Option Value) → Heap → Prop} {YP : World → Heap → Prop} {d : DefRec} {x : Str}
    (hn : l.most = some n) (hn2 : n ≤ sizeLine) (hdf : d.params.defaults = []) (hr : RoomG k callerA)
    (F : ∀ (w : World) (mg : Str → Option Value) (fa : Addr) (h : Heap), YP w h → h.Ns mainGlobals mg → mg d.name = some (.ref fa) →
      ∃ (K : PySem.W.Frag) (fd : FuncData) (sp : Sp), K.In h ∧ ModD h ∧ (∀ (s : Shared) (u : Value), BindsTo s fd ⟨[u], []⟩ [(x, u)]) ∧
        (∀ (H : Hp) (a : Addr) (ns : List Int), ns.length ≤ n → SqL K H a (ns.map V.int) → sp [.ref a] H (fun v _ => v = .bl true) fun _ _ _ => False) ∧
        ∀ base : Heap, K.In base → base.Ns mainGlobals mg → ModD base → FnG l.prog w K mg base (L2.CX l.prog w) k fa fd [x] sp) :
    PySem.W.WalkO q loose XP YP l.row.toRowW d [] (fun f vs => PySem.call f vs) := by
  refine Att.attach_call hn hdf fun w s₀ s₁ mg mb fa o pm cd doc a vs ns G Y _ _ _ hmg ha hi hlen hg => ?_
  obtain ⟨K, fd, sp, KX, hM, hb, hsp, hF⟩ := F w mg fa _ Y G.T.g hmg
  exact call_law KX G.T.g G.T.b G.T.builtins G.T.nolimit hg hM ha hi (Nat.le_trans hlen hn2) hr hF hb fun H hS => hsp H a ns hlen hS

/-! ### the head -/
def modB (g : Addr → Option Obj) : Bool := match g sysModules with
  | some ⟨_, _, .dict _ _, _⟩ => true
  | _ => false
theorem modB_ok {h : Heap} (e : modB h.get? = true) : ModD h := by
  unfold modB at e
  split at e
  · rename_i c d es ep sl ho
    exact ⟨_, es, ep, ho, rfl⟩
  · cases e
def obsS (n : Nat) (ex : PySem.W.Frag → Bool) (fn : List He.DefD) (g : Addr → Option Obj) : Bool × List He.FnW :=
  (fun K : PySem.W.Frag => (ex K && (fn.all (fun d => d.ok K) && modB g), fn.map fun d => He.fnW K d.at_)) (He.frG g (He.asG g n))
structure SaysS (ex : PySem.W.Frag → Bool) (fn : List He.DefD) (h : Heap) (K : PySem.W.Frag) : Prop where
  inh : K.In h
  ex : ex K = true
  fn : ∀ d ∈ fn, ∃ fd, FunD K d.name d.qual d.params d.body d.scope (d.dvs K) (d.kws K) (He.fAd K d.at_) fd
  md : ModD h
def hookS (n : Nat) (ex : PySem.W.Frag → Bool) (fn : List He.DefD) : PySem.W.Hook where
  α := Bool × List He.FnW
  obs := fun s => obsS n ex fn s.heap.get?
  val := fun _ => (true, fn.map He.DefD.val)
  says := fun _ h => ∃ K : PySem.W.Frag, SaysS ex fn h K
  of := fun w s e => by
    obtain ⟨e1, e2⟩ := Prod.mk.inj e
    simp only [Bool.and_eq_true] at e1
    obtain ⟨h1, h2, h3⟩ := e1
    refine ⟨_, He.frG_in, h1, fun d hd => ?_, modB_ok h3⟩
    have h4 := List.all_eq_true.mp h2 d hd
    have key : ∀ l : List He.DefD, l.map (fun d => He.fnW (He.frG s.heap.get? (He.asG s.heap.get? n)) d.at_) = l.map He.DefD.val → ∀ d ∈ l, He.fnW (He.frG s.heap.get? (He.asG s.heap.get? n)) d.at_ = d.val := by
      intro l
      induction l with
      | nil => intro _ d hd; cases hd
      | cons a r ih =>
        intro h d hd
        injection h with h5 h6
        rcases List.mem_cons.mp hd with rfl | hd
        · exact h5
        · exact ih h6 d hd
    exact He.DefD.funD (key fn e2 d hd) h4
  keeps := fun w h h' ⟨K, s⟩ k => by
    obtain ⟨o, es, ep, e, d⟩ := s.md
    exact ⟨K, PySem.W.Frag.In.keeps s.inh k, s.ex, s.fn, o, es, ep, k _ _ e, d⟩
end Fp
namespace K01
open PySem PySem.Spec PyProof.Rows L2 Fp
def top (i : Nat) : Stmt := PySem.Challenge.pw_fieldpapers_k01_errors_as_told.main.body.getD i (.Pass ⟨0, 0, 0, 0⟩)
abbrev FnP (K : PySem.W.Frag) (x : Str) (st : Stmt) (f : Addr) (fd : FuncData) : Prop := FunD K x x (defArgs st) (defBody st) (defScope st) [] [] f fd
section
variable {P : Program} {w : World} {K : PySem.W.Frag} {mg : Str → Option Value} {base : Heap} {f fd1 : Addr} {fd : FuncData}
abbrev s_law_draw : Stmt := top 20
theorem sc_law_draw : FnScope ["pen", "many", "blend", "cell", "digit"] ["pen", "many"] (defScope s_law_draw) := ⟨rfl, rfl, rfl, by decide +kernel, rfl, by decide +kernel, by decide +kernel⟩

theorem ok_draw (F : FnP K "_law_draw" s_law_draw f fd) (g_int : mg "int" = none) (g_len : mg "len" = none) : FnG P w K mg base (L2.CX P w) 1 f fd ["pen", "many"] spDrawT := by
  refine okG F sc_law_draw (fun vs H Q E h => ?_) (fun cdv A outer s H vs Q E hr h => ?_)
  · obtain ⟨p, c, ns, i, g, n, fo, many, rfl, _⟩ := h
    rfl
  have nd := sc_law_draw.nd
  have hu := huG hr
  refine ⟨_, (pss_cons (ps_dput hu (pv 0) pe_str (pe_op opAdd (pe_dget hu (pv 0) pe_str (fun _ _ => rfl)) pe_int) rfl)
  (pss_cons (ps_if (PW.pt (pw_and (pt_cmpR (opEq hr) (pe_dget hu (pv 0) pe_str (fun _ _ => rfl)) pe_int (nomark _)) (pw_and1 (pt_cmpR op_lt (pe_dget hu (pv 0) pe_str (fun _ _ => rfl)) (pe_callB call_len_seq (by rfl) g_len (by rfl) (pa_cons (pe_dget hu (pv 0) pe_str (fun _ _ => rfl)) pa_nil)) (nomark _))))) (pss_cons (ps_set (i := 3) nd rfl (.inl rfl) (pe_ix ix_seq (pe_dget hu (pv 0) pe_str (fun _ _ => rfl)) (pe_dget hu (pv 0) pe_str (fun _ _ => rfl)) (fun _ _ => rfl)))
  (pss_cons (ps_dput hu (pv 0) pe_str (pe_op opAdd (pe_dget hu (pv 0) pe_str (fun _ _ => rfl)) pe_int) rfl)
  (pss_one (ps_if (pt_cmpR op_ge (pv 3) (pe_op op_pow pe_int pe_int) (nomark _)) (pss_one (ps_dput hu (pv 0) pe_str (pe_op op_sub (pv 3) (pe_op op_pow pe_int pe_int)) rfl)) (pss_one (ps_dput hu (pv 0) pe_str (pe_op op_mod (pe_callTy call_int1 (by rfl) g_int (by rfl) (pa_cons (pe_op opAdd (pe_op opMul (pe_dget hu (pv 0) pe_str (fun _ _ => rfl)) pe_int) (pv 3)) pa_nil)) pe_int) rfl)))))) pss_nil)
  (pss_cons (ps_if (pt_cmpR op_gt (pe_dget hu (pv 0) pe_str (fun _ _ => rfl)) pe_int (nomark _)) (pss_cons (ps_set (i := 4) nd rfl (.inl rfl) (pe_op op_mod (pe_callTy call_int1 (by rfl) g_int (by rfl) (pa_cons (pe_dget hu (pv 0) pe_str (fun _ _ => rfl)) pa_nil)) (pv 1)))
  (pss_cons (ps_dput hu (pv 0) pe_str (pe_op opFdiv (pe_dget hu (pv 0) pe_str (fun _ _ => rfl)) (pv 1)) rfl)
  (pss_one (ps_ret (pv 4))))) pss_nil)
  (pss_cons (ps_set (i := 2) nd rfl (.inl rfl) (pe_op op_mod (pe_callTy call_int1 (by rfl) g_int (by rfl) (pa_cons (pe_op opAdd (pe_op opAdd (pe_op opMul (pe_dget hu (pv 0) pe_str (fun _ _ => rfl)) pe_int) (pe_op opMul (pe_dget hu (pv 0) pe_str (fun _ _ => rfl)) pe_int)) pe_int) pa_nil)) pe_int))
  (pss_cons (ps_set (i := 2) nd rfl (.inl rfl) (pe_op op_mod (pe_callTy call_int1 (by rfl) g_int (by rfl) (pa_cons (pe_op opAdd (pe_op opAdd (pe_op opMul (pv 2) (pv 2)) (pe_op opMul pe_int (pv 2))) (pe_dget hu (pv 0) pe_str (fun _ _ => rfl))) pa_nil)) pe_int))
  (pss_cons (ps_dput hu (pv 0) pe_str (pe_op op_mod (pe_callTy call_int1 (by rfl) g_int (by rfl) (pa_cons (pe_op opAdd (pe_op opMul (pv 2) pe_int) pe_int) pa_nil)) pe_int) rfl)
  (pss_one (ps_ret (pe_op op_mod (pe_callTy call_int1 (by rfl) g_int (by rfl) (pa_cons (pe_op opFdiv (pv 2) pe_int) pa_nil)) (pv 1)))))))))), ?_⟩
  obtain ⟨p, c, ns, i, g, n, fo, many, rfl, ⟨hp, hc, hv⟩, h1, h2, q⟩ := h
  have hcp : c ≠ p := fun z => by rw [z, hp] at hc; cases hc
  have cK : ∀ {kvs : List (Key × V)}, upd H p (.dK kvs) c = some (.lst (ns.map V.int)) := fun {kvs} => by rw [upd_ne hcp]; exact hc
  have many0 : 0 < many := by omega
  -- count + 1
  refine ⟨_, rfl, _, _, rfl, Fp.getPen (by first | assumption | exact L2.upd_same) pen_count, ?_⟩
  refine .inl ⟨_, _, rfl, rfl, ?_⟩
  refine ⟨_, rfl, _, _, rfl, Fp.putPen (by first | assumption | exact L2.upd_same) put_count (by show (5 : Nat) ≤ 1000; decide), ?_⟩
  -- the rest from any pen
  dsimp only
  refine seq_rest (fun σ H' => ∃ v2 v3 v4 i g n fo, σ = [some (.ref p), some (.int many), v2, v3, v4] ∧ PenV i g fo ∧ H' = upd H p (.dK (penK c i g n fo))) ?_ fun rest => ?_
  · rintro σ H' ⟨v2, v3, v4, i, g, n, fo, rfl, hv, rfl⟩
    refine seq_rest (fun σ H' => ∃ v2 v3 v4 i g n fo, g = 0 ∧ σ = [some (.ref p), some (.int many), v2, v3, v4] ∧ PenV i g fo ∧ H' = upd H p (.dK (penK c i g n fo))) ?_ fun rest => ?_
    · rintro σ H' ⟨v2, v3, v4, i, g, n, fo, rfl, rfl, hv, rfl⟩
      -- the blend
      refine ⟨_, rfl, _, _, rfl, Fp.getPen (by first | assumption | exact L2.upd_same) pen_fold, ?_⟩
      refine .inl ⟨_, _, rfl, rfl, .inr ⟨by decide, by decide⟩, ?_⟩
      refine ⟨_, rfl, _, _, rfl, Fp.getPen (by first | assumption | exact L2.upd_same) pen_count, ?_⟩
      refine .inl ⟨_, _, rfl, rfl, .inr ⟨by decide, by decide⟩, ?_⟩
      refine .inl ⟨_, _, rfl, rfl, ?_⟩
      refine .inl ⟨_, _, rfl, rfl, ?_⟩
      refine .inl ⟨_, rfl, ?_⟩
      refine ⟨_, _, rfl, rfl, (by show (0 : Int) < _; decide), ?_⟩
      have b0 := Int.emod_nonneg (fo * 48271 + n * 7919 + 13) (show (2147483647 : Int) ≠ 0 by decide)
      have b1 := Int.emod_lt_of_pos (fo * 48271 + n * 7919 + 13) (show (0 : Int) < 2147483647 by decide)
      refine ⟨_, rfl, _, rfl, .inl ⟨_, _, rfl, rfl, .inl ⟨by omega, by omega⟩, ?_⟩⟩
      refine ⟨_, rfl, .inl ⟨_, _, rfl, rfl, .inl ⟨by decide, by decide⟩, ?_⟩⟩
      refine .inl ⟨_, _, rfl, rfl, ?_⟩
      refine ⟨_, rfl, _, _, rfl, Fp.getPen (by first | assumption | exact L2.upd_same) pen_count, ?_⟩
      refine .inl ⟨_, _, rfl, rfl, ?_⟩
      refine .inl ⟨_, rfl, ?_⟩
      refine ⟨_, _, rfl, rfl, (by show (0 : Int) < _; decide), ?_⟩
      refine ⟨_, rfl, .inl ⟨_, _, rfl, rfl, .inr ⟨by decide, by decide⟩, ?_⟩⟩
      refine .inl ⟨_, _, rfl, rfl, ?_⟩
      refine .inl ⟨_, rfl, ?_⟩
      refine ⟨_, _, rfl, rfl, (by show (0 : Int) < _; decide), ?_⟩
      refine ⟨_, rfl, _, _, rfl, Fp.putPen (by first | assumption | exact L2.upd_same) put_fold (by show (5 : Nat) ≤ 1000; decide), ?_⟩
      rw [upd_upd]
      refine ⟨_, rfl, .inl ⟨_, _, rfl, rfl, ⟨by decide, by decide⟩, ?_⟩⟩
      refine .inl ⟨_, rfl, ?_⟩
      refine ⟨_, rfl, _, _, rfl, rfl, many0, ?_⟩
      exact q _ _ _ _ _ (Int.emod_nonneg _ (by omega)) (Int.emod_lt_of_pos _ many0) ⟨hv.i0, hv.g0, Int.emod_nonneg _ (by decide), Int.lt_trans (Int.emod_lt_of_pos _ (by decide)) (by decide)⟩
    · refine ⟨_, rfl, _, _, rfl, Fp.getPen (by first | assumption | exact L2.upd_same) pen_digits, ?_⟩
      refine ⟨_, _, rfl, rfl, _, rfl, iteB (fun hb => ?_) fun hb => ?_⟩
      · refine ⟨_, rfl, _, _, rfl, Fp.getPen (by first | assumption | exact L2.upd_same) pen_digits, ?_⟩
        refine .inl ⟨_, rfl, ?_⟩
        refine ⟨_, rfl, _, _, rfl, rfl, many0, ?_⟩
        refine ⟨_, rfl, _, _, rfl, Fp.getPen (by first | assumption | exact L2.upd_same) pen_digits, ?_⟩
        refine ⟨_, rfl, .inl ⟨_, _, rfl, rfl, ⟨many0, by omega⟩, ?_⟩⟩
        refine ⟨_, rfl, _, _, rfl, Fp.putPen (by first | assumption | exact L2.upd_same) put_digits (by show (5 : Nat) ≤ 1000; decide), ?_⟩
        refine ⟨_, rfl, ?_⟩
        rw [upd_upd]
        refine q _ _ _ _ _ (Int.emod_nonneg _ (by omega)) (Int.emod_lt_of_pos _ many0) ⟨hv.i0, Int.ediv_nonneg hv.g0 (by omega), hv.f0, hv.f1⟩
      · refine rest _ _ ⟨_, _, _, _, _, _, _, ?_, rfl, hv, rfl⟩
        have := hv.g0
        simp at hb
        omega
  · refine ⟨_, rfl, _, _, rfl, Fp.getPen (by first | assumption | exact L2.upd_same) pen_digits, ?_⟩
    refine .inl ⟨rfl, _, rfl, iteB (fun hb => ?_) fun hb => ?_⟩
    · refine ⟨_, rfl, _, _, rfl, Fp.getPen (by first | assumption | exact L2.upd_same) pen_at, ?_⟩
      refine ⟨_, rfl, _, _, rfl, Fp.getPen (by first | assumption | exact L2.upd_same) pen_cells, ?_⟩
      refine ⟨_, _, rfl, .inl (.inl (.inl cK)), ?_⟩
      refine ⟨_, _, rfl, rfl, _, rfl, iteB (fun hb => ?_) fun hb => ?_⟩
      · refine ⟨_, rfl, _, _, rfl, Fp.getPen (by first | assumption | exact L2.upd_same) pen_cells, ?_⟩
        refine ⟨_, rfl, _, _, rfl, Fp.getPen (by first | assumption | exact L2.upd_same) pen_at, ?_⟩
        have hlt : i < (ns.length : Int) := by simpa using hb
        have i0 := hv.i0
        obtain ⟨j, rfl⟩ := Int.eq_ofNat_of_zero_le i0
        have hj : j < ns.length := by omega
        refine .inl ⟨_, _, _, _, rfl, rfl, .inl (.inl cK), atI_nat (show (ns.map V.int)[j]? = some (V.int ns[j]) by simp [hj]), ?_⟩
        refine ⟨_, rfl, _, _, rfl, Fp.getPen (by first | assumption | exact L2.upd_same) pen_at, ?_⟩
        refine .inl ⟨_, _, rfl, rfl, ?_⟩
        refine ⟨_, rfl, _, _, rfl, Fp.putPen (by first | assumption | exact L2.upd_same) put_at (by show (5 : Nat) ≤ 1000; decide), ?_⟩
        rw [upd_upd]
        refine ⟨_, rfl, _, _, rfl, rfl, ⟨by decide, by decide, by decide⟩, ?_⟩
        refine ⟨_, _, rfl, rfl, _, rfl, iteB (fun hb => ?_) fun hb => ?_⟩
        · refine ⟨_, rfl, _, _, rfl, rfl, ⟨by decide, by decide, by decide⟩, ?_⟩
          refine ⟨_, _, rfl, rfl, ?_⟩
          refine ⟨_, rfl, _, _, rfl, Fp.putPen (by first | assumption | exact L2.upd_same) put_digits (by show (5 : Nat) ≤ 1000; decide), ?_⟩
          rw [upd_upd]
          refine rest _ _ ⟨_, _, _, _, _, _, _, rfl, ⟨by omega, ?_, hv.f0, hv.f1⟩, rfl⟩
          have : (10 : Int) ^ (18 : Int).toNat ≤ ns[j] := by simpa using hb
          omega
        · refine ⟨_, rfl, _, _, rfl, Fp.getPen (by first | assumption | exact L2.upd_same) pen_fold, ?_⟩
          refine .inl ⟨_, _, rfl, rfl, .inr ⟨by decide, by decide⟩, ?_⟩
          refine ⟨_, rfl, ?_⟩
          refine .inl ⟨_, _, rfl, rfl, ?_⟩
          refine .inl ⟨_, rfl, ?_⟩
          refine ⟨_, _, rfl, rfl, (show (0 : Int) < 2147483587 by decide), ?_⟩
          refine ⟨_, rfl, _, _, rfl, Fp.putPen (by first | assumption | exact L2.upd_same) put_fold (by show (5 : Nat) ≤ 1000; decide), ?_⟩
          rw [upd_upd]
          have e0 := Int.emod_nonneg (fo * 69069 + ns[j]) (show (2147483587 : Int) ≠ 0 by decide)
          have e1 := Int.emod_lt_of_pos (fo * 69069 + ns[j]) (show (0 : Int) < 2147483587 by decide)
          exact rest _ _ ⟨_, _, _, _, _, _, _, rfl, ⟨by omega, hv.g0, e0, by omega⟩, rfl⟩
      · exact rest _ _ ⟨_, _, _, _, _, _, _, rfl, hv, rfl⟩
    · exact rest _ _ ⟨_, _, _, _, _, _, _, rfl, hv, rfl⟩

abbrev s_law_pen : Stmt := top 19
theorem sc_law_pen : FnScope ["script", "fold", "cell"] ["script"] (defScope s_law_pen) := ⟨rfl, rfl, rfl, by decide +kernel, rfl, by decide +kernel, by decide +kernel⟩

theorem ok_pen (F : FnP K "_law_pen" s_law_pen f fd) (g_int : mg "int" = none) (g_list : mg "list" = none) : FnG P w K mg base (L2.CX P w) 1 f fd ["script"] (spPenT K) := by
  refine okG F sc_law_pen (fun vs H Q E h => ?_) (fun cdv A outer s H vs Q E hr h => ?_)
  · obtain ⟨a, ns, rfl, _⟩ := h
    rfl
  have nd := sc_law_pen.nd
  have hu := huG hr
  refine ⟨_, (pss_cons (ps_set (i := 1) nd rfl (.inl rfl) pe_int)
  (pss_cons (ps_for (passes_of rfl) rfl (pi_list (pv 0)) (pg_name (i := 2) nd rfl (.inl rfl))
   (pss_one (ps_set (i := 1) nd rfl (.inl rfl) (pe_op op_mod (pe_callTy call_int1 (by rfl) g_int (by rfl) (pa_cons (pe_op opAdd (pe_op opMul (pv 1) pe_int) (pv 2)) pa_nil)) pe_int))))
  (pss_one (ps_ret (pe_disp (pps_cons pe_str (pe_callTy call_list_of (by rfl) g_list (by rfl) (pa_cons (pv 0) pa_nil)) (pps_cons pe_str pe_int (pps_cons pe_str pe_int (pps_cons pe_str pe_int (pps_cons pe_str (pv 1) pps_nil))))) rfl rfl (by decide) (by decide)))))), ?_⟩
  obtain ⟨a, ns, rfl, hS, q⟩ := h
  refine ⟨_, rfl, _, rfl, ⟨_, hS⟩, ?_⟩
  refine for_list (xs := ns.map V.int) (fun _ σ H' => H' = H ∧ ∃ (f : Int) (v : Option V), 0 ≤ f ∧ f < 1000000007 ∧ σ = [some (.ref a), some (.int f), v]) ⟨rfl, 0, none, by decide, by decide, rfl⟩ (fun i σ H' _ ⟨e, _⟩ => e ▸ hS) ?_ ?_
  · rintro i x σ _ hx ⟨rfl, fo, v, f0, f1, rfl⟩
    obtain ⟨m, _, rfl⟩ : ∃ m, m ∈ ns ∧ V.int m = x := by
      have := List.mem_of_getElem? hx
      simpa using this
    refine ⟨_, rfl, .inl ⟨_, _, rfl, rfl, .inr ⟨by decide, by decide⟩, ?_⟩⟩
    refine ⟨_, rfl, ?_⟩
    refine .inl ⟨_, _, rfl, rfl, ?_⟩
    refine .inl ⟨_, rfl, ?_⟩
    refine ⟨_, _, rfl, rfl, (by show (0 : Int) < _; decide), ?_⟩
    exact ⟨rfl, _, _, Int.emod_nonneg _ (by decide), Int.emod_lt_of_pos _ (by decide), rfl⟩
  · rintro σ H' ⟨rfl, fo, v, f0, f1, rfl⟩
    intro p hp
    refine ⟨_, rfl, _, _, rfl, .inl (sql_mono (same_new hp) hS), fun c hc => ?_⟩
    have hcp : p ≠ c := fun z => by rw [z, upd_same] at hc; cases hc
    refine ⟨_, rfl, ?_⟩
    refine ⟨by rw [upd_ne hcp, upd_same], [(.inr "cells", .ref c), (.inr "at", .int 0), (.inr "digits", .int 0), (.inr "count", .int 0), (.inr "fold", .int fo)], rfl, (by show (5 : Nat) ≤ 15; decide), ?_⟩
    have e : mergeK [] [(Sum.inr "cells", V.ref c), (.inr "at", .int 0), (.inr "digits", .int 0), (.inr "count", .int 0), (.inr "fold", .int fo)] = penK c 0 0 0 fo := rfl
    rw [e]
    have hc0 : H' c = none := by rw [upd_ne (Ne.symm hcp)] at hc; exact hc
    refine q p c 0 0 0 fo _ (fun b o h => ?_) hp upd_same (by rw [upd_ne (Ne.symm hcp), upd_same]) ⟨by decide, by decide, f0, by omega⟩
    rw [upd_ne (ne_of_none h hp), upd_ne (ne_of_none h hc0), upd_ne (ne_of_none h hp)]
    exact h
abbrev s_law_pick : Stmt := top 21
theorem sc_law_pick : FnScope ["pen", "some"] ["pen", "some"] (defScope s_law_pick) := ⟨rfl, rfl, rfl, by decide +kernel, rfl, by decide +kernel, by decide +kernel⟩

/-- an item of a list or a tuple -/
def spPick (P : Program) (w : World) (K : PySem.W.Frag) : Sp := fun vs H Q _ => ∃ (p a : Addr) (xs : List V), vs = [.ref p, .ref a] ∧ Pen P w H p ∧ (SqL K H a xs ∨ SqT K H a xs) ∧ xs ≠ [] ∧ xs.length < 1000 ∧ ∀ v, v ∈ xs → Q v H
theorem ok_pick (F : FnP K "_law_pick" s_law_pick f fd) (g_len : mg "len" = none) (p__law_draw : PrG P w K mg base "_law_draw" 1 ["pen", "many"] (spDraw P w)) : FnG P w K mg base (L2.CX P w) 2 f fd ["pen", "some"] (spPick P w K) := by
  refine okG F sc_law_pick (fun vs H Q E h => ?_) (fun cdv A outer s H vs Q E hr h => ?_)
  · obtain ⟨p, a, xs, rfl, _⟩ := h
    rfl
  have nd := sc_law_pick.nd
  have hu := huG hr
  refine ⟨_, (pss_one (ps_ret (pe_ix ix_seq (pv 1) (pe_callP p__law_draw (hr.mono (by decide)) (by rfl) (fun σ => passAt (takes_of rfl rfl rfl rfl) σ) (pa_cons (pv 0) (pa_cons (pe_callB call_len_seq (by rfl) g_len (by rfl) (pa_cons (pv 1) pa_nil)) pa_nil))) (fun _ _ => rfl)))), ?_⟩
  obtain ⟨p, a, xs, rfl, hp, hs, hne, hl, q⟩ := h
  refine ⟨_, rfl, _, rfl, _, rfl, _, _, rfl, hs, ?_⟩
  have hpos : 0 < xs.length := List.length_pos_iff.mpr hne
  refine ⟨_, _, rfl, hp, by omega, by omega, fun r r0 r1 => ?_⟩
  obtain ⟨j, rfl⟩ := Int.eq_ofNat_of_zero_le r0
  have hj : j < xs.length := by omega
  have at_ : atI xs ((j : Nat) : Int) = some xs[j] := atI_nat (by simp [hj])
  rcases hs with hs | hs
  · exact .inl ⟨_, _, _, _, rfl, rfl, hs, at_, q _ (List.getElem_mem hj)⟩
  · exact .inr (.inl ⟨_, _, _, _, rfl, rfl, hs, at_, q _ (List.getElem_mem hj)⟩)

end
end K01
namespace K01
open PySem PySem.Spec PyProof.Rows L2 Fp
section
variable {P : Program} {w : World} {K : PySem.W.Frag} {mg : Str → Option Value} {base : Heap}
/-- the __init__ of a class of the text -/
def initOf (i : Nat) : Stmt := inClass (top i) 0

abbrev si_BadNumber : Stmt := initOf 2
theorem sci_BadNumber : FnScope ["self", "what", "number"] ["self", "what", "number"] (defScope si_BadNumber) := ⟨rfl, rfl, rfl, by decide +kernel, rfl, by decide +kernel, by decide +kernel⟩
theorem err_BadNumber {fd : FuncData} (c : ErrC K mg "BadNumber" (He.ga K "BadNumber")) (o : oexB K "BadNumber" ["what", "number"] = true) (F : FunD K "__init__" "BadNumber.__init__" (defArgs si_BadNumber) (defBody si_BadNumber) (defScope si_BadNumber) [] [] (He.ma K (He.ga K "BadNumber") "__init__") fd) : ErrI P w K mg base "BadNumber" (He.ga K "BadNumber") ["what", "number"] := by
  obtain ⟨T, i1, i2, no⟩ := oexB_ok c o
  refine ⟨c.g, T, _, fd, i1, i2, ?_, F.bindsN fun _ _ _ _ _ _ us hl => match us, hl with | [_, _, _], _ => rfl⟩
  refine F.ok sci_BadNumber (fun vs H Q E h => ?_) (fun cdv A outer s H vs Q E hr h => ?_)
  · obtain ⟨a, ws, rfl, hl, _⟩ := h
    simp [hl]
  exact ⟨_, (pss_cons (ps_ost (pv 0) (pv 1)) (pss_one (ps_ost (pv 0) (pv 2)))), init2 rfl T (no _ (by decide)) (no _ (by decide)) h⟩

abbrev si_BadRow : Stmt := initOf 3
theorem sci_BadRow : FnScope ["self", "what", "row"] ["self", "what", "row"] (defScope si_BadRow) := ⟨rfl, rfl, rfl, by decide +kernel, rfl, by decide +kernel, by decide +kernel⟩
theorem err_BadRow {fd : FuncData} (c : ErrC K mg "BadRow" (He.ga K "BadRow")) (o : oexB K "BadRow" ["what", "row"] = true) (F : FunD K "__init__" "BadRow.__init__" (defArgs si_BadRow) (defBody si_BadRow) (defScope si_BadRow) [] [] (He.ma K (He.ga K "BadRow") "__init__") fd) : ErrI P w K mg base "BadRow" (He.ga K "BadRow") ["what", "row"] := by
  obtain ⟨T, i1, i2, no⟩ := oexB_ok c o
  refine ⟨c.g, T, _, fd, i1, i2, ?_, F.bindsN fun _ _ _ _ _ _ us hl => match us, hl with | [_, _, _], _ => rfl⟩
  refine F.ok sci_BadRow (fun vs H Q E h => ?_) (fun cdv A outer s H vs Q E hr h => ?_)
  · obtain ⟨a, ws, rfl, hl, _⟩ := h
    simp [hl]
  exact ⟨_, (pss_cons (ps_ost (pv 0) (pv 1)) (pss_one (ps_ost (pv 0) (pv 2)))), init2 rfl T (no _ (by decide)) (no _ (by decide)) h⟩

abbrev si_BadTable : Stmt := initOf 4
theorem sci_BadTable : FnScope ["self", "what"] ["self", "what"] (defScope si_BadTable) := ⟨rfl, rfl, rfl, by decide +kernel, rfl, by decide +kernel, by decide +kernel⟩
theorem err_BadTable {fd : FuncData} (c : ErrC K mg "BadTable" (He.ga K "BadTable")) (o : oexB K "BadTable" ["what"] = true) (F : FunD K "__init__" "BadTable.__init__" (defArgs si_BadTable) (defBody si_BadTable) (defScope si_BadTable) [] [] (He.ma K (He.ga K "BadTable") "__init__") fd) : ErrI P w K mg base "BadTable" (He.ga K "BadTable") ["what"] := by
  obtain ⟨T, i1, i2, no⟩ := oexB_ok c o
  refine ⟨c.g, T, _, fd, i1, i2, ?_, F.bindsN fun _ _ _ _ _ _ us hl => match us, hl with | [_, _], _ => rfl⟩
  refine F.ok sci_BadTable (fun vs H Q E h => ?_) (fun cdv A outer s H vs Q E hr h => ?_)
  · obtain ⟨a, ws, rfl, hl, _⟩ := h
    simp [hl]
  exact ⟨_, (pss_one (ps_ost (pv 0) (pv 1))), init1 rfl T (no _ (by decide)) h⟩

abbrev si_BadPoly : Stmt := initOf 5
theorem sci_BadPoly : FnScope ["self", "what"] ["self", "what"] (defScope si_BadPoly) := ⟨rfl, rfl, rfl, by decide +kernel, rfl, by decide +kernel, by decide +kernel⟩
theorem err_BadPoly {fd : FuncData} (c : ErrC K mg "BadPoly" (He.ga K "BadPoly")) (o : oexB K "BadPoly" ["what"] = true) (F : FunD K "__init__" "BadPoly.__init__" (defArgs si_BadPoly) (defBody si_BadPoly) (defScope si_BadPoly) [] [] (He.ma K (He.ga K "BadPoly") "__init__") fd) : ErrI P w K mg base "BadPoly" (He.ga K "BadPoly") ["what"] := by
  obtain ⟨T, i1, i2, no⟩ := oexB_ok c o
  refine ⟨c.g, T, _, fd, i1, i2, ?_, F.bindsN fun _ _ _ _ _ _ us hl => match us, hl with | [_, _], _ => rfl⟩
  refine F.ok sci_BadPoly (fun vs H Q E h => ?_) (fun cdv A outer s H vs Q E hr h => ?_)
  · obtain ⟨a, ws, rfl, hl, _⟩ := h
    simp [hl]
  exact ⟨_, (pss_one (ps_ost (pv 0) (pv 1))), init1 rfl T (no _ (by decide)) h⟩

abbrev si_BadPaper : Stmt := initOf 6
theorem sci_BadPaper : FnScope ["self", "what"] ["self", "what"] (defScope si_BadPaper) := ⟨rfl, rfl, rfl, by decide +kernel, rfl, by decide +kernel, by decide +kernel⟩
theorem err_BadPaper {fd : FuncData} (c : ErrC K mg "BadPaper" (He.ga K "BadPaper")) (o : oexB K "BadPaper" ["what"] = true) (F : FunD K "__init__" "BadPaper.__init__" (defArgs si_BadPaper) (defBody si_BadPaper) (defScope si_BadPaper) [] [] (He.ma K (He.ga K "BadPaper") "__init__") fd) : ErrI P w K mg base "BadPaper" (He.ga K "BadPaper") ["what"] := by
  obtain ⟨T, i1, i2, no⟩ := oexB_ok c o
  refine ⟨c.g, T, _, fd, i1, i2, ?_, F.bindsN fun _ _ _ _ _ _ us hl => match us, hl with | [_, _], _ => rfl⟩
  refine F.ok sci_BadPaper (fun vs H Q E h => ?_) (fun cdv A outer s H vs Q E hr h => ?_)
  · obtain ⟨a, ws, rfl, hl, _⟩ := h
    simp [hl]
  exact ⟨_, (pss_one (ps_ost (pv 0) (pv 1))), init1 rfl T (no _ (by decide)) h⟩

abbrev si_BadName : Stmt := initOf 7
theorem sci_BadName : FnScope ["self", "name"] ["self", "name"] (defScope si_BadName) := ⟨rfl, rfl, rfl, by decide +kernel, rfl, by decide +kernel, by decide +kernel⟩
theorem err_BadName {fd : FuncData} (c : ErrC K mg "BadName" (He.ga K "BadName")) (o : oexB K "BadName" ["name"] = true) (F : FunD K "__init__" "BadName.__init__" (defArgs si_BadName) (defBody si_BadName) (defScope si_BadName) [] [] (He.ma K (He.ga K "BadName") "__init__") fd) : ErrI P w K mg base "BadName" (He.ga K "BadName") ["name"] := by
  obtain ⟨T, i1, i2, no⟩ := oexB_ok c o
  refine ⟨c.g, T, _, fd, i1, i2, ?_, F.bindsN fun _ _ _ _ _ _ us hl => match us, hl with | [_, _], _ => rfl⟩
  refine F.ok sci_BadName (fun vs H Q E h => ?_) (fun cdv A outer s H vs Q E hr h => ?_)
  · obtain ⟨a, ws, rfl, hl, _⟩ := h
    simp [hl]
  exact ⟨_, (pss_one (ps_ost (pv 0) (pv 1))), init1 rfl T (no _ (by decide)) h⟩

abbrev si_BadText : Stmt := initOf 8
theorem sci_BadText : FnScope ["self", "line", "word"] ["self", "line", "word"] (defScope si_BadText) := ⟨rfl, rfl, rfl, by decide +kernel, rfl, by decide +kernel, by decide +kernel⟩
theorem err_BadText {fd : FuncData} (c : ErrC K mg "BadText" (He.ga K "BadText")) (o : oexB K "BadText" ["line", "word"] = true) (F : FunD K "__init__" "BadText.__init__" (defArgs si_BadText) (defBody si_BadText) (defScope si_BadText) [] [] (He.ma K (He.ga K "BadText") "__init__") fd) : ErrI P w K mg base "BadText" (He.ga K "BadText") ["line", "word"] := by
  obtain ⟨T, i1, i2, no⟩ := oexB_ok c o
  refine ⟨c.g, T, _, fd, i1, i2, ?_, F.bindsN fun _ _ _ _ _ _ us hl => match us, hl with | [_, _, _], _ => rfl⟩
  refine F.ok sci_BadText (fun vs H Q E h => ?_) (fun cdv A outer s H vs Q E hr h => ?_)
  · obtain ⟨a, ws, rfl, hl, _⟩ := h
    simp [hl]
  exact ⟨_, (pss_cons (ps_ost (pv 0) (pv 1)) (pss_one (ps_ost (pv 0) (pv 2)))), init2 rfl T (no _ (by decide)) (no _ (by decide)) h⟩

abbrev si_NoPlace : Stmt := initOf 9
theorem sci_NoPlace : FnScope ["self", "what", "index"] ["self", "what", "index"] (defScope si_NoPlace) := ⟨rfl, rfl, rfl, by decide +kernel, rfl, by decide +kernel, by decide +kernel⟩
theorem err_NoPlace {fd : FuncData} (c : ErrC K mg "NoPlace" (He.ga K "NoPlace")) (o : oexB K "NoPlace" ["what", "index"] = true) (F : FunD K "__init__" "NoPlace.__init__" (defArgs si_NoPlace) (defBody si_NoPlace) (defScope si_NoPlace) [] [] (He.ma K (He.ga K "NoPlace") "__init__") fd) : ErrI P w K mg base "NoPlace" (He.ga K "NoPlace") ["what", "index"] := by
  obtain ⟨T, i1, i2, no⟩ := oexB_ok c o
  refine ⟨c.g, T, _, fd, i1, i2, ?_, F.bindsN fun _ _ _ _ _ _ us hl => match us, hl with | [_, _, _], _ => rfl⟩
  refine F.ok sci_NoPlace (fun vs H Q E h => ?_) (fun cdv A outer s H vs Q E hr h => ?_)
  · obtain ⟨a, ws, rfl, hl, _⟩ := h
    simp [hl]
  exact ⟨_, (pss_cons (ps_ost (pv 0) (pv 1)) (pss_one (ps_ost (pv 0) (pv 2)))), init2 rfl T (no _ (by decide)) (no _ (by decide)) h⟩

abbrev si_NoName : Stmt := initOf 10
theorem sci_NoName : FnScope ["self", "name"] ["self", "name"] (defScope si_NoName) := ⟨rfl, rfl, rfl, by decide +kernel, rfl, by decide +kernel, by decide +kernel⟩
theorem err_NoName {fd : FuncData} (c : ErrC K mg "NoName" (He.ga K "NoName")) (o : oexB K "NoName" ["name"] = true) (F : FunD K "__init__" "NoName.__init__" (defArgs si_NoName) (defBody si_NoName) (defScope si_NoName) [] [] (He.ma K (He.ga K "NoName") "__init__") fd) : ErrI P w K mg base "NoName" (He.ga K "NoName") ["name"] := by
  obtain ⟨T, i1, i2, no⟩ := oexB_ok c o
  refine ⟨c.g, T, _, fd, i1, i2, ?_, F.bindsN fun _ _ _ _ _ _ us hl => match us, hl with | [_, _], _ => rfl⟩
  refine F.ok sci_NoName (fun vs H Q E h => ?_) (fun cdv A outer s H vs Q E hr h => ?_)
  · obtain ⟨a, ws, rfl, hl, _⟩ := h
    simp [hl]
  exact ⟨_, (pss_one (ps_ost (pv 0) (pv 1))), init1 rfl T (no _ (by decide)) h⟩

abbrev si_TakenName : Stmt := initOf 11
theorem sci_TakenName : FnScope ["self", "name"] ["self", "name"] (defScope si_TakenName) := ⟨rfl, rfl, rfl, by decide +kernel, rfl, by decide +kernel, by decide +kernel⟩
theorem err_TakenName {fd : FuncData} (c : ErrC K mg "TakenName" (He.ga K "TakenName")) (o : oexB K "TakenName" ["name"] = true) (F : FunD K "__init__" "TakenName.__init__" (defArgs si_TakenName) (defBody si_TakenName) (defScope si_TakenName) [] [] (He.ma K (He.ga K "TakenName") "__init__") fd) : ErrI P w K mg base "TakenName" (He.ga K "TakenName") ["name"] := by
  obtain ⟨T, i1, i2, no⟩ := oexB_ok c o
  refine ⟨c.g, T, _, fd, i1, i2, ?_, F.bindsN fun _ _ _ _ _ _ us hl => match us, hl with | [_, _], _ => rfl⟩
  refine F.ok sci_TakenName (fun vs H Q E h => ?_) (fun cdv A outer s H vs Q E hr h => ?_)
  · obtain ⟨a, ws, rfl, hl, _⟩ := h
    simp [hl]
  exact ⟨_, (pss_one (ps_ost (pv 0) (pv 1))), init1 rfl T (no _ (by decide)) h⟩

abbrev si_Unlike : Stmt := initOf 12
theorem sci_Unlike : FnScope ["self", "what"] ["self", "what"] (defScope si_Unlike) := ⟨rfl, rfl, rfl, by decide +kernel, rfl, by decide +kernel, by decide +kernel⟩
theorem err_Unlike {fd : FuncData} (c : ErrC K mg "Unlike" (He.ga K "Unlike")) (o : oexB K "Unlike" ["what"] = true) (F : FunD K "__init__" "Unlike.__init__" (defArgs si_Unlike) (defBody si_Unlike) (defScope si_Unlike) [] [] (He.ma K (He.ga K "Unlike") "__init__") fd) : ErrI P w K mg base "Unlike" (He.ga K "Unlike") ["what"] := by
  obtain ⟨T, i1, i2, no⟩ := oexB_ok c o
  refine ⟨c.g, T, _, fd, i1, i2, ?_, F.bindsN fun _ _ _ _ _ _ us hl => match us, hl with | [_, _], _ => rfl⟩
  refine F.ok sci_Unlike (fun vs H Q E h => ?_) (fun cdv A outer s H vs Q E hr h => ?_)
  · obtain ⟨a, ws, rfl, hl, _⟩ := h
    simp [hl]
  exact ⟨_, (pss_one (ps_ost (pv 0) (pv 1))), init1 rfl T (no _ (by decide)) h⟩

abbrev si_NotThere : Stmt := initOf 13
theorem sci_NotThere : FnScope ["self", "paper"] ["self", "paper"] (defScope si_NotThere) := ⟨rfl, rfl, rfl, by decide +kernel, rfl, by decide +kernel, by decide +kernel⟩
theorem err_NotThere {fd : FuncData} (c : ErrC K mg "NotThere" (He.ga K "NotThere")) (o : oexB K "NotThere" ["paper"] = true) (F : FunD K "__init__" "NotThere.__init__" (defArgs si_NotThere) (defBody si_NotThere) (defScope si_NotThere) [] [] (He.ma K (He.ga K "NotThere") "__init__") fd) : ErrI P w K mg base "NotThere" (He.ga K "NotThere") ["paper"] := by
  obtain ⟨T, i1, i2, no⟩ := oexB_ok c o
  refine ⟨c.g, T, _, fd, i1, i2, ?_, F.bindsN fun _ _ _ _ _ _ us hl => match us, hl with | [_, _], _ => rfl⟩
  refine F.ok sci_NotThere (fun vs H Q E h => ?_) (fun cdv A outer s H vs Q E hr h => ?_)
  · obtain ⟨a, ws, rfl, hl, _⟩ := h
    simp [hl]
  exact ⟨_, (pss_one (ps_ost (pv 0) (pv 1))), init1 rfl T (no _ (by decide)) h⟩

abbrev si_TooMany : Stmt := initOf 14
theorem sci_TooMany : FnScope ["self", "what", "many", "limit"] ["self", "what", "many", "limit"] (defScope si_TooMany) := ⟨rfl, rfl, rfl, by decide +kernel, rfl, by decide +kernel, by decide +kernel⟩
theorem err_TooMany {fd : FuncData} (c : ErrC K mg "TooMany" (He.ga K "TooMany")) (o : oexB K "TooMany" ["what", "many", "limit"] = true) (F : FunD K "__init__" "TooMany.__init__" (defArgs si_TooMany) (defBody si_TooMany) (defScope si_TooMany) [] [] (He.ma K (He.ga K "TooMany") "__init__") fd) : ErrI P w K mg base "TooMany" (He.ga K "TooMany") ["what", "many", "limit"] := by
  obtain ⟨T, i1, i2, no⟩ := oexB_ok c o
  refine ⟨c.g, T, _, fd, i1, i2, ?_, F.bindsN fun _ _ _ _ _ _ us hl => match us, hl with | [_, _, _, _], _ => rfl⟩
  refine F.ok sci_TooMany (fun vs H Q E h => ?_) (fun cdv A outer s H vs Q E hr h => ?_)
  · obtain ⟨a, ws, rfl, hl, _⟩ := h
    simp [hl]
  exact ⟨_, (pss_cons (ps_ost (pv 0) (pv 1)) (pss_cons (ps_ost (pv 0) (pv 2)) (pss_one (ps_ost (pv 0) (pv 3))))), init3 rfl T (no _ (by decide)) (no _ (by decide)) (no _ (by decide)) h⟩

abbrev si_NotKept : Stmt := initOf 15
theorem sci_NotKept : FnScope ["self", "promise", "witness"] ["self", "promise", "witness"] (defScope si_NotKept) := ⟨rfl, rfl, rfl, by decide +kernel, rfl, by decide +kernel, by decide +kernel⟩
theorem err_NotKept {fd : FuncData} (c : ErrC K mg "NotKept" (He.ga K "NotKept")) (o : oexB K "NotKept" ["promise", "witness"] = true) (F : FunD K "__init__" "NotKept.__init__" (defArgs si_NotKept) (defBody si_NotKept) (defScope si_NotKept) [] [] (He.ma K (He.ga K "NotKept") "__init__") fd) : ErrI P w K mg base "NotKept" (He.ga K "NotKept") ["promise", "witness"] := by
  obtain ⟨T, i1, i2, no⟩ := oexB_ok c o
  refine ⟨c.g, T, _, fd, i1, i2, ?_, F.bindsN fun _ _ _ _ _ _ us hl => match us, hl with | [_, _, _], _ => rfl⟩
  refine F.ok sci_NotKept (fun vs H Q E h => ?_) (fun cdv A outer s H vs Q E hr h => ?_)
  · obtain ⟨a, ws, rfl, hl, _⟩ := h
    simp [hl]
  exact ⟨_, (pss_cons (ps_ost (pv 0) (pv 1)) (pss_one (ps_ost (pv 0) (pv 2)))), init2 rfl T (no _ (by decide)) (no _ (by decide)) h⟩

end
end K01
namespace K01
open PySem PySem.Spec PyProof.Rows L2 Fp
section
variable {P : Program} {w : World} {K : PySem.W.Frag} {mg : Str → Option Value} {base : Heap} {f : Addr} {fd : FuncData}
/-- a drawn field -/
def Fld (K : PySem.W.Frag) (H : Hp) (v : V) : Prop := ∃ d, Dt K H d v ∧ Gd 2 700 d
theorem Fld.mono {H H' : Hp} {v : V} (e : Same H H') (h : Fld K H v) : Fld K H' v := by
  obtain ⟨d, h1, h2⟩ := h
  exact ⟨d, h1.mono e, h2⟩
def spField (P : Program) (w : World) (K : PySem.W.Frag) : Sp := fun vs H Q _ => ∃ (p : Addr), vs = [.ref p] ∧ Pen P w H p ∧ ∀ v H', Same H H' → Fld K H' v → Q v H'
abbrev s_law_any_field : Stmt := top 24
theorem sc_law_any_field : FnScope ["pen", "way"] ["pen"] (defScope s_law_any_field) := ⟨rfl, rfl, rfl, by decide +kernel, rfl, by decide +kernel, by decide +kernel⟩

theorem ok_field (F : FnP K "_law_any_field" s_law_any_field f fd) (p__law_draw : PrG P w K mg base "_law_draw" 1 ["pen", "many"] (spDraw P w)) (p__law_pick : PrG P w K mg base "_law_pick" 2 ["pen", "some"] (spPick P w K)) : FnG P w K mg base (L2.CX P w) 3 f fd ["pen"] (spField P w K) := by
  refine okG F sc_law_any_field (fun vs H Q E h => ?_) (fun cdv A outer s H vs Q E hr h => ?_)
  · obtain ⟨p, rfl, _⟩ := h
    rfl
  have nd := sc_law_any_field.nd
  have hu := huG hr
  refine ⟨_, (pss_cons (ps_set (i := 1) nd rfl (.inl rfl) (pe_callP p__law_draw (hr.mono (by decide)) (by rfl) (fun σ => passAt (takes_of rfl rfl rfl rfl) σ) (pa_cons (pv 0) (pa_cons pe_int pa_nil))))
  (pss_cons (ps_if (pt_cmpR (opEq hr) (pv 1) pe_int (nomark _)) (pss_one (ps_ret (pe_lst (pa_cons (pe_callP p__law_draw (hr.mono (by decide)) (by rfl) (fun σ => passAt (takes_of rfl rfl rfl rfl) σ) (pa_cons (pv 0) (pa_cons pe_int pa_nil))) (pa_cons (pe_lst pa_nil) pa_nil))))) pss_nil)
  (pss_cons (ps_if (pt_cmpR (opEq hr) (pv 1) pe_int (nomark _)) (pss_one (ps_ret (pe_tup (pa_cons pe_str (pa_cons (pe_tup (pa_cons (pe_callP p__law_draw (hr.mono (by decide)) (by rfl) (fun σ => passAt (takes_of rfl rfl rfl rfl) σ) (pa_cons (pv 0) (pa_cons (pe_op op_pow pe_int pe_int) pa_nil))) pa_nil)) pa_nil))))) pss_nil)
  (pss_one (ps_ret (pe_callP p__law_pick (hr.mono (by decide)) (by rfl) (fun σ => passAt (takes_of rfl rfl rfl rfl) σ) (pa_cons (pv 0) (pa_cons (pe_lst (pa_cons pe_non (pa_cons pe_bl (pa_cons pe_bl (pa_cons pe_int (pa_cons (pe_un un_neg pe_int) (pa_cons pe_str (pa_cons pe_str (pa_cons (pe_op op_pow pe_int pe_int) (pa_cons (pe_disp (pps_cons pe_str pe_int pps_nil) rfl rfl (by decide) (by decide)) pa_nil)))))))))) pa_nil)))))))), ?_⟩
  obtain ⟨p, rfl, hp, q⟩ := h
  refine ⟨_, rfl, ⟨_, _, rfl, hp, by decide, by decide, fun r r0 r1 => ?_⟩⟩
  refine ⟨_, rfl, .inl ⟨rfl, _, rfl, iteB (fun hb => ?_) fun hb => ?_⟩⟩
  · refine ⟨_, rfl, ⟨_, _, rfl, hp, by decide, by decide, fun m m0 m1 => ?_⟩⟩
    refine ⟨by decide, fun l hl => ?_⟩
    refine ⟨by show (2 : Nat) ≤ sizeLine; decide, fun t ht => ?_⟩
    have htl : t ≠ l := fun z => by rw [z, upd_same] at ht; cases ht
    have ht0 : H t = none := by rw [upd_ne htl] at ht; exact ht
    have dl : Dt K (upd (upd H l (.lst [])) t (.lst [V.int m, V.ref l])) (.list [.int m, .list []]) (.ref t) := by
      unfold Dt
      refine ⟨t, _, rfl, .inl (.inl upd_same), ?_⟩
      unfold DtAll
      refine ⟨_, _, rfl, by unfold Dt; rfl, ?_⟩
      unfold DtAll
      refine ⟨_, _, rfl, ?_, by unfold DtAll; rfl⟩
      unfold Dt
      exact ⟨l, [], rfl, .inl (.inl (by rw [upd_ne (Ne.symm htl), upd_same])), by unfold DtAll; rfl⟩
    refine q _ _ (fun b o e => ?_) ⟨_, dl, ?_⟩
    · rw [upd_ne (ne_of_none e ht0), upd_ne (ne_of_none e hl)]
      exact e
    · exact (Gd.list (gdAll_cons (gd_int m0 (by omega)) (gdAll_cons (Gd.list gdAll_nil) gdAll_nil))).mono (by decide) (by decide)
  · refine ⟨_, rfl, .inl ⟨rfl, _, rfl, iteB (fun hb => ?_) fun hb => ?_⟩⟩
    · refine ⟨_, rfl, _, _, rfl, rfl, ⟨by decide, by decide, by decide⟩, ?_⟩
      refine ⟨_, _, rfl, hp, by decide, by decide, fun m m0 m1 => ?_⟩
      refine ⟨by show (1 : Nat) ≤ sizeLine; decide, fun l hl => ?_⟩
      refine ⟨by show (2 : Nat) ≤ sizeLine; decide, fun t ht => ?_⟩
      have htl : t ≠ l := fun z => by rw [z, upd_same] at ht; cases ht
      have ht0 : H t = none := by rw [upd_ne htl] at ht; exact ht
      have dl : Dt K (upd (upd H l (.tup [V.int m])) t (.tup [V.str "a", V.ref l])) (.tuple [.str "a", .tuple [.int m]]) (.ref t) := by
        unfold Dt
        refine ⟨t, _, rfl, .inl (.inl upd_same), ?_⟩
        unfold DtAll
        refine ⟨_, _, rfl, by unfold Dt; rfl, ?_⟩
        unfold DtAll
        refine ⟨_, _, rfl, ?_, by unfold DtAll; rfl⟩
        unfold Dt
        refine ⟨l, _, rfl, .inl (.inl (by rw [upd_ne (Ne.symm htl), upd_same])), ?_⟩
        unfold DtAll
        exact ⟨_, _, rfl, by unfold Dt; rfl, by unfold DtAll; rfl⟩
      refine q _ _ (fun b o e => ?_) ⟨_, dl, ?_⟩
      · rw [upd_ne (ne_of_none e ht0), upd_ne (ne_of_none e hl)]
        exact e
      · have m1' : m < 10 ^ 6 := m1
        exact (Gd.tuple (gdAll_cons (gd_str "a" (okS_ofString "a")) (gdAll_cons (Gd.tuple (gdAll_cons (gd_int m0 (by omega)) gdAll_nil)) gdAll_nil))).mono (by decide) (by decide)
    · refine ⟨_, rfl, ?_⟩
      refine ⟨_, rfl, _, _, rfl, rfl, ⟨by decide, by decide, by decide⟩, ?_⟩
      intro d hd
      refine ⟨upd_same, [(.inr "k", .int 1)], rfl, by show (1 : Nat) ≤ 15; decide, ?_⟩
      rw [upd_upd]
      have em : mergeK [] [((.inr "k" : Key), V.int 1)] = [((.inr "k" : Key), V.int 1)] := rfl
      rw [em]
      refine ⟨by show (9 : Nat) ≤ sizeLine; decide, fun l hl => ?_⟩
      have hld : l ≠ d := fun z => by rw [z, upd_same] at hl; cases hl
      have hl0 : H l = none := by rw [upd_ne hld] at hl; exact hl
      have sm : Same H (upd (upd H d (.dK [((.inr "k" : Key), V.int 1)])) l (.lst [V.non, V.bl true, V.bl false, V.int 0, V.int (-1), V.str "x", V.str "", V.int ((10 : Int) ^ (40 : Int).toNat), V.ref d])) := fun b o e => by
        rw [upd_ne (ne_of_none e hl0), upd_ne (ne_of_none e hd)]
        exact e
      refine ⟨p, l, _, rfl, hp.mono sm, .inl (.inl (.inl upd_same)), by simp, by show (9 : Nat) < 1000; decide, fun v hv => q _ _ sm ?_⟩
      have one : ∀ {H' : Hp} {dd : PyData} {v : V}, (∀ H', Dt K H' dd v) → Gd 2 700 dd → Fld K H' v := fun h1 h2 => ⟨_, h1 _, h2⟩
      simp only [List.mem_cons, List.not_mem_nil, or_false] at hv
      rcases hv with rfl | rfl | rfl | rfl | rfl | rfl | rfl | rfl | rfl
      · exact one (dd := .none) (fun _ => by unfold Dt; rfl) ⟨rfl, by decide, rfl, by decide⟩
      · exact one (dd := .bool true) (fun _ => by unfold Dt; rfl) ⟨rfl, by decide, rfl, by decide⟩
      · exact one (dd := .bool false) (fun _ => by unfold Dt; rfl) ⟨rfl, by decide, rfl, by decide⟩
      · exact one (dd := .int 0) (fun _ => by unfold Dt; rfl) ((gd_int (by decide) (by decide)).mono (by decide) (by decide))
      · exact one (dd := .int (-1)) (fun _ => by unfold Dt; rfl) ⟨by decide +kernel, by decide, by decide +kernel, by decide +kernel⟩
      · exact one (dd := .str "x") (fun _ => by unfold Dt; rfl) ((gd_str _ (okS_ofString _)).mono (by decide) (by decide +kernel))
      · exact one (dd := .str "") (fun _ => by unfold Dt; rfl) ((gd_str _ (okS_ofString _)).mono (by decide) (by decide +kernel))
      · exact one (dd := .int ((10 : Int) ^ (40 : Int).toNat)) (fun _ => by unfold Dt; rfl) ((gd_int (by decide) (by decide)).mono (by decide) (by decide))
      · refine ⟨.dict [(.str "k", .int 1)], ?_, ⟨by decide +kernel, by decide, by decide +kernel, by decide +kernel⟩⟩
        unfold Dt
        refine ⟨d, _, rfl, by rw [upd_ne (Ne.symm hld), upd_same], ?_⟩
        unfold DtKv
        exact ⟨.inr "k", .int 1, [], rfl, rfl, by unfold Dt; rfl, by unfold DtKv; rfl⟩
end
end K01
namespace K01
open PySem PySem.Spec PyProof.Rows L2 Fp
/-- the classes of errors, their fields, what is handed to them -/
def cname : Nat → Str
  | 0 => "BadNumber"
  | 1 => "BadRow"
  | 2 => "BadTable"
  | 3 => "BadPoly"
  | 4 => "BadPaper"
  | 5 => "BadName"
  | 6 => "BadText"
  | 7 => "NoPlace"
  | 8 => "NoName"
  | 9 => "TakenName"
  | 10 => "Unlike"
  | 11 => "NotThere"
  | 12 => "TooMany"
  | 13 => "NotKept"
  | 14 => "NothingToUndo"
  | _ => "NothingToRedo"
def cfs : Nat → List Str
  | 0 => ["what", "number"]
  | 1 => ["what", "row"]
  | 2 => ["what"]
  | 3 => ["what"]
  | 4 => ["what"]
  | 5 => ["name"]
  | 6 => ["line", "word"]
  | 7 => ["what", "index"]
  | 8 => ["name"]
  | 9 => ["name"]
  | 10 => ["what"]
  | 11 => ["paper"]
  | 12 => ["what", "many", "limit"]
  | 13 => ["promise", "witness"]
  | 14 => []
  | _ => []
def cargs (v1 v2 v3 : V) : Nat → List V
  | 0 => [v1, v2]
  | 1 => [v1, v2]
  | 2 => [v1]
  | 3 => [v1]
  | 4 => [v1]
  | 5 => [v1]
  | 6 => [v1, v2]
  | 7 => [v1, v2]
  | 8 => [v1]
  | 9 => [v1]
  | 10 => [v1]
  | 11 => [v1]
  | 12 => [v1, v2, v3]
  | 13 => [v1, v2]
  | 14 => []
  | _ => []
/-- the k-th error is raised, with its fields -/
def ErrE (K : PySem.W.Frag) (H : Hp) (E : XK) (k : Nat) (v1 v2 v3 : V) : Prop :=
  if k < 14 then ∀ d H', Same H H' → H d = none → H' d = some (.xd ((cfs k).zip (cargs v1 v2 v3 k)).reverse) → E (.ref (He.ga K (cname k))) (some d) H' else E (.ref (He.ga K (cname k))) none H
/-- what is known of all the classes -/
structure Errs (P : Program) (w : World) (K : PySem.W.Frag) (mg : Str → Option Value) (base : Heap) : Prop where
  c_FieldError : ErrC K mg "FieldError" (He.ga K "FieldError")
  c : ∀ k, k < 16 → ErrC K mg (cname k) (He.ga K (cname k))
  e : ∀ k, k < 14 → ErrI P w K mg base (cname k) (He.ga K (cname k)) (cfs k)
  z : ∀ k, 14 ≤ k → k < 16 → PySem.W.excIn K (He.ga K (cname k)) [.type "ValueError", .type "Exception", .type "BaseException", .type "object"] "ValueError.__new__" = true
  is : ∀ k j, k < 16 → j < 16 → PySem.W.kitOne K (.ref (He.ga K (cname k))) (.ref (He.ga K (cname j))) = some (decide (k = j))
  te : ∀ k, k < 16 → PySem.W.exmOne K (.ref (He.ga K (cname k))) (.ref (He.ga K "FieldError")) = some true
  no : ∀ k f, k < 14 → f ∈ cfs k → PySem.W.findIn K (.ref (He.ga K (cname k))) f = some none
def spRaised (K : PySem.W.Frag) (lo hi : Nat) : Sp := fun vs H Q E => ∃ (k : Nat) (v1 v2 v3 : V), k < 16 ∧ vs = [.int k, v1, v2, v3] ∧ (lo ≤ k → k < hi → ErrE K H E k v1 v2 v3) ∧ (¬ (lo ≤ k ∧ k < hi) → Q .non H)
section
variable {P : Program} {w : World} {K : PySem.W.Frag} {mg : Str → Option Value} {base : Heap} {f : Addr} {fd : FuncData}

abbrev s_law_raised : Stmt := top 25
theorem sc_law_raised : FnScope ["kind", "one", "two", "three"] ["kind", "one", "two", "three"] (defScope s_law_raised) := ⟨rfl, rfl, rfl, by decide +kernel, rfl, by decide +kernel, by decide +kernel⟩

theorem ok_law_raised (F : FnP K "_law_raised" s_law_raised f fd) (A : Errs P w K mg base) : FnG P w K mg base (L2.CX P w) 3 f fd ["kind", "one", "two", "three"] (spRaised K 0 8) := by
  refine okG F sc_law_raised (fun vs H Q E h => ?_) (fun cdv B outer s H vs Q E hr h => ?_)
  · obtain ⟨k, v1, v2, v3, _, rfl, _⟩ := h
    rfl
  have nd := sc_law_raised.nd
  have hu := huG hr
  have e_BadNumber : ErrI P w K mg base "BadNumber" _ _ := A.e 0 (by decide)
  have e_BadRow : ErrI P w K mg base "BadRow" _ _ := A.e 1 (by decide)
  have e_BadTable : ErrI P w K mg base "BadTable" _ _ := A.e 2 (by decide)
  have e_BadPoly : ErrI P w K mg base "BadPoly" _ _ := A.e 3 (by decide)
  have e_BadPaper : ErrI P w K mg base "BadPaper" _ _ := A.e 4 (by decide)
  have e_BadName : ErrI P w K mg base "BadName" _ _ := A.e 5 (by decide)
  have e_BadText : ErrI P w K mg base "BadText" _ _ := A.e 6 (by decide)
  have e_NoPlace : ErrI P w K mg base "NoPlace" _ _ := A.e 7 (by decide)
  refine ⟨_, (pss_cons (ps_if (pt_cmpR (opEq hr) (pv 0) pe_int (nomark _)) (pss_one (ps_raise rfl (takes_of rfl rfl rfl rfl) (mk_err e_BadNumber (by decide) (hr.mono (by decide)) (by rfl) (pa_cons (pv 1) (pa_cons (pv 2) pa_nil))))) pss_nil)
  (pss_cons (ps_if (pt_cmpR (opEq hr) (pv 0) pe_int (nomark _)) (pss_one (ps_raise rfl (takes_of rfl rfl rfl rfl) (mk_err e_BadRow (by decide) (hr.mono (by decide)) (by rfl) (pa_cons (pv 1) (pa_cons (pv 2) pa_nil))))) pss_nil)
  (pss_cons (ps_if (pt_cmpR (opEq hr) (pv 0) pe_int (nomark _)) (pss_one (ps_raise rfl (takes_of rfl rfl rfl rfl) (mk_err e_BadTable (by decide) (hr.mono (by decide)) (by rfl) (pa_cons (pv 1) pa_nil)))) pss_nil)
  (pss_cons (ps_if (pt_cmpR (opEq hr) (pv 0) pe_int (nomark _)) (pss_one (ps_raise rfl (takes_of rfl rfl rfl rfl) (mk_err e_BadPoly (by decide) (hr.mono (by decide)) (by rfl) (pa_cons (pv 1) pa_nil)))) pss_nil)
  (pss_cons (ps_if (pt_cmpR (opEq hr) (pv 0) pe_int (nomark _)) (pss_one (ps_raise rfl (takes_of rfl rfl rfl rfl) (mk_err e_BadPaper (by decide) (hr.mono (by decide)) (by rfl) (pa_cons (pv 1) pa_nil)))) pss_nil)
  (pss_cons (ps_if (pt_cmpR (opEq hr) (pv 0) pe_int (nomark _)) (pss_one (ps_raise rfl (takes_of rfl rfl rfl rfl) (mk_err e_BadName (by decide) (hr.mono (by decide)) (by rfl) (pa_cons (pv 1) pa_nil)))) pss_nil)
  (pss_cons (ps_if (pt_cmpR (opEq hr) (pv 0) pe_int (nomark _)) (pss_one (ps_raise rfl (takes_of rfl rfl rfl rfl) (mk_err e_BadText (by decide) (hr.mono (by decide)) (by rfl) (pa_cons (pv 1) (pa_cons (pv 2) pa_nil))))) pss_nil)
  (pss_one (ps_if (pt_cmpR (opEq hr) (pv 0) pe_int (nomark _)) (pss_one (ps_raise rfl (takes_of rfl rfl rfl rfl) (mk_err e_NoPlace (by decide) (hr.mono (by decide)) (by rfl) (pa_cons (pv 1) (pa_cons (pv 2) pa_nil))))) pss_nil))))))))), ?_⟩
  obtain ⟨k, v1, v2, v3, hk, rfl, hE, hQ⟩ := h
  match k, hk, hE, hQ with
  | 0, _, hE, hQ =>
    refine ⟨_, rfl, .inl ⟨rfl, _, rfl, Fp.ite_ye (by decide) ?_⟩⟩
    exact ⟨_, rfl, _, rfl, rfl, fun d H3 s1 s2 s3 => hE (by decide) (by decide) d H3 s1 s2 s3⟩
  | 1, _, hE, hQ =>
    refine ⟨_, rfl, .inl ⟨rfl, _, rfl, Fp.ite_no (by decide) ?_⟩⟩
    refine ⟨_, rfl, .inl ⟨rfl, _, rfl, Fp.ite_ye (by decide) ?_⟩⟩
    exact ⟨_, rfl, _, rfl, rfl, fun d H3 s1 s2 s3 => hE (by decide) (by decide) d H3 s1 s2 s3⟩
  | 2, _, hE, hQ =>
    refine ⟨_, rfl, .inl ⟨rfl, _, rfl, Fp.ite_no (by decide) ?_⟩⟩
    refine ⟨_, rfl, .inl ⟨rfl, _, rfl, Fp.ite_no (by decide) ?_⟩⟩
    refine ⟨_, rfl, .inl ⟨rfl, _, rfl, Fp.ite_ye (by decide) ?_⟩⟩
    exact ⟨_, rfl, rfl, fun d H3 s1 s2 s3 => hE (by decide) (by decide) d H3 s1 s2 s3⟩
  | 3, _, hE, hQ =>
    refine ⟨_, rfl, .inl ⟨rfl, _, rfl, Fp.ite_no (by decide) ?_⟩⟩
    refine ⟨_, rfl, .inl ⟨rfl, _, rfl, Fp.ite_no (by decide) ?_⟩⟩
    refine ⟨_, rfl, .inl ⟨rfl, _, rfl, Fp.ite_no (by decide) ?_⟩⟩
    refine ⟨_, rfl, .inl ⟨rfl, _, rfl, Fp.ite_ye (by decide) ?_⟩⟩
    exact ⟨_, rfl, rfl, fun d H3 s1 s2 s3 => hE (by decide) (by decide) d H3 s1 s2 s3⟩
  | 4, _, hE, hQ =>
    refine ⟨_, rfl, .inl ⟨rfl, _, rfl, Fp.ite_no (by decide) ?_⟩⟩
    refine ⟨_, rfl, .inl ⟨rfl, _, rfl, Fp.ite_no (by decide) ?_⟩⟩
    refine ⟨_, rfl, .inl ⟨rfl, _, rfl, Fp.ite_no (by decide) ?_⟩⟩
    refine ⟨_, rfl, .inl ⟨rfl, _, rfl, Fp.ite_no (by decide) ?_⟩⟩
    refine ⟨_, rfl, .inl ⟨rfl, _, rfl, Fp.ite_ye (by decide) ?_⟩⟩
    exact ⟨_, rfl, rfl, fun d H3 s1 s2 s3 => hE (by decide) (by decide) d H3 s1 s2 s3⟩
  | 5, _, hE, hQ =>
    refine ⟨_, rfl, .inl ⟨rfl, _, rfl, Fp.ite_no (by decide) ?_⟩⟩
    refine ⟨_, rfl, .inl ⟨rfl, _, rfl, Fp.ite_no (by decide) ?_⟩⟩
    refine ⟨_, rfl, .inl ⟨rfl, _, rfl, Fp.ite_no (by decide) ?_⟩⟩
    refine ⟨_, rfl, .inl ⟨rfl, _, rfl, Fp.ite_no (by decide) ?_⟩⟩
    refine ⟨_, rfl, .inl ⟨rfl, _, rfl, Fp.ite_no (by decide) ?_⟩⟩
    refine ⟨_, rfl, .inl ⟨rfl, _, rfl, Fp.ite_ye (by decide) ?_⟩⟩
    exact ⟨_, rfl, rfl, fun d H3 s1 s2 s3 => hE (by decide) (by decide) d H3 s1 s2 s3⟩
  | 6, _, hE, hQ =>
    refine ⟨_, rfl, .inl ⟨rfl, _, rfl, Fp.ite_no (by decide) ?_⟩⟩
    refine ⟨_, rfl, .inl ⟨rfl, _, rfl, Fp.ite_no (by decide) ?_⟩⟩
    refine ⟨_, rfl, .inl ⟨rfl, _, rfl, Fp.ite_no (by decide) ?_⟩⟩
    refine ⟨_, rfl, .inl ⟨rfl, _, rfl, Fp.ite_no (by decide) ?_⟩⟩
    refine ⟨_, rfl, .inl ⟨rfl, _, rfl, Fp.ite_no (by decide) ?_⟩⟩
    refine ⟨_, rfl, .inl ⟨rfl, _, rfl, Fp.ite_no (by decide) ?_⟩⟩
    refine ⟨_, rfl, .inl ⟨rfl, _, rfl, Fp.ite_ye (by decide) ?_⟩⟩
    exact ⟨_, rfl, _, rfl, rfl, fun d H3 s1 s2 s3 => hE (by decide) (by decide) d H3 s1 s2 s3⟩
  | 7, _, hE, hQ =>
    refine ⟨_, rfl, .inl ⟨rfl, _, rfl, Fp.ite_no (by decide) ?_⟩⟩
    refine ⟨_, rfl, .inl ⟨rfl, _, rfl, Fp.ite_no (by decide) ?_⟩⟩
    refine ⟨_, rfl, .inl ⟨rfl, _, rfl, Fp.ite_no (by decide) ?_⟩⟩
    refine ⟨_, rfl, .inl ⟨rfl, _, rfl, Fp.ite_no (by decide) ?_⟩⟩
    refine ⟨_, rfl, .inl ⟨rfl, _, rfl, Fp.ite_no (by decide) ?_⟩⟩
    refine ⟨_, rfl, .inl ⟨rfl, _, rfl, Fp.ite_no (by decide) ?_⟩⟩
    refine ⟨_, rfl, .inl ⟨rfl, _, rfl, Fp.ite_no (by decide) ?_⟩⟩
    refine ⟨_, rfl, .inl ⟨rfl, _, rfl, Fp.ite_ye (by decide) ?_⟩⟩
    exact ⟨_, rfl, _, rfl, rfl, fun d H3 s1 s2 s3 => hE (by decide) (by decide) d H3 s1 s2 s3⟩
  | 8, _, hE, hQ =>
    refine ⟨_, rfl, .inl ⟨rfl, _, rfl, Fp.ite_no (by decide) ?_⟩⟩
    refine ⟨_, rfl, .inl ⟨rfl, _, rfl, Fp.ite_no (by decide) ?_⟩⟩
    refine ⟨_, rfl, .inl ⟨rfl, _, rfl, Fp.ite_no (by decide) ?_⟩⟩
    refine ⟨_, rfl, .inl ⟨rfl, _, rfl, Fp.ite_no (by decide) ?_⟩⟩
    refine ⟨_, rfl, .inl ⟨rfl, _, rfl, Fp.ite_no (by decide) ?_⟩⟩
    refine ⟨_, rfl, .inl ⟨rfl, _, rfl, Fp.ite_no (by decide) ?_⟩⟩
    refine ⟨_, rfl, .inl ⟨rfl, _, rfl, Fp.ite_no (by decide) ?_⟩⟩
    refine ⟨_, rfl, .inl ⟨rfl, _, rfl, Fp.ite_no (by decide) ?_⟩⟩
    exact hQ (by decide)
  | 9, _, hE, hQ =>
    refine ⟨_, rfl, .inl ⟨rfl, _, rfl, Fp.ite_no (by decide) ?_⟩⟩
    refine ⟨_, rfl, .inl ⟨rfl, _, rfl, Fp.ite_no (by decide) ?_⟩⟩
    refine ⟨_, rfl, .inl ⟨rfl, _, rfl, Fp.ite_no (by decide) ?_⟩⟩
    refine ⟨_, rfl, .inl ⟨rfl, _, rfl, Fp.ite_no (by decide) ?_⟩⟩
    refine ⟨_, rfl, .inl ⟨rfl, _, rfl, Fp.ite_no (by decide) ?_⟩⟩
    refine ⟨_, rfl, .inl ⟨rfl, _, rfl, Fp.ite_no (by decide) ?_⟩⟩
    refine ⟨_, rfl, .inl ⟨rfl, _, rfl, Fp.ite_no (by decide) ?_⟩⟩
    refine ⟨_, rfl, .inl ⟨rfl, _, rfl, Fp.ite_no (by decide) ?_⟩⟩
    exact hQ (by decide)
  | 10, _, hE, hQ =>
    refine ⟨_, rfl, .inl ⟨rfl, _, rfl, Fp.ite_no (by decide) ?_⟩⟩
    refine ⟨_, rfl, .inl ⟨rfl, _, rfl, Fp.ite_no (by decide) ?_⟩⟩
    refine ⟨_, rfl, .inl ⟨rfl, _, rfl, Fp.ite_no (by decide) ?_⟩⟩
    refine ⟨_, rfl, .inl ⟨rfl, _, rfl, Fp.ite_no (by decide) ?_⟩⟩
    refine ⟨_, rfl, .inl ⟨rfl, _, rfl, Fp.ite_no (by decide) ?_⟩⟩
    refine ⟨_, rfl, .inl ⟨rfl, _, rfl, Fp.ite_no (by decide) ?_⟩⟩
    refine ⟨_, rfl, .inl ⟨rfl, _, rfl, Fp.ite_no (by decide) ?_⟩⟩
    refine ⟨_, rfl, .inl ⟨rfl, _, rfl, Fp.ite_no (by decide) ?_⟩⟩
    exact hQ (by decide)
  | 11, _, hE, hQ =>
    refine ⟨_, rfl, .inl ⟨rfl, _, rfl, Fp.ite_no (by decide) ?_⟩⟩
    refine ⟨_, rfl, .inl ⟨rfl, _, rfl, Fp.ite_no (by decide) ?_⟩⟩
    refine ⟨_, rfl, .inl ⟨rfl, _, rfl, Fp.ite_no (by decide) ?_⟩⟩
    refine ⟨_, rfl, .inl ⟨rfl, _, rfl, Fp.ite_no (by decide) ?_⟩⟩
    refine ⟨_, rfl, .inl ⟨rfl, _, rfl, Fp.ite_no (by decide) ?_⟩⟩
    refine ⟨_, rfl, .inl ⟨rfl, _, rfl, Fp.ite_no (by decide) ?_⟩⟩
    refine ⟨_, rfl, .inl ⟨rfl, _, rfl, Fp.ite_no (by decide) ?_⟩⟩
    refine ⟨_, rfl, .inl ⟨rfl, _, rfl, Fp.ite_no (by decide) ?_⟩⟩
    exact hQ (by decide)
  | 12, _, hE, hQ =>
    refine ⟨_, rfl, .inl ⟨rfl, _, rfl, Fp.ite_no (by decide) ?_⟩⟩
    refine ⟨_, rfl, .inl ⟨rfl, _, rfl, Fp.ite_no (by decide) ?_⟩⟩
    refine ⟨_, rfl, .inl ⟨rfl, _, rfl, Fp.ite_no (by decide) ?_⟩⟩
    refine ⟨_, rfl, .inl ⟨rfl, _, rfl, Fp.ite_no (by decide) ?_⟩⟩
    refine ⟨_, rfl, .inl ⟨rfl, _, rfl, Fp.ite_no (by decide) ?_⟩⟩
    refine ⟨_, rfl, .inl ⟨rfl, _, rfl, Fp.ite_no (by decide) ?_⟩⟩
    refine ⟨_, rfl, .inl ⟨rfl, _, rfl, Fp.ite_no (by decide) ?_⟩⟩
    refine ⟨_, rfl, .inl ⟨rfl, _, rfl, Fp.ite_no (by decide) ?_⟩⟩
    exact hQ (by decide)
  | 13, _, hE, hQ =>
    refine ⟨_, rfl, .inl ⟨rfl, _, rfl, Fp.ite_no (by decide) ?_⟩⟩
    refine ⟨_, rfl, .inl ⟨rfl, _, rfl, Fp.ite_no (by decide) ?_⟩⟩
    refine ⟨_, rfl, .inl ⟨rfl, _, rfl, Fp.ite_no (by decide) ?_⟩⟩
    refine ⟨_, rfl, .inl ⟨rfl, _, rfl, Fp.ite_no (by decide) ?_⟩⟩
    refine ⟨_, rfl, .inl ⟨rfl, _, rfl, Fp.ite_no (by decide) ?_⟩⟩
    refine ⟨_, rfl, .inl ⟨rfl, _, rfl, Fp.ite_no (by decide) ?_⟩⟩
    refine ⟨_, rfl, .inl ⟨rfl, _, rfl, Fp.ite_no (by decide) ?_⟩⟩
    refine ⟨_, rfl, .inl ⟨rfl, _, rfl, Fp.ite_no (by decide) ?_⟩⟩
    exact hQ (by decide)
  | 14, _, hE, hQ =>
    refine ⟨_, rfl, .inl ⟨rfl, _, rfl, Fp.ite_no (by decide) ?_⟩⟩
    refine ⟨_, rfl, .inl ⟨rfl, _, rfl, Fp.ite_no (by decide) ?_⟩⟩
    refine ⟨_, rfl, .inl ⟨rfl, _, rfl, Fp.ite_no (by decide) ?_⟩⟩
    refine ⟨_, rfl, .inl ⟨rfl, _, rfl, Fp.ite_no (by decide) ?_⟩⟩
    refine ⟨_, rfl, .inl ⟨rfl, _, rfl, Fp.ite_no (by decide) ?_⟩⟩
    refine ⟨_, rfl, .inl ⟨rfl, _, rfl, Fp.ite_no (by decide) ?_⟩⟩
    refine ⟨_, rfl, .inl ⟨rfl, _, rfl, Fp.ite_no (by decide) ?_⟩⟩
    refine ⟨_, rfl, .inl ⟨rfl, _, rfl, Fp.ite_no (by decide) ?_⟩⟩
    exact hQ (by decide)
  | 15, _, hE, hQ =>
    refine ⟨_, rfl, .inl ⟨rfl, _, rfl, Fp.ite_no (by decide) ?_⟩⟩
    refine ⟨_, rfl, .inl ⟨rfl, _, rfl, Fp.ite_no (by decide) ?_⟩⟩
    refine ⟨_, rfl, .inl ⟨rfl, _, rfl, Fp.ite_no (by decide) ?_⟩⟩
    refine ⟨_, rfl, .inl ⟨rfl, _, rfl, Fp.ite_no (by decide) ?_⟩⟩
    refine ⟨_, rfl, .inl ⟨rfl, _, rfl, Fp.ite_no (by decide) ?_⟩⟩
    refine ⟨_, rfl, .inl ⟨rfl, _, rfl, Fp.ite_no (by decide) ?_⟩⟩
    refine ⟨_, rfl, .inl ⟨rfl, _, rfl, Fp.ite_no (by decide) ?_⟩⟩
    refine ⟨_, rfl, .inl ⟨rfl, _, rfl, Fp.ite_no (by decide) ?_⟩⟩
    exact hQ (by decide)
  | _ + 16, hk, _, _ => exact absurd hk (by omega)
abbrev s_law_raised_too : Stmt := top 26
theorem sc_law_raised_too : FnScope ["kind", "one", "two", "three"] ["kind", "one", "two", "three"] (defScope s_law_raised_too) := ⟨rfl, rfl, rfl, by decide +kernel, rfl, by decide +kernel, by decide +kernel⟩

theorem ok_law_raised_too (F : FnP K "_law_raised_too" s_law_raised_too f fd) (A : Errs P w K mg base) : FnG P w K mg base (L2.CX P w) 3 f fd ["kind", "one", "two", "three"] (spRaised K 8 16) := by
  refine okG F sc_law_raised_too (fun vs H Q E h => ?_) (fun cdv B outer s H vs Q E hr h => ?_)
  · obtain ⟨k, v1, v2, v3, _, rfl, _⟩ := h
    rfl
  have nd := sc_law_raised_too.nd
  have hu := huG hr
  have e_NoName : ErrI P w K mg base "NoName" _ _ := A.e 8 (by decide)
  have e_TakenName : ErrI P w K mg base "TakenName" _ _ := A.e 9 (by decide)
  have e_Unlike : ErrI P w K mg base "Unlike" _ _ := A.e 10 (by decide)
  have e_NotThere : ErrI P w K mg base "NotThere" _ _ := A.e 11 (by decide)
  have e_TooMany : ErrI P w K mg base "TooMany" _ _ := A.e 12 (by decide)
  have e_NotKept : ErrI P w K mg base "NotKept" _ _ := A.e 13 (by decide)
  have z_NothingToUndo := A.z 14 (by decide) (by decide)
  have c_NothingToUndo : ErrC K mg "NothingToUndo" _ := A.c 14 (by decide)
  have z_NothingToRedo := A.z 15 (by decide) (by decide)
  have c_NothingToRedo : ErrC K mg "NothingToRedo" _ := A.c 15 (by decide)
  refine ⟨_, (pss_cons (ps_if (pt_cmpR (opEq hr) (pv 0) pe_int (nomark _)) (pss_one (ps_raise rfl (takes_of rfl rfl rfl rfl) (mk_err e_NoName (by decide) (hr.mono (by decide)) (by rfl) (pa_cons (pv 1) pa_nil)))) pss_nil)
  (pss_cons (ps_if (pt_cmpR (opEq hr) (pv 0) pe_int (nomark _)) (pss_one (ps_raise rfl (takes_of rfl rfl rfl rfl) (mk_err e_TakenName (by decide) (hr.mono (by decide)) (by rfl) (pa_cons (pv 1) pa_nil)))) pss_nil)
  (pss_cons (ps_if (pt_cmpR (opEq hr) (pv 0) pe_int (nomark _)) (pss_one (ps_raise rfl (takes_of rfl rfl rfl rfl) (mk_err e_Unlike (by decide) (hr.mono (by decide)) (by rfl) (pa_cons (pv 1) pa_nil)))) pss_nil)
  (pss_cons (ps_if (pt_cmpR (opEq hr) (pv 0) pe_int (nomark _)) (pss_one (ps_raise rfl (takes_of rfl rfl rfl rfl) (mk_err e_NotThere (by decide) (hr.mono (by decide)) (by rfl) (pa_cons (pv 1) pa_nil)))) pss_nil)
  (pss_cons (ps_if (pt_cmpR (opEq hr) (pv 0) pe_int (nomark _)) (pss_one (ps_raise rfl (takes_of rfl rfl rfl rfl) (mk_err e_TooMany (by decide) (hr.mono (by decide)) (by rfl) (pa_cons (pv 1) (pa_cons (pv 2) (pa_cons (pv 3) pa_nil)))))) pss_nil)
  (pss_cons (ps_if (pt_cmpR (opEq hr) (pv 0) pe_int (nomark _)) (pss_one (ps_raise rfl (takes_of rfl rfl rfl rfl) (mk_err e_NotKept (by decide) (hr.mono (by decide)) (by rfl) (pa_cons (pv 1) (pa_cons (pv 2) pa_nil))))) pss_nil)
  (pss_cons (ps_if (pt_cmpR (opEq hr) (pv 0) pe_int (nomark _)) (pss_one (ps_raise rfl (takes_of rfl rfl rfl rfl) (mk_err0 PySem.F.excBase_ValueError z_NothingToUndo c_NothingToUndo.g c_NothingToUndo.k (raises_own c_NothingToUndo.ex c_NothingToUndo.ty) (by rfl)))) pss_nil)
  (pss_one (ps_if (pt_cmpR (opEq hr) (pv 0) pe_int (nomark _)) (pss_one (ps_raise rfl (takes_of rfl rfl rfl rfl) (mk_err0 PySem.F.excBase_ValueError z_NothingToRedo c_NothingToRedo.g c_NothingToRedo.k (raises_own c_NothingToRedo.ex c_NothingToRedo.ty) (by rfl)))) pss_nil))))))))), ?_⟩
  obtain ⟨k, v1, v2, v3, hk, rfl, hE, hQ⟩ := h
  match k, hk, hE, hQ with
  | 0, _, hE, hQ =>
    refine ⟨_, rfl, .inl ⟨rfl, _, rfl, Fp.ite_no (by decide) ?_⟩⟩
    refine ⟨_, rfl, .inl ⟨rfl, _, rfl, Fp.ite_no (by decide) ?_⟩⟩
    refine ⟨_, rfl, .inl ⟨rfl, _, rfl, Fp.ite_no (by decide) ?_⟩⟩
    refine ⟨_, rfl, .inl ⟨rfl, _, rfl, Fp.ite_no (by decide) ?_⟩⟩
    refine ⟨_, rfl, .inl ⟨rfl, _, rfl, Fp.ite_no (by decide) ?_⟩⟩
    refine ⟨_, rfl, .inl ⟨rfl, _, rfl, Fp.ite_no (by decide) ?_⟩⟩
    refine ⟨_, rfl, .inl ⟨rfl, _, rfl, Fp.ite_no (by decide) ?_⟩⟩
    refine ⟨_, rfl, .inl ⟨rfl, _, rfl, Fp.ite_no (by decide) ?_⟩⟩
    exact hQ (by decide)
  | 1, _, hE, hQ =>
    refine ⟨_, rfl, .inl ⟨rfl, _, rfl, Fp.ite_no (by decide) ?_⟩⟩
    refine ⟨_, rfl, .inl ⟨rfl, _, rfl, Fp.ite_no (by decide) ?_⟩⟩
    refine ⟨_, rfl, .inl ⟨rfl, _, rfl, Fp.ite_no (by decide) ?_⟩⟩
    refine ⟨_, rfl, .inl ⟨rfl, _, rfl, Fp.ite_no (by decide) ?_⟩⟩
    refine ⟨_, rfl, .inl ⟨rfl, _, rfl, Fp.ite_no (by decide) ?_⟩⟩
    refine ⟨_, rfl, .inl ⟨rfl, _, rfl, Fp.ite_no (by decide) ?_⟩⟩
    refine ⟨_, rfl, .inl ⟨rfl, _, rfl, Fp.ite_no (by decide) ?_⟩⟩
    refine ⟨_, rfl, .inl ⟨rfl, _, rfl, Fp.ite_no (by decide) ?_⟩⟩
    exact hQ (by decide)
  | 2, _, hE, hQ =>
    refine ⟨_, rfl, .inl ⟨rfl, _, rfl, Fp.ite_no (by decide) ?_⟩⟩
    refine ⟨_, rfl, .inl ⟨rfl, _, rfl, Fp.ite_no (by decide) ?_⟩⟩
    refine ⟨_, rfl, .inl ⟨rfl, _, rfl, Fp.ite_no (by decide) ?_⟩⟩
    refine ⟨_, rfl, .inl ⟨rfl, _, rfl, Fp.ite_no (by decide) ?_⟩⟩
    refine ⟨_, rfl, .inl ⟨rfl, _, rfl, Fp.ite_no (by decide) ?_⟩⟩
    refine ⟨_, rfl, .inl ⟨rfl, _, rfl, Fp.ite_no (by decide) ?_⟩⟩
    refine ⟨_, rfl, .inl ⟨rfl, _, rfl, Fp.ite_no (by decide) ?_⟩⟩
    refine ⟨_, rfl, .inl ⟨rfl, _, rfl, Fp.ite_no (by decide) ?_⟩⟩
    exact hQ (by decide)
  | 3, _, hE, hQ =>
    refine ⟨_, rfl, .inl ⟨rfl, _, rfl, Fp.ite_no (by decide) ?_⟩⟩
    refine ⟨_, rfl, .inl ⟨rfl, _, rfl, Fp.ite_no (by decide) ?_⟩⟩
    refine ⟨_, rfl, .inl ⟨rfl, _, rfl, Fp.ite_no (by decide) ?_⟩⟩
    refine ⟨_, rfl, .inl ⟨rfl, _, rfl, Fp.ite_no (by decide) ?_⟩⟩
    refine ⟨_, rfl, .inl ⟨rfl, _, rfl, Fp.ite_no (by decide) ?_⟩⟩
    refine ⟨_, rfl, .inl ⟨rfl, _, rfl, Fp.ite_no (by decide) ?_⟩⟩
    refine ⟨_, rfl, .inl ⟨rfl, _, rfl, Fp.ite_no (by decide) ?_⟩⟩
    refine ⟨_, rfl, .inl ⟨rfl, _, rfl, Fp.ite_no (by decide) ?_⟩⟩
    exact hQ (by decide)
  | 4, _, hE, hQ =>
    refine ⟨_, rfl, .inl ⟨rfl, _, rfl, Fp.ite_no (by decide) ?_⟩⟩
    refine ⟨_, rfl, .inl ⟨rfl, _, rfl, Fp.ite_no (by decide) ?_⟩⟩
    refine ⟨_, rfl, .inl ⟨rfl, _, rfl, Fp.ite_no (by decide) ?_⟩⟩
    refine ⟨_, rfl, .inl ⟨rfl, _, rfl, Fp.ite_no (by decide) ?_⟩⟩
    refine ⟨_, rfl, .inl ⟨rfl, _, rfl, Fp.ite_no (by decide) ?_⟩⟩
    refine ⟨_, rfl, .inl ⟨rfl, _, rfl, Fp.ite_no (by decide) ?_⟩⟩
    refine ⟨_, rfl, .inl ⟨rfl, _, rfl, Fp.ite_no (by decide) ?_⟩⟩
    refine ⟨_, rfl, .inl ⟨rfl, _, rfl, Fp.ite_no (by decide) ?_⟩⟩
    exact hQ (by decide)
  | 5, _, hE, hQ =>
    refine ⟨_, rfl, .inl ⟨rfl, _, rfl, Fp.ite_no (by decide) ?_⟩⟩
    refine ⟨_, rfl, .inl ⟨rfl, _, rfl, Fp.ite_no (by decide) ?_⟩⟩
    refine ⟨_, rfl, .inl ⟨rfl, _, rfl, Fp.ite_no (by decide) ?_⟩⟩
    refine ⟨_, rfl, .inl ⟨rfl, _, rfl, Fp.ite_no (by decide) ?_⟩⟩
    refine ⟨_, rfl, .inl ⟨rfl, _, rfl, Fp.ite_no (by decide) ?_⟩⟩
    refine ⟨_, rfl, .inl ⟨rfl, _, rfl, Fp.ite_no (by decide) ?_⟩⟩
    refine ⟨_, rfl, .inl ⟨rfl, _, rfl, Fp.ite_no (by decide) ?_⟩⟩
    refine ⟨_, rfl, .inl ⟨rfl, _, rfl, Fp.ite_no (by decide) ?_⟩⟩
    exact hQ (by decide)
  | 6, _, hE, hQ =>
    refine ⟨_, rfl, .inl ⟨rfl, _, rfl, Fp.ite_no (by decide) ?_⟩⟩
    refine ⟨_, rfl, .inl ⟨rfl, _, rfl, Fp.ite_no (by decide) ?_⟩⟩
    refine ⟨_, rfl, .inl ⟨rfl, _, rfl, Fp.ite_no (by decide) ?_⟩⟩
    refine ⟨_, rfl, .inl ⟨rfl, _, rfl, Fp.ite_no (by decide) ?_⟩⟩
    refine ⟨_, rfl, .inl ⟨rfl, _, rfl, Fp.ite_no (by decide) ?_⟩⟩
    refine ⟨_, rfl, .inl ⟨rfl, _, rfl, Fp.ite_no (by decide) ?_⟩⟩
    refine ⟨_, rfl, .inl ⟨rfl, _, rfl, Fp.ite_no (by decide) ?_⟩⟩
    refine ⟨_, rfl, .inl ⟨rfl, _, rfl, Fp.ite_no (by decide) ?_⟩⟩
    exact hQ (by decide)
  | 7, _, hE, hQ =>
    refine ⟨_, rfl, .inl ⟨rfl, _, rfl, Fp.ite_no (by decide) ?_⟩⟩
    refine ⟨_, rfl, .inl ⟨rfl, _, rfl, Fp.ite_no (by decide) ?_⟩⟩
    refine ⟨_, rfl, .inl ⟨rfl, _, rfl, Fp.ite_no (by decide) ?_⟩⟩
    refine ⟨_, rfl, .inl ⟨rfl, _, rfl, Fp.ite_no (by decide) ?_⟩⟩
    refine ⟨_, rfl, .inl ⟨rfl, _, rfl, Fp.ite_no (by decide) ?_⟩⟩
    refine ⟨_, rfl, .inl ⟨rfl, _, rfl, Fp.ite_no (by decide) ?_⟩⟩
    refine ⟨_, rfl, .inl ⟨rfl, _, rfl, Fp.ite_no (by decide) ?_⟩⟩
    refine ⟨_, rfl, .inl ⟨rfl, _, rfl, Fp.ite_no (by decide) ?_⟩⟩
    exact hQ (by decide)
  | 8, _, hE, hQ =>
    refine ⟨_, rfl, .inl ⟨rfl, _, rfl, Fp.ite_ye (by decide) ?_⟩⟩
    exact ⟨_, rfl, rfl, fun d H3 s1 s2 s3 => hE (by decide) (by decide) d H3 s1 s2 s3⟩
  | 9, _, hE, hQ =>
    refine ⟨_, rfl, .inl ⟨rfl, _, rfl, Fp.ite_no (by decide) ?_⟩⟩
    refine ⟨_, rfl, .inl ⟨rfl, _, rfl, Fp.ite_ye (by decide) ?_⟩⟩
    exact ⟨_, rfl, rfl, fun d H3 s1 s2 s3 => hE (by decide) (by decide) d H3 s1 s2 s3⟩
  | 10, _, hE, hQ =>
    refine ⟨_, rfl, .inl ⟨rfl, _, rfl, Fp.ite_no (by decide) ?_⟩⟩
    refine ⟨_, rfl, .inl ⟨rfl, _, rfl, Fp.ite_no (by decide) ?_⟩⟩
    refine ⟨_, rfl, .inl ⟨rfl, _, rfl, Fp.ite_ye (by decide) ?_⟩⟩
    exact ⟨_, rfl, rfl, fun d H3 s1 s2 s3 => hE (by decide) (by decide) d H3 s1 s2 s3⟩
  | 11, _, hE, hQ =>
    refine ⟨_, rfl, .inl ⟨rfl, _, rfl, Fp.ite_no (by decide) ?_⟩⟩
    refine ⟨_, rfl, .inl ⟨rfl, _, rfl, Fp.ite_no (by decide) ?_⟩⟩
    refine ⟨_, rfl, .inl ⟨rfl, _, rfl, Fp.ite_no (by decide) ?_⟩⟩
    refine ⟨_, rfl, .inl ⟨rfl, _, rfl, Fp.ite_ye (by decide) ?_⟩⟩
    exact ⟨_, rfl, rfl, fun d H3 s1 s2 s3 => hE (by decide) (by decide) d H3 s1 s2 s3⟩
  | 12, _, hE, hQ =>
    refine ⟨_, rfl, .inl ⟨rfl, _, rfl, Fp.ite_no (by decide) ?_⟩⟩
    refine ⟨_, rfl, .inl ⟨rfl, _, rfl, Fp.ite_no (by decide) ?_⟩⟩
    refine ⟨_, rfl, .inl ⟨rfl, _, rfl, Fp.ite_no (by decide) ?_⟩⟩
    refine ⟨_, rfl, .inl ⟨rfl, _, rfl, Fp.ite_no (by decide) ?_⟩⟩
    refine ⟨_, rfl, .inl ⟨rfl, _, rfl, Fp.ite_ye (by decide) ?_⟩⟩
    exact ⟨_, rfl, _, rfl, _, rfl, rfl, fun d H3 s1 s2 s3 => hE (by decide) (by decide) d H3 s1 s2 s3⟩
  | 13, _, hE, hQ =>
    refine ⟨_, rfl, .inl ⟨rfl, _, rfl, Fp.ite_no (by decide) ?_⟩⟩
    refine ⟨_, rfl, .inl ⟨rfl, _, rfl, Fp.ite_no (by decide) ?_⟩⟩
    refine ⟨_, rfl, .inl ⟨rfl, _, rfl, Fp.ite_no (by decide) ?_⟩⟩
    refine ⟨_, rfl, .inl ⟨rfl, _, rfl, Fp.ite_no (by decide) ?_⟩⟩
    refine ⟨_, rfl, .inl ⟨rfl, _, rfl, Fp.ite_no (by decide) ?_⟩⟩
    refine ⟨_, rfl, .inl ⟨rfl, _, rfl, Fp.ite_ye (by decide) ?_⟩⟩
    exact ⟨_, rfl, _, rfl, rfl, fun d H3 s1 s2 s3 => hE (by decide) (by decide) d H3 s1 s2 s3⟩
  | 14, _, hE, hQ =>
    refine ⟨_, rfl, .inl ⟨rfl, _, rfl, Fp.ite_no (by decide) ?_⟩⟩
    refine ⟨_, rfl, .inl ⟨rfl, _, rfl, Fp.ite_no (by decide) ?_⟩⟩
    refine ⟨_, rfl, .inl ⟨rfl, _, rfl, Fp.ite_no (by decide) ?_⟩⟩
    refine ⟨_, rfl, .inl ⟨rfl, _, rfl, Fp.ite_no (by decide) ?_⟩⟩
    refine ⟨_, rfl, .inl ⟨rfl, _, rfl, Fp.ite_no (by decide) ?_⟩⟩
    refine ⟨_, rfl, .inl ⟨rfl, _, rfl, Fp.ite_no (by decide) ?_⟩⟩
    refine ⟨_, rfl, .inl ⟨rfl, _, rfl, Fp.ite_ye (by decide) ?_⟩⟩
    exact hE (by decide) (by decide)
  | 15, _, hE, hQ =>
    refine ⟨_, rfl, .inl ⟨rfl, _, rfl, Fp.ite_no (by decide) ?_⟩⟩
    refine ⟨_, rfl, .inl ⟨rfl, _, rfl, Fp.ite_no (by decide) ?_⟩⟩
    refine ⟨_, rfl, .inl ⟨rfl, _, rfl, Fp.ite_no (by decide) ?_⟩⟩
    refine ⟨_, rfl, .inl ⟨rfl, _, rfl, Fp.ite_no (by decide) ?_⟩⟩
    refine ⟨_, rfl, .inl ⟨rfl, _, rfl, Fp.ite_no (by decide) ?_⟩⟩
    refine ⟨_, rfl, .inl ⟨rfl, _, rfl, Fp.ite_no (by decide) ?_⟩⟩
    refine ⟨_, rfl, .inl ⟨rfl, _, rfl, Fp.ite_no (by decide) ?_⟩⟩
    refine ⟨_, rfl, .inl ⟨rfl, _, rfl, Fp.ite_ye (by decide) ?_⟩⟩
    exact hE (by decide) (by decide)
  | _ + 16, hk, _, _ => exact absurd hk (by omega)
end
end K01
namespace K01
open PySem PySem.Spec PyProof.Rows L2 Fp
/-- what is told of the k-th error -/
def told (v1 v2 v3 : V) (t1 t2 : Str) : Nat → List V
  | 0 => [.str "number", v1, .str t2]
  | 1 => [.str "row", v1, .str t2]
  | 2 => [.str "table", v1]
  | 3 => [.str "poly", v1]
  | 4 => [.str "paper", v1]
  | 5 => [.str "badname", .str t1]
  | 6 => [.str "text", v1, v2]
  | 7 => [.str "place", v1, .str t2]
  | 8 => [.str "noname", .str t1]
  | 9 => [.str "taken", .str t1]
  | 10 => [.str "unlike", v1]
  | 11 => [.str "notthere", v1]
  | 12 => [.str "many", v1, v2, v3]
  | 13 => [.str "kept", v1, v2]
  | 14 => [.str "undo"]
  | _ => [.str "redo"]
/-- the fields of the k-th error as its own dict holds them -/
def fsOf (v1 v2 v3 : V) (k : Nat) : List (Str × V) := ((cfs k).zip (cargs v1 v2 v3 k)).reverse
def spKinds (K : PySem.W.Frag) (base : Heap) (lo hi : Nat) : Sp := fun vs H Q _ => ∃ (a : Addr) (k : Nat) (v1 v2 v3 : V) (d1 d2 : PyData), k < 16 ∧ vs = [.ref a] ∧ ExAt base H a (He.ga K (cname k)) (fsOf v1 v2 v3 k) ∧ Dt K H d1 v1 ∧ Gd 2 700 d1 ∧ Dt K H d2 v2 ∧ Gd 2 700 d2 ∧
  ∀ l t H', Same H H' → H l = none → H' l = some (.lst (if lo ≤ k ∧ k < hi then [.ref t] else [])) → (lo ≤ k → k < hi → H' t = some (.tup (told v1 v2 v3 d1.shown d2.shown k))) → Q (.ref l) H'
theorem ty_list {K : PySem.W.Frag} {H : Hp} {l : Addr} {xs : List V} (h : H l = some (.lst xs)) : tyV K "list" (.ref l) H := .inl ⟨rfl, _, .inl (.inl h)⟩
theorem Gd.rep {n W : Nat} {d : PyData} (g : Gd n W d) (h : n ≤ 100) (h2 : W ≤ 300000) : d.showable = true ∧ d.depth ≤ 100 ∧ d.shown.length ≤ sizeLine := ⟨g.sh, Nat.le_trans g.dp h, g.big h2⟩
section
variable {P : Program} {w : World} {K : PySem.W.Frag} {mg : Str → Option Value} {base : Heap} {f : Addr} {fd : FuncData}

abbrev s_law_more_kinds : Stmt := top 23
theorem sc_law_more_kinds : FnScope ["e", "found"] ["e"] (defScope s_law_more_kinds) := ⟨rfl, rfl, rfl, by decide +kernel, rfl, by decide +kernel, by decide +kernel⟩

theorem ok_law_more_kinds (F : FnP K "_law_more_kinds" s_law_more_kinds f fd) (A : Errs P w K mg base) (hm : ∃ o es ep, base.get? sysModules = some o ∧ o.data = .dict es ep) (g_isinstance : mg "isinstance" = none) (g_repr : mg "repr" = none) : FnC P w K mg base (L2.CX P w) 1 f fd ["e"] (spKinds K base 8 16) := by
  refine okC F sc_law_more_kinds (fun vs H Q E h => ?_) (fun cdv B outer s H vs Q E hr h => ?_)
  · obtain ⟨a, k, v1, v2, v3, d1, d2, _, rfl, _⟩ := h
    rfl
  have nd := sc_law_more_kinds.nd
  have hu := huC hr
  have c_NoName : ErrC K mg "NoName" _ := A.c 8 (by decide)
  have c_TakenName : ErrC K mg "TakenName" _ := A.c 9 (by decide)
  have c_Unlike : ErrC K mg "Unlike" _ := A.c 10 (by decide)
  have c_NotThere : ErrC K mg "NotThere" _ := A.c 11 (by decide)
  have c_TooMany : ErrC K mg "TooMany" _ := A.c 12 (by decide)
  have c_NotKept : ErrC K mg "NotKept" _ := A.c 13 (by decide)
  have c_NothingToUndo : ErrC K mg "NothingToUndo" _ := A.c 14 (by decide)
  have c_NothingToRedo : ErrC K mg "NothingToRedo" _ := A.c 15 (by decide)
  refine ⟨_, (pss_cons (ps_set (i := 1) nd rfl (.inl rfl) (pe_lst pa_nil))
  (pss_cons (ps_if (pt_val (pe_callB call_isX (by rfl) g_isinstance (by rfl) (pa_cons (pv 0) (pa_cons (pe_glob (by rfl) c_NoName.g relRef) pa_nil)))) (pss_one (ps_expr (pe_bm PySem.F.plainAttrs_list PySem.F.slot_list_append PySem.F.type_list_append mt_append (pv 1) (pa_cons (pe_tup (pa_cons pe_str (pa_cons (pe_callB (call_reprC hm hr) (by rfl) g_repr (by rfl) (pa_cons (pe_xat (pv 0)) pa_nil)) pa_nil))) pa_nil)))) pss_nil)
  (pss_cons (ps_if (pt_val (pe_callB call_isX (by rfl) g_isinstance (by rfl) (pa_cons (pv 0) (pa_cons (pe_glob (by rfl) c_TakenName.g relRef) pa_nil)))) (pss_one (ps_expr (pe_bm PySem.F.plainAttrs_list PySem.F.slot_list_append PySem.F.type_list_append mt_append (pv 1) (pa_cons (pe_tup (pa_cons pe_str (pa_cons (pe_callB (call_reprC hm hr) (by rfl) g_repr (by rfl) (pa_cons (pe_xat (pv 0)) pa_nil)) pa_nil))) pa_nil)))) pss_nil)
  (pss_cons (ps_if (pt_val (pe_callB call_isX (by rfl) g_isinstance (by rfl) (pa_cons (pv 0) (pa_cons (pe_glob (by rfl) c_Unlike.g relRef) pa_nil)))) (pss_one (ps_expr (pe_bm PySem.F.plainAttrs_list PySem.F.slot_list_append PySem.F.type_list_append mt_append (pv 1) (pa_cons (pe_tup (pa_cons pe_str (pa_cons (pe_xat (pv 0)) pa_nil))) pa_nil)))) pss_nil)
  (pss_cons (ps_if (pt_val (pe_callB call_isX (by rfl) g_isinstance (by rfl) (pa_cons (pv 0) (pa_cons (pe_glob (by rfl) c_NotThere.g relRef) pa_nil)))) (pss_one (ps_expr (pe_bm PySem.F.plainAttrs_list PySem.F.slot_list_append PySem.F.type_list_append mt_append (pv 1) (pa_cons (pe_tup (pa_cons pe_str (pa_cons (pe_xat (pv 0)) pa_nil))) pa_nil)))) pss_nil)
  (pss_cons (ps_if (pt_val (pe_callB call_isX (by rfl) g_isinstance (by rfl) (pa_cons (pv 0) (pa_cons (pe_glob (by rfl) c_TooMany.g relRef) pa_nil)))) (pss_one (ps_expr (pe_bm PySem.F.plainAttrs_list PySem.F.slot_list_append PySem.F.type_list_append mt_append (pv 1) (pa_cons (pe_tup (pa_cons pe_str (pa_cons (pe_xat (pv 0)) (pa_cons (pe_xat (pv 0)) (pa_cons (pe_xat (pv 0)) pa_nil))))) pa_nil)))) pss_nil)
  (pss_cons (ps_if (pt_val (pe_callB call_isX (by rfl) g_isinstance (by rfl) (pa_cons (pv 0) (pa_cons (pe_glob (by rfl) c_NotKept.g relRef) pa_nil)))) (pss_one (ps_expr (pe_bm PySem.F.plainAttrs_list PySem.F.slot_list_append PySem.F.type_list_append mt_append (pv 1) (pa_cons (pe_tup (pa_cons pe_str (pa_cons (pe_xat (pv 0)) (pa_cons (pe_xat (pv 0)) pa_nil)))) pa_nil)))) pss_nil)
  (pss_cons (ps_if (pt_val (pe_callB call_isX (by rfl) g_isinstance (by rfl) (pa_cons (pv 0) (pa_cons (pe_glob (by rfl) c_NothingToUndo.g relRef) pa_nil)))) (pss_one (ps_expr (pe_bm PySem.F.plainAttrs_list PySem.F.slot_list_append PySem.F.type_list_append mt_append (pv 1) (pa_cons (pe_tup (pa_cons pe_str pa_nil)) pa_nil)))) pss_nil)
  (pss_cons (ps_if (pt_val (pe_callB call_isX (by rfl) g_isinstance (by rfl) (pa_cons (pv 0) (pa_cons (pe_glob (by rfl) c_NothingToRedo.g relRef) pa_nil)))) (pss_one (ps_expr (pe_bm PySem.F.plainAttrs_list PySem.F.slot_list_append PySem.F.type_list_append mt_append (pv 1) (pa_cons (pe_tup (pa_cons pe_str pa_nil)) pa_nil)))) pss_nil)
  (pss_one (ps_ret (pv 1)))))))))))), ?_⟩
  obtain ⟨a, k, v1, v2, v3, d1, d2, hk, rfl, hx, hd1, g1, hd2, g2, q⟩ := h
  refine ⟨by show (0 : Nat) ≤ sizeLine; decide, fun l hl => ?_⟩
  have sm1 : Same H (upd H l (.lst [])) := same_new hl
  have hx1 := hx.mono sm1
  match k, hk, hx, hx1, q with
  | 0, _, hx, hx1, q =>
    refine ⟨_, rfl, a, _, _, _, _, _, rfl, hx1, (A.c 0 (by decide)).X, fun u r => r, A.is 0 8 (by decide) (by decide), _, rfl, ite_no (by decide) ?_⟩
    refine ⟨_, rfl, a, _, _, _, _, _, rfl, hx1, (A.c 0 (by decide)).X, fun u r => r, A.is 0 9 (by decide) (by decide), _, rfl, ite_no (by decide) ?_⟩
    refine ⟨_, rfl, a, _, _, _, _, _, rfl, hx1, (A.c 0 (by decide)).X, fun u r => r, A.is 0 10 (by decide) (by decide), _, rfl, ite_no (by decide) ?_⟩
    refine ⟨_, rfl, a, _, _, _, _, _, rfl, hx1, (A.c 0 (by decide)).X, fun u r => r, A.is 0 11 (by decide) (by decide), _, rfl, ite_no (by decide) ?_⟩
    refine ⟨_, rfl, a, _, _, _, _, _, rfl, hx1, (A.c 0 (by decide)).X, fun u r => r, A.is 0 12 (by decide) (by decide), _, rfl, ite_no (by decide) ?_⟩
    refine ⟨_, rfl, a, _, _, _, _, _, rfl, hx1, (A.c 0 (by decide)).X, fun u r => r, A.is 0 13 (by decide) (by decide), _, rfl, ite_no (by decide) ?_⟩
    refine ⟨_, rfl, a, _, _, _, _, _, rfl, hx1, (A.c 0 (by decide)).X, fun u r => r, A.is 0 14 (by decide) (by decide), _, rfl, ite_no (by decide) ?_⟩
    refine ⟨_, rfl, a, _, _, _, _, _, rfl, hx1, (A.c 0 (by decide)).X, fun u r => r, A.is 0 15 (by decide) (by decide), _, rfl, ite_no (by decide) ?_⟩
    exact ⟨_, rfl, q l 0 _ sm1 hl upd_same fun z => absurd z (by decide)⟩
  | 1, _, hx, hx1, q =>
    refine ⟨_, rfl, a, _, _, _, _, _, rfl, hx1, (A.c 1 (by decide)).X, fun u r => r, A.is 1 8 (by decide) (by decide), _, rfl, ite_no (by decide) ?_⟩
    refine ⟨_, rfl, a, _, _, _, _, _, rfl, hx1, (A.c 1 (by decide)).X, fun u r => r, A.is 1 9 (by decide) (by decide), _, rfl, ite_no (by decide) ?_⟩
    refine ⟨_, rfl, a, _, _, _, _, _, rfl, hx1, (A.c 1 (by decide)).X, fun u r => r, A.is 1 10 (by decide) (by decide), _, rfl, ite_no (by decide) ?_⟩
    refine ⟨_, rfl, a, _, _, _, _, _, rfl, hx1, (A.c 1 (by decide)).X, fun u r => r, A.is 1 11 (by decide) (by decide), _, rfl, ite_no (by decide) ?_⟩
    refine ⟨_, rfl, a, _, _, _, _, _, rfl, hx1, (A.c 1 (by decide)).X, fun u r => r, A.is 1 12 (by decide) (by decide), _, rfl, ite_no (by decide) ?_⟩
    refine ⟨_, rfl, a, _, _, _, _, _, rfl, hx1, (A.c 1 (by decide)).X, fun u r => r, A.is 1 13 (by decide) (by decide), _, rfl, ite_no (by decide) ?_⟩
    refine ⟨_, rfl, a, _, _, _, _, _, rfl, hx1, (A.c 1 (by decide)).X, fun u r => r, A.is 1 14 (by decide) (by decide), _, rfl, ite_no (by decide) ?_⟩
    refine ⟨_, rfl, a, _, _, _, _, _, rfl, hx1, (A.c 1 (by decide)).X, fun u r => r, A.is 1 15 (by decide) (by decide), _, rfl, ite_no (by decide) ?_⟩
    exact ⟨_, rfl, q l 0 _ sm1 hl upd_same fun z => absurd z (by decide)⟩
  | 2, _, hx, hx1, q =>
    refine ⟨_, rfl, a, _, _, _, _, _, rfl, hx1, (A.c 2 (by decide)).X, fun u r => r, A.is 2 8 (by decide) (by decide), _, rfl, ite_no (by decide) ?_⟩
    refine ⟨_, rfl, a, _, _, _, _, _, rfl, hx1, (A.c 2 (by decide)).X, fun u r => r, A.is 2 9 (by decide) (by decide), _, rfl, ite_no (by decide) ?_⟩
    refine ⟨_, rfl, a, _, _, _, _, _, rfl, hx1, (A.c 2 (by decide)).X, fun u r => r, A.is 2 10 (by decide) (by decide), _, rfl, ite_no (by decide) ?_⟩
    refine ⟨_, rfl, a, _, _, _, _, _, rfl, hx1, (A.c 2 (by decide)).X, fun u r => r, A.is 2 11 (by decide) (by decide), _, rfl, ite_no (by decide) ?_⟩
    refine ⟨_, rfl, a, _, _, _, _, _, rfl, hx1, (A.c 2 (by decide)).X, fun u r => r, A.is 2 12 (by decide) (by decide), _, rfl, ite_no (by decide) ?_⟩
    refine ⟨_, rfl, a, _, _, _, _, _, rfl, hx1, (A.c 2 (by decide)).X, fun u r => r, A.is 2 13 (by decide) (by decide), _, rfl, ite_no (by decide) ?_⟩
    refine ⟨_, rfl, a, _, _, _, _, _, rfl, hx1, (A.c 2 (by decide)).X, fun u r => r, A.is 2 14 (by decide) (by decide), _, rfl, ite_no (by decide) ?_⟩
    refine ⟨_, rfl, a, _, _, _, _, _, rfl, hx1, (A.c 2 (by decide)).X, fun u r => r, A.is 2 15 (by decide) (by decide), _, rfl, ite_no (by decide) ?_⟩
    exact ⟨_, rfl, q l 0 _ sm1 hl upd_same fun z => absurd z (by decide)⟩
  | 3, _, hx, hx1, q =>
    refine ⟨_, rfl, a, _, _, _, _, _, rfl, hx1, (A.c 3 (by decide)).X, fun u r => r, A.is 3 8 (by decide) (by decide), _, rfl, ite_no (by decide) ?_⟩
    refine ⟨_, rfl, a, _, _, _, _, _, rfl, hx1, (A.c 3 (by decide)).X, fun u r => r, A.is 3 9 (by decide) (by decide), _, rfl, ite_no (by decide) ?_⟩
    refine ⟨_, rfl, a, _, _, _, _, _, rfl, hx1, (A.c 3 (by decide)).X, fun u r => r, A.is 3 10 (by decide) (by decide), _, rfl, ite_no (by decide) ?_⟩
    refine ⟨_, rfl, a, _, _, _, _, _, rfl, hx1, (A.c 3 (by decide)).X, fun u r => r, A.is 3 11 (by decide) (by decide), _, rfl, ite_no (by decide) ?_⟩
    refine ⟨_, rfl, a, _, _, _, _, _, rfl, hx1, (A.c 3 (by decide)).X, fun u r => r, A.is 3 12 (by decide) (by decide), _, rfl, ite_no (by decide) ?_⟩
    refine ⟨_, rfl, a, _, _, _, _, _, rfl, hx1, (A.c 3 (by decide)).X, fun u r => r, A.is 3 13 (by decide) (by decide), _, rfl, ite_no (by decide) ?_⟩
    refine ⟨_, rfl, a, _, _, _, _, _, rfl, hx1, (A.c 3 (by decide)).X, fun u r => r, A.is 3 14 (by decide) (by decide), _, rfl, ite_no (by decide) ?_⟩
    refine ⟨_, rfl, a, _, _, _, _, _, rfl, hx1, (A.c 3 (by decide)).X, fun u r => r, A.is 3 15 (by decide) (by decide), _, rfl, ite_no (by decide) ?_⟩
    exact ⟨_, rfl, q l 0 _ sm1 hl upd_same fun z => absurd z (by decide)⟩
  | 4, _, hx, hx1, q =>
    refine ⟨_, rfl, a, _, _, _, _, _, rfl, hx1, (A.c 4 (by decide)).X, fun u r => r, A.is 4 8 (by decide) (by decide), _, rfl, ite_no (by decide) ?_⟩
    refine ⟨_, rfl, a, _, _, _, _, _, rfl, hx1, (A.c 4 (by decide)).X, fun u r => r, A.is 4 9 (by decide) (by decide), _, rfl, ite_no (by decide) ?_⟩
    refine ⟨_, rfl, a, _, _, _, _, _, rfl, hx1, (A.c 4 (by decide)).X, fun u r => r, A.is 4 10 (by decide) (by decide), _, rfl, ite_no (by decide) ?_⟩
    refine ⟨_, rfl, a, _, _, _, _, _, rfl, hx1, (A.c 4 (by decide)).X, fun u r => r, A.is 4 11 (by decide) (by decide), _, rfl, ite_no (by decide) ?_⟩
    refine ⟨_, rfl, a, _, _, _, _, _, rfl, hx1, (A.c 4 (by decide)).X, fun u r => r, A.is 4 12 (by decide) (by decide), _, rfl, ite_no (by decide) ?_⟩
    refine ⟨_, rfl, a, _, _, _, _, _, rfl, hx1, (A.c 4 (by decide)).X, fun u r => r, A.is 4 13 (by decide) (by decide), _, rfl, ite_no (by decide) ?_⟩
    refine ⟨_, rfl, a, _, _, _, _, _, rfl, hx1, (A.c 4 (by decide)).X, fun u r => r, A.is 4 14 (by decide) (by decide), _, rfl, ite_no (by decide) ?_⟩
    refine ⟨_, rfl, a, _, _, _, _, _, rfl, hx1, (A.c 4 (by decide)).X, fun u r => r, A.is 4 15 (by decide) (by decide), _, rfl, ite_no (by decide) ?_⟩
    exact ⟨_, rfl, q l 0 _ sm1 hl upd_same fun z => absurd z (by decide)⟩
  | 5, _, hx, hx1, q =>
    refine ⟨_, rfl, a, _, _, _, _, _, rfl, hx1, (A.c 5 (by decide)).X, fun u r => r, A.is 5 8 (by decide) (by decide), _, rfl, ite_no (by decide) ?_⟩
    refine ⟨_, rfl, a, _, _, _, _, _, rfl, hx1, (A.c 5 (by decide)).X, fun u r => r, A.is 5 9 (by decide) (by decide), _, rfl, ite_no (by decide) ?_⟩
    refine ⟨_, rfl, a, _, _, _, _, _, rfl, hx1, (A.c 5 (by decide)).X, fun u r => r, A.is 5 10 (by decide) (by decide), _, rfl, ite_no (by decide) ?_⟩
    refine ⟨_, rfl, a, _, _, _, _, _, rfl, hx1, (A.c 5 (by decide)).X, fun u r => r, A.is 5 11 (by decide) (by decide), _, rfl, ite_no (by decide) ?_⟩
    refine ⟨_, rfl, a, _, _, _, _, _, rfl, hx1, (A.c 5 (by decide)).X, fun u r => r, A.is 5 12 (by decide) (by decide), _, rfl, ite_no (by decide) ?_⟩
    refine ⟨_, rfl, a, _, _, _, _, _, rfl, hx1, (A.c 5 (by decide)).X, fun u r => r, A.is 5 13 (by decide) (by decide), _, rfl, ite_no (by decide) ?_⟩
    refine ⟨_, rfl, a, _, _, _, _, _, rfl, hx1, (A.c 5 (by decide)).X, fun u r => r, A.is 5 14 (by decide) (by decide), _, rfl, ite_no (by decide) ?_⟩
    refine ⟨_, rfl, a, _, _, _, _, _, rfl, hx1, (A.c 5 (by decide)).X, fun u r => r, A.is 5 15 (by decide) (by decide), _, rfl, ite_no (by decide) ?_⟩
    exact ⟨_, rfl, q l 0 _ sm1 hl upd_same fun z => absurd z (by decide)⟩
  | 6, _, hx, hx1, q =>
    refine ⟨_, rfl, a, _, _, _, _, _, rfl, hx1, (A.c 6 (by decide)).X, fun u r => r, A.is 6 8 (by decide) (by decide), _, rfl, ite_no (by decide) ?_⟩
    refine ⟨_, rfl, a, _, _, _, _, _, rfl, hx1, (A.c 6 (by decide)).X, fun u r => r, A.is 6 9 (by decide) (by decide), _, rfl, ite_no (by decide) ?_⟩
    refine ⟨_, rfl, a, _, _, _, _, _, rfl, hx1, (A.c 6 (by decide)).X, fun u r => r, A.is 6 10 (by decide) (by decide), _, rfl, ite_no (by decide) ?_⟩
    refine ⟨_, rfl, a, _, _, _, _, _, rfl, hx1, (A.c 6 (by decide)).X, fun u r => r, A.is 6 11 (by decide) (by decide), _, rfl, ite_no (by decide) ?_⟩
    refine ⟨_, rfl, a, _, _, _, _, _, rfl, hx1, (A.c 6 (by decide)).X, fun u r => r, A.is 6 12 (by decide) (by decide), _, rfl, ite_no (by decide) ?_⟩
    refine ⟨_, rfl, a, _, _, _, _, _, rfl, hx1, (A.c 6 (by decide)).X, fun u r => r, A.is 6 13 (by decide) (by decide), _, rfl, ite_no (by decide) ?_⟩
    refine ⟨_, rfl, a, _, _, _, _, _, rfl, hx1, (A.c 6 (by decide)).X, fun u r => r, A.is 6 14 (by decide) (by decide), _, rfl, ite_no (by decide) ?_⟩
    refine ⟨_, rfl, a, _, _, _, _, _, rfl, hx1, (A.c 6 (by decide)).X, fun u r => r, A.is 6 15 (by decide) (by decide), _, rfl, ite_no (by decide) ?_⟩
    exact ⟨_, rfl, q l 0 _ sm1 hl upd_same fun z => absurd z (by decide)⟩
  | 7, _, hx, hx1, q =>
    refine ⟨_, rfl, a, _, _, _, _, _, rfl, hx1, (A.c 7 (by decide)).X, fun u r => r, A.is 7 8 (by decide) (by decide), _, rfl, ite_no (by decide) ?_⟩
    refine ⟨_, rfl, a, _, _, _, _, _, rfl, hx1, (A.c 7 (by decide)).X, fun u r => r, A.is 7 9 (by decide) (by decide), _, rfl, ite_no (by decide) ?_⟩
    refine ⟨_, rfl, a, _, _, _, _, _, rfl, hx1, (A.c 7 (by decide)).X, fun u r => r, A.is 7 10 (by decide) (by decide), _, rfl, ite_no (by decide) ?_⟩
    refine ⟨_, rfl, a, _, _, _, _, _, rfl, hx1, (A.c 7 (by decide)).X, fun u r => r, A.is 7 11 (by decide) (by decide), _, rfl, ite_no (by decide) ?_⟩
    refine ⟨_, rfl, a, _, _, _, _, _, rfl, hx1, (A.c 7 (by decide)).X, fun u r => r, A.is 7 12 (by decide) (by decide), _, rfl, ite_no (by decide) ?_⟩
    refine ⟨_, rfl, a, _, _, _, _, _, rfl, hx1, (A.c 7 (by decide)).X, fun u r => r, A.is 7 13 (by decide) (by decide), _, rfl, ite_no (by decide) ?_⟩
    refine ⟨_, rfl, a, _, _, _, _, _, rfl, hx1, (A.c 7 (by decide)).X, fun u r => r, A.is 7 14 (by decide) (by decide), _, rfl, ite_no (by decide) ?_⟩
    refine ⟨_, rfl, a, _, _, _, _, _, rfl, hx1, (A.c 7 (by decide)).X, fun u r => r, A.is 7 15 (by decide) (by decide), _, rfl, ite_no (by decide) ?_⟩
    exact ⟨_, rfl, q l 0 _ sm1 hl upd_same fun z => absurd z (by decide)⟩
  | 8, _, hx, hx1, q =>
    refine ⟨_, rfl, a, _, _, _, _, _, rfl, hx1, (A.c 8 (by decide)).X, fun u r => r, A.is 8 8 (by decide) (by decide), _, rfl, ite_ye (by decide) ?_⟩
    refine ⟨_, rfl, ty_list upd_same, ?_⟩
    refine ⟨_, rfl, a, _, _, _, rfl, hx1, (A.c 8 (by decide)).X, A.no 8 _ (by decide) (by decide), rfl, ?_⟩
    refine ⟨_, d1, rfl, hd1.mono sm1, (Gd.rep g1 (by decide) (by decide)).1, (Gd.rep g1 (by decide) (by decide)).2.1, (Gd.rep g1 (by decide) (by decide)).2.2, ?_⟩
    refine ⟨by show (2 : Nat) ≤ sizeLine; decide, fun t ht => ?_⟩
    have htl : t ≠ l := fun z => by rw [z, upd_same] at ht; cases ht
    have ht0 : H t = none := by rw [upd_ne htl] at ht; exact ht
    refine ⟨l, [], _, rfl, rfl, by rw [upd_ne (Ne.symm htl), upd_same], by show (0 : Nat) < sizeLine; decide, ?_⟩
    have sm2 : Same H (upd (upd (upd H l (.lst [])) t (.tup (told v1 v2 v3 d1.shown d2.shown 8))) l (.lst ([] ++ [V.ref t]))) := fun b o e => by rw [upd_ne (ne_of_none e hl), upd_ne (ne_of_none e ht0), upd_ne (ne_of_none e hl)]; exact e
    have hx2 := hx.mono sm2
    refine ⟨_, rfl, a, _, _, _, _, _, rfl, hx2, (A.c 8 (by decide)).X, fun u r => r, A.is 8 9 (by decide) (by decide), _, rfl, ite_no (by decide) ?_⟩
    refine ⟨_, rfl, a, _, _, _, _, _, rfl, hx2, (A.c 8 (by decide)).X, fun u r => r, A.is 8 10 (by decide) (by decide), _, rfl, ite_no (by decide) ?_⟩
    refine ⟨_, rfl, a, _, _, _, _, _, rfl, hx2, (A.c 8 (by decide)).X, fun u r => r, A.is 8 11 (by decide) (by decide), _, rfl, ite_no (by decide) ?_⟩
    refine ⟨_, rfl, a, _, _, _, _, _, rfl, hx2, (A.c 8 (by decide)).X, fun u r => r, A.is 8 12 (by decide) (by decide), _, rfl, ite_no (by decide) ?_⟩
    refine ⟨_, rfl, a, _, _, _, _, _, rfl, hx2, (A.c 8 (by decide)).X, fun u r => r, A.is 8 13 (by decide) (by decide), _, rfl, ite_no (by decide) ?_⟩
    refine ⟨_, rfl, a, _, _, _, _, _, rfl, hx2, (A.c 8 (by decide)).X, fun u r => r, A.is 8 14 (by decide) (by decide), _, rfl, ite_no (by decide) ?_⟩
    refine ⟨_, rfl, a, _, _, _, _, _, rfl, hx2, (A.c 8 (by decide)).X, fun u r => r, A.is 8 15 (by decide) (by decide), _, rfl, ite_no (by decide) ?_⟩
    exact ⟨_, rfl, q l t _ sm2 hl upd_same fun _ _ => by rw [upd_ne htl, upd_same]; rfl⟩
  | 9, _, hx, hx1, q =>
    refine ⟨_, rfl, a, _, _, _, _, _, rfl, hx1, (A.c 9 (by decide)).X, fun u r => r, A.is 9 8 (by decide) (by decide), _, rfl, ite_no (by decide) ?_⟩
    refine ⟨_, rfl, a, _, _, _, _, _, rfl, hx1, (A.c 9 (by decide)).X, fun u r => r, A.is 9 9 (by decide) (by decide), _, rfl, ite_ye (by decide) ?_⟩
    refine ⟨_, rfl, ty_list upd_same, ?_⟩
    refine ⟨_, rfl, a, _, _, _, rfl, hx1, (A.c 9 (by decide)).X, A.no 9 _ (by decide) (by decide), rfl, ?_⟩
    refine ⟨_, d1, rfl, hd1.mono sm1, (Gd.rep g1 (by decide) (by decide)).1, (Gd.rep g1 (by decide) (by decide)).2.1, (Gd.rep g1 (by decide) (by decide)).2.2, ?_⟩
    refine ⟨by show (2 : Nat) ≤ sizeLine; decide, fun t ht => ?_⟩
    have htl : t ≠ l := fun z => by rw [z, upd_same] at ht; cases ht
    have ht0 : H t = none := by rw [upd_ne htl] at ht; exact ht
    refine ⟨l, [], _, rfl, rfl, by rw [upd_ne (Ne.symm htl), upd_same], by show (0 : Nat) < sizeLine; decide, ?_⟩
    have sm2 : Same H (upd (upd (upd H l (.lst [])) t (.tup (told v1 v2 v3 d1.shown d2.shown 9))) l (.lst ([] ++ [V.ref t]))) := fun b o e => by rw [upd_ne (ne_of_none e hl), upd_ne (ne_of_none e ht0), upd_ne (ne_of_none e hl)]; exact e
    have hx2 := hx.mono sm2
    refine ⟨_, rfl, a, _, _, _, _, _, rfl, hx2, (A.c 9 (by decide)).X, fun u r => r, A.is 9 10 (by decide) (by decide), _, rfl, ite_no (by decide) ?_⟩
    refine ⟨_, rfl, a, _, _, _, _, _, rfl, hx2, (A.c 9 (by decide)).X, fun u r => r, A.is 9 11 (by decide) (by decide), _, rfl, ite_no (by decide) ?_⟩
    refine ⟨_, rfl, a, _, _, _, _, _, rfl, hx2, (A.c 9 (by decide)).X, fun u r => r, A.is 9 12 (by decide) (by decide), _, rfl, ite_no (by decide) ?_⟩
    refine ⟨_, rfl, a, _, _, _, _, _, rfl, hx2, (A.c 9 (by decide)).X, fun u r => r, A.is 9 13 (by decide) (by decide), _, rfl, ite_no (by decide) ?_⟩
    refine ⟨_, rfl, a, _, _, _, _, _, rfl, hx2, (A.c 9 (by decide)).X, fun u r => r, A.is 9 14 (by decide) (by decide), _, rfl, ite_no (by decide) ?_⟩
    refine ⟨_, rfl, a, _, _, _, _, _, rfl, hx2, (A.c 9 (by decide)).X, fun u r => r, A.is 9 15 (by decide) (by decide), _, rfl, ite_no (by decide) ?_⟩
    exact ⟨_, rfl, q l t _ sm2 hl upd_same fun _ _ => by rw [upd_ne htl, upd_same]; rfl⟩
  | 10, _, hx, hx1, q =>
    refine ⟨_, rfl, a, _, _, _, _, _, rfl, hx1, (A.c 10 (by decide)).X, fun u r => r, A.is 10 8 (by decide) (by decide), _, rfl, ite_no (by decide) ?_⟩
    refine ⟨_, rfl, a, _, _, _, _, _, rfl, hx1, (A.c 10 (by decide)).X, fun u r => r, A.is 10 9 (by decide) (by decide), _, rfl, ite_no (by decide) ?_⟩
    refine ⟨_, rfl, a, _, _, _, _, _, rfl, hx1, (A.c 10 (by decide)).X, fun u r => r, A.is 10 10 (by decide) (by decide), _, rfl, ite_ye (by decide) ?_⟩
    refine ⟨_, rfl, ty_list upd_same, ?_⟩
    refine ⟨_, rfl, a, _, _, _, rfl, hx1, (A.c 10 (by decide)).X, A.no 10 _ (by decide) (by decide), rfl, ?_⟩
    refine ⟨by show (2 : Nat) ≤ sizeLine; decide, fun t ht => ?_⟩
    have htl : t ≠ l := fun z => by rw [z, upd_same] at ht; cases ht
    have ht0 : H t = none := by rw [upd_ne htl] at ht; exact ht
    refine ⟨l, [], _, rfl, rfl, by rw [upd_ne (Ne.symm htl), upd_same], by show (0 : Nat) < sizeLine; decide, ?_⟩
    have sm2 : Same H (upd (upd (upd H l (.lst [])) t (.tup (told v1 v2 v3 d1.shown d2.shown 10))) l (.lst ([] ++ [V.ref t]))) := fun b o e => by rw [upd_ne (ne_of_none e hl), upd_ne (ne_of_none e ht0), upd_ne (ne_of_none e hl)]; exact e
    have hx2 := hx.mono sm2
    refine ⟨_, rfl, a, _, _, _, _, _, rfl, hx2, (A.c 10 (by decide)).X, fun u r => r, A.is 10 11 (by decide) (by decide), _, rfl, ite_no (by decide) ?_⟩
    refine ⟨_, rfl, a, _, _, _, _, _, rfl, hx2, (A.c 10 (by decide)).X, fun u r => r, A.is 10 12 (by decide) (by decide), _, rfl, ite_no (by decide) ?_⟩
    refine ⟨_, rfl, a, _, _, _, _, _, rfl, hx2, (A.c 10 (by decide)).X, fun u r => r, A.is 10 13 (by decide) (by decide), _, rfl, ite_no (by decide) ?_⟩
    refine ⟨_, rfl, a, _, _, _, _, _, rfl, hx2, (A.c 10 (by decide)).X, fun u r => r, A.is 10 14 (by decide) (by decide), _, rfl, ite_no (by decide) ?_⟩
    refine ⟨_, rfl, a, _, _, _, _, _, rfl, hx2, (A.c 10 (by decide)).X, fun u r => r, A.is 10 15 (by decide) (by decide), _, rfl, ite_no (by decide) ?_⟩
    exact ⟨_, rfl, q l t _ sm2 hl upd_same fun _ _ => by rw [upd_ne htl, upd_same]; rfl⟩
  | 11, _, hx, hx1, q =>
    refine ⟨_, rfl, a, _, _, _, _, _, rfl, hx1, (A.c 11 (by decide)).X, fun u r => r, A.is 11 8 (by decide) (by decide), _, rfl, ite_no (by decide) ?_⟩
    refine ⟨_, rfl, a, _, _, _, _, _, rfl, hx1, (A.c 11 (by decide)).X, fun u r => r, A.is 11 9 (by decide) (by decide), _, rfl, ite_no (by decide) ?_⟩
    refine ⟨_, rfl, a, _, _, _, _, _, rfl, hx1, (A.c 11 (by decide)).X, fun u r => r, A.is 11 10 (by decide) (by decide), _, rfl, ite_no (by decide) ?_⟩
    refine ⟨_, rfl, a, _, _, _, _, _, rfl, hx1, (A.c 11 (by decide)).X, fun u r => r, A.is 11 11 (by decide) (by decide), _, rfl, ite_ye (by decide) ?_⟩
    refine ⟨_, rfl, ty_list upd_same, ?_⟩
    refine ⟨_, rfl, a, _, _, _, rfl, hx1, (A.c 11 (by decide)).X, A.no 11 _ (by decide) (by decide), rfl, ?_⟩
    refine ⟨by show (2 : Nat) ≤ sizeLine; decide, fun t ht => ?_⟩
    have htl : t ≠ l := fun z => by rw [z, upd_same] at ht; cases ht
    have ht0 : H t = none := by rw [upd_ne htl] at ht; exact ht
    refine ⟨l, [], _, rfl, rfl, by rw [upd_ne (Ne.symm htl), upd_same], by show (0 : Nat) < sizeLine; decide, ?_⟩
    have sm2 : Same H (upd (upd (upd H l (.lst [])) t (.tup (told v1 v2 v3 d1.shown d2.shown 11))) l (.lst ([] ++ [V.ref t]))) := fun b o e => by rw [upd_ne (ne_of_none e hl), upd_ne (ne_of_none e ht0), upd_ne (ne_of_none e hl)]; exact e
    have hx2 := hx.mono sm2
    refine ⟨_, rfl, a, _, _, _, _, _, rfl, hx2, (A.c 11 (by decide)).X, fun u r => r, A.is 11 12 (by decide) (by decide), _, rfl, ite_no (by decide) ?_⟩
    refine ⟨_, rfl, a, _, _, _, _, _, rfl, hx2, (A.c 11 (by decide)).X, fun u r => r, A.is 11 13 (by decide) (by decide), _, rfl, ite_no (by decide) ?_⟩
    refine ⟨_, rfl, a, _, _, _, _, _, rfl, hx2, (A.c 11 (by decide)).X, fun u r => r, A.is 11 14 (by decide) (by decide), _, rfl, ite_no (by decide) ?_⟩
    refine ⟨_, rfl, a, _, _, _, _, _, rfl, hx2, (A.c 11 (by decide)).X, fun u r => r, A.is 11 15 (by decide) (by decide), _, rfl, ite_no (by decide) ?_⟩
    exact ⟨_, rfl, q l t _ sm2 hl upd_same fun _ _ => by rw [upd_ne htl, upd_same]; rfl⟩
  | 12, _, hx, hx1, q =>
    refine ⟨_, rfl, a, _, _, _, _, _, rfl, hx1, (A.c 12 (by decide)).X, fun u r => r, A.is 12 8 (by decide) (by decide), _, rfl, ite_no (by decide) ?_⟩
    refine ⟨_, rfl, a, _, _, _, _, _, rfl, hx1, (A.c 12 (by decide)).X, fun u r => r, A.is 12 9 (by decide) (by decide), _, rfl, ite_no (by decide) ?_⟩
    refine ⟨_, rfl, a, _, _, _, _, _, rfl, hx1, (A.c 12 (by decide)).X, fun u r => r, A.is 12 10 (by decide) (by decide), _, rfl, ite_no (by decide) ?_⟩
    refine ⟨_, rfl, a, _, _, _, _, _, rfl, hx1, (A.c 12 (by decide)).X, fun u r => r, A.is 12 11 (by decide) (by decide), _, rfl, ite_no (by decide) ?_⟩
    refine ⟨_, rfl, a, _, _, _, _, _, rfl, hx1, (A.c 12 (by decide)).X, fun u r => r, A.is 12 12 (by decide) (by decide), _, rfl, ite_ye (by decide) ?_⟩
    refine ⟨_, rfl, ty_list upd_same, ?_⟩
    refine ⟨_, rfl, a, _, _, _, rfl, hx1, (A.c 12 (by decide)).X, A.no 12 _ (by decide) (by decide), rfl, ?_⟩
    refine ⟨_, rfl, a, _, _, _, rfl, hx1, (A.c 12 (by decide)).X, A.no 12 _ (by decide) (by decide), rfl, ?_⟩
    refine ⟨_, rfl, a, _, _, _, rfl, hx1, (A.c 12 (by decide)).X, A.no 12 _ (by decide) (by decide), rfl, ?_⟩
    refine ⟨by show (4 : Nat) ≤ sizeLine; decide, fun t ht => ?_⟩
    have htl : t ≠ l := fun z => by rw [z, upd_same] at ht; cases ht
    have ht0 : H t = none := by rw [upd_ne htl] at ht; exact ht
    refine ⟨l, [], _, rfl, rfl, by rw [upd_ne (Ne.symm htl), upd_same], by show (0 : Nat) < sizeLine; decide, ?_⟩
    have sm2 : Same H (upd (upd (upd H l (.lst [])) t (.tup (told v1 v2 v3 d1.shown d2.shown 12))) l (.lst ([] ++ [V.ref t]))) := fun b o e => by rw [upd_ne (ne_of_none e hl), upd_ne (ne_of_none e ht0), upd_ne (ne_of_none e hl)]; exact e
    have hx2 := hx.mono sm2
    refine ⟨_, rfl, a, _, _, _, _, _, rfl, hx2, (A.c 12 (by decide)).X, fun u r => r, A.is 12 13 (by decide) (by decide), _, rfl, ite_no (by decide) ?_⟩
    refine ⟨_, rfl, a, _, _, _, _, _, rfl, hx2, (A.c 12 (by decide)).X, fun u r => r, A.is 12 14 (by decide) (by decide), _, rfl, ite_no (by decide) ?_⟩
    refine ⟨_, rfl, a, _, _, _, _, _, rfl, hx2, (A.c 12 (by decide)).X, fun u r => r, A.is 12 15 (by decide) (by decide), _, rfl, ite_no (by decide) ?_⟩
    exact ⟨_, rfl, q l t _ sm2 hl upd_same fun _ _ => by rw [upd_ne htl, upd_same]; rfl⟩
  | 13, _, hx, hx1, q =>
    refine ⟨_, rfl, a, _, _, _, _, _, rfl, hx1, (A.c 13 (by decide)).X, fun u r => r, A.is 13 8 (by decide) (by decide), _, rfl, ite_no (by decide) ?_⟩
    refine ⟨_, rfl, a, _, _, _, _, _, rfl, hx1, (A.c 13 (by decide)).X, fun u r => r, A.is 13 9 (by decide) (by decide), _, rfl, ite_no (by decide) ?_⟩
    refine ⟨_, rfl, a, _, _, _, _, _, rfl, hx1, (A.c 13 (by decide)).X, fun u r => r, A.is 13 10 (by decide) (by decide), _, rfl, ite_no (by decide) ?_⟩
    refine ⟨_, rfl, a, _, _, _, _, _, rfl, hx1, (A.c 13 (by decide)).X, fun u r => r, A.is 13 11 (by decide) (by decide), _, rfl, ite_no (by decide) ?_⟩
    refine ⟨_, rfl, a, _, _, _, _, _, rfl, hx1, (A.c 13 (by decide)).X, fun u r => r, A.is 13 12 (by decide) (by decide), _, rfl, ite_no (by decide) ?_⟩
    refine ⟨_, rfl, a, _, _, _, _, _, rfl, hx1, (A.c 13 (by decide)).X, fun u r => r, A.is 13 13 (by decide) (by decide), _, rfl, ite_ye (by decide) ?_⟩
    refine ⟨_, rfl, ty_list upd_same, ?_⟩
    refine ⟨_, rfl, a, _, _, _, rfl, hx1, (A.c 13 (by decide)).X, A.no 13 _ (by decide) (by decide), rfl, ?_⟩
    refine ⟨_, rfl, a, _, _, _, rfl, hx1, (A.c 13 (by decide)).X, A.no 13 _ (by decide) (by decide), rfl, ?_⟩
    refine ⟨by show (3 : Nat) ≤ sizeLine; decide, fun t ht => ?_⟩
    have htl : t ≠ l := fun z => by rw [z, upd_same] at ht; cases ht
    have ht0 : H t = none := by rw [upd_ne htl] at ht; exact ht
    refine ⟨l, [], _, rfl, rfl, by rw [upd_ne (Ne.symm htl), upd_same], by show (0 : Nat) < sizeLine; decide, ?_⟩
    have sm2 : Same H (upd (upd (upd H l (.lst [])) t (.tup (told v1 v2 v3 d1.shown d2.shown 13))) l (.lst ([] ++ [V.ref t]))) := fun b o e => by rw [upd_ne (ne_of_none e hl), upd_ne (ne_of_none e ht0), upd_ne (ne_of_none e hl)]; exact e
    have hx2 := hx.mono sm2
    refine ⟨_, rfl, a, _, _, _, _, _, rfl, hx2, (A.c 13 (by decide)).X, fun u r => r, A.is 13 14 (by decide) (by decide), _, rfl, ite_no (by decide) ?_⟩
    refine ⟨_, rfl, a, _, _, _, _, _, rfl, hx2, (A.c 13 (by decide)).X, fun u r => r, A.is 13 15 (by decide) (by decide), _, rfl, ite_no (by decide) ?_⟩
    exact ⟨_, rfl, q l t _ sm2 hl upd_same fun _ _ => by rw [upd_ne htl, upd_same]; rfl⟩
  | 14, _, hx, hx1, q =>
    refine ⟨_, rfl, a, _, _, _, _, _, rfl, hx1, (A.c 14 (by decide)).X, fun u r => r, A.is 14 8 (by decide) (by decide), _, rfl, ite_no (by decide) ?_⟩
    refine ⟨_, rfl, a, _, _, _, _, _, rfl, hx1, (A.c 14 (by decide)).X, fun u r => r, A.is 14 9 (by decide) (by decide), _, rfl, ite_no (by decide) ?_⟩
    refine ⟨_, rfl, a, _, _, _, _, _, rfl, hx1, (A.c 14 (by decide)).X, fun u r => r, A.is 14 10 (by decide) (by decide), _, rfl, ite_no (by decide) ?_⟩
    refine ⟨_, rfl, a, _, _, _, _, _, rfl, hx1, (A.c 14 (by decide)).X, fun u r => r, A.is 14 11 (by decide) (by decide), _, rfl, ite_no (by decide) ?_⟩
    refine ⟨_, rfl, a, _, _, _, _, _, rfl, hx1, (A.c 14 (by decide)).X, fun u r => r, A.is 14 12 (by decide) (by decide), _, rfl, ite_no (by decide) ?_⟩
    refine ⟨_, rfl, a, _, _, _, _, _, rfl, hx1, (A.c 14 (by decide)).X, fun u r => r, A.is 14 13 (by decide) (by decide), _, rfl, ite_no (by decide) ?_⟩
    refine ⟨_, rfl, a, _, _, _, _, _, rfl, hx1, (A.c 14 (by decide)).X, fun u r => r, A.is 14 14 (by decide) (by decide), _, rfl, ite_ye (by decide) ?_⟩
    refine ⟨_, rfl, ty_list upd_same, ?_⟩
    refine ⟨by show (1 : Nat) ≤ sizeLine; decide, fun t ht => ?_⟩
    have htl : t ≠ l := fun z => by rw [z, upd_same] at ht; cases ht
    have ht0 : H t = none := by rw [upd_ne htl] at ht; exact ht
    refine ⟨l, [], _, rfl, rfl, by rw [upd_ne (Ne.symm htl), upd_same], by show (0 : Nat) < sizeLine; decide, ?_⟩
    have sm2 : Same H (upd (upd (upd H l (.lst [])) t (.tup (told v1 v2 v3 d1.shown d2.shown 14))) l (.lst ([] ++ [V.ref t]))) := fun b o e => by rw [upd_ne (ne_of_none e hl), upd_ne (ne_of_none e ht0), upd_ne (ne_of_none e hl)]; exact e
    have hx2 := hx.mono sm2
    refine ⟨_, rfl, a, _, _, _, _, _, rfl, hx2, (A.c 14 (by decide)).X, fun u r => r, A.is 14 15 (by decide) (by decide), _, rfl, ite_no (by decide) ?_⟩
    exact ⟨_, rfl, q l t _ sm2 hl upd_same fun _ _ => by rw [upd_ne htl, upd_same]; rfl⟩
  | 15, _, hx, hx1, q =>
    refine ⟨_, rfl, a, _, _, _, _, _, rfl, hx1, (A.c 15 (by decide)).X, fun u r => r, A.is 15 8 (by decide) (by decide), _, rfl, ite_no (by decide) ?_⟩
    refine ⟨_, rfl, a, _, _, _, _, _, rfl, hx1, (A.c 15 (by decide)).X, fun u r => r, A.is 15 9 (by decide) (by decide), _, rfl, ite_no (by decide) ?_⟩
    refine ⟨_, rfl, a, _, _, _, _, _, rfl, hx1, (A.c 15 (by decide)).X, fun u r => r, A.is 15 10 (by decide) (by decide), _, rfl, ite_no (by decide) ?_⟩
    refine ⟨_, rfl, a, _, _, _, _, _, rfl, hx1, (A.c 15 (by decide)).X, fun u r => r, A.is 15 11 (by decide) (by decide), _, rfl, ite_no (by decide) ?_⟩
    refine ⟨_, rfl, a, _, _, _, _, _, rfl, hx1, (A.c 15 (by decide)).X, fun u r => r, A.is 15 12 (by decide) (by decide), _, rfl, ite_no (by decide) ?_⟩
    refine ⟨_, rfl, a, _, _, _, _, _, rfl, hx1, (A.c 15 (by decide)).X, fun u r => r, A.is 15 13 (by decide) (by decide), _, rfl, ite_no (by decide) ?_⟩
    refine ⟨_, rfl, a, _, _, _, _, _, rfl, hx1, (A.c 15 (by decide)).X, fun u r => r, A.is 15 14 (by decide) (by decide), _, rfl, ite_no (by decide) ?_⟩
    refine ⟨_, rfl, a, _, _, _, _, _, rfl, hx1, (A.c 15 (by decide)).X, fun u r => r, A.is 15 15 (by decide) (by decide), _, rfl, ite_ye (by decide) ?_⟩
    refine ⟨_, rfl, ty_list upd_same, ?_⟩
    refine ⟨by show (1 : Nat) ≤ sizeLine; decide, fun t ht => ?_⟩
    have htl : t ≠ l := fun z => by rw [z, upd_same] at ht; cases ht
    have ht0 : H t = none := by rw [upd_ne htl] at ht; exact ht
    refine ⟨l, [], _, rfl, rfl, by rw [upd_ne (Ne.symm htl), upd_same], by show (0 : Nat) < sizeLine; decide, ?_⟩
    have sm2 : Same H (upd (upd (upd H l (.lst [])) t (.tup (told v1 v2 v3 d1.shown d2.shown 15))) l (.lst ([] ++ [V.ref t]))) := fun b o e => by rw [upd_ne (ne_of_none e hl), upd_ne (ne_of_none e ht0), upd_ne (ne_of_none e hl)]; exact e
    have hx2 := hx.mono sm2
    exact ⟨_, rfl, q l t _ sm2 hl upd_same fun _ _ => by rw [upd_ne htl, upd_same]; rfl⟩
  | _ + 16, hk, _, _, _ => exact absurd hk (by omega)
abbrev s_law_kinds : Stmt := top 22
theorem sc_law_kinds : FnScope ["e", "found"] ["e"] (defScope s_law_kinds) := ⟨rfl, rfl, rfl, by decide +kernel, rfl, by decide +kernel, by decide +kernel⟩

theorem ok_law_kinds (F : FnP K "_law_kinds" s_law_kinds f fd) (A : Errs P w K mg base) (hm : ∃ o es ep, base.get? sysModules = some o ∧ o.data = .dict es ep) (g_isinstance : mg "isinstance" = none) (g_repr : mg "repr" = none) (p__law_more_kinds : PrC P w K mg base "_law_more_kinds" 1 ["e"] (spKinds K base 8 16)) : FnC P w K mg base (L2.CX P w) 2 f fd ["e"] (spKinds K base 0 16) := by
  refine okC F sc_law_kinds (fun vs H Q E h => ?_) (fun cdv B outer s H vs Q E hr h => ?_)
  · obtain ⟨a, k, v1, v2, v3, d1, d2, _, rfl, _⟩ := h
    rfl
  have nd := sc_law_kinds.nd
  have hu := huC hr
  have c_BadNumber : ErrC K mg "BadNumber" _ := A.c 0 (by decide)
  have c_BadRow : ErrC K mg "BadRow" _ := A.c 1 (by decide)
  have c_BadTable : ErrC K mg "BadTable" _ := A.c 2 (by decide)
  have c_BadPoly : ErrC K mg "BadPoly" _ := A.c 3 (by decide)
  have c_BadPaper : ErrC K mg "BadPaper" _ := A.c 4 (by decide)
  have c_BadName : ErrC K mg "BadName" _ := A.c 5 (by decide)
  have c_BadText : ErrC K mg "BadText" _ := A.c 6 (by decide)
  have c_NoPlace : ErrC K mg "NoPlace" _ := A.c 7 (by decide)
  refine ⟨_, (pss_cons (ps_set (i := 1) nd rfl (.inl rfl) (pe_lst pa_nil))
  (pss_cons (ps_if (pt_val (pe_callB call_isX (by rfl) g_isinstance (by rfl) (pa_cons (pv 0) (pa_cons (pe_glob (by rfl) c_BadNumber.g relRef) pa_nil)))) (pss_one (ps_expr (pe_bm PySem.F.plainAttrs_list PySem.F.slot_list_append PySem.F.type_list_append mt_append (pv 1) (pa_cons (pe_tup (pa_cons pe_str (pa_cons (pe_xat (pv 0)) (pa_cons (pe_callB (call_reprC hm hr) (by rfl) g_repr (by rfl) (pa_cons (pe_xat (pv 0)) pa_nil)) pa_nil)))) pa_nil)))) pss_nil)
  (pss_cons (ps_if (pt_val (pe_callB call_isX (by rfl) g_isinstance (by rfl) (pa_cons (pv 0) (pa_cons (pe_glob (by rfl) c_BadRow.g relRef) pa_nil)))) (pss_one (ps_expr (pe_bm PySem.F.plainAttrs_list PySem.F.slot_list_append PySem.F.type_list_append mt_append (pv 1) (pa_cons (pe_tup (pa_cons pe_str (pa_cons (pe_xat (pv 0)) (pa_cons (pe_callB (call_reprC hm hr) (by rfl) g_repr (by rfl) (pa_cons (pe_xat (pv 0)) pa_nil)) pa_nil)))) pa_nil)))) pss_nil)
  (pss_cons (ps_if (pt_val (pe_callB call_isX (by rfl) g_isinstance (by rfl) (pa_cons (pv 0) (pa_cons (pe_glob (by rfl) c_BadTable.g relRef) pa_nil)))) (pss_one (ps_expr (pe_bm PySem.F.plainAttrs_list PySem.F.slot_list_append PySem.F.type_list_append mt_append (pv 1) (pa_cons (pe_tup (pa_cons pe_str (pa_cons (pe_xat (pv 0)) pa_nil))) pa_nil)))) pss_nil)
  (pss_cons (ps_if (pt_val (pe_callB call_isX (by rfl) g_isinstance (by rfl) (pa_cons (pv 0) (pa_cons (pe_glob (by rfl) c_BadPoly.g relRef) pa_nil)))) (pss_one (ps_expr (pe_bm PySem.F.plainAttrs_list PySem.F.slot_list_append PySem.F.type_list_append mt_append (pv 1) (pa_cons (pe_tup (pa_cons pe_str (pa_cons (pe_xat (pv 0)) pa_nil))) pa_nil)))) pss_nil)
  (pss_cons (ps_if (pt_val (pe_callB call_isX (by rfl) g_isinstance (by rfl) (pa_cons (pv 0) (pa_cons (pe_glob (by rfl) c_BadPaper.g relRef) pa_nil)))) (pss_one (ps_expr (pe_bm PySem.F.plainAttrs_list PySem.F.slot_list_append PySem.F.type_list_append mt_append (pv 1) (pa_cons (pe_tup (pa_cons pe_str (pa_cons (pe_xat (pv 0)) pa_nil))) pa_nil)))) pss_nil)
  (pss_cons (ps_if (pt_val (pe_callB call_isX (by rfl) g_isinstance (by rfl) (pa_cons (pv 0) (pa_cons (pe_glob (by rfl) c_BadName.g relRef) pa_nil)))) (pss_one (ps_expr (pe_bm PySem.F.plainAttrs_list PySem.F.slot_list_append PySem.F.type_list_append mt_append (pv 1) (pa_cons (pe_tup (pa_cons pe_str (pa_cons (pe_callB (call_reprC hm hr) (by rfl) g_repr (by rfl) (pa_cons (pe_xat (pv 0)) pa_nil)) pa_nil))) pa_nil)))) pss_nil)
  (pss_cons (ps_if (pt_val (pe_callB call_isX (by rfl) g_isinstance (by rfl) (pa_cons (pv 0) (pa_cons (pe_glob (by rfl) c_BadText.g relRef) pa_nil)))) (pss_one (ps_expr (pe_bm PySem.F.plainAttrs_list PySem.F.slot_list_append PySem.F.type_list_append mt_append (pv 1) (pa_cons (pe_tup (pa_cons pe_str (pa_cons (pe_xat (pv 0)) (pa_cons (pe_xat (pv 0)) pa_nil)))) pa_nil)))) pss_nil)
  (pss_cons (ps_if (pt_val (pe_callB call_isX (by rfl) g_isinstance (by rfl) (pa_cons (pv 0) (pa_cons (pe_glob (by rfl) c_NoPlace.g relRef) pa_nil)))) (pss_one (ps_expr (pe_bm PySem.F.plainAttrs_list PySem.F.slot_list_append PySem.F.type_list_append mt_append (pv 1) (pa_cons (pe_tup (pa_cons pe_str (pa_cons (pe_xat (pv 0)) (pa_cons (pe_callB (call_reprC hm hr) (by rfl) g_repr (by rfl) (pa_cons (pe_xat (pv 0)) pa_nil)) pa_nil)))) pa_nil)))) pss_nil)
  (pss_one (ps_ret (pe_op opAdd (pv 1) (pe_callPC p__law_more_kinds (hr.mono (by decide)) (by rfl) (fun σ => passAt (takes_of rfl rfl rfl rfl) σ) (pa_cons (pv 0) pa_nil)))))))))))))), ?_⟩
  obtain ⟨a, k, v1, v2, v3, d1, d2, hk, rfl, hx, hd1, g1, hd2, g2, q⟩ := h
  refine ⟨by show (0 : Nat) ≤ sizeLine; decide, fun l hl => ?_⟩
  have sm1 : Same H (upd H l (.lst [])) := same_new hl
  have hx1 := hx.mono sm1
  match k, hk, hx, hx1, q with
  | 0, _, hx, hx1, q =>
    refine ⟨_, rfl, a, _, _, _, _, _, rfl, hx1, (A.c 0 (by decide)).X, fun u r => r, A.is 0 0 (by decide) (by decide), _, rfl, ite_ye (by decide) ?_⟩
    refine ⟨_, rfl, ty_list upd_same, ?_⟩
    refine ⟨_, rfl, a, _, _, _, rfl, hx1, (A.c 0 (by decide)).X, A.no 0 _ (by decide) (by decide), rfl, ?_⟩
    refine ⟨_, rfl, a, _, _, _, rfl, hx1, (A.c 0 (by decide)).X, A.no 0 _ (by decide) (by decide), rfl, ?_⟩
    refine ⟨_, d2, rfl, hd2.mono sm1, (Gd.rep g2 (by decide) (by decide)).1, (Gd.rep g2 (by decide) (by decide)).2.1, (Gd.rep g2 (by decide) (by decide)).2.2, ?_⟩
    refine ⟨by show (3 : Nat) ≤ sizeLine; decide, fun t ht => ?_⟩
    have htl : t ≠ l := fun z => by rw [z, upd_same] at ht; cases ht
    have ht0 : H t = none := by rw [upd_ne htl] at ht; exact ht
    refine ⟨l, [], _, rfl, rfl, by rw [upd_ne (Ne.symm htl), upd_same], by show (0 : Nat) < sizeLine; decide, ?_⟩
    have sm2 : Same H (upd (upd (upd H l (.lst [])) t (.tup (told v1 v2 v3 d1.shown d2.shown 0))) l (.lst ([] ++ [V.ref t]))) := fun b o e => by rw [upd_ne (ne_of_none e hl), upd_ne (ne_of_none e ht0), upd_ne (ne_of_none e hl)]; exact e
    have hx2 := hx.mono sm2
    refine ⟨_, rfl, a, _, _, _, _, _, rfl, hx2, (A.c 0 (by decide)).X, fun u r => r, A.is 0 1 (by decide) (by decide), _, rfl, ite_no (by decide) ?_⟩
    refine ⟨_, rfl, a, _, _, _, _, _, rfl, hx2, (A.c 0 (by decide)).X, fun u r => r, A.is 0 2 (by decide) (by decide), _, rfl, ite_no (by decide) ?_⟩
    refine ⟨_, rfl, a, _, _, _, _, _, rfl, hx2, (A.c 0 (by decide)).X, fun u r => r, A.is 0 3 (by decide) (by decide), _, rfl, ite_no (by decide) ?_⟩
    refine ⟨_, rfl, a, _, _, _, _, _, rfl, hx2, (A.c 0 (by decide)).X, fun u r => r, A.is 0 4 (by decide) (by decide), _, rfl, ite_no (by decide) ?_⟩
    refine ⟨_, rfl, a, _, _, _, _, _, rfl, hx2, (A.c 0 (by decide)).X, fun u r => r, A.is 0 5 (by decide) (by decide), _, rfl, ite_no (by decide) ?_⟩
    refine ⟨_, rfl, a, _, _, _, _, _, rfl, hx2, (A.c 0 (by decide)).X, fun u r => r, A.is 0 6 (by decide) (by decide), _, rfl, ite_no (by decide) ?_⟩
    refine ⟨_, rfl, a, _, _, _, _, _, rfl, hx2, (A.c 0 (by decide)).X, fun u r => r, A.is 0 7 (by decide) (by decide), _, rfl, ite_no (by decide) ?_⟩
    refine ⟨_, rfl, ?_⟩
    refine ⟨_, rfl, a, 0, v1, v2, v3, d1, d2, by decide, rfl, hx2, hd1.mono sm2, g1, hd2.mono sm2, g2, fun m t2 H2 s2 m0 hm2 ht2 => ?_⟩
    have hl2 := s2 l _ upd_same
    refine .inr (.inl ⟨l, m, _, _, rfl, rfl, hl2, hm2, by show (1 : Nat) ≤ sizeLine; decide, fun r hr0 => ?_⟩)
    have s3 := (sm2.trans s2).trans (same_new (o := .lst ([V.ref t] ++ [])) hr0)
    refine q r t _ s3 ((sm2.trans s2).free hr0) upd_same fun _ _ => ?_
    refine same_new hr0 _ _ (s2 t _ ?_)
    rw [upd_ne htl, upd_same]; rfl
  | 1, _, hx, hx1, q =>
    refine ⟨_, rfl, a, _, _, _, _, _, rfl, hx1, (A.c 1 (by decide)).X, fun u r => r, A.is 1 0 (by decide) (by decide), _, rfl, ite_no (by decide) ?_⟩
    refine ⟨_, rfl, a, _, _, _, _, _, rfl, hx1, (A.c 1 (by decide)).X, fun u r => r, A.is 1 1 (by decide) (by decide), _, rfl, ite_ye (by decide) ?_⟩
    refine ⟨_, rfl, ty_list upd_same, ?_⟩
    refine ⟨_, rfl, a, _, _, _, rfl, hx1, (A.c 1 (by decide)).X, A.no 1 _ (by decide) (by decide), rfl, ?_⟩
    refine ⟨_, rfl, a, _, _, _, rfl, hx1, (A.c 1 (by decide)).X, A.no 1 _ (by decide) (by decide), rfl, ?_⟩
    refine ⟨_, d2, rfl, hd2.mono sm1, (Gd.rep g2 (by decide) (by decide)).1, (Gd.rep g2 (by decide) (by decide)).2.1, (Gd.rep g2 (by decide) (by decide)).2.2, ?_⟩
    refine ⟨by show (3 : Nat) ≤ sizeLine; decide, fun t ht => ?_⟩
    have htl : t ≠ l := fun z => by rw [z, upd_same] at ht; cases ht
    have ht0 : H t = none := by rw [upd_ne htl] at ht; exact ht
    refine ⟨l, [], _, rfl, rfl, by rw [upd_ne (Ne.symm htl), upd_same], by show (0 : Nat) < sizeLine; decide, ?_⟩
    have sm2 : Same H (upd (upd (upd H l (.lst [])) t (.tup (told v1 v2 v3 d1.shown d2.shown 1))) l (.lst ([] ++ [V.ref t]))) := fun b o e => by rw [upd_ne (ne_of_none e hl), upd_ne (ne_of_none e ht0), upd_ne (ne_of_none e hl)]; exact e
    have hx2 := hx.mono sm2
    refine ⟨_, rfl, a, _, _, _, _, _, rfl, hx2, (A.c 1 (by decide)).X, fun u r => r, A.is 1 2 (by decide) (by decide), _, rfl, ite_no (by decide) ?_⟩
    refine ⟨_, rfl, a, _, _, _, _, _, rfl, hx2, (A.c 1 (by decide)).X, fun u r => r, A.is 1 3 (by decide) (by decide), _, rfl, ite_no (by decide) ?_⟩
    refine ⟨_, rfl, a, _, _, _, _, _, rfl, hx2, (A.c 1 (by decide)).X, fun u r => r, A.is 1 4 (by decide) (by decide), _, rfl, ite_no (by decide) ?_⟩
    refine ⟨_, rfl, a, _, _, _, _, _, rfl, hx2, (A.c 1 (by decide)).X, fun u r => r, A.is 1 5 (by decide) (by decide), _, rfl, ite_no (by decide) ?_⟩
    refine ⟨_, rfl, a, _, _, _, _, _, rfl, hx2, (A.c 1 (by decide)).X, fun u r => r, A.is 1 6 (by decide) (by decide), _, rfl, ite_no (by decide) ?_⟩
    refine ⟨_, rfl, a, _, _, _, _, _, rfl, hx2, (A.c 1 (by decide)).X, fun u r => r, A.is 1 7 (by decide) (by decide), _, rfl, ite_no (by decide) ?_⟩
    refine ⟨_, rfl, ?_⟩
    refine ⟨_, rfl, a, 1, v1, v2, v3, d1, d2, by decide, rfl, hx2, hd1.mono sm2, g1, hd2.mono sm2, g2, fun m t2 H2 s2 m0 hm2 ht2 => ?_⟩
    have hl2 := s2 l _ upd_same
    refine .inr (.inl ⟨l, m, _, _, rfl, rfl, hl2, hm2, by show (1 : Nat) ≤ sizeLine; decide, fun r hr0 => ?_⟩)
    have s3 := (sm2.trans s2).trans (same_new (o := .lst ([V.ref t] ++ [])) hr0)
    refine q r t _ s3 ((sm2.trans s2).free hr0) upd_same fun _ _ => ?_
    refine same_new hr0 _ _ (s2 t _ ?_)
    rw [upd_ne htl, upd_same]; rfl
  | 2, _, hx, hx1, q =>
    refine ⟨_, rfl, a, _, _, _, _, _, rfl, hx1, (A.c 2 (by decide)).X, fun u r => r, A.is 2 0 (by decide) (by decide), _, rfl, ite_no (by decide) ?_⟩
    refine ⟨_, rfl, a, _, _, _, _, _, rfl, hx1, (A.c 2 (by decide)).X, fun u r => r, A.is 2 1 (by decide) (by decide), _, rfl, ite_no (by decide) ?_⟩
    refine ⟨_, rfl, a, _, _, _, _, _, rfl, hx1, (A.c 2 (by decide)).X, fun u r => r, A.is 2 2 (by decide) (by decide), _, rfl, ite_ye (by decide) ?_⟩
    refine ⟨_, rfl, ty_list upd_same, ?_⟩
    refine ⟨_, rfl, a, _, _, _, rfl, hx1, (A.c 2 (by decide)).X, A.no 2 _ (by decide) (by decide), rfl, ?_⟩
    refine ⟨by show (2 : Nat) ≤ sizeLine; decide, fun t ht => ?_⟩
    have htl : t ≠ l := fun z => by rw [z, upd_same] at ht; cases ht
    have ht0 : H t = none := by rw [upd_ne htl] at ht; exact ht
    refine ⟨l, [], _, rfl, rfl, by rw [upd_ne (Ne.symm htl), upd_same], by show (0 : Nat) < sizeLine; decide, ?_⟩
    have sm2 : Same H (upd (upd (upd H l (.lst [])) t (.tup (told v1 v2 v3 d1.shown d2.shown 2))) l (.lst ([] ++ [V.ref t]))) := fun b o e => by rw [upd_ne (ne_of_none e hl), upd_ne (ne_of_none e ht0), upd_ne (ne_of_none e hl)]; exact e
    have hx2 := hx.mono sm2
    refine ⟨_, rfl, a, _, _, _, _, _, rfl, hx2, (A.c 2 (by decide)).X, fun u r => r, A.is 2 3 (by decide) (by decide), _, rfl, ite_no (by decide) ?_⟩
    refine ⟨_, rfl, a, _, _, _, _, _, rfl, hx2, (A.c 2 (by decide)).X, fun u r => r, A.is 2 4 (by decide) (by decide), _, rfl, ite_no (by decide) ?_⟩
    refine ⟨_, rfl, a, _, _, _, _, _, rfl, hx2, (A.c 2 (by decide)).X, fun u r => r, A.is 2 5 (by decide) (by decide), _, rfl, ite_no (by decide) ?_⟩
    refine ⟨_, rfl, a, _, _, _, _, _, rfl, hx2, (A.c 2 (by decide)).X, fun u r => r, A.is 2 6 (by decide) (by decide), _, rfl, ite_no (by decide) ?_⟩
    refine ⟨_, rfl, a, _, _, _, _, _, rfl, hx2, (A.c 2 (by decide)).X, fun u r => r, A.is 2 7 (by decide) (by decide), _, rfl, ite_no (by decide) ?_⟩
    refine ⟨_, rfl, ?_⟩
    refine ⟨_, rfl, a, 2, v1, v2, v3, d1, d2, by decide, rfl, hx2, hd1.mono sm2, g1, hd2.mono sm2, g2, fun m t2 H2 s2 m0 hm2 ht2 => ?_⟩
    have hl2 := s2 l _ upd_same
    refine .inr (.inl ⟨l, m, _, _, rfl, rfl, hl2, hm2, by show (1 : Nat) ≤ sizeLine; decide, fun r hr0 => ?_⟩)
    have s3 := (sm2.trans s2).trans (same_new (o := .lst ([V.ref t] ++ [])) hr0)
    refine q r t _ s3 ((sm2.trans s2).free hr0) upd_same fun _ _ => ?_
    refine same_new hr0 _ _ (s2 t _ ?_)
    rw [upd_ne htl, upd_same]; rfl
  | 3, _, hx, hx1, q =>
    refine ⟨_, rfl, a, _, _, _, _, _, rfl, hx1, (A.c 3 (by decide)).X, fun u r => r, A.is 3 0 (by decide) (by decide), _, rfl, ite_no (by decide) ?_⟩
    refine ⟨_, rfl, a, _, _, _, _, _, rfl, hx1, (A.c 3 (by decide)).X, fun u r => r, A.is 3 1 (by decide) (by decide), _, rfl, ite_no (by decide) ?_⟩
    refine ⟨_, rfl, a, _, _, _, _, _, rfl, hx1, (A.c 3 (by decide)).X, fun u r => r, A.is 3 2 (by decide) (by decide), _, rfl, ite_no (by decide) ?_⟩
    refine ⟨_, rfl, a, _, _, _, _, _, rfl, hx1, (A.c 3 (by decide)).X, fun u r => r, A.is 3 3 (by decide) (by decide), _, rfl, ite_ye (by decide) ?_⟩
    refine ⟨_, rfl, ty_list upd_same, ?_⟩
    refine ⟨_, rfl, a, _, _, _, rfl, hx1, (A.c 3 (by decide)).X, A.no 3 _ (by decide) (by decide), rfl, ?_⟩
    refine ⟨by show (2 : Nat) ≤ sizeLine; decide, fun t ht => ?_⟩
    have htl : t ≠ l := fun z => by rw [z, upd_same] at ht; cases ht
    have ht0 : H t = none := by rw [upd_ne htl] at ht; exact ht
    refine ⟨l, [], _, rfl, rfl, by rw [upd_ne (Ne.symm htl), upd_same], by show (0 : Nat) < sizeLine; decide, ?_⟩
    have sm2 : Same H (upd (upd (upd H l (.lst [])) t (.tup (told v1 v2 v3 d1.shown d2.shown 3))) l (.lst ([] ++ [V.ref t]))) := fun b o e => by rw [upd_ne (ne_of_none e hl), upd_ne (ne_of_none e ht0), upd_ne (ne_of_none e hl)]; exact e
    have hx2 := hx.mono sm2
    refine ⟨_, rfl, a, _, _, _, _, _, rfl, hx2, (A.c 3 (by decide)).X, fun u r => r, A.is 3 4 (by decide) (by decide), _, rfl, ite_no (by decide) ?_⟩
    refine ⟨_, rfl, a, _, _, _, _, _, rfl, hx2, (A.c 3 (by decide)).X, fun u r => r, A.is 3 5 (by decide) (by decide), _, rfl, ite_no (by decide) ?_⟩
    refine ⟨_, rfl, a, _, _, _, _, _, rfl, hx2, (A.c 3 (by decide)).X, fun u r => r, A.is 3 6 (by decide) (by decide), _, rfl, ite_no (by decide) ?_⟩
    refine ⟨_, rfl, a, _, _, _, _, _, rfl, hx2, (A.c 3 (by decide)).X, fun u r => r, A.is 3 7 (by decide) (by decide), _, rfl, ite_no (by decide) ?_⟩
    refine ⟨_, rfl, ?_⟩
    refine ⟨_, rfl, a, 3, v1, v2, v3, d1, d2, by decide, rfl, hx2, hd1.mono sm2, g1, hd2.mono sm2, g2, fun m t2 H2 s2 m0 hm2 ht2 => ?_⟩
    have hl2 := s2 l _ upd_same
    refine .inr (.inl ⟨l, m, _, _, rfl, rfl, hl2, hm2, by show (1 : Nat) ≤ sizeLine; decide, fun r hr0 => ?_⟩)
    have s3 := (sm2.trans s2).trans (same_new (o := .lst ([V.ref t] ++ [])) hr0)
    refine q r t _ s3 ((sm2.trans s2).free hr0) upd_same fun _ _ => ?_
    refine same_new hr0 _ _ (s2 t _ ?_)
    rw [upd_ne htl, upd_same]; rfl
  | 4, _, hx, hx1, q =>
    refine ⟨_, rfl, a, _, _, _, _, _, rfl, hx1, (A.c 4 (by decide)).X, fun u r => r, A.is 4 0 (by decide) (by decide), _, rfl, ite_no (by decide) ?_⟩
    refine ⟨_, rfl, a, _, _, _, _, _, rfl, hx1, (A.c 4 (by decide)).X, fun u r => r, A.is 4 1 (by decide) (by decide), _, rfl, ite_no (by decide) ?_⟩
    refine ⟨_, rfl, a, _, _, _, _, _, rfl, hx1, (A.c 4 (by decide)).X, fun u r => r, A.is 4 2 (by decide) (by decide), _, rfl, ite_no (by decide) ?_⟩
    refine ⟨_, rfl, a, _, _, _, _, _, rfl, hx1, (A.c 4 (by decide)).X, fun u r => r, A.is 4 3 (by decide) (by decide), _, rfl, ite_no (by decide) ?_⟩
    refine ⟨_, rfl, a, _, _, _, _, _, rfl, hx1, (A.c 4 (by decide)).X, fun u r => r, A.is 4 4 (by decide) (by decide), _, rfl, ite_ye (by decide) ?_⟩
    refine ⟨_, rfl, ty_list upd_same, ?_⟩
    refine ⟨_, rfl, a, _, _, _, rfl, hx1, (A.c 4 (by decide)).X, A.no 4 _ (by decide) (by decide), rfl, ?_⟩
    refine ⟨by show (2 : Nat) ≤ sizeLine; decide, fun t ht => ?_⟩
    have htl : t ≠ l := fun z => by rw [z, upd_same] at ht; cases ht
    have ht0 : H t = none := by rw [upd_ne htl] at ht; exact ht
    refine ⟨l, [], _, rfl, rfl, by rw [upd_ne (Ne.symm htl), upd_same], by show (0 : Nat) < sizeLine; decide, ?_⟩
    have sm2 : Same H (upd (upd (upd H l (.lst [])) t (.tup (told v1 v2 v3 d1.shown d2.shown 4))) l (.lst ([] ++ [V.ref t]))) := fun b o e => by rw [upd_ne (ne_of_none e hl), upd_ne (ne_of_none e ht0), upd_ne (ne_of_none e hl)]; exact e
    have hx2 := hx.mono sm2
    refine ⟨_, rfl, a, _, _, _, _, _, rfl, hx2, (A.c 4 (by decide)).X, fun u r => r, A.is 4 5 (by decide) (by decide), _, rfl, ite_no (by decide) ?_⟩
    refine ⟨_, rfl, a, _, _, _, _, _, rfl, hx2, (A.c 4 (by decide)).X, fun u r => r, A.is 4 6 (by decide) (by decide), _, rfl, ite_no (by decide) ?_⟩
    refine ⟨_, rfl, a, _, _, _, _, _, rfl, hx2, (A.c 4 (by decide)).X, fun u r => r, A.is 4 7 (by decide) (by decide), _, rfl, ite_no (by decide) ?_⟩
    refine ⟨_, rfl, ?_⟩
    refine ⟨_, rfl, a, 4, v1, v2, v3, d1, d2, by decide, rfl, hx2, hd1.mono sm2, g1, hd2.mono sm2, g2, fun m t2 H2 s2 m0 hm2 ht2 => ?_⟩
    have hl2 := s2 l _ upd_same
    refine .inr (.inl ⟨l, m, _, _, rfl, rfl, hl2, hm2, by show (1 : Nat) ≤ sizeLine; decide, fun r hr0 => ?_⟩)
    have s3 := (sm2.trans s2).trans (same_new (o := .lst ([V.ref t] ++ [])) hr0)
    refine q r t _ s3 ((sm2.trans s2).free hr0) upd_same fun _ _ => ?_
    refine same_new hr0 _ _ (s2 t _ ?_)
    rw [upd_ne htl, upd_same]; rfl
  | 5, _, hx, hx1, q =>
    refine ⟨_, rfl, a, _, _, _, _, _, rfl, hx1, (A.c 5 (by decide)).X, fun u r => r, A.is 5 0 (by decide) (by decide), _, rfl, ite_no (by decide) ?_⟩
    refine ⟨_, rfl, a, _, _, _, _, _, rfl, hx1, (A.c 5 (by decide)).X, fun u r => r, A.is 5 1 (by decide) (by decide), _, rfl, ite_no (by decide) ?_⟩
    refine ⟨_, rfl, a, _, _, _, _, _, rfl, hx1, (A.c 5 (by decide)).X, fun u r => r, A.is 5 2 (by decide) (by decide), _, rfl, ite_no (by decide) ?_⟩
    refine ⟨_, rfl, a, _, _, _, _, _, rfl, hx1, (A.c 5 (by decide)).X, fun u r => r, A.is 5 3 (by decide) (by decide), _, rfl, ite_no (by decide) ?_⟩
    refine ⟨_, rfl, a, _, _, _, _, _, rfl, hx1, (A.c 5 (by decide)).X, fun u r => r, A.is 5 4 (by decide) (by decide), _, rfl, ite_no (by decide) ?_⟩
    refine ⟨_, rfl, a, _, _, _, _, _, rfl, hx1, (A.c 5 (by decide)).X, fun u r => r, A.is 5 5 (by decide) (by decide), _, rfl, ite_ye (by decide) ?_⟩
    refine ⟨_, rfl, ty_list upd_same, ?_⟩
    refine ⟨_, rfl, a, _, _, _, rfl, hx1, (A.c 5 (by decide)).X, A.no 5 _ (by decide) (by decide), rfl, ?_⟩
    refine ⟨_, d1, rfl, hd1.mono sm1, (Gd.rep g1 (by decide) (by decide)).1, (Gd.rep g1 (by decide) (by decide)).2.1, (Gd.rep g1 (by decide) (by decide)).2.2, ?_⟩
    refine ⟨by show (2 : Nat) ≤ sizeLine; decide, fun t ht => ?_⟩
    have htl : t ≠ l := fun z => by rw [z, upd_same] at ht; cases ht
    have ht0 : H t = none := by rw [upd_ne htl] at ht; exact ht
    refine ⟨l, [], _, rfl, rfl, by rw [upd_ne (Ne.symm htl), upd_same], by show (0 : Nat) < sizeLine; decide, ?_⟩
    have sm2 : Same H (upd (upd (upd H l (.lst [])) t (.tup (told v1 v2 v3 d1.shown d2.shown 5))) l (.lst ([] ++ [V.ref t]))) := fun b o e => by rw [upd_ne (ne_of_none e hl), upd_ne (ne_of_none e ht0), upd_ne (ne_of_none e hl)]; exact e
    have hx2 := hx.mono sm2
    refine ⟨_, rfl, a, _, _, _, _, _, rfl, hx2, (A.c 5 (by decide)).X, fun u r => r, A.is 5 6 (by decide) (by decide), _, rfl, ite_no (by decide) ?_⟩
    refine ⟨_, rfl, a, _, _, _, _, _, rfl, hx2, (A.c 5 (by decide)).X, fun u r => r, A.is 5 7 (by decide) (by decide), _, rfl, ite_no (by decide) ?_⟩
    refine ⟨_, rfl, ?_⟩
    refine ⟨_, rfl, a, 5, v1, v2, v3, d1, d2, by decide, rfl, hx2, hd1.mono sm2, g1, hd2.mono sm2, g2, fun m t2 H2 s2 m0 hm2 ht2 => ?_⟩
    have hl2 := s2 l _ upd_same
    refine .inr (.inl ⟨l, m, _, _, rfl, rfl, hl2, hm2, by show (1 : Nat) ≤ sizeLine; decide, fun r hr0 => ?_⟩)
    have s3 := (sm2.trans s2).trans (same_new (o := .lst ([V.ref t] ++ [])) hr0)
    refine q r t _ s3 ((sm2.trans s2).free hr0) upd_same fun _ _ => ?_
    refine same_new hr0 _ _ (s2 t _ ?_)
    rw [upd_ne htl, upd_same]; rfl
  | 6, _, hx, hx1, q =>
    refine ⟨_, rfl, a, _, _, _, _, _, rfl, hx1, (A.c 6 (by decide)).X, fun u r => r, A.is 6 0 (by decide) (by decide), _, rfl, ite_no (by decide) ?_⟩
    refine ⟨_, rfl, a, _, _, _, _, _, rfl, hx1, (A.c 6 (by decide)).X, fun u r => r, A.is 6 1 (by decide) (by decide), _, rfl, ite_no (by decide) ?_⟩
    refine ⟨_, rfl, a, _, _, _, _, _, rfl, hx1, (A.c 6 (by decide)).X, fun u r => r, A.is 6 2 (by decide) (by decide), _, rfl, ite_no (by decide) ?_⟩
    refine ⟨_, rfl, a, _, _, _, _, _, rfl, hx1, (A.c 6 (by decide)).X, fun u r => r, A.is 6 3 (by decide) (by decide), _, rfl, ite_no (by decide) ?_⟩
    refine ⟨_, rfl, a, _, _, _, _, _, rfl, hx1, (A.c 6 (by decide)).X, fun u r => r, A.is 6 4 (by decide) (by decide), _, rfl, ite_no (by decide) ?_⟩
    refine ⟨_, rfl, a, _, _, _, _, _, rfl, hx1, (A.c 6 (by decide)).X, fun u r => r, A.is 6 5 (by decide) (by decide), _, rfl, ite_no (by decide) ?_⟩
    refine ⟨_, rfl, a, _, _, _, _, _, rfl, hx1, (A.c 6 (by decide)).X, fun u r => r, A.is 6 6 (by decide) (by decide), _, rfl, ite_ye (by decide) ?_⟩
    refine ⟨_, rfl, ty_list upd_same, ?_⟩
    refine ⟨_, rfl, a, _, _, _, rfl, hx1, (A.c 6 (by decide)).X, A.no 6 _ (by decide) (by decide), rfl, ?_⟩
    refine ⟨_, rfl, a, _, _, _, rfl, hx1, (A.c 6 (by decide)).X, A.no 6 _ (by decide) (by decide), rfl, ?_⟩
    refine ⟨by show (3 : Nat) ≤ sizeLine; decide, fun t ht => ?_⟩
    have htl : t ≠ l := fun z => by rw [z, upd_same] at ht; cases ht
    have ht0 : H t = none := by rw [upd_ne htl] at ht; exact ht
    refine ⟨l, [], _, rfl, rfl, by rw [upd_ne (Ne.symm htl), upd_same], by show (0 : Nat) < sizeLine; decide, ?_⟩
    have sm2 : Same H (upd (upd (upd H l (.lst [])) t (.tup (told v1 v2 v3 d1.shown d2.shown 6))) l (.lst ([] ++ [V.ref t]))) := fun b o e => by rw [upd_ne (ne_of_none e hl), upd_ne (ne_of_none e ht0), upd_ne (ne_of_none e hl)]; exact e
    have hx2 := hx.mono sm2
    refine ⟨_, rfl, a, _, _, _, _, _, rfl, hx2, (A.c 6 (by decide)).X, fun u r => r, A.is 6 7 (by decide) (by decide), _, rfl, ite_no (by decide) ?_⟩
    refine ⟨_, rfl, ?_⟩
    refine ⟨_, rfl, a, 6, v1, v2, v3, d1, d2, by decide, rfl, hx2, hd1.mono sm2, g1, hd2.mono sm2, g2, fun m t2 H2 s2 m0 hm2 ht2 => ?_⟩
    have hl2 := s2 l _ upd_same
    refine .inr (.inl ⟨l, m, _, _, rfl, rfl, hl2, hm2, by show (1 : Nat) ≤ sizeLine; decide, fun r hr0 => ?_⟩)
    have s3 := (sm2.trans s2).trans (same_new (o := .lst ([V.ref t] ++ [])) hr0)
    refine q r t _ s3 ((sm2.trans s2).free hr0) upd_same fun _ _ => ?_
    refine same_new hr0 _ _ (s2 t _ ?_)
    rw [upd_ne htl, upd_same]; rfl
  | 7, _, hx, hx1, q =>
    refine ⟨_, rfl, a, _, _, _, _, _, rfl, hx1, (A.c 7 (by decide)).X, fun u r => r, A.is 7 0 (by decide) (by decide), _, rfl, ite_no (by decide) ?_⟩
    refine ⟨_, rfl, a, _, _, _, _, _, rfl, hx1, (A.c 7 (by decide)).X, fun u r => r, A.is 7 1 (by decide) (by decide), _, rfl, ite_no (by decide) ?_⟩
    refine ⟨_, rfl, a, _, _, _, _, _, rfl, hx1, (A.c 7 (by decide)).X, fun u r => r, A.is 7 2 (by decide) (by decide), _, rfl, ite_no (by decide) ?_⟩
    refine ⟨_, rfl, a, _, _, _, _, _, rfl, hx1, (A.c 7 (by decide)).X, fun u r => r, A.is 7 3 (by decide) (by decide), _, rfl, ite_no (by decide) ?_⟩
    refine ⟨_, rfl, a, _, _, _, _, _, rfl, hx1, (A.c 7 (by decide)).X, fun u r => r, A.is 7 4 (by decide) (by decide), _, rfl, ite_no (by decide) ?_⟩
    refine ⟨_, rfl, a, _, _, _, _, _, rfl, hx1, (A.c 7 (by decide)).X, fun u r => r, A.is 7 5 (by decide) (by decide), _, rfl, ite_no (by decide) ?_⟩
    refine ⟨_, rfl, a, _, _, _, _, _, rfl, hx1, (A.c 7 (by decide)).X, fun u r => r, A.is 7 6 (by decide) (by decide), _, rfl, ite_no (by decide) ?_⟩
    refine ⟨_, rfl, a, _, _, _, _, _, rfl, hx1, (A.c 7 (by decide)).X, fun u r => r, A.is 7 7 (by decide) (by decide), _, rfl, ite_ye (by decide) ?_⟩
    refine ⟨_, rfl, ty_list upd_same, ?_⟩
    refine ⟨_, rfl, a, _, _, _, rfl, hx1, (A.c 7 (by decide)).X, A.no 7 _ (by decide) (by decide), rfl, ?_⟩
    refine ⟨_, rfl, a, _, _, _, rfl, hx1, (A.c 7 (by decide)).X, A.no 7 _ (by decide) (by decide), rfl, ?_⟩
    refine ⟨_, d2, rfl, hd2.mono sm1, (Gd.rep g2 (by decide) (by decide)).1, (Gd.rep g2 (by decide) (by decide)).2.1, (Gd.rep g2 (by decide) (by decide)).2.2, ?_⟩
    refine ⟨by show (3 : Nat) ≤ sizeLine; decide, fun t ht => ?_⟩
    have htl : t ≠ l := fun z => by rw [z, upd_same] at ht; cases ht
    have ht0 : H t = none := by rw [upd_ne htl] at ht; exact ht
    refine ⟨l, [], _, rfl, rfl, by rw [upd_ne (Ne.symm htl), upd_same], by show (0 : Nat) < sizeLine; decide, ?_⟩
    have sm2 : Same H (upd (upd (upd H l (.lst [])) t (.tup (told v1 v2 v3 d1.shown d2.shown 7))) l (.lst ([] ++ [V.ref t]))) := fun b o e => by rw [upd_ne (ne_of_none e hl), upd_ne (ne_of_none e ht0), upd_ne (ne_of_none e hl)]; exact e
    have hx2 := hx.mono sm2
    refine ⟨_, rfl, ?_⟩
    refine ⟨_, rfl, a, 7, v1, v2, v3, d1, d2, by decide, rfl, hx2, hd1.mono sm2, g1, hd2.mono sm2, g2, fun m t2 H2 s2 m0 hm2 ht2 => ?_⟩
    have hl2 := s2 l _ upd_same
    refine .inr (.inl ⟨l, m, _, _, rfl, rfl, hl2, hm2, by show (1 : Nat) ≤ sizeLine; decide, fun r hr0 => ?_⟩)
    have s3 := (sm2.trans s2).trans (same_new (o := .lst ([V.ref t] ++ [])) hr0)
    refine q r t _ s3 ((sm2.trans s2).free hr0) upd_same fun _ _ => ?_
    refine same_new hr0 _ _ (s2 t _ ?_)
    rw [upd_ne htl, upd_same]; rfl
  | 8, _, hx, hx1, q =>
    refine ⟨_, rfl, a, _, _, _, _, _, rfl, hx1, (A.c 8 (by decide)).X, fun u r => r, A.is 8 0 (by decide) (by decide), _, rfl, ite_no (by decide) ?_⟩
    refine ⟨_, rfl, a, _, _, _, _, _, rfl, hx1, (A.c 8 (by decide)).X, fun u r => r, A.is 8 1 (by decide) (by decide), _, rfl, ite_no (by decide) ?_⟩
    refine ⟨_, rfl, a, _, _, _, _, _, rfl, hx1, (A.c 8 (by decide)).X, fun u r => r, A.is 8 2 (by decide) (by decide), _, rfl, ite_no (by decide) ?_⟩
    refine ⟨_, rfl, a, _, _, _, _, _, rfl, hx1, (A.c 8 (by decide)).X, fun u r => r, A.is 8 3 (by decide) (by decide), _, rfl, ite_no (by decide) ?_⟩
    refine ⟨_, rfl, a, _, _, _, _, _, rfl, hx1, (A.c 8 (by decide)).X, fun u r => r, A.is 8 4 (by decide) (by decide), _, rfl, ite_no (by decide) ?_⟩
    refine ⟨_, rfl, a, _, _, _, _, _, rfl, hx1, (A.c 8 (by decide)).X, fun u r => r, A.is 8 5 (by decide) (by decide), _, rfl, ite_no (by decide) ?_⟩
    refine ⟨_, rfl, a, _, _, _, _, _, rfl, hx1, (A.c 8 (by decide)).X, fun u r => r, A.is 8 6 (by decide) (by decide), _, rfl, ite_no (by decide) ?_⟩
    refine ⟨_, rfl, a, _, _, _, _, _, rfl, hx1, (A.c 8 (by decide)).X, fun u r => r, A.is 8 7 (by decide) (by decide), _, rfl, ite_no (by decide) ?_⟩
    refine ⟨_, rfl, ?_⟩
    refine ⟨_, rfl, a, 8, v1, v2, v3, d1, d2, by decide, rfl, hx1, hd1.mono sm1, g1, hd2.mono sm1, g2, fun m t2 H2 s2 m0 hm2 ht2 => ?_⟩
    have hl2 := s2 l _ upd_same
    refine .inr (.inl ⟨l, m, _, _, rfl, rfl, hl2, hm2, by show (1 : Nat) ≤ sizeLine; decide, fun r hr0 => ?_⟩)
    have s3 := (sm1.trans s2).trans (same_new (o := .lst ([] ++ [V.ref t2])) hr0)
    exact q r t2 _ s3 ((sm1.trans s2).free hr0) upd_same fun _ _ => same_new hr0 _ _ (ht2 (by decide) (by decide))
  | 9, _, hx, hx1, q =>
    refine ⟨_, rfl, a, _, _, _, _, _, rfl, hx1, (A.c 9 (by decide)).X, fun u r => r, A.is 9 0 (by decide) (by decide), _, rfl, ite_no (by decide) ?_⟩
    refine ⟨_, rfl, a, _, _, _, _, _, rfl, hx1, (A.c 9 (by decide)).X, fun u r => r, A.is 9 1 (by decide) (by decide), _, rfl, ite_no (by decide) ?_⟩
    refine ⟨_, rfl, a, _, _, _, _, _, rfl, hx1, (A.c 9 (by decide)).X, fun u r => r, A.is 9 2 (by decide) (by decide), _, rfl, ite_no (by decide) ?_⟩
    refine ⟨_, rfl, a, _, _, _, _, _, rfl, hx1, (A.c 9 (by decide)).X, fun u r => r, A.is 9 3 (by decide) (by decide), _, rfl, ite_no (by decide) ?_⟩
    refine ⟨_, rfl, a, _, _, _, _, _, rfl, hx1, (A.c 9 (by decide)).X, fun u r => r, A.is 9 4 (by decide) (by decide), _, rfl, ite_no (by decide) ?_⟩
    refine ⟨_, rfl, a, _, _, _, _, _, rfl, hx1, (A.c 9 (by decide)).X, fun u r => r, A.is 9 5 (by decide) (by decide), _, rfl, ite_no (by decide) ?_⟩
    refine ⟨_, rfl, a, _, _, _, _, _, rfl, hx1, (A.c 9 (by decide)).X, fun u r => r, A.is 9 6 (by decide) (by decide), _, rfl, ite_no (by decide) ?_⟩
    refine ⟨_, rfl, a, _, _, _, _, _, rfl, hx1, (A.c 9 (by decide)).X, fun u r => r, A.is 9 7 (by decide) (by decide), _, rfl, ite_no (by decide) ?_⟩
    refine ⟨_, rfl, ?_⟩
    refine ⟨_, rfl, a, 9, v1, v2, v3, d1, d2, by decide, rfl, hx1, hd1.mono sm1, g1, hd2.mono sm1, g2, fun m t2 H2 s2 m0 hm2 ht2 => ?_⟩
    have hl2 := s2 l _ upd_same
    refine .inr (.inl ⟨l, m, _, _, rfl, rfl, hl2, hm2, by show (1 : Nat) ≤ sizeLine; decide, fun r hr0 => ?_⟩)
    have s3 := (sm1.trans s2).trans (same_new (o := .lst ([] ++ [V.ref t2])) hr0)
    exact q r t2 _ s3 ((sm1.trans s2).free hr0) upd_same fun _ _ => same_new hr0 _ _ (ht2 (by decide) (by decide))
  | 10, _, hx, hx1, q =>
    refine ⟨_, rfl, a, _, _, _, _, _, rfl, hx1, (A.c 10 (by decide)).X, fun u r => r, A.is 10 0 (by decide) (by decide), _, rfl, ite_no (by decide) ?_⟩
    refine ⟨_, rfl, a, _, _, _, _, _, rfl, hx1, (A.c 10 (by decide)).X, fun u r => r, A.is 10 1 (by decide) (by decide), _, rfl, ite_no (by decide) ?_⟩
    refine ⟨_, rfl, a, _, _, _, _, _, rfl, hx1, (A.c 10 (by decide)).X, fun u r => r, A.is 10 2 (by decide) (by decide), _, rfl, ite_no (by decide) ?_⟩
    refine ⟨_, rfl, a, _, _, _, _, _, rfl, hx1, (A.c 10 (by decide)).X, fun u r => r, A.is 10 3 (by decide) (by decide), _, rfl, ite_no (by decide) ?_⟩
    refine ⟨_, rfl, a, _, _, _, _, _, rfl, hx1, (A.c 10 (by decide)).X, fun u r => r, A.is 10 4 (by decide) (by decide), _, rfl, ite_no (by decide) ?_⟩
    refine ⟨_, rfl, a, _, _, _, _, _, rfl, hx1, (A.c 10 (by decide)).X, fun u r => r, A.is 10 5 (by decide) (by decide), _, rfl, ite_no (by decide) ?_⟩
    refine ⟨_, rfl, a, _, _, _, _, _, rfl, hx1, (A.c 10 (by decide)).X, fun u r => r, A.is 10 6 (by decide) (by decide), _, rfl, ite_no (by decide) ?_⟩
    refine ⟨_, rfl, a, _, _, _, _, _, rfl, hx1, (A.c 10 (by decide)).X, fun u r => r, A.is 10 7 (by decide) (by decide), _, rfl, ite_no (by decide) ?_⟩
    refine ⟨_, rfl, ?_⟩
    refine ⟨_, rfl, a, 10, v1, v2, v3, d1, d2, by decide, rfl, hx1, hd1.mono sm1, g1, hd2.mono sm1, g2, fun m t2 H2 s2 m0 hm2 ht2 => ?_⟩
    have hl2 := s2 l _ upd_same
    refine .inr (.inl ⟨l, m, _, _, rfl, rfl, hl2, hm2, by show (1 : Nat) ≤ sizeLine; decide, fun r hr0 => ?_⟩)
    have s3 := (sm1.trans s2).trans (same_new (o := .lst ([] ++ [V.ref t2])) hr0)
    exact q r t2 _ s3 ((sm1.trans s2).free hr0) upd_same fun _ _ => same_new hr0 _ _ (ht2 (by decide) (by decide))
  | 11, _, hx, hx1, q =>
    refine ⟨_, rfl, a, _, _, _, _, _, rfl, hx1, (A.c 11 (by decide)).X, fun u r => r, A.is 11 0 (by decide) (by decide), _, rfl, ite_no (by decide) ?_⟩
    refine ⟨_, rfl, a, _, _, _, _, _, rfl, hx1, (A.c 11 (by decide)).X, fun u r => r, A.is 11 1 (by decide) (by decide), _, rfl, ite_no (by decide) ?_⟩
    refine ⟨_, rfl, a, _, _, _, _, _, rfl, hx1, (A.c 11 (by decide)).X, fun u r => r, A.is 11 2 (by decide) (by decide), _, rfl, ite_no (by decide) ?_⟩
    refine ⟨_, rfl, a, _, _, _, _, _, rfl, hx1, (A.c 11 (by decide)).X, fun u r => r, A.is 11 3 (by decide) (by decide), _, rfl, ite_no (by decide) ?_⟩
    refine ⟨_, rfl, a, _, _, _, _, _, rfl, hx1, (A.c 11 (by decide)).X, fun u r => r, A.is 11 4 (by decide) (by decide), _, rfl, ite_no (by decide) ?_⟩
    refine ⟨_, rfl, a, _, _, _, _, _, rfl, hx1, (A.c 11 (by decide)).X, fun u r => r, A.is 11 5 (by decide) (by decide), _, rfl, ite_no (by decide) ?_⟩
    refine ⟨_, rfl, a, _, _, _, _, _, rfl, hx1, (A.c 11 (by decide)).X, fun u r => r, A.is 11 6 (by decide) (by decide), _, rfl, ite_no (by decide) ?_⟩
    refine ⟨_, rfl, a, _, _, _, _, _, rfl, hx1, (A.c 11 (by decide)).X, fun u r => r, A.is 11 7 (by decide) (by decide), _, rfl, ite_no (by decide) ?_⟩
    refine ⟨_, rfl, ?_⟩
    refine ⟨_, rfl, a, 11, v1, v2, v3, d1, d2, by decide, rfl, hx1, hd1.mono sm1, g1, hd2.mono sm1, g2, fun m t2 H2 s2 m0 hm2 ht2 => ?_⟩
    have hl2 := s2 l _ upd_same
    refine .inr (.inl ⟨l, m, _, _, rfl, rfl, hl2, hm2, by show (1 : Nat) ≤ sizeLine; decide, fun r hr0 => ?_⟩)
    have s3 := (sm1.trans s2).trans (same_new (o := .lst ([] ++ [V.ref t2])) hr0)
    exact q r t2 _ s3 ((sm1.trans s2).free hr0) upd_same fun _ _ => same_new hr0 _ _ (ht2 (by decide) (by decide))
  | 12, _, hx, hx1, q =>
    refine ⟨_, rfl, a, _, _, _, _, _, rfl, hx1, (A.c 12 (by decide)).X, fun u r => r, A.is 12 0 (by decide) (by decide), _, rfl, ite_no (by decide) ?_⟩
    refine ⟨_, rfl, a, _, _, _, _, _, rfl, hx1, (A.c 12 (by decide)).X, fun u r => r, A.is 12 1 (by decide) (by decide), _, rfl, ite_no (by decide) ?_⟩
    refine ⟨_, rfl, a, _, _, _, _, _, rfl, hx1, (A.c 12 (by decide)).X, fun u r => r, A.is 12 2 (by decide) (by decide), _, rfl, ite_no (by decide) ?_⟩
    refine ⟨_, rfl, a, _, _, _, _, _, rfl, hx1, (A.c 12 (by decide)).X, fun u r => r, A.is 12 3 (by decide) (by decide), _, rfl, ite_no (by decide) ?_⟩
    refine ⟨_, rfl, a, _, _, _, _, _, rfl, hx1, (A.c 12 (by decide)).X, fun u r => r, A.is 12 4 (by decide) (by decide), _, rfl, ite_no (by decide) ?_⟩
    refine ⟨_, rfl, a, _, _, _, _, _, rfl, hx1, (A.c 12 (by decide)).X, fun u r => r, A.is 12 5 (by decide) (by decide), _, rfl, ite_no (by decide) ?_⟩
    refine ⟨_, rfl, a, _, _, _, _, _, rfl, hx1, (A.c 12 (by decide)).X, fun u r => r, A.is 12 6 (by decide) (by decide), _, rfl, ite_no (by decide) ?_⟩
    refine ⟨_, rfl, a, _, _, _, _, _, rfl, hx1, (A.c 12 (by decide)).X, fun u r => r, A.is 12 7 (by decide) (by decide), _, rfl, ite_no (by decide) ?_⟩
    refine ⟨_, rfl, ?_⟩
    refine ⟨_, rfl, a, 12, v1, v2, v3, d1, d2, by decide, rfl, hx1, hd1.mono sm1, g1, hd2.mono sm1, g2, fun m t2 H2 s2 m0 hm2 ht2 => ?_⟩
    have hl2 := s2 l _ upd_same
    refine .inr (.inl ⟨l, m, _, _, rfl, rfl, hl2, hm2, by show (1 : Nat) ≤ sizeLine; decide, fun r hr0 => ?_⟩)
    have s3 := (sm1.trans s2).trans (same_new (o := .lst ([] ++ [V.ref t2])) hr0)
    exact q r t2 _ s3 ((sm1.trans s2).free hr0) upd_same fun _ _ => same_new hr0 _ _ (ht2 (by decide) (by decide))
  | 13, _, hx, hx1, q =>
    refine ⟨_, rfl, a, _, _, _, _, _, rfl, hx1, (A.c 13 (by decide)).X, fun u r => r, A.is 13 0 (by decide) (by decide), _, rfl, ite_no (by decide) ?_⟩
    refine ⟨_, rfl, a, _, _, _, _, _, rfl, hx1, (A.c 13 (by decide)).X, fun u r => r, A.is 13 1 (by decide) (by decide), _, rfl, ite_no (by decide) ?_⟩
    refine ⟨_, rfl, a, _, _, _, _, _, rfl, hx1, (A.c 13 (by decide)).X, fun u r => r, A.is 13 2 (by decide) (by decide), _, rfl, ite_no (by decide) ?_⟩
    refine ⟨_, rfl, a, _, _, _, _, _, rfl, hx1, (A.c 13 (by decide)).X, fun u r => r, A.is 13 3 (by decide) (by decide), _, rfl, ite_no (by decide) ?_⟩
    refine ⟨_, rfl, a, _, _, _, _, _, rfl, hx1, (A.c 13 (by decide)).X, fun u r => r, A.is 13 4 (by decide) (by decide), _, rfl, ite_no (by decide) ?_⟩
    refine ⟨_, rfl, a, _, _, _, _, _, rfl, hx1, (A.c 13 (by decide)).X, fun u r => r, A.is 13 5 (by decide) (by decide), _, rfl, ite_no (by decide) ?_⟩
    refine ⟨_, rfl, a, _, _, _, _, _, rfl, hx1, (A.c 13 (by decide)).X, fun u r => r, A.is 13 6 (by decide) (by decide), _, rfl, ite_no (by decide) ?_⟩
    refine ⟨_, rfl, a, _, _, _, _, _, rfl, hx1, (A.c 13 (by decide)).X, fun u r => r, A.is 13 7 (by decide) (by decide), _, rfl, ite_no (by decide) ?_⟩
    refine ⟨_, rfl, ?_⟩
    refine ⟨_, rfl, a, 13, v1, v2, v3, d1, d2, by decide, rfl, hx1, hd1.mono sm1, g1, hd2.mono sm1, g2, fun m t2 H2 s2 m0 hm2 ht2 => ?_⟩
    have hl2 := s2 l _ upd_same
    refine .inr (.inl ⟨l, m, _, _, rfl, rfl, hl2, hm2, by show (1 : Nat) ≤ sizeLine; decide, fun r hr0 => ?_⟩)
    have s3 := (sm1.trans s2).trans (same_new (o := .lst ([] ++ [V.ref t2])) hr0)
    exact q r t2 _ s3 ((sm1.trans s2).free hr0) upd_same fun _ _ => same_new hr0 _ _ (ht2 (by decide) (by decide))
  | 14, _, hx, hx1, q =>
    refine ⟨_, rfl, a, _, _, _, _, _, rfl, hx1, (A.c 14 (by decide)).X, fun u r => r, A.is 14 0 (by decide) (by decide), _, rfl, ite_no (by decide) ?_⟩
    refine ⟨_, rfl, a, _, _, _, _, _, rfl, hx1, (A.c 14 (by decide)).X, fun u r => r, A.is 14 1 (by decide) (by decide), _, rfl, ite_no (by decide) ?_⟩
    refine ⟨_, rfl, a, _, _, _, _, _, rfl, hx1, (A.c 14 (by decide)).X, fun u r => r, A.is 14 2 (by decide) (by decide), _, rfl, ite_no (by decide) ?_⟩
    refine ⟨_, rfl, a, _, _, _, _, _, rfl, hx1, (A.c 14 (by decide)).X, fun u r => r, A.is 14 3 (by decide) (by decide), _, rfl, ite_no (by decide) ?_⟩
    refine ⟨_, rfl, a, _, _, _, _, _, rfl, hx1, (A.c 14 (by decide)).X, fun u r => r, A.is 14 4 (by decide) (by decide), _, rfl, ite_no (by decide) ?_⟩
    refine ⟨_, rfl, a, _, _, _, _, _, rfl, hx1, (A.c 14 (by decide)).X, fun u r => r, A.is 14 5 (by decide) (by decide), _, rfl, ite_no (by decide) ?_⟩
    refine ⟨_, rfl, a, _, _, _, _, _, rfl, hx1, (A.c 14 (by decide)).X, fun u r => r, A.is 14 6 (by decide) (by decide), _, rfl, ite_no (by decide) ?_⟩
    refine ⟨_, rfl, a, _, _, _, _, _, rfl, hx1, (A.c 14 (by decide)).X, fun u r => r, A.is 14 7 (by decide) (by decide), _, rfl, ite_no (by decide) ?_⟩
    refine ⟨_, rfl, ?_⟩
    refine ⟨_, rfl, a, 14, v1, v2, v3, d1, d2, by decide, rfl, hx1, hd1.mono sm1, g1, hd2.mono sm1, g2, fun m t2 H2 s2 m0 hm2 ht2 => ?_⟩
    have hl2 := s2 l _ upd_same
    refine .inr (.inl ⟨l, m, _, _, rfl, rfl, hl2, hm2, by show (1 : Nat) ≤ sizeLine; decide, fun r hr0 => ?_⟩)
    have s3 := (sm1.trans s2).trans (same_new (o := .lst ([] ++ [V.ref t2])) hr0)
    exact q r t2 _ s3 ((sm1.trans s2).free hr0) upd_same fun _ _ => same_new hr0 _ _ (ht2 (by decide) (by decide))
  | 15, _, hx, hx1, q =>
    refine ⟨_, rfl, a, _, _, _, _, _, rfl, hx1, (A.c 15 (by decide)).X, fun u r => r, A.is 15 0 (by decide) (by decide), _, rfl, ite_no (by decide) ?_⟩
    refine ⟨_, rfl, a, _, _, _, _, _, rfl, hx1, (A.c 15 (by decide)).X, fun u r => r, A.is 15 1 (by decide) (by decide), _, rfl, ite_no (by decide) ?_⟩
    refine ⟨_, rfl, a, _, _, _, _, _, rfl, hx1, (A.c 15 (by decide)).X, fun u r => r, A.is 15 2 (by decide) (by decide), _, rfl, ite_no (by decide) ?_⟩
    refine ⟨_, rfl, a, _, _, _, _, _, rfl, hx1, (A.c 15 (by decide)).X, fun u r => r, A.is 15 3 (by decide) (by decide), _, rfl, ite_no (by decide) ?_⟩
    refine ⟨_, rfl, a, _, _, _, _, _, rfl, hx1, (A.c 15 (by decide)).X, fun u r => r, A.is 15 4 (by decide) (by decide), _, rfl, ite_no (by decide) ?_⟩
    refine ⟨_, rfl, a, _, _, _, _, _, rfl, hx1, (A.c 15 (by decide)).X, fun u r => r, A.is 15 5 (by decide) (by decide), _, rfl, ite_no (by decide) ?_⟩
    refine ⟨_, rfl, a, _, _, _, _, _, rfl, hx1, (A.c 15 (by decide)).X, fun u r => r, A.is 15 6 (by decide) (by decide), _, rfl, ite_no (by decide) ?_⟩
    refine ⟨_, rfl, a, _, _, _, _, _, rfl, hx1, (A.c 15 (by decide)).X, fun u r => r, A.is 15 7 (by decide) (by decide), _, rfl, ite_no (by decide) ?_⟩
    refine ⟨_, rfl, ?_⟩
    refine ⟨_, rfl, a, 15, v1, v2, v3, d1, d2, by decide, rfl, hx1, hd1.mono sm1, g1, hd2.mono sm1, g2, fun m t2 H2 s2 m0 hm2 ht2 => ?_⟩
    have hl2 := s2 l _ upd_same
    refine .inr (.inl ⟨l, m, _, _, rfl, rfl, hl2, hm2, by show (1 : Nat) ≤ sizeLine; decide, fun r hr0 => ?_⟩)
    have s3 := (sm1.trans s2).trans (same_new (o := .lst ([] ++ [V.ref t2])) hr0)
    exact q r t2 _ s3 ((sm1.trans s2).free hr0) upd_same fun _ _ => same_new hr0 _ _ (ht2 (by decide) (by decide))
  | _ + 16, hk, _, _, _ => exact absurd hk (by omega)
end
end K01
namespace K01
open PySem PySem.Spec PyProof.Rows L2 Fp
section
variable {P : Program} {w : World} {K : PySem.W.Frag} {mg : Str → Option Value} {base : Heap} {f : Addr} {fd : FuncData}
def spTold (K : PySem.W.Frag) : Sp := fun vs H Q _ => ∃ (k : Nat) (v1 v2 v3 : V) (d1 d2 : PyData), k < 16 ∧ vs = [.int k, v1, v2, v3] ∧ Dt K H d1 v1 ∧ Gd 2 700 d1 ∧ Dt K H d2 v2 ∧ Gd 2 700 d2 ∧
  ∀ l t H', Same H H' → H' l = some (.lst [.ref t]) → H' t = some (.tup (told v1 v2 v3 d1.shown d2.shown k)) → Q (.ref l) H'
theorem errE_all {H : Hp} {k : Nat} {v1 v2 v3 : V} {E : XK} (h1 : k < 14 → ∀ d H', Same H H' → H d = none → H' d = some (.xd (fsOf v1 v2 v3 k)) → E (.ref (He.ga K (cname k))) (some d) H') (h2 : ¬ k < 14 → E (.ref (He.ga K (cname k))) none H) : ErrE K H E k v1 v2 v3 := by
  unfold ErrE
  split
  · rename_i h; exact h1 h
  · rename_i h; exact h2 h
theorem fs_none {k : Nat} {v1 v2 v3 : V} (h : ¬ k < 14) (hk : k < 16) : fsOf v1 v2 v3 k = [] := by
  match k, h, hk with
  | 14, _, _ => rfl
  | 15, _, _ => rfl
  | 0, h, _ | 1, h, _ | 2, h, _ | 3, h, _ | 4, h, _ | 5, h, _ | 6, h, _ | 7, h, _ | 8, h, _ | 9, h, _ | 10, h, _ | 11, h, _ | 12, h, _ | 13, h, _ => exact absurd (by decide) h
  | _ + 16, _, hk => exact absurd hk (by omega)
abbrev s_law_told : Stmt := top 27
theorem sc_law_told : FnScope ["kind", "one", "two", "three", "found", "e"] ["kind", "one", "two", "three"] (defScope s_law_told) := ⟨rfl, rfl, rfl, by decide +kernel, rfl, by decide +kernel, by decide +kernel⟩

theorem ok_told (F : FnP K "_law_told" s_law_told f fd) (A : Errs P w K mg base) (g_isinstance : mg "isinstance" = none) (g_ValueError : mg "ValueError" = none) (p__law_raised : PrG P w K mg base "_law_raised" 3 ["kind", "one", "two", "three"] (spRaised K 0 8)) (p__law_raised_too : PrG P w K mg base "_law_raised_too" 3 ["kind", "one", "two", "three"] (spRaised K 8 16)) (p__law_kinds : PrC P w K mg base "_law_kinds" 2 ["e"] (spKinds K base 0 16)) :
    FnG P w K mg base (L2.CX P w) 4 f fd ["kind", "one", "two", "three"] (spTold K) := by
  refine okG F sc_law_told (fun vs H Q E h => ?_) (fun cdv B outer s H vs Q E hr h => ?_)
  · obtain ⟨k, v1, v2, v3, d1, d2, _, rfl, _⟩ := h
    rfl
  have nd := sc_law_told.nd
  have hu := huG hr
  refine ⟨_, (pss_cons (ps_set (i := 4) nd rfl (.inl rfl) pe_non)
    (pss_cons (ps_try_as (i := 5) rfl rfl nd rfl rfl ⟨rfl, by decide, .inl A.c_FieldError.g⟩ (takes_of rfl rfl rfl rfl) (fun W pn xe tk _ =>
        (pss_cons (ps_expr (pe_callP p__law_raised (hr.mono (by decide)) (by rfl) (fun σ => passAt tk σ) (pa_cons (pv 0) (pa_cons (pv 1) (pa_cons (pv 2) (pa_cons (pv 3) pa_nil))))))
        (pss_one (ps_expr (pe_callP p__law_raised_too (hr.mono (by decide)) (by rfl) (fun σ => passAt tk σ) (pa_cons (pv 0) (pa_cons (pv 1) (pa_cons (pv 2) (pa_cons (pv 3) pa_nil)))))))))
      (fun a oe cls d pn hz hf => (pss_one (ps_if (pt_val (pe_callB (call_isE2 hz hf) (by rfl) g_isinstance (by rfl) (pa_cons (pv 5) (pa_cons (pe_bltn (by rfl) g_ValueError rfl relTy) pa_nil))))
        (pss_one (ps_set (i := 4) nd rfl (.inl rfl) (pe_callPZZ base rfl hz hf List.mem_cons_self p__law_kinds ((hr.c.mono (by decide)).mark _) (by rfl) (pa_cons (pv 5) pa_nil)))) pss_nil))))
    (pss_one (ps_ret (pv 4))))), ?_⟩
  obtain ⟨k, v1, v2, v3, d1, d2, hk, rfl, hd1, g1, hd2, g2, q⟩ := h
  refine ⟨_, rfl, _, rfl, _, rfl, _, rfl, k, v1, v2, v3, hk, rfl, fun _ _ => ?_, fun _ => ⟨_, rfl, _, rfl, _, rfl, _, rfl, k, v1, v2, v3, hk, rfl, fun _ _ => ?_, fun hn => ?_⟩⟩
  · refine errE_all (fun h14 d H' sm nd hd => ⟨true, A.te k hk, fun _ a ha => ?_, fun z => nomatch z⟩) fun h14 => ⟨true, A.te k hk, fun _ a ha => ?_, fun z => nomatch z⟩
    · refine ⟨_, rfl, _, _, _, _, rfl, rfl, (A.c k hk).X, .inr ⟨d, _, rfl, hd⟩, fun u r => r, (A.c k hk).ve, _, rfl, ite_ye rfl ?_⟩
      refine ⟨_, rfl, fun na oe hz hf H1 s1 he => ⟨a, k, v1, v2, v3, d1, d2, hk, rfl, ⟨oe, _, he, hz, hf, .inr ⟨d, rfl, s1 _ _ hd⟩⟩, hd1.mono (sm.trans s1), g1, hd2.mono (sm.trans s1), g2, fun l t H2 s2 l0 hl ht H3 lost => ?_⟩⟩
      rw [if_pos ⟨Nat.zero_le _, hk⟩] at hl
      exact ⟨_, rfl, q l t H3 (lost.same ((sm.trans s1).trans s2) (sm.free ha)) (lost.keep hl (fun _ _ z => nomatch z)) (lost.keep (ht (Nat.zero_le _) hk) (fun _ _ z => nomatch z))⟩
    · refine ⟨_, rfl, _, _, _, _, rfl, rfl, (A.c k hk).X, .inl rfl, fun u r => r, (A.c k hk).ve, _, rfl, ite_ye rfl ?_⟩
      refine ⟨_, rfl, fun na oe hz hf H1 s1 he => ⟨a, k, v1, v2, v3, d1, d2, hk, rfl, ⟨oe, _, he, hz, hf, .inl ⟨rfl, fs_none h14 hk⟩⟩, hd1.mono s1, g1, hd2.mono s1, g2, fun l t H2 s2 l0 hl ht H3 lost => ?_⟩⟩
      rw [if_pos ⟨Nat.zero_le _, hk⟩] at hl
      exact ⟨_, rfl, q l t H3 (lost.same (s1.trans s2) ha) (lost.keep hl (fun _ _ z => nomatch z)) (lost.keep (ht (Nat.zero_le _) hk) (fun _ _ z => nomatch z))⟩
  · refine errE_all (fun h14 d H' sm nd hd => ⟨true, A.te k hk, fun _ a ha => ?_, fun z => nomatch z⟩) fun h14 => ⟨true, A.te k hk, fun _ a ha => ?_, fun z => nomatch z⟩
    · refine ⟨_, rfl, _, _, _, _, rfl, rfl, (A.c k hk).X, .inr ⟨d, _, rfl, hd⟩, fun u r => r, (A.c k hk).ve, _, rfl, ite_ye rfl ?_⟩
      refine ⟨_, rfl, fun na oe hz hf H1 s1 he => ⟨a, k, v1, v2, v3, d1, d2, hk, rfl, ⟨oe, _, he, hz, hf, .inr ⟨d, rfl, s1 _ _ hd⟩⟩, hd1.mono (sm.trans s1), g1, hd2.mono (sm.trans s1), g2, fun l t H2 s2 l0 hl ht H3 lost => ?_⟩⟩
      rw [if_pos ⟨Nat.zero_le _, hk⟩] at hl
      exact ⟨_, rfl, q l t H3 (lost.same ((sm.trans s1).trans s2) (sm.free ha)) (lost.keep hl (fun _ _ z => nomatch z)) (lost.keep (ht (Nat.zero_le _) hk) (fun _ _ z => nomatch z))⟩
    · refine ⟨_, rfl, _, _, _, _, rfl, rfl, (A.c k hk).X, .inl rfl, fun u r => r, (A.c k hk).ve, _, rfl, ite_ye rfl ?_⟩
      refine ⟨_, rfl, fun na oe hz hf H1 s1 he => ⟨a, k, v1, v2, v3, d1, d2, hk, rfl, ⟨oe, _, he, hz, hf, .inl ⟨rfl, fs_none h14 hk⟩⟩, hd1.mono s1, g1, hd2.mono s1, g2, fun l t H2 s2 l0 hl ht H3 lost => ?_⟩⟩
      rw [if_pos ⟨Nat.zero_le _, hk⟩] at hl
      exact ⟨_, rfl, q l t H3 (lost.same (s1.trans s2) ha) (lost.keep hl (fun _ _ z => nomatch z)) (lost.keep (ht (Nat.zero_le _) hk) (fun _ _ z => nomatch z))⟩
  · exact absurd ⟨by omega, hk⟩ hn
end
end K01
namespace K01
open PySem PySem.Spec PyProof.Rows L2 Fp
/-- the same as data -/
def toldD (d1 d2 d3 : PyData) : Nat → List PyData
  | 0 => [.str "number", d1, .str d2.shown]
  | 1 => [.str "row", d1, .str d2.shown]
  | 2 => [.str "table", d1]
  | 3 => [.str "poly", d1]
  | 4 => [.str "paper", d1]
  | 5 => [.str "badname", .str d1.shown]
  | 6 => [.str "text", d1, d2]
  | 7 => [.str "place", d1, .str d2.shown]
  | 8 => [.str "noname", .str d1.shown]
  | 9 => [.str "taken", .str d1.shown]
  | 10 => [.str "unlike", d1]
  | 11 => [.str "notthere", d1]
  | 12 => [.str "many", d1, d2, d3]
  | 13 => [.str "kept", d1, d2]
  | 14 => [.str "undo"]
  | _ => [.str "redo"]
theorem told_dt {K : PySem.W.Frag} {H : Hp} {v1 v2 v3 : V} {d1 d2 d3 : PyData} (h1 : Dt K H d1 v1) (h2 : Dt K H d2 v2) (h3 : Dt K H d3 v3) (k : Nat) (hk : k < 16) : DtAll K H (toldD d1 d2 d3 k) (told v1 v2 v3 d1.shown d2.shown k) := by
  match k, hk with
  | 0, _ => exact dtAll_cons dt_str (dtAll_cons h1 (dtAll_cons dt_str dtAll_nil))
  | 1, _ => exact dtAll_cons dt_str (dtAll_cons h1 (dtAll_cons dt_str dtAll_nil))
  | 2, _ => exact dtAll_cons dt_str (dtAll_cons h1 dtAll_nil)
  | 3, _ => exact dtAll_cons dt_str (dtAll_cons h1 dtAll_nil)
  | 4, _ => exact dtAll_cons dt_str (dtAll_cons h1 dtAll_nil)
  | 5, _ => exact dtAll_cons dt_str (dtAll_cons dt_str dtAll_nil)
  | 6, _ => exact dtAll_cons dt_str (dtAll_cons h1 (dtAll_cons h2 dtAll_nil))
  | 7, _ => exact dtAll_cons dt_str (dtAll_cons h1 (dtAll_cons dt_str dtAll_nil))
  | 8, _ => exact dtAll_cons dt_str (dtAll_cons dt_str dtAll_nil)
  | 9, _ => exact dtAll_cons dt_str (dtAll_cons dt_str dtAll_nil)
  | 10, _ => exact dtAll_cons dt_str (dtAll_cons h1 dtAll_nil)
  | 11, _ => exact dtAll_cons dt_str (dtAll_cons h1 dtAll_nil)
  | 12, _ => exact dtAll_cons dt_str (dtAll_cons h1 (dtAll_cons h2 (dtAll_cons h3 dtAll_nil)))
  | 13, _ => exact dtAll_cons dt_str (dtAll_cons h1 (dtAll_cons h2 dtAll_nil))
  | 14, _ => exact dtAll_cons dt_str dtAll_nil
  | 15, _ => exact dtAll_cons dt_str dtAll_nil
  | _ + 16, hk => exact absurd hk (by omega)
theorem told_gd {d1 d2 d3 : PyData} (g1 : Gd 2 700 d1) (g2 : Gd 2 700 d2) (g3 : Gd 2 700 d3) (k : Nat) (hk : k < 16) : Gd 3 100000 (.tuple (toldD d1 d2 d3 k)) := by
  have s : ∀ x : String, (Str.ofString x).length ≤ 20 → Gd 0 20 (.str (Str.ofString x)) := fun x h => (gd_str _ (okS_ofString x)).mono (by decide) h
  match k, hk with
  | 0, _ => exact (Gd.tuple (gdAll_cons (s "number" (by decide +kernel)) (gdAll_cons g1 (gdAll_cons g2.text gdAll_nil)))).mono (by decide) (by decide)
  | 1, _ => exact (Gd.tuple (gdAll_cons (s "row" (by decide +kernel)) (gdAll_cons g1 (gdAll_cons g2.text gdAll_nil)))).mono (by decide) (by decide)
  | 2, _ => exact (Gd.tuple (gdAll_cons (s "table" (by decide +kernel)) (gdAll_cons g1 gdAll_nil))).mono (by decide) (by decide)
  | 3, _ => exact (Gd.tuple (gdAll_cons (s "poly" (by decide +kernel)) (gdAll_cons g1 gdAll_nil))).mono (by decide) (by decide)
  | 4, _ => exact (Gd.tuple (gdAll_cons (s "paper" (by decide +kernel)) (gdAll_cons g1 gdAll_nil))).mono (by decide) (by decide)
  | 5, _ => exact (Gd.tuple (gdAll_cons (s "badname" (by decide +kernel)) (gdAll_cons g1.text gdAll_nil))).mono (by decide) (by decide)
  | 6, _ => exact (Gd.tuple (gdAll_cons (s "text" (by decide +kernel)) (gdAll_cons g1 (gdAll_cons g2 gdAll_nil)))).mono (by decide) (by decide)
  | 7, _ => exact (Gd.tuple (gdAll_cons (s "place" (by decide +kernel)) (gdAll_cons g1 (gdAll_cons g2.text gdAll_nil)))).mono (by decide) (by decide)
  | 8, _ => exact (Gd.tuple (gdAll_cons (s "noname" (by decide +kernel)) (gdAll_cons g1.text gdAll_nil))).mono (by decide) (by decide)
  | 9, _ => exact (Gd.tuple (gdAll_cons (s "taken" (by decide +kernel)) (gdAll_cons g1.text gdAll_nil))).mono (by decide) (by decide)
  | 10, _ => exact (Gd.tuple (gdAll_cons (s "unlike" (by decide +kernel)) (gdAll_cons g1 gdAll_nil))).mono (by decide) (by decide)
  | 11, _ => exact (Gd.tuple (gdAll_cons (s "notthere" (by decide +kernel)) (gdAll_cons g1 gdAll_nil))).mono (by decide) (by decide)
  | 12, _ => exact (Gd.tuple (gdAll_cons (s "many" (by decide +kernel)) (gdAll_cons g1 (gdAll_cons g2 (gdAll_cons g3 gdAll_nil))))).mono (by decide) (by decide)
  | 13, _ => exact (Gd.tuple (gdAll_cons (s "kept" (by decide +kernel)) (gdAll_cons g1 (gdAll_cons g2 gdAll_nil)))).mono (by decide) (by decide)
  | 14, _ => exact (Gd.tuple (gdAll_cons (s "undo" (by decide +kernel)) gdAll_nil)).mono (by decide) (by decide)
  | 15, _ => exact (Gd.tuple (gdAll_cons (s "redo" (by decide +kernel)) gdAll_nil)).mono (by decide) (by decide)
  | _ + 16, hk => exact absurd hk (by omega)
section
variable {P : Program} {w : World} {K : PySem.W.Frag} {mg : Str → Option Value} {base : Heap} {f : Addr} {fd : FuncData}
def spDue (K : PySem.W.Frag) : Sp := fun vs H Q _ => ∃ (k : Nat) (v1 v2 v3 : V) (d1 d2 : PyData), k < 16 ∧ vs = [.int k, v1, v2, v3] ∧ Dt K H d1 v1 ∧ Gd 2 700 d1 ∧ Dt K H d2 v2 ∧ Gd 2 700 d2 ∧
  ∀ t H', Same H H' → H' t = some (.tup (told v1 v2 v3 d1.shown d2.shown k)) → Q (.ref t) H'
abbrev W16 : List V := [.str "number", .str "row", .str "table", .str "poly", .str "paper", .str "badname", .str "text", .str "place", .str "noname", .str "taken", .str "unlike", .str "notthere", .str "many", .str "kept", .str "undo", .str "redo"]
abbrev s_law_due : Stmt := top 28
theorem sc_law_due : FnScope ["kind", "one", "two", "three", "words"] ["kind", "one", "two", "three"] (defScope s_law_due) := ⟨rfl, rfl, rfl, by decide +kernel, rfl, by decide +kernel, by decide +kernel⟩

theorem ok_due (F : FnP K "_law_due" s_law_due f fd) (hm : ∃ o es ep, base.get? sysModules = some o ∧ o.data = .dict es ep) (g_repr : mg "repr" = none) : FnG P w K mg base (L2.CX P w) 1 f fd ["kind", "one", "two", "three"] (spDue K) := by
  refine okG F sc_law_due (fun vs H Q E h => ?_) (fun cdv B outer s H vs Q E hr h => ?_)
  · obtain ⟨k, v1, v2, v3, d1, d2, _, rfl, _⟩ := h
    rfl
  have nd := sc_law_due.nd
  have hu := huG hr
  refine ⟨_, (pss_cons (ps_set (i := 4) nd rfl (.inl rfl) (pe_lst (pa_cons pe_str (pa_cons pe_str (pa_cons pe_str (pa_cons pe_str (pa_cons pe_str (pa_cons pe_str (pa_cons pe_str (pa_cons pe_str (pa_cons pe_str (pa_cons pe_str (pa_cons pe_str (pa_cons pe_str pa_nil))))))))))))))
  (pss_cons (ps_set (i := 4) nd rfl (.inl rfl) (pe_op opAdd (pv 4) (pe_lst (pa_cons pe_str (pa_cons pe_str (pa_cons pe_str (pa_cons pe_str pa_nil)))))))
  (pss_cons (ps_if (pt_cmpR opIn (pv 0) (pe_tup (pa_cons pe_int (pa_cons pe_int (pa_cons pe_int pa_nil)))) rfl) (pss_one (ps_ret (pe_tup (pa_cons (pe_ix ix_seq (pv 4) (pv 0) (fun _ _ => rfl)) (pa_cons (pv 1) (pa_cons (pe_callB (call_repr hm hr) (by rfl) g_repr (by rfl) (pa_cons (pv 2) pa_nil)) pa_nil)))))) pss_nil)
  (pss_cons (ps_if (pt_cmpR opIn (pv 0) (pe_tup (pa_cons pe_int (pa_cons pe_int (pa_cons pe_int (pa_cons pe_int (pa_cons pe_int pa_nil)))))) rfl) (pss_one (ps_ret (pe_tup (pa_cons (pe_ix ix_seq (pv 4) (pv 0) (fun _ _ => rfl)) (pa_cons (pv 1) pa_nil))))) pss_nil)
  (pss_cons (ps_if (pt_cmpR opIn (pv 0) (pe_tup (pa_cons pe_int (pa_cons pe_int (pa_cons pe_int pa_nil)))) rfl) (pss_one (ps_ret (pe_tup (pa_cons (pe_ix ix_seq (pv 4) (pv 0) (fun _ _ => rfl)) (pa_cons (pe_callB (call_repr hm hr) (by rfl) g_repr (by rfl) (pa_cons (pv 1) pa_nil)) pa_nil))))) pss_nil)
  (pss_cons (ps_if (pt_cmpR opIn (pv 0) (pe_tup (pa_cons pe_int (pa_cons pe_int pa_nil))) rfl) (pss_one (ps_ret (pe_tup (pa_cons (pe_ix ix_seq (pv 4) (pv 0) (fun _ _ => rfl)) (pa_cons (pv 1) (pa_cons (pv 2) pa_nil)))))) pss_nil)
  (pss_one (ps_ret (pe_ifExp (pt_cmpR (opEq hr) (pv 0) pe_int (nomark _)) (pe_tup (pa_cons (pe_ix ix_seq (pv 4) (pv 0) (fun _ _ => rfl)) (pa_cons (pv 1) (pa_cons (pv 2) (pa_cons (pv 3) pa_nil))))) (pe_tup (pa_cons (pe_ix ix_seq (pv 4) (pv 0) (fun _ _ => rfl)) pa_nil))))))))))), ?_⟩
  obtain ⟨k, v1, v2, v3, d1, d2, hk, rfl, hd1, g1, hd2, g2, q⟩ := h
  refine ⟨by show (12 : Nat) ≤ sizeLine; decide, fun l1 hl1 => ?_⟩
  unfold gName
  dsimp only
  refine seq_rest (fun σ H0 => ∃ l, σ = [some (.int k), some v1, some v2, some v3, some (.ref l)] ∧ Same H H0 ∧ H0 l = some (.lst W16)) ?_ fun rest => ?_
  rotate_left
  · refine ⟨_, rfl, by show (4 : Nat) ≤ sizeLine; decide, fun l2 hl2 => ?_⟩
    refine .inr (.inl ⟨l1, l2, _, _, rfl, rfl, same_new hl2 _ _ upd_same, upd_same, by show (16 : Nat) ≤ sizeLine; decide, fun l hl => ?_⟩)
    exact rest _ _ ⟨l, rfl, ((same_new hl1).trans (same_new hl2)).trans (same_new hl), upd_same⟩
  rintro σ H0 ⟨l, rfl, sm0, hw0⟩
  match k, hk, q with
  | 0, _, q =>
    refine ⟨_, rfl, by show (3 : Nat) ≤ sizeLine; decide, fun t0 ht0 => ⟨t0, _, rfl, .inr (.inl (.inl upd_same)), rfl, rfl, _, rfl, ite_ye (by decide) ?_⟩⟩
    have sm1 := sm0.trans (same_new (o := .tup [V.int 0, V.int 1, V.int 7]) ht0)
    have hw1 := same_new (o := .tup [V.int 0, V.int 1, V.int 7]) ht0 _ _ hw0
    refine ⟨_, rfl, _, rfl, .inl ⟨l, W16, _, _, rfl, rfl, .inl (.inl hw1), atI_nat (j := 0) rfl, ?_⟩⟩
    refine ⟨_, rfl, ?_⟩
    refine ⟨_, rfl, _, d2, rfl, hd2.mono sm1, (Gd.rep g2 (by decide) (by decide)).1, (Gd.rep g2 (by decide) (by decide)).2.1, (Gd.rep g2 (by decide) (by decide)).2.2, ?_⟩
    exact ⟨by show (3 : Nat) ≤ sizeLine; decide, fun t ht => q t _ (sm1.trans (same_new ht)) upd_same⟩
  | 1, _, q =>
    refine ⟨_, rfl, by show (3 : Nat) ≤ sizeLine; decide, fun t0 ht0 => ⟨t0, _, rfl, .inr (.inl (.inl upd_same)), rfl, rfl, _, rfl, ite_ye (by decide) ?_⟩⟩
    have sm1 := sm0.trans (same_new (o := .tup [V.int 0, V.int 1, V.int 7]) ht0)
    have hw1 := same_new (o := .tup [V.int 0, V.int 1, V.int 7]) ht0 _ _ hw0
    refine ⟨_, rfl, _, rfl, .inl ⟨l, W16, _, _, rfl, rfl, .inl (.inl hw1), atI_nat (j := 1) rfl, ?_⟩⟩
    refine ⟨_, rfl, ?_⟩
    refine ⟨_, rfl, _, d2, rfl, hd2.mono sm1, (Gd.rep g2 (by decide) (by decide)).1, (Gd.rep g2 (by decide) (by decide)).2.1, (Gd.rep g2 (by decide) (by decide)).2.2, ?_⟩
    exact ⟨by show (3 : Nat) ≤ sizeLine; decide, fun t ht => q t _ (sm1.trans (same_new ht)) upd_same⟩
  | 2, _, q =>
    refine ⟨_, rfl, by show (3 : Nat) ≤ sizeLine; decide, fun t0 ht0 => ⟨t0, _, rfl, .inr (.inl (.inl upd_same)), rfl, rfl, _, rfl, ite_no (by decide) ?_⟩⟩
    have sm1 := sm0.trans (same_new (o := .tup [V.int 0, V.int 1, V.int 7]) ht0)
    have hw1 := same_new (o := .tup [V.int 0, V.int 1, V.int 7]) ht0 _ _ hw0
    refine ⟨_, rfl, by show (5 : Nat) ≤ sizeLine; decide, fun t1 ht1 => ⟨t1, _, rfl, .inr (.inl (.inl upd_same)), rfl, rfl, _, rfl, ite_ye (by decide) ?_⟩⟩
    have sm2 := sm1.trans (same_new (o := .tup [V.int 2, V.int 3, V.int 4, V.int 10, V.int 11]) ht1)
    have hw2 := same_new (o := .tup [V.int 2, V.int 3, V.int 4, V.int 10, V.int 11]) ht1 _ _ hw1
    refine ⟨_, rfl, _, rfl, .inl ⟨l, W16, _, _, rfl, rfl, .inl (.inl hw2), atI_nat (j := 2) rfl, ?_⟩⟩
    refine ⟨_, rfl, ?_⟩
    exact ⟨by show (2 : Nat) ≤ sizeLine; decide, fun t ht => q t _ (sm2.trans (same_new ht)) upd_same⟩
  | 3, _, q =>
    refine ⟨_, rfl, by show (3 : Nat) ≤ sizeLine; decide, fun t0 ht0 => ⟨t0, _, rfl, .inr (.inl (.inl upd_same)), rfl, rfl, _, rfl, ite_no (by decide) ?_⟩⟩
    have sm1 := sm0.trans (same_new (o := .tup [V.int 0, V.int 1, V.int 7]) ht0)
    have hw1 := same_new (o := .tup [V.int 0, V.int 1, V.int 7]) ht0 _ _ hw0
    refine ⟨_, rfl, by show (5 : Nat) ≤ sizeLine; decide, fun t1 ht1 => ⟨t1, _, rfl, .inr (.inl (.inl upd_same)), rfl, rfl, _, rfl, ite_ye (by decide) ?_⟩⟩
    have sm2 := sm1.trans (same_new (o := .tup [V.int 2, V.int 3, V.int 4, V.int 10, V.int 11]) ht1)
    have hw2 := same_new (o := .tup [V.int 2, V.int 3, V.int 4, V.int 10, V.int 11]) ht1 _ _ hw1
    refine ⟨_, rfl, _, rfl, .inl ⟨l, W16, _, _, rfl, rfl, .inl (.inl hw2), atI_nat (j := 3) rfl, ?_⟩⟩
    refine ⟨_, rfl, ?_⟩
    exact ⟨by show (2 : Nat) ≤ sizeLine; decide, fun t ht => q t _ (sm2.trans (same_new ht)) upd_same⟩
  | 4, _, q =>
    refine ⟨_, rfl, by show (3 : Nat) ≤ sizeLine; decide, fun t0 ht0 => ⟨t0, _, rfl, .inr (.inl (.inl upd_same)), rfl, rfl, _, rfl, ite_no (by decide) ?_⟩⟩
    have sm1 := sm0.trans (same_new (o := .tup [V.int 0, V.int 1, V.int 7]) ht0)
    have hw1 := same_new (o := .tup [V.int 0, V.int 1, V.int 7]) ht0 _ _ hw0
    refine ⟨_, rfl, by show (5 : Nat) ≤ sizeLine; decide, fun t1 ht1 => ⟨t1, _, rfl, .inr (.inl (.inl upd_same)), rfl, rfl, _, rfl, ite_ye (by decide) ?_⟩⟩
    have sm2 := sm1.trans (same_new (o := .tup [V.int 2, V.int 3, V.int 4, V.int 10, V.int 11]) ht1)
    have hw2 := same_new (o := .tup [V.int 2, V.int 3, V.int 4, V.int 10, V.int 11]) ht1 _ _ hw1
    refine ⟨_, rfl, _, rfl, .inl ⟨l, W16, _, _, rfl, rfl, .inl (.inl hw2), atI_nat (j := 4) rfl, ?_⟩⟩
    refine ⟨_, rfl, ?_⟩
    exact ⟨by show (2 : Nat) ≤ sizeLine; decide, fun t ht => q t _ (sm2.trans (same_new ht)) upd_same⟩
  | 5, _, q =>
    refine ⟨_, rfl, by show (3 : Nat) ≤ sizeLine; decide, fun t0 ht0 => ⟨t0, _, rfl, .inr (.inl (.inl upd_same)), rfl, rfl, _, rfl, ite_no (by decide) ?_⟩⟩
    have sm1 := sm0.trans (same_new (o := .tup [V.int 0, V.int 1, V.int 7]) ht0)
    have hw1 := same_new (o := .tup [V.int 0, V.int 1, V.int 7]) ht0 _ _ hw0
    refine ⟨_, rfl, by show (5 : Nat) ≤ sizeLine; decide, fun t1 ht1 => ⟨t1, _, rfl, .inr (.inl (.inl upd_same)), rfl, rfl, _, rfl, ite_no (by decide) ?_⟩⟩
    have sm2 := sm1.trans (same_new (o := .tup [V.int 2, V.int 3, V.int 4, V.int 10, V.int 11]) ht1)
    have hw2 := same_new (o := .tup [V.int 2, V.int 3, V.int 4, V.int 10, V.int 11]) ht1 _ _ hw1
    refine ⟨_, rfl, by show (3 : Nat) ≤ sizeLine; decide, fun t2 ht2 => ⟨t2, _, rfl, .inr (.inl (.inl upd_same)), rfl, rfl, _, rfl, ite_ye (by decide) ?_⟩⟩
    have sm3 := sm2.trans (same_new (o := .tup [V.int 5, V.int 8, V.int 9]) ht2)
    have hw3 := same_new (o := .tup [V.int 5, V.int 8, V.int 9]) ht2 _ _ hw2
    refine ⟨_, rfl, _, rfl, .inl ⟨l, W16, _, _, rfl, rfl, .inl (.inl hw3), atI_nat (j := 5) rfl, ?_⟩⟩
    refine ⟨_, rfl, _, d1, rfl, hd1.mono sm3, (Gd.rep g1 (by decide) (by decide)).1, (Gd.rep g1 (by decide) (by decide)).2.1, (Gd.rep g1 (by decide) (by decide)).2.2, ?_⟩
    exact ⟨by show (2 : Nat) ≤ sizeLine; decide, fun t ht => q t _ (sm3.trans (same_new ht)) upd_same⟩
  | 6, _, q =>
    refine ⟨_, rfl, by show (3 : Nat) ≤ sizeLine; decide, fun t0 ht0 => ⟨t0, _, rfl, .inr (.inl (.inl upd_same)), rfl, rfl, _, rfl, ite_no (by decide) ?_⟩⟩
    have sm1 := sm0.trans (same_new (o := .tup [V.int 0, V.int 1, V.int 7]) ht0)
    have hw1 := same_new (o := .tup [V.int 0, V.int 1, V.int 7]) ht0 _ _ hw0
    refine ⟨_, rfl, by show (5 : Nat) ≤ sizeLine; decide, fun t1 ht1 => ⟨t1, _, rfl, .inr (.inl (.inl upd_same)), rfl, rfl, _, rfl, ite_no (by decide) ?_⟩⟩
    have sm2 := sm1.trans (same_new (o := .tup [V.int 2, V.int 3, V.int 4, V.int 10, V.int 11]) ht1)
    have hw2 := same_new (o := .tup [V.int 2, V.int 3, V.int 4, V.int 10, V.int 11]) ht1 _ _ hw1
    refine ⟨_, rfl, by show (3 : Nat) ≤ sizeLine; decide, fun t2 ht2 => ⟨t2, _, rfl, .inr (.inl (.inl upd_same)), rfl, rfl, _, rfl, ite_no (by decide) ?_⟩⟩
    have sm3 := sm2.trans (same_new (o := .tup [V.int 5, V.int 8, V.int 9]) ht2)
    have hw3 := same_new (o := .tup [V.int 5, V.int 8, V.int 9]) ht2 _ _ hw2
    refine ⟨_, rfl, by show (2 : Nat) ≤ sizeLine; decide, fun t3 ht3 => ⟨t3, _, rfl, .inr (.inl (.inl upd_same)), rfl, rfl, _, rfl, ite_ye (by decide) ?_⟩⟩
    have sm4 := sm3.trans (same_new (o := .tup [V.int 6, V.int 13]) ht3)
    have hw4 := same_new (o := .tup [V.int 6, V.int 13]) ht3 _ _ hw3
    refine ⟨_, rfl, _, rfl, .inl ⟨l, W16, _, _, rfl, rfl, .inl (.inl hw4), atI_nat (j := 6) rfl, ?_⟩⟩
    refine ⟨_, rfl, ?_⟩
    refine ⟨_, rfl, ?_⟩
    exact ⟨by show (3 : Nat) ≤ sizeLine; decide, fun t ht => q t _ (sm4.trans (same_new ht)) upd_same⟩
  | 7, _, q =>
    refine ⟨_, rfl, by show (3 : Nat) ≤ sizeLine; decide, fun t0 ht0 => ⟨t0, _, rfl, .inr (.inl (.inl upd_same)), rfl, rfl, _, rfl, ite_ye (by decide) ?_⟩⟩
    have sm1 := sm0.trans (same_new (o := .tup [V.int 0, V.int 1, V.int 7]) ht0)
    have hw1 := same_new (o := .tup [V.int 0, V.int 1, V.int 7]) ht0 _ _ hw0
    refine ⟨_, rfl, _, rfl, .inl ⟨l, W16, _, _, rfl, rfl, .inl (.inl hw1), atI_nat (j := 7) rfl, ?_⟩⟩
    refine ⟨_, rfl, ?_⟩
    refine ⟨_, rfl, _, d2, rfl, hd2.mono sm1, (Gd.rep g2 (by decide) (by decide)).1, (Gd.rep g2 (by decide) (by decide)).2.1, (Gd.rep g2 (by decide) (by decide)).2.2, ?_⟩
    exact ⟨by show (3 : Nat) ≤ sizeLine; decide, fun t ht => q t _ (sm1.trans (same_new ht)) upd_same⟩
  | 8, _, q =>
    refine ⟨_, rfl, by show (3 : Nat) ≤ sizeLine; decide, fun t0 ht0 => ⟨t0, _, rfl, .inr (.inl (.inl upd_same)), rfl, rfl, _, rfl, ite_no (by decide) ?_⟩⟩
    have sm1 := sm0.trans (same_new (o := .tup [V.int 0, V.int 1, V.int 7]) ht0)
    have hw1 := same_new (o := .tup [V.int 0, V.int 1, V.int 7]) ht0 _ _ hw0
    refine ⟨_, rfl, by show (5 : Nat) ≤ sizeLine; decide, fun t1 ht1 => ⟨t1, _, rfl, .inr (.inl (.inl upd_same)), rfl, rfl, _, rfl, ite_no (by decide) ?_⟩⟩
    have sm2 := sm1.trans (same_new (o := .tup [V.int 2, V.int 3, V.int 4, V.int 10, V.int 11]) ht1)
    have hw2 := same_new (o := .tup [V.int 2, V.int 3, V.int 4, V.int 10, V.int 11]) ht1 _ _ hw1
    refine ⟨_, rfl, by show (3 : Nat) ≤ sizeLine; decide, fun t2 ht2 => ⟨t2, _, rfl, .inr (.inl (.inl upd_same)), rfl, rfl, _, rfl, ite_ye (by decide) ?_⟩⟩
    have sm3 := sm2.trans (same_new (o := .tup [V.int 5, V.int 8, V.int 9]) ht2)
    have hw3 := same_new (o := .tup [V.int 5, V.int 8, V.int 9]) ht2 _ _ hw2
    refine ⟨_, rfl, _, rfl, .inl ⟨l, W16, _, _, rfl, rfl, .inl (.inl hw3), atI_nat (j := 8) rfl, ?_⟩⟩
    refine ⟨_, rfl, _, d1, rfl, hd1.mono sm3, (Gd.rep g1 (by decide) (by decide)).1, (Gd.rep g1 (by decide) (by decide)).2.1, (Gd.rep g1 (by decide) (by decide)).2.2, ?_⟩
    exact ⟨by show (2 : Nat) ≤ sizeLine; decide, fun t ht => q t _ (sm3.trans (same_new ht)) upd_same⟩
  | 9, _, q =>
    refine ⟨_, rfl, by show (3 : Nat) ≤ sizeLine; decide, fun t0 ht0 => ⟨t0, _, rfl, .inr (.inl (.inl upd_same)), rfl, rfl, _, rfl, ite_no (by decide) ?_⟩⟩
    have sm1 := sm0.trans (same_new (o := .tup [V.int 0, V.int 1, V.int 7]) ht0)
    have hw1 := same_new (o := .tup [V.int 0, V.int 1, V.int 7]) ht0 _ _ hw0
    refine ⟨_, rfl, by show (5 : Nat) ≤ sizeLine; decide, fun t1 ht1 => ⟨t1, _, rfl, .inr (.inl (.inl upd_same)), rfl, rfl, _, rfl, ite_no (by decide) ?_⟩⟩
    have sm2 := sm1.trans (same_new (o := .tup [V.int 2, V.int 3, V.int 4, V.int 10, V.int 11]) ht1)
    have hw2 := same_new (o := .tup [V.int 2, V.int 3, V.int 4, V.int 10, V.int 11]) ht1 _ _ hw1
    refine ⟨_, rfl, by show (3 : Nat) ≤ sizeLine; decide, fun t2 ht2 => ⟨t2, _, rfl, .inr (.inl (.inl upd_same)), rfl, rfl, _, rfl, ite_ye (by decide) ?_⟩⟩
    have sm3 := sm2.trans (same_new (o := .tup [V.int 5, V.int 8, V.int 9]) ht2)
    have hw3 := same_new (o := .tup [V.int 5, V.int 8, V.int 9]) ht2 _ _ hw2
    refine ⟨_, rfl, _, rfl, .inl ⟨l, W16, _, _, rfl, rfl, .inl (.inl hw3), atI_nat (j := 9) rfl, ?_⟩⟩
    refine ⟨_, rfl, _, d1, rfl, hd1.mono sm3, (Gd.rep g1 (by decide) (by decide)).1, (Gd.rep g1 (by decide) (by decide)).2.1, (Gd.rep g1 (by decide) (by decide)).2.2, ?_⟩
    exact ⟨by show (2 : Nat) ≤ sizeLine; decide, fun t ht => q t _ (sm3.trans (same_new ht)) upd_same⟩
  | 10, _, q =>
    refine ⟨_, rfl, by show (3 : Nat) ≤ sizeLine; decide, fun t0 ht0 => ⟨t0, _, rfl, .inr (.inl (.inl upd_same)), rfl, rfl, _, rfl, ite_no (by decide) ?_⟩⟩
    have sm1 := sm0.trans (same_new (o := .tup [V.int 0, V.int 1, V.int 7]) ht0)
    have hw1 := same_new (o := .tup [V.int 0, V.int 1, V.int 7]) ht0 _ _ hw0
    refine ⟨_, rfl, by show (5 : Nat) ≤ sizeLine; decide, fun t1 ht1 => ⟨t1, _, rfl, .inr (.inl (.inl upd_same)), rfl, rfl, _, rfl, ite_ye (by decide) ?_⟩⟩
    have sm2 := sm1.trans (same_new (o := .tup [V.int 2, V.int 3, V.int 4, V.int 10, V.int 11]) ht1)
    have hw2 := same_new (o := .tup [V.int 2, V.int 3, V.int 4, V.int 10, V.int 11]) ht1 _ _ hw1
    refine ⟨_, rfl, _, rfl, .inl ⟨l, W16, _, _, rfl, rfl, .inl (.inl hw2), atI_nat (j := 10) rfl, ?_⟩⟩
    refine ⟨_, rfl, ?_⟩
    exact ⟨by show (2 : Nat) ≤ sizeLine; decide, fun t ht => q t _ (sm2.trans (same_new ht)) upd_same⟩
  | 11, _, q =>
    refine ⟨_, rfl, by show (3 : Nat) ≤ sizeLine; decide, fun t0 ht0 => ⟨t0, _, rfl, .inr (.inl (.inl upd_same)), rfl, rfl, _, rfl, ite_no (by decide) ?_⟩⟩
    have sm1 := sm0.trans (same_new (o := .tup [V.int 0, V.int 1, V.int 7]) ht0)
    have hw1 := same_new (o := .tup [V.int 0, V.int 1, V.int 7]) ht0 _ _ hw0
    refine ⟨_, rfl, by show (5 : Nat) ≤ sizeLine; decide, fun t1 ht1 => ⟨t1, _, rfl, .inr (.inl (.inl upd_same)), rfl, rfl, _, rfl, ite_ye (by decide) ?_⟩⟩
    have sm2 := sm1.trans (same_new (o := .tup [V.int 2, V.int 3, V.int 4, V.int 10, V.int 11]) ht1)
    have hw2 := same_new (o := .tup [V.int 2, V.int 3, V.int 4, V.int 10, V.int 11]) ht1 _ _ hw1
    refine ⟨_, rfl, _, rfl, .inl ⟨l, W16, _, _, rfl, rfl, .inl (.inl hw2), atI_nat (j := 11) rfl, ?_⟩⟩
    refine ⟨_, rfl, ?_⟩
    exact ⟨by show (2 : Nat) ≤ sizeLine; decide, fun t ht => q t _ (sm2.trans (same_new ht)) upd_same⟩
  | 12, _, q =>
    refine ⟨_, rfl, by show (3 : Nat) ≤ sizeLine; decide, fun t0 ht0 => ⟨t0, _, rfl, .inr (.inl (.inl upd_same)), rfl, rfl, _, rfl, ite_no (by decide) ?_⟩⟩
    have sm1 := sm0.trans (same_new (o := .tup [V.int 0, V.int 1, V.int 7]) ht0)
    have hw1 := same_new (o := .tup [V.int 0, V.int 1, V.int 7]) ht0 _ _ hw0
    refine ⟨_, rfl, by show (5 : Nat) ≤ sizeLine; decide, fun t1 ht1 => ⟨t1, _, rfl, .inr (.inl (.inl upd_same)), rfl, rfl, _, rfl, ite_no (by decide) ?_⟩⟩
    have sm2 := sm1.trans (same_new (o := .tup [V.int 2, V.int 3, V.int 4, V.int 10, V.int 11]) ht1)
    have hw2 := same_new (o := .tup [V.int 2, V.int 3, V.int 4, V.int 10, V.int 11]) ht1 _ _ hw1
    refine ⟨_, rfl, by show (3 : Nat) ≤ sizeLine; decide, fun t2 ht2 => ⟨t2, _, rfl, .inr (.inl (.inl upd_same)), rfl, rfl, _, rfl, ite_no (by decide) ?_⟩⟩
    have sm3 := sm2.trans (same_new (o := .tup [V.int 5, V.int 8, V.int 9]) ht2)
    have hw3 := same_new (o := .tup [V.int 5, V.int 8, V.int 9]) ht2 _ _ hw2
    refine ⟨_, rfl, by show (2 : Nat) ≤ sizeLine; decide, fun t3 ht3 => ⟨t3, _, rfl, .inr (.inl (.inl upd_same)), rfl, rfl, _, rfl, ite_no (by decide) ?_⟩⟩
    have sm4 := sm3.trans (same_new (o := .tup [V.int 6, V.int 13]) ht3)
    have hw4 := same_new (o := .tup [V.int 6, V.int 13]) ht3 _ _ hw3
    refine ⟨_, rfl, .inl ⟨rfl, _, rfl, ite_ye (by decide) ?_⟩⟩
    refine ⟨_, rfl, _, rfl, .inl ⟨l, W16, _, _, rfl, rfl, .inl (.inl hw4), atI_nat (j := 12) rfl, ?_⟩⟩
    refine ⟨_, rfl, ?_⟩
    refine ⟨_, rfl, ?_⟩
    refine ⟨_, rfl, ?_⟩
    exact ⟨by show (4 : Nat) ≤ sizeLine; decide, fun t ht => q t _ (sm4.trans (same_new ht)) upd_same⟩
  | 13, _, q =>
    refine ⟨_, rfl, by show (3 : Nat) ≤ sizeLine; decide, fun t0 ht0 => ⟨t0, _, rfl, .inr (.inl (.inl upd_same)), rfl, rfl, _, rfl, ite_no (by decide) ?_⟩⟩
    have sm1 := sm0.trans (same_new (o := .tup [V.int 0, V.int 1, V.int 7]) ht0)
    have hw1 := same_new (o := .tup [V.int 0, V.int 1, V.int 7]) ht0 _ _ hw0
    refine ⟨_, rfl, by show (5 : Nat) ≤ sizeLine; decide, fun t1 ht1 => ⟨t1, _, rfl, .inr (.inl (.inl upd_same)), rfl, rfl, _, rfl, ite_no (by decide) ?_⟩⟩
    have sm2 := sm1.trans (same_new (o := .tup [V.int 2, V.int 3, V.int 4, V.int 10, V.int 11]) ht1)
    have hw2 := same_new (o := .tup [V.int 2, V.int 3, V.int 4, V.int 10, V.int 11]) ht1 _ _ hw1
    refine ⟨_, rfl, by show (3 : Nat) ≤ sizeLine; decide, fun t2 ht2 => ⟨t2, _, rfl, .inr (.inl (.inl upd_same)), rfl, rfl, _, rfl, ite_no (by decide) ?_⟩⟩
    have sm3 := sm2.trans (same_new (o := .tup [V.int 5, V.int 8, V.int 9]) ht2)
    have hw3 := same_new (o := .tup [V.int 5, V.int 8, V.int 9]) ht2 _ _ hw2
    refine ⟨_, rfl, by show (2 : Nat) ≤ sizeLine; decide, fun t3 ht3 => ⟨t3, _, rfl, .inr (.inl (.inl upd_same)), rfl, rfl, _, rfl, ite_ye (by decide) ?_⟩⟩
    have sm4 := sm3.trans (same_new (o := .tup [V.int 6, V.int 13]) ht3)
    have hw4 := same_new (o := .tup [V.int 6, V.int 13]) ht3 _ _ hw3
    refine ⟨_, rfl, _, rfl, .inl ⟨l, W16, _, _, rfl, rfl, .inl (.inl hw4), atI_nat (j := 13) rfl, ?_⟩⟩
    refine ⟨_, rfl, ?_⟩
    refine ⟨_, rfl, ?_⟩
    exact ⟨by show (3 : Nat) ≤ sizeLine; decide, fun t ht => q t _ (sm4.trans (same_new ht)) upd_same⟩
  | 14, _, q =>
    refine ⟨_, rfl, by show (3 : Nat) ≤ sizeLine; decide, fun t0 ht0 => ⟨t0, _, rfl, .inr (.inl (.inl upd_same)), rfl, rfl, _, rfl, ite_no (by decide) ?_⟩⟩
    have sm1 := sm0.trans (same_new (o := .tup [V.int 0, V.int 1, V.int 7]) ht0)
    have hw1 := same_new (o := .tup [V.int 0, V.int 1, V.int 7]) ht0 _ _ hw0
    refine ⟨_, rfl, by show (5 : Nat) ≤ sizeLine; decide, fun t1 ht1 => ⟨t1, _, rfl, .inr (.inl (.inl upd_same)), rfl, rfl, _, rfl, ite_no (by decide) ?_⟩⟩
    have sm2 := sm1.trans (same_new (o := .tup [V.int 2, V.int 3, V.int 4, V.int 10, V.int 11]) ht1)
    have hw2 := same_new (o := .tup [V.int 2, V.int 3, V.int 4, V.int 10, V.int 11]) ht1 _ _ hw1
    refine ⟨_, rfl, by show (3 : Nat) ≤ sizeLine; decide, fun t2 ht2 => ⟨t2, _, rfl, .inr (.inl (.inl upd_same)), rfl, rfl, _, rfl, ite_no (by decide) ?_⟩⟩
    have sm3 := sm2.trans (same_new (o := .tup [V.int 5, V.int 8, V.int 9]) ht2)
    have hw3 := same_new (o := .tup [V.int 5, V.int 8, V.int 9]) ht2 _ _ hw2
    refine ⟨_, rfl, by show (2 : Nat) ≤ sizeLine; decide, fun t3 ht3 => ⟨t3, _, rfl, .inr (.inl (.inl upd_same)), rfl, rfl, _, rfl, ite_no (by decide) ?_⟩⟩
    have sm4 := sm3.trans (same_new (o := .tup [V.int 6, V.int 13]) ht3)
    have hw4 := same_new (o := .tup [V.int 6, V.int 13]) ht3 _ _ hw3
    refine ⟨_, rfl, .inl ⟨rfl, _, rfl, ite_no (by decide) ?_⟩⟩
    refine ⟨_, rfl, _, rfl, .inl ⟨l, W16, _, _, rfl, rfl, .inl (.inl hw4), atI_nat (j := 14) rfl, ?_⟩⟩
    exact ⟨by show (1 : Nat) ≤ sizeLine; decide, fun t ht => q t _ (sm4.trans (same_new ht)) upd_same⟩
  | 15, _, q =>
    refine ⟨_, rfl, by show (3 : Nat) ≤ sizeLine; decide, fun t0 ht0 => ⟨t0, _, rfl, .inr (.inl (.inl upd_same)), rfl, rfl, _, rfl, ite_no (by decide) ?_⟩⟩
    have sm1 := sm0.trans (same_new (o := .tup [V.int 0, V.int 1, V.int 7]) ht0)
    have hw1 := same_new (o := .tup [V.int 0, V.int 1, V.int 7]) ht0 _ _ hw0
    refine ⟨_, rfl, by show (5 : Nat) ≤ sizeLine; decide, fun t1 ht1 => ⟨t1, _, rfl, .inr (.inl (.inl upd_same)), rfl, rfl, _, rfl, ite_no (by decide) ?_⟩⟩
    have sm2 := sm1.trans (same_new (o := .tup [V.int 2, V.int 3, V.int 4, V.int 10, V.int 11]) ht1)
    have hw2 := same_new (o := .tup [V.int 2, V.int 3, V.int 4, V.int 10, V.int 11]) ht1 _ _ hw1
    refine ⟨_, rfl, by show (3 : Nat) ≤ sizeLine; decide, fun t2 ht2 => ⟨t2, _, rfl, .inr (.inl (.inl upd_same)), rfl, rfl, _, rfl, ite_no (by decide) ?_⟩⟩
    have sm3 := sm2.trans (same_new (o := .tup [V.int 5, V.int 8, V.int 9]) ht2)
    have hw3 := same_new (o := .tup [V.int 5, V.int 8, V.int 9]) ht2 _ _ hw2
    refine ⟨_, rfl, by show (2 : Nat) ≤ sizeLine; decide, fun t3 ht3 => ⟨t3, _, rfl, .inr (.inl (.inl upd_same)), rfl, rfl, _, rfl, ite_no (by decide) ?_⟩⟩
    have sm4 := sm3.trans (same_new (o := .tup [V.int 6, V.int 13]) ht3)
    have hw4 := same_new (o := .tup [V.int 6, V.int 13]) ht3 _ _ hw3
    refine ⟨_, rfl, .inl ⟨rfl, _, rfl, ite_no (by decide) ?_⟩⟩
    refine ⟨_, rfl, _, rfl, .inl ⟨l, W16, _, _, rfl, rfl, .inl (.inl hw4), atI_nat (j := 15) rfl, ?_⟩⟩
    exact ⟨by show (1 : Nat) ≤ sizeLine; decide, fun t ht => q t _ (sm4.trans (same_new ht)) upd_same⟩
  | _ + 16, hk, _ => exact absurd hk (by omega)
end
end K01
namespace K01
open PySem PySem.Spec PyProof.Rows L2 Fp
section
variable {P : Program} {w : World} {K : PySem.W.Frag} {mg : Str → Option Value} {base : Heap} {f : Addr} {fd : FuncData}
def spLaw (K : PySem.W.Frag) : Sp := fun vs H Q _ => ∃ (a : Addr) (ns : List Int), vs = [.ref a] ∧ SqL K H a (ns.map V.int) ∧ ∀ H', Q (.bl true) H'
abbrev slaw : Stmt := top 29
theorem sclaw : FnScope ["script", "pen", "kind", "told", "one", "two", "three"] ["script"] (defScope slaw) := ⟨rfl, rfl, rfl, by decide +kernel, rfl, by decide +kernel, by decide +kernel⟩

theorem ok_law (F : FnP K "law" slaw f fd) (hm : ∃ o es ep, base.get? sysModules = some o ∧ o.data = .dict es ep) (g_repr : mg "repr" = none) (g_len : mg "len" = none) (g_range : mg "range" = none)
    (p__law_pen : PrG P w K mg base "_law_pen" 1 ["script"] (spPen P w K)) (p__law_any_field : PrG P w K mg base "_law_any_field" 3 ["pen"] (spField P w K)) (p__law_told : PrG P w K mg base "_law_told" 4 ["kind", "one", "two", "three"] (spTold K)) (p__law_due : PrG P w K mg base "_law_due" 1 ["kind", "one", "two", "three"] (spDue K)) :
    FnG P w K mg base (L2.CX P w) 5 f fd ["script"] (spLaw K) := by
  refine okG F sclaw (fun vs H Q E h => ?_) (fun cdv B outer s H vs Q E hr h => ?_)
  · obtain ⟨a, ns, rfl, _⟩ := h
    rfl
  have nd := sclaw.nd
  have hu := huG hr
  refine ⟨_, (pss_cons (ps_set (i := 1) nd rfl (.inl rfl) (pe_callP p__law_pen (hr.mono (by decide)) (by rfl) (fun σ => passAt (takes_of rfl rfl rfl rfl) σ) (pa_cons (pv 0) pa_nil)))
  (pss_cons (ps_for (passes_of rfl) rfl (pi_range1 (by rfl) g_range (pa_cons pe_int pa_nil)) (pg_name (i := 2) nd rfl (.inl rfl))
   (pss_cons (ps_par3 (i := 4) (j := 5) (l := 6) rfl nd rfl rfl rfl (by decide) (by decide) (by decide) rfl rfl rfl (pa_cons (pe_callP p__law_any_field (hr.mono (by decide)) (by rfl) (fun σ => passAt (takes_of rfl rfl rfl rfl) σ) (pa_cons (pv 1) pa_nil)) (pa_cons (pe_callP p__law_any_field (hr.mono (by decide)) (by rfl) (fun σ => passAt (takes_of rfl rfl rfl rfl) σ) (pa_cons (pv 1) pa_nil)) (pa_cons (pe_callP p__law_any_field (hr.mono (by decide)) (by rfl) (fun σ => passAt (takes_of rfl rfl rfl rfl) σ) (pa_cons (pv 1) pa_nil)) pa_nil))) rfl)
  (pss_cons (ps_set (i := 3) nd rfl (.inl rfl) (pe_callP p__law_told (hr.mono (by decide)) (by rfl) (fun σ => passAt (takes_of rfl rfl rfl rfl) σ) (pa_cons (pv 2) (pa_cons (pv 4) (pa_cons (pv 5) (pa_cons (pv 6) pa_nil))))))
  (pss_one (ps_if (PW.pt (pw_or (pt_cmpR opIs (pv 3) pe_non (nomark _)) (pw_or (pt_cmpR (opNe hr) (pe_callB call_len_seq (by rfl) g_len (by rfl) (pa_cons (pv 3) pa_nil)) pe_int (nomark _)) (pw_or1 (pt_cmpR (opNe hr) (pe_callB (call_repr hm hr) (by rfl) g_repr (by rfl) (pa_cons (pe_ix ix_seq (pv 3) pe_int (fun _ _ => rfl)) pa_nil)) (pe_callB (call_repr hm hr) (by rfl) g_repr (by rfl) (pa_cons (pe_callP p__law_due (hr.mono (by decide)) (by rfl) (fun σ => passAt (takes_of rfl rfl rfl rfl) σ) (pa_cons (pv 2) (pa_cons (pv 4) (pa_cons (pv 5) (pa_cons (pv 6) pa_nil))))) pa_nil)) (nomark _)))))) (pss_one (ps_ret pe_bl)) pss_nil)))))
  (pss_one (ps_ret pe_bl)))), ?_⟩
  obtain ⟨a, ns, rfl, hS, q⟩ := h
  refine ⟨_, rfl, a, ns, rfl, hS, fun p H1 s1 hp => ?_⟩
  refine ⟨16, rfl, by decide, by decide, ?_⟩
  refine for_range (n := 16) (fun _ σ H' => Pen P w H' p ∧ ∃ v2 v3 v4 v5 v6, σ = [some (.ref a), some (.ref p), v2, v3, v4, v5, v6]) ⟨hp, _, _, _, _, _, rfl⟩ ?_ ?_
  · rintro i σ H2 hi ⟨hp, v2, v3, v4, v5, v6, rfl⟩
    rw [Int.zero_add]
    refine ⟨_, rfl, p, rfl, hp, fun u1 H3 s3 f1 => ⟨_, rfl, p, rfl, hp.mono s3, fun u2 H4 s4 f2 => ⟨_, rfl, p, rfl, (hp.mono s3).mono s4, fun u3 H5 s5 f3 => ⟨u1, u2, u3, rfl, ?_⟩⟩⟩⟩
    have hp5 := ((hp.mono s3).mono s4).mono s5
    obtain ⟨d1, e1, g1⟩ := (f1.mono s4).mono s5
    obtain ⟨d2, e2, g2⟩ := f2.mono s5
    obtain ⟨d3, e3, g3⟩ := f3
    refine ⟨_, rfl, _, rfl, _, rfl, _, rfl, i, u1, u2, u3, d1, d2, hi, rfl, e1, g1, e2, g2, fun l t H6 s6 hl ht => ?_⟩
    refine ⟨_, rfl, rfl, _, rfl, ite_no rfl ?_⟩
    refine ⟨_, rfl, l, _, rfl, .inl (.inl (.inl hl)), .inl ⟨rfl, _, rfl, ite_no (by simp) ?_⟩⟩
    have gg := told_gd g1 g2 g3 i hi
    refine ⟨_, rfl, .inl ⟨l, _, 0, .ref t, rfl, rfl, .inl (.inl hl), atI_nat (j := 0) rfl, ?_⟩⟩
    refine ⟨_, _, rfl, dt_tup (.inl (.inl ht)) (told_dt (e1.mono s6) (e2.mono s6) (e3.mono s6) i hi), gg.sh, Nat.le_trans gg.dp (by decide), gg.big (by decide), ?_⟩
    refine ⟨_, rfl, _, rfl, _, rfl, _, rfl, i, u1, u2, u3, d1, d2, hi, rfl, e1.mono s6, g1, e2.mono s6, g2, fun t2 H7 s7 ht2 => ?_⟩
    refine ⟨_, _, rfl, dt_tup (.inl (.inl ht2)) (told_dt ((e1.mono s6).mono s7) ((e2.mono s6).mono s7) ((e3.mono s6).mono s7) i hi), gg.sh, Nat.le_trans gg.dp (by decide), gg.big (by decide), ?_⟩
    refine .inl ⟨rfl, _, rfl, ite_no (by simp) ?_⟩
    exact ⟨(hp5.mono s6).mono s7, _, _, _, _, _, rfl⟩
  · rintro σ H2 ⟨_, _⟩
    exact q H2
end
end K01
namespace K01
open PySem PySem.Spec PyProof.Rows L2 Fp
def exK (K : PySem.W.Frag) : Bool :=
  errB K "FieldError" && (((List.range 16).all fun k => errB K (cname k)) && (((List.range 14).all fun k => oexB K (cname k) (cfs k)) && ((zexB K "NothingToUndo" && zexB K "NothingToRedo") && (((List.range 16).all fun k => (List.range 16).all fun j => kitB K (cname k) (cname j) (decide (k = j))) && (
  ((List.range 16).all fun k => exmB K (cname k) "FieldError" true) && (((["int", "list", "len", "range", "repr", "isinstance", "ValueError"] : List Str).all fun x => (He.Fa.free x).ok K) && ((["_law_pen", "_law_draw", "_law_pick", "_law_kinds", "_law_more_kinds", "_law_any_field", "_law_raised", "_law_raised_too", "_law_told", "_law_due", "law"] : List Str).all fun x => (He.Fa.glo x).ok K)))))))
abbrev fnD (x : Str) (st : Stmt) : He.DefD := ⟨(x, none), x, x, defArgs st, defBody st, defScope st, [], []⟩
abbrev inD (x : Str) (q : Str) (st : Stmt) : He.DefD := ⟨(x, some "__init__"), "__init__", q, defArgs st, defBody st, defScope st, [], []⟩
def defs : List He.DefD := [fnD "_law_pen" s_law_pen,
  fnD "_law_draw" s_law_draw,
  fnD "_law_pick" s_law_pick,
  fnD "_law_kinds" s_law_kinds,
  fnD "_law_more_kinds" s_law_more_kinds,
  fnD "_law_any_field" s_law_any_field,
  fnD "_law_raised" s_law_raised,
  fnD "_law_raised_too" s_law_raised_too,
  fnD "_law_told" s_law_told,
  fnD "_law_due" s_law_due,
  fnD "law" slaw,
  inD "BadNumber" "BadNumber.__init__" si_BadNumber,
  inD "BadRow" "BadRow.__init__" si_BadRow,
  inD "BadTable" "BadTable.__init__" si_BadTable,
  inD "BadPoly" "BadPoly.__init__" si_BadPoly,
  inD "BadPaper" "BadPaper.__init__" si_BadPaper,
  inD "BadName" "BadName.__init__" si_BadName,
  inD "BadText" "BadText.__init__" si_BadText,
  inD "NoPlace" "NoPlace.__init__" si_NoPlace,
  inD "NoName" "NoName.__init__" si_NoName,
  inD "TakenName" "TakenName.__init__" si_TakenName,
  inD "Unlike" "Unlike.__init__" si_Unlike,
  inD "NotThere" "NotThere.__init__" si_NotThere,
  inD "TooMany" "TooMany.__init__" si_TooMany,
  inD "NotKept" "NotKept.__init__" si_NotKept]
abbrev R : PySem.W.OpenRow := PySem.W.OpenLaw.row PySem.Challenge.rw_fieldpapers_k01_errors_as_told
abbrev hk : PySem.W.Hook := hookS 5 exK defs
def ob (s : PySem.W.SharedT) : Bool × List He.FnW := obsS 5 exK defs (HandSHeadRun.getT s)
theorem ob_eq (s : PySem.W.SharedT) : ob s = hk.obs s.abs := by
  have e : HandSHeadRun.getT s = s.abs.heap.get? := funext fun a => HandSHeadRun.getT_eq s a
  show obsS 5 exK defs (HandSHeadRun.getT s) = obsS 5 exK defs s.abs.heap.get?
  rw [e]
theorem run (w : World) : HandSHeadRun.RunEq R (PySem.W.view R.prog [29]) hk ob 20000 ["FieldError", "BadNumber", "BadRow", "BadTable", "BadPoly", "BadPaper", "BadName", "BadText", "NoPlace", "NoName", "TakenName", "Unlike", "NotThere", "TooMany", "NotKept", "NothingToUndo", "NothingToRedo", "_law_pen", "_law_draw", "_law_pick", "_law_kinds", "_law_more_kinds", "_law_any_field", "_law_raised", "_law_raised_too", "_law_told", "_law_due"] w := by
  intro os
  kernel_rfl
end K01
namespace K01
open PySem PySem.Spec PyProof.Rows L2 Fp
theorem memD {i : Nat} {d : He.DefD} (h : defs[i]? = some d) : d ∈ defs := List.mem_of_getElem? h
theorem facts {P : Program} {w : World} {K : PySem.W.Frag} {h : Heap} {mg : Str → Option Value} {fa : Addr} (S : SaysS exK defs h K) (G : h.Ns mainGlobals mg) (hfa : mg ("law" : Str) = some (.ref fa)) :
    ∃ fd : FuncData, (∀ (s : Shared) (v : Value), BindsTo s fd ⟨[v], []⟩ [("script", v)]) ∧ ∀ base : Heap, K.In base → base.Ns mainGlobals mg → ModD base → FnG P w K mg base (L2.CX P w) 5 fa fd ["script"] (spLaw K) := by
  have X := S.inh
  have ex := S.ex
  unfold exK at ex
  simp only [Bool.and_eq_true] at ex
  obtain ⟨x1, x2, x3, ⟨x4, x4b⟩, x5, x6, x7, x8⟩ := ex
  have rg : ∀ {n : Nat} {p : Nat → Bool}, (List.range n).all p = true → ∀ k, k < n → p k = true := fun e k hk => List.all_eq_true.mp e k (List.mem_range.mpr hk)
  have fr : ∀ x ∈ (["int", "list", "len", "range", "repr", "isinstance", "ValueError"] : List Str), mg x = none := fun x hx => He.free_ok X G (List.all_eq_true.mp x7 x hx)
  have gl : ∀ x ∈ (["_law_pen", "_law_draw", "_law_pick", "_law_kinds", "_law_more_kinds", "_law_any_field", "_law_raised", "_law_raised_too", "_law_told", "_law_due", "law"] : List Str), mg x = some (.ref (He.ga K x)) := fun x hx => He.glo_ok X G (List.all_eq_true.mp x8 x hx)
  have cE : ∀ k, k < 16 → ErrC K mg (cname k) (He.ga K (cname k)) := fun k hk => errB_ok X G (rg x2 k hk)

  have D_law_pen : Df K mg "_law_pen" s_law_pen := by
    obtain ⟨fd, F⟩ := S.fn _ (memD (i := 0) rfl)
    exact ⟨_, fd, F, gl _ (by decide)⟩
  have D_law_draw : Df K mg "_law_draw" s_law_draw := by
    obtain ⟨fd, F⟩ := S.fn _ (memD (i := 1) rfl)
    exact ⟨_, fd, F, gl _ (by decide)⟩
  have D_law_pick : Df K mg "_law_pick" s_law_pick := by
    obtain ⟨fd, F⟩ := S.fn _ (memD (i := 2) rfl)
    exact ⟨_, fd, F, gl _ (by decide)⟩
  have D_law_kinds : Df K mg "_law_kinds" s_law_kinds := by
    obtain ⟨fd, F⟩ := S.fn _ (memD (i := 3) rfl)
    exact ⟨_, fd, F, gl _ (by decide)⟩
  have D_law_more_kinds : Df K mg "_law_more_kinds" s_law_more_kinds := by
    obtain ⟨fd, F⟩ := S.fn _ (memD (i := 4) rfl)
    exact ⟨_, fd, F, gl _ (by decide)⟩
  have D_law_any_field : Df K mg "_law_any_field" s_law_any_field := by
    obtain ⟨fd, F⟩ := S.fn _ (memD (i := 5) rfl)
    exact ⟨_, fd, F, gl _ (by decide)⟩
  have D_law_raised : Df K mg "_law_raised" s_law_raised := by
    obtain ⟨fd, F⟩ := S.fn _ (memD (i := 6) rfl)
    exact ⟨_, fd, F, gl _ (by decide)⟩
  have D_law_raised_too : Df K mg "_law_raised_too" s_law_raised_too := by
    obtain ⟨fd, F⟩ := S.fn _ (memD (i := 7) rfl)
    exact ⟨_, fd, F, gl _ (by decide)⟩
  have D_law_told : Df K mg "_law_told" s_law_told := by
    obtain ⟨fd, F⟩ := S.fn _ (memD (i := 8) rfl)
    exact ⟨_, fd, F, gl _ (by decide)⟩
  have D_law_due : Df K mg "_law_due" s_law_due := by
    obtain ⟨fd, F⟩ := S.fn _ (memD (i := 9) rfl)
    exact ⟨_, fd, F, gl _ (by decide)⟩
  have Dlaw : Df K mg "law" slaw := by
    obtain ⟨fd, F⟩ := S.fn _ (memD (i := 10) rfl)
    exact ⟨_, fd, F, gl _ (by decide)⟩
  obtain ⟨fi_BadNumber, Fi_BadNumber⟩ := S.fn _ (memD (i := 11) (d := inD "BadNumber" "BadNumber.__init__" si_BadNumber) rfl)
  obtain ⟨fi_BadRow, Fi_BadRow⟩ := S.fn _ (memD (i := 12) (d := inD "BadRow" "BadRow.__init__" si_BadRow) rfl)
  obtain ⟨fi_BadTable, Fi_BadTable⟩ := S.fn _ (memD (i := 13) (d := inD "BadTable" "BadTable.__init__" si_BadTable) rfl)
  obtain ⟨fi_BadPoly, Fi_BadPoly⟩ := S.fn _ (memD (i := 14) (d := inD "BadPoly" "BadPoly.__init__" si_BadPoly) rfl)
  obtain ⟨fi_BadPaper, Fi_BadPaper⟩ := S.fn _ (memD (i := 15) (d := inD "BadPaper" "BadPaper.__init__" si_BadPaper) rfl)
  obtain ⟨fi_BadName, Fi_BadName⟩ := S.fn _ (memD (i := 16) (d := inD "BadName" "BadName.__init__" si_BadName) rfl)
  obtain ⟨fi_BadText, Fi_BadText⟩ := S.fn _ (memD (i := 17) (d := inD "BadText" "BadText.__init__" si_BadText) rfl)
  obtain ⟨fi_NoPlace, Fi_NoPlace⟩ := S.fn _ (memD (i := 18) (d := inD "NoPlace" "NoPlace.__init__" si_NoPlace) rfl)
  obtain ⟨fi_NoName, Fi_NoName⟩ := S.fn _ (memD (i := 19) (d := inD "NoName" "NoName.__init__" si_NoName) rfl)
  obtain ⟨fi_TakenName, Fi_TakenName⟩ := S.fn _ (memD (i := 20) (d := inD "TakenName" "TakenName.__init__" si_TakenName) rfl)
  obtain ⟨fi_Unlike, Fi_Unlike⟩ := S.fn _ (memD (i := 21) (d := inD "Unlike" "Unlike.__init__" si_Unlike) rfl)
  obtain ⟨fi_NotThere, Fi_NotThere⟩ := S.fn _ (memD (i := 22) (d := inD "NotThere" "NotThere.__init__" si_NotThere) rfl)
  obtain ⟨fi_TooMany, Fi_TooMany⟩ := S.fn _ (memD (i := 23) (d := inD "TooMany" "TooMany.__init__" si_TooMany) rfl)
  obtain ⟨fi_NotKept, Fi_NotKept⟩ := S.fn _ (memD (i := 24) (d := inD "NotKept" "NotKept.__init__" si_NotKept) rfl)
  obtain ⟨fd, Fl⟩ := S.fn _ (memD (i := 10) (d := fnD "law" slaw) rfl)
  have el : fa = He.ga K "law" := by
    have e := hfa.symm.trans (gl "law" (by decide))
    injection e with e
    injection e
  subst el
  refine ⟨fd, fun s v => FunD.bindsA (ps := ["script"]) Fl (fun _ _ _ _ _ _ us hl => match us, hl with | [_], _ => rfl) s [v] rfl, fun base Kb Gb hm => ?_⟩
  have A : Errs P w K mg base := {
    c_FieldError := errB_ok X G x1
    c := cE
    e := fun k hk => by
      match k, hk with
      | 0, _ => exact err_BadNumber (cE 0 (by decide)) (rg x3 0 (by decide)) Fi_BadNumber
      | 1, _ => exact err_BadRow (cE 1 (by decide)) (rg x3 1 (by decide)) Fi_BadRow
      | 2, _ => exact err_BadTable (cE 2 (by decide)) (rg x3 2 (by decide)) Fi_BadTable
      | 3, _ => exact err_BadPoly (cE 3 (by decide)) (rg x3 3 (by decide)) Fi_BadPoly
      | 4, _ => exact err_BadPaper (cE 4 (by decide)) (rg x3 4 (by decide)) Fi_BadPaper
      | 5, _ => exact err_BadName (cE 5 (by decide)) (rg x3 5 (by decide)) Fi_BadName
      | 6, _ => exact err_BadText (cE 6 (by decide)) (rg x3 6 (by decide)) Fi_BadText
      | 7, _ => exact err_NoPlace (cE 7 (by decide)) (rg x3 7 (by decide)) Fi_NoPlace
      | 8, _ => exact err_NoName (cE 8 (by decide)) (rg x3 8 (by decide)) Fi_NoName
      | 9, _ => exact err_TakenName (cE 9 (by decide)) (rg x3 9 (by decide)) Fi_TakenName
      | 10, _ => exact err_Unlike (cE 10 (by decide)) (rg x3 10 (by decide)) Fi_Unlike
      | 11, _ => exact err_NotThere (cE 11 (by decide)) (rg x3 11 (by decide)) Fi_NotThere
      | 12, _ => exact err_TooMany (cE 12 (by decide)) (rg x3 12 (by decide)) Fi_TooMany
      | 13, _ => exact err_NotKept (cE 13 (by decide)) (rg x3 13 (by decide)) Fi_NotKept
      | _ + 14, hk => exact absurd hk (by omega)
    z := fun k h1 h2 => by
      match k, h1, h2 with
      | 14, _, _ => exact x4
      | 15, _, _ => exact x4b
      | _ + 16, _, h2 => exact absurd h2 (by omega)
    is := fun k j hk hj => of_decide_eq_true (rg (rg x5 k hk) j hj)
    te := fun k hk => of_decide_eq_true (rg x6 k hk)
    no := fun k f hk hf => (oexB_ok (cE k (by omega)) (rg x3 k hk)).2.2.2 f hf }
  have g_int : mg "int" = none := fr _ (by decide)
  have g_list : mg "list" = none := fr _ (by decide)
  have g_len : mg "len" = none := fr _ (by decide)
  have g_range : mg "range" = none := fr _ (by decide)
  have g_repr : mg "repr" = none := fr _ (by decide)
  have g_isinstance : mg "isinstance" = none := fr _ (by decide)
  have g_ValueError : mg "ValueError" = none := fr _ (by decide)
  have p_draw : PrG P w K mg base "_law_draw" 1 ["pen", "many"] (spDraw P w) := D_law_draw.prG (fun _ _ _ _ _ _ us hl => match us, hl with | [_, _], _ => rfl) fun f fd F => ok_drawE (ok_draw F g_int g_len)
  have p_pen : PrG P w K mg base "_law_pen" 1 ["script"] (spPen P w K) := D_law_pen.prG (fun _ _ _ _ _ _ us hl => match us, hl with | [_], _ => rfl) fun f fd F => ok_penE (ok_pen F g_int g_list)
  have p_pick : PrG P w K mg base "_law_pick" 2 ["pen", "some"] (spPick P w K) := D_law_pick.prG (fun _ _ _ _ _ _ us hl => match us, hl with | [_, _], _ => rfl) fun f fd F => ok_pick F g_len p_draw
  have p_field : PrG P w K mg base "_law_any_field" 3 ["pen"] (spField P w K) := D_law_any_field.prG (fun _ _ _ _ _ _ us hl => match us, hl with | [_], _ => rfl) fun f fd F => ok_field F p_draw p_pick
  have p_raised : PrG P w K mg base "_law_raised" 3 ["kind", "one", "two", "three"] (spRaised K 0 8) := D_law_raised.prG (fun _ _ _ _ _ _ us hl => match us, hl with | [_, _, _, _], _ => rfl) fun f fd F => ok_law_raised F A
  have p_raised2 : PrG P w K mg base "_law_raised_too" 3 ["kind", "one", "two", "three"] (spRaised K 8 16) := D_law_raised_too.prG (fun _ _ _ _ _ _ us hl => match us, hl with | [_, _, _, _], _ => rfl) fun f fd F => ok_law_raised_too F A
  have p_more : PrC P w K mg base "_law_more_kinds" 1 ["e"] (spKinds K base 8 16) := D_law_more_kinds.prC (fun _ _ _ _ _ _ us hl => match us, hl with | [_], _ => rfl) fun f fd F => ok_law_more_kinds F A hm g_isinstance g_repr
  have p_kinds : PrC P w K mg base "_law_kinds" 2 ["e"] (spKinds K base 0 16) := D_law_kinds.prC (fun _ _ _ _ _ _ us hl => match us, hl with | [_], _ => rfl) fun f fd F => ok_law_kinds F A hm g_isinstance g_repr p_more
  have p_told : PrG P w K mg base "_law_told" 4 ["kind", "one", "two", "three"] (spTold K) := D_law_told.prG (fun _ _ _ _ _ _ us hl => match us, hl with | [_, _, _, _], _ => rfl) fun f fd F => ok_told F A g_isinstance g_ValueError p_raised p_raised2 p_kinds
  have p_due : PrG P w K mg base "_law_due" 1 ["kind", "one", "two", "three"] (spDue K) := D_law_due.prG (fun _ _ _ _ _ _ us hl => match us, hl with | [_, _, _, _], _ => rfl) fun f fd F => ok_due F hm g_repr
  exact ok_law Fl hm g_repr g_len g_range p_pen p_field p_told p_due
end K01
open PySem PySem.W PySem.Calls PyProof.Rows
theorem PySem.Challenge.cw_fieldpapers_k01_errors_as_told_holds : PySem.Challenge.rw_fieldpapers_k01_errors_as_told.Holds := by
  w_on; o_law
  refine HandSHeadRun.head_any (r := OpenLaw.row PySem.Challenge.rw_fieldpapers_k01_errors_as_told) (q := view (OpenLaw.row PySem.Challenge.rw_fieldpapers_k01_errors_as_told).prog [29]) (H := K01.hk) (ob := K01.ob) (M := 20000) (loose := ["FieldError", "BadNumber", "BadRow", "BadTable", "BadPoly", "BadPaper", "BadName", "BadText", "NoPlace", "NoName", "TakenName", "Unlike", "NotThere", "TooMany", "NotKept", "NothingToUndo", "NothingToRedo", "_law_pen", "_law_draw", "_law_pick", "_law_kinds", "_law_more_kinds", "_law_any_field", "_law_raised", "_law_raised_too", "_law_told", "_law_due"]) (d := HandSHeadRun.topDef (OpenLaw.row PySem.Challenge.rw_fieldpapers_k01_errors_as_told).prog 29) (kwd := []) K01.ob_eq
    (by kernel_rfl) (fun s => by kernel_rfl) K01.run (by kernel_rfl) (by kernel_rfl) (by kernel_rfl) (by rfl) (by first | assumption | decide +kernel) (by decide +kernel) ⟨rfl, rfl, rfl, rfl, rfl, by decide +kernel⟩ ?hw ?hc
  case hw => w_witness2
  case hc =>
    refine Fp.walk_law (l := PySem.Challenge.rw_fieldpapers_k01_errors_as_told) (n := 63) (k := 5) (x := "script") rfl (by decide) (by kernel_rfl) ⟨⟨rfl, by decide, by decide⟩, rfl⟩ ?F
    intro w mg fa h Y G hmg0
    obtain ⟨K, S⟩ := Y
    have hmg : mg ("law" : PySem.Str) = some (.ref fa) := by
      have e : (HandSHeadRun.topDef (OpenLaw.row PySem.Challenge.rw_fieldpapers_k01_errors_as_told).prog 29).name = ("law" : PySem.Str) := by kernel_rfl
      rw [← e]
      exact hmg0
    obtain ⟨fd, hb, hF⟩ := K01.facts (P := (PySem.Challenge.rw_fieldpapers_k01_errors_as_told).prog) (w := w) S G hmg
    exact ⟨K, fd, K01.spLaw K, S.inh, S.md, hb, fun H a ns hl hS => ⟨a, ns, rfl, hS, fun _ => rfl⟩, hF⟩
