import PyProof.Rows.All
import Wide.All
import OpenK.AllK
import Wide.FinOn
import PyProof.EqAt
import PyProof.EqKinds
import PyProof.TupleCall
import PyProof.ReprRoads
import KE.KIsAll
import HandS.Base
import HandS.Call
import HandS.List
import HandS.Dict
import HandS.Comp
import HandS.Exc
import HandS.ExcOwn
import HandS.ExcInit
import HandS.ExcIs
import HandS.ExcField
import HandS.Words
import HandS.WordsList
import HandS.WordsExc
import HandS.Defaults
import HandS.TryOnly
import HandS.HotCalls
import HandS.Iter
import HandS.Wide
import HandS.IsInst
import KE.KExcIs
import HandS.RaiseMore
import HandS.TupAny
import HandS.TupMul
import HandS.Style
import HandS.HeadHook1
import HandS.HeadHook2
import PyProof.ReprLen
import PyProof.Rows.StrJoinMade
import HandS.Head0
import HandS.Head1
import HandS.Head2
import HandS.HeadEnd
import HandS.Lambda
import HandS.CallLocal
import HandS.EndBits
import HandS.EndTab
import HandS.HeadHook3
import HandS.HeadHook4
import HandS.Head3
import HandS.Gcd
import HandS.Zip
import HandS.Walk
import HandS.Text
import HandS.Deep
import PySem.Challenge.RW_fieldpapers_k02_ratios
set_option Elab.async false
set_option linter.all false
set_option maxRecDepth 100000
set_option maxHeartbeats 0
set_option exponentiation.threshold 20000
namespace Fp
open PySem PySem.Spec PyProof.Rows L2

/-! ### room: no repr is under way -/
structure RoomG (k : Nat) (A : Around) : Prop where
  r : Room k A
  g : A.guards = some []
theorem RoomG.mono {j k : Nat} {A : Around} (r : RoomG k A) (h : j ≤ k) : RoomG j A := ⟨r.r.mono h, r.g⟩
theorem RoomG.deeper {k : Nat} {A : Around} (r : RoomG (k + 1) A) (env : Env) : RoomG k (A.deeper env) := ⟨r.r.deeper env, r.g⟩
/-- room where an exception may be in hand -/
structure RoomC (k : Nat) (A : Around) : Prop where
  dp : A.depth + 3 * k + 5 < recursionLimit
  un : A.units + 16 * k + 200 < cLine
  g : A.guards = some []
theorem RoomC.mono {j k : Nat} {A : Around} (r : RoomC k A) (h : j ≤ k) : RoomC j A := ⟨by have := r.dp; omega, by have := r.un; omega, r.g⟩
theorem RoomC.deeper {k : Nat} {A : Around} (r : RoomC (k + 1) A) (env : Env) : RoomC k (A.deeper env) :=
  ⟨by have := r.dp; show A.depth + 1 + 3 * k + 5 < _; omega, by have := r.un; show A.units + 3 + 16 * k + 200 < _; omega, r.g⟩
theorem RoomC.depth {k : Nat} {A : Around} (r : RoomC k A) : A.depth < recursionLimit := by have := r.dp; omega
theorem RoomG.c {k : Nat} {A : Around} (r : RoomG k A) : RoomC k A := ⟨r.r.dp, r.r.un, r.g⟩
theorem RoomC.mark {k : Nat} {A : Around} (r : RoomC k A) (v : Option Value) : RoomC k (A.mark v) := ⟨r.dp, r.un, r.g⟩

/-! ### what a def promises -/
structure FnG (P : Program) (w : World) (K : PySem.W.Frag) (mg : Str → Option Value) (base : Heap) (CX : CXT) (k : Nat) (f : Addr) (fd : FuncData) (ps : List Str) (sp : Sp) : Prop where
  len : ∀ vs H Q E, sp vs H Q E → vs.length = ps.length
  run : ∀ (A : Around) (outer : List Env) (s : Shared) (H : Hp) (args : Args) (us : List Value) (vs : List V) (Q : VK) (E : XK), RoomG k A → Env0 P w K mg base A outer s H → BindsTo s fd args (ps.zip us) → Vals vs us → sp vs H Q E →
    codeAny (model P w) A (.call (.ref f) args) (CR CX outer P w H s Q E) s
/-- the same where an exception may be in hand -/
structure FnC (P : Program) (w : World) (K : PySem.W.Frag) (mg : Str → Option Value) (base : Heap) (CX : CXT) (k : Nat) (f : Addr) (fd : FuncData) (ps : List Str) (sp : Sp) : Prop where
  len : ∀ vs H Q E, sp vs H Q E → vs.length = ps.length
  run : ∀ (A : Around) (outer : List Env) (s : Shared) (H : Hp) (args : Args) (us : List Value) (vs : List V) (Q : VK) (E : XK), RoomC k A → Env0 P w K mg base A outer s H → BindsTo s fd args (ps.zip us) → Vals vs us → sp vs H Q E →
    codeAny (model P w) A (.call (.ref f) args) (CR CX outer P w H s Q E) s
section
variable {P : Program} {w : World} {K : PySem.W.Frag} {mg : Str → Option Value} {base : Heap} {CX : CXT} {k : Nat} {f : Addr} {fd : FuncData} {ps : List Str} {sp : Sp}
theorem FnC.g (F : FnC P w K mg base CX k f fd ps sp) : FnG P w K mg base CX k f fd ps sp := ⟨F.len, fun A outer s H args us vs Q E hr => F.run A outer s H args us vs Q E hr.c⟩
theorem ofOk (F : FnOk P w K mg base CX k f fd ps sp) : FnG P w K mg base CX k f fd ps sp := ⟨F.len, fun A outer s H args us vs Q E hr => F.run A outer s H args us vs Q E hr.r⟩
theorem FnG.mono {j : Nat} (F : FnG P w K mg base CX j f fd ps sp) (h : j ≤ k) : FnG P w K mg base CX k f fd ps sp := ⟨F.len, fun A outer s H args us vs Q E hr => F.run A outer s H args us vs Q E (hr.mono h)⟩
theorem FnC.mono {j : Nat} (F : FnC P w K mg base CX j f fd ps sp) (h : j ≤ k) : FnC P w K mg base CX k f fd ps sp := ⟨F.len, fun A outer s H args us vs Q E hr => F.run A outer s H args us vs Q E (hr.mono h)⟩
theorem FnG.imp {sp' : Sp} (F : FnG P w K mg base CX k f fd ps sp) (h : ∀ vs H Q E, sp' vs H Q E → sp vs H Q E) : FnG P w K mg base CX k f fd ps sp' :=
  ⟨fun vs H Q E q => F.len vs H Q E (h _ _ _ _ q), fun A outer s H args us vs Q E hr he hb hv hs => F.run A outer s H args us vs Q E hr he hb hv (h _ _ _ _ hs)⟩
end

/-- the context of a body where an exception may be in hand -/
def cxC (CX : CXT) (P : Program) (w : World) (K : PySem.W.Frag) (mg : Str → Option Value) (base : Heap) (N : List Str) (qual : Str) (scope : Scope) (f : Addr) (cd : Value) (A : Around) (outer : List Env) (s : Shared) (H : Hp) (E : XK) : Cx :=
  { cxOf CX P w K mg base N qual scope f cd A outer s H E with calm := false }

section
variable {CX : CXT} {P : Program} {w : World} {K : PySem.W.Frag} {mg : Str → Option Value} {base : Heap} {N ps : List Str} {qual : Str} {scope : Scope} {f : Addr} {cd : Value} {A : Around} {outer : List Env} {s s1 : Shared} {H : Hp} {E : XK} {us : List Value} {vs : List V}
theorem inv_startC (S : FnScope N ps scope) (e0 : Env0 P w K mg base A outer s H) (hl : vs.length = ps.length) (r : Vals vs us)
    (x : InCallC s s.heap.objs.size (bindL (envOfC qual scope s.heap.objs.size f cd).kindOf (ps.zip us) fun _ => none) (cellsFrom (s.heap.objs.size + 1) scope.names []) (bindC (envOfC qual scope s.heap.objs.size f cd).kindOf (ps.zip us) fun _ => none) s1) :
    Inv (cxC CX P w K mg base N qual scope f cd A outer s H E) [] (L2.start N vs) H s1 := by
  have hpl : ps.length ≤ N.length := by have := congrArg List.length S.pre; rw [List.length_take] at this; omega
  obtain ⟨h1, tk, rfl, hk⟩ := x.done
  have noA : ∀ b : Addr, b ∉ (cxC CX P w K mg base N qual scope f cd A outer s H E).ex := fun b z => absurd (show b ∈ ([] : List Addr) from z) (by simp)
  refine ⟨⟨e0.mod, S.kind, rfl, rfl, Nat.le_refl _, fun y z c h1 h2 => ?_, fun y hy => ?_, fun y c _ h => ?_, (fun z => Bool.noConfusion (show false = true from z)), Around.frames_deeper e0.frames, .inr ⟨rfl, rfl⟩, fun b z => absurd z (noA b), e0.bs, e0.bsz, fun b _ _ => noA b, fun b z => absurd z (noA b), e0.funs, e0.frf⟩,
    rfl, e0.bare, Un.kept hk, ⟨_, x.toInCall.ns, fun i y v h1 h2 h3 => ?_⟩, fun y c h => ⟨_, x.cell y c h⟩, e0.hok.fresh (Nat.le_refl _), fun y c h => ?_, fun q hq => absurd (show q ∈ ([] : List (Addr × Obj)) ++ [] from hq) (by simp), e0.hok.kept hk, ?_⟩
  · exact name_of_addr x.apart (PySem.mem_of_lookup h1) (PySem.mem_of_lookup h2)
  · have hy : scope.names.lookup y = some .cell ∨ scope.names.lookup y = some .free := hy
    rcases hy with hy | hy
    · exact cell_has hy
    · exact absurd rfl (S.nofree _ (PySem.mem_of_lookup hy))
  · exact Nat.le_of_lt (x.above y c (PySem.mem_of_lookup h))
  · have hi : i < vs.length := by
      unfold L2.start at h2
      by_cases hi : i < vs.length
      · exact hi
      · rw [List.getElem?_append_right (by simpa using hi)] at h2
        rw [List.getElem?_replicate] at h2
        split at h2 <;> cases h2
    have ha : vs[i]? = some v := by
      unfold L2.start at h2
      rw [List.getElem?_append_left (by simpa using hi), List.getElem?_map] at h2
      cases e : vs[i]? with
      | none => rw [e] at h2; cases h2
      | some a => rw [e] at h2; cases h2; rfl
    obtain ⟨u, hu, rv⟩ := r.get ha
    have hp : ps[i]? = some y := by
      rw [← S.pre, List.getElem?_take_of_lt (by omega)]; exact h1
    have ndP : ps.Nodup := by rw [← S.pre]; exact S.nd.sublist (List.take_sublist _ _)
    refine ⟨u, rv, ?_⟩
    rcases S.par y (List.mem_of_getElem? hp) with k | k
    · exact .inl ⟨k, bindL_get ndP hp hu k⟩
    · obtain ⟨c, e⟩ := cell_has (n := s.heap.objs.size + 1) k
      refine .inr ⟨.inl k, c, e, ?_⟩
      have q := x.cell y c e
      rw [bindC_get ndP hp hu (by show scope.names.lookup y ≠ _; rw [k]; decide)] at q
      exact q
  · exact e0.hok.fresh (Nat.le_of_lt (x.above y c (PySem.mem_of_lookup h)))
  · unfold L2.start
    show _ = N.length
    rw [List.length_append, List.length_map, List.length_replicate]
    omega
end

section
variable {P : Program} {w : World} {K : PySem.W.Frag} {mg : Str → Option Value} {base : Heap} {x qual : Str} {params : Arguments} {body : List Stmt} {scope : Scope} {dvs : List V} {kws : List (Str × V)} {f : Addr} {fd : FuncData} {CX : CXT} {N ps : List Str} {k : Nat} {sp : Sp}
/-- THE RULE for a def -/
theorem okG0 (F : FunD K x qual params body scope dvs kws f fd) (S : FnScope N ps scope) (len : ∀ vs H Q E, sp vs H Q E → vs.length = ps.length)
    (hbody : ∀ (cdv : Value) (A : Around) (outer : List Env) (s : Shared) (H : Hp) (vs : List V) (Q : VK) (E : XK), fd.code = cdv → RoomG k (A.deeper (envOfC qual scope s.heap.objs.size f cdv)) → sp vs H Q E →
      ∃ t, PSs (cxOf CX P w K mg base N qual scope f cdv A outer s H E) body t ∧ t { nx := fun _ H' => Q .non H', rt := Q } (L2.start N vs) H) : FnG P w K mg base CX (k + 1) f fd ps sp := by
  obtain ⟨oc, od, dV, kV, doc, pm, an, cdv, ct, osl, rfl, lk, hcd, _, _⟩ := F.ex
  refine ⟨len, fun A outer s H args us vs Q E hr e0 hb r hsp => ?_⟩
  have hl := len _ _ _ _ hsp
  have KX : K.In s.heap := e0.mod.kin.keeps fun b o e => (e0.bs b o e).1
  have lim : s.heap.NoLimit := e0.mod.nolimit.keeps fun b o e => (e0.bs b o e).1
  have hkind : ∀ y ∈ ps.zip us, scope.names.lookup y.1 = some .local ∨ (scope.names.lookup y.1 = some .cell ∧ ((cellsFrom (s.heap.objs.size + 1) scope.names []).lookup y.1).isSome = true) := fun ⟨n, v⟩ hy => by
    rcases S.par n (List.of_mem_zip hy).1 with q | q
    · exact .inl q
    · exact .inr ⟨q, PySem.W.cellsFrom_some _ _ _ (.inl q)⟩
  refine codeAny_call_function hr.r.depth (KX _ _ lk) rfl S.co S.gen rfl (PySem.W.codeRec_of KX hcd) (hb _ _ _ _ ?_)
  refine wpAny_newFunctionEnv_cells S.kind hkind fun env he s1 x => ?_
  subst he
  refine ⟨lim.keeps x.toInCall.keep, codeAny_func ?_⟩
  obtain ⟨t, ht, hq⟩ := hbody cdv A outer s H vs Q E rfl (hr.deeper _) hsp
  have I : Inv (cxOf CX P w K mg base N qual scope f cdv A outer s H E) [] (L2.start N vs) H s1 := inv_start S hr.r.hd e0 hl r x
  refine wpAny_mono (ht.run [] s1 (L2.start N vs) H _ I hq) (fun fl s' hs => ?_) fun e s' hs => hs
  have fin : ∀ {σ' : L2.St} {H' : Hp} {v : V} {u : Value}, Inv (cxOf CX P w K mg base N qual scope f cdv A outer s H E) [] σ' H' s' → RelV v u → Q v H' → CE outer P w H s Q u s' :=
    fun {σ' H' v u} J rv q => ⟨v, H', J.os, J.bare, J.base, J.hok, rv, q⟩
  cases fl with
  | ret u =>
    obtain ⟨v, σ', H', J, rv, q⟩ := hs
    exact fin J rv q
  | next =>
    obtain ⟨σ', H', J, q⟩ := hs
    exact fin (v := V.non) (u := Value.none) J rfl q
  | brk =>
    obtain ⟨_, _, _, q⟩ := hs
    exact False.elim q
  | cont =>
    obtain ⟨_, _, _, q⟩ := hs
    exact False.elim q
theorem okG (F : FunD K x qual params body scope dvs kws f fd) (S : FnScope N ps scope) (len : ∀ vs H Q E, sp vs H Q E → vs.length = ps.length)
    (hbody : ∀ (cdv : Value) (A : Around) (outer : List Env) (s : Shared) (H : Hp) (vs : List V) (Q : VK) (E : XK), RoomG k (A.deeper (envOfC qual scope s.heap.objs.size f cdv)) → sp vs H Q E →
      ∃ t, PSs (cxOf CX P w K mg base N qual scope f cdv A outer s H E) body t ∧ t { nx := fun _ H' => Q .non H', rt := Q } (L2.start N vs) H) : FnG P w K mg base CX (k + 1) f fd ps sp :=
  okG0 F S len fun cdv A outer s H vs Q E _ hr h => hbody cdv A outer s H vs Q E hr h
theorem okC (F : FunD K x qual params body scope dvs kws f fd) (S : FnScope N ps scope) (len : ∀ vs H Q E, sp vs H Q E → vs.length = ps.length)
    (hbody : ∀ (cdv : Value) (A : Around) (outer : List Env) (s : Shared) (H : Hp) (vs : List V) (Q : VK) (E : XK), RoomC k (A.deeper (envOfC qual scope s.heap.objs.size f cdv)) → sp vs H Q E →
      ∃ t, PSs (cxC CX P w K mg base N qual scope f cdv A outer s H E) body t ∧ t { nx := fun _ H' => Q .non H', rt := Q } (L2.start N vs) H) : FnC P w K mg base CX (k + 1) f fd ps sp := by
  obtain ⟨oc, od, dV, kV, doc, pm, an, cdv, ct, osl, rfl, lk, hcd, _, _⟩ := F.ex
  refine ⟨len, fun A outer s H args us vs Q E hr e0 hb r hsp => ?_⟩
  have hl := len _ _ _ _ hsp
  have KX : K.In s.heap := e0.mod.kin.keeps fun b o e => (e0.bs b o e).1
  have lim : s.heap.NoLimit := e0.mod.nolimit.keeps fun b o e => (e0.bs b o e).1
  have hkind : ∀ y ∈ ps.zip us, scope.names.lookup y.1 = some .local ∨ (scope.names.lookup y.1 = some .cell ∧ ((cellsFrom (s.heap.objs.size + 1) scope.names []).lookup y.1).isSome = true) := fun ⟨n, v⟩ hy => by
    rcases S.par n (List.of_mem_zip hy).1 with q | q
    · exact .inl q
    · exact .inr ⟨q, PySem.W.cellsFrom_some _ _ _ (.inl q)⟩
  refine codeAny_call_function hr.depth (KX _ _ lk) rfl S.co S.gen rfl (PySem.W.codeRec_of KX hcd) (hb _ _ _ _ ?_)
  refine wpAny_newFunctionEnv_cells S.kind hkind fun env he s1 x => ?_
  subst he
  refine ⟨lim.keeps x.toInCall.keep, codeAny_func ?_⟩
  obtain ⟨t, ht, hq⟩ := hbody cdv A outer s H vs Q E (hr.deeper _) hsp
  have I : Inv (cxC CX P w K mg base N qual scope f cdv A outer s H E) [] (L2.start N vs) H s1 := inv_startC S e0 hl r x
  refine wpAny_mono (ht.run [] s1 (L2.start N vs) H _ I hq) (fun fl s' hs => ?_) fun e s' hs => hs
  have fin : ∀ {σ' : L2.St} {H' : Hp} {v : V} {u : Value}, Inv (cxC CX P w K mg base N qual scope f cdv A outer s H E) [] σ' H' s' → RelV v u → Q v H' → CE outer P w H s Q u s' :=
    fun {σ' H' v u} J rv q => ⟨v, H', J.os, J.bare, J.base, J.hok, rv, q⟩
  cases fl with
  | ret u =>
    obtain ⟨v, σ', H', J, rv, q⟩ := hs
    exact fin J rv q
  | next =>
    obtain ⟨σ', H', J, q⟩ := hs
    exact fin (v := V.non) (u := Value.none) J rfl q
  | brk =>
    obtain ⟨_, _, _, q⟩ := hs
    exact False.elim q
  | cont =>
    obtain ⟨_, _, _, q⟩ := hs
    exact False.elim q
end
end Fp
namespace Fp
open PySem PySem.Spec PyProof.Rows L2

/-! ### calls -/
section
variable {X : Cx} {CX : CXT} {k : Nat} {f C : Addr} {fd : FuncData} {ps : List Str} {sp : Sp} {E : L2.St → XK} {x m : Str} {p pos apos : Pos} {e o : Expr} {es : List Expr} {ta : TE} {t : TA}
theorem run_fnG {pins : List (Addr × Obj)} {σ : L2.St} {H : Hp} {s : Shared} {Q : VK} {us : List Value} {vs : List V} (F : FnG X.prog X.w X.K X.mg X.base CX k f fd ps sp) (hr : RoomG k X.A) (hb : Binds X.K fd ps []) (hx : PassesAt CX X σ (E σ))
    (I : Inv X pins σ H s) (r : Vals vs us) (h : sp vs H Q (E σ)) : wpAny (model X.prog X.w) X.A (call (.ref f) us) (EP X pins σ Q) X.xe s := by
  have hl : us.length = ps.length := by rw [← r.length]; exact F.len _ _ _ _ h
  have b := hb s us I.kIn (by rw [List.append_nil]; exact hl)
  rw [List.append_nil] at b
  refine wpAny_call (codeAny_mono (F.run X.A X.stack s H ⟨us, []⟩ us vs Q (E σ) hr I.env0 b r h) fun r s' hq => ?_)
  cases r with
  | error e => exact hx pins H s e s' I hq
  | ok fl =>
    cases fl with
    | ret u => exact I.after hq
    | next => exact False.elim hq
    | brk => exact False.elim hq
    | cont => exact False.elim hq
theorem pe_callG (F : FnG X.prog X.w X.K X.mg X.base CX k f fd ps sp) (hr : RoomG k X.A) (hg : Gl X x) (hm : X.mg x = some (.ref f)) (hk : PySem.W.keepIn X.K (.ref f) = true) (hb : Binds X.K fd ps []) (hx : ∀ σ, PassesAt CX X σ (E σ))
    (ha : PA X (e :: es) t) (hdb : (x == ("__debug__" : Str)) = false := by decide) (he : starEach (e :: es) X.env = (false, eval e X.env) :: starEach es X.env := by rfl) (hpl : (backTo pos (starEach es X.env)).any (·.1) = false := by rfl) :
    PE X (.Call (.Name x p) (e :: es) [] pos) (tCallS sp E t) := by
  refine ⟨fun pins s σ H Q I h => ?_⟩
  refine wpAny_Call_Name_kw (ld_glob I hg hm ?_ hdb)
  refine PySem.W.callWith_K (h₀ := X.base) I.ok.mod.kin hk (thn (ha.run pos pins s σ H _ I h) fun us s1 ⟨vs, H1, I1, r, q⟩ => ⟨I1.kIn, ?_⟩) he hpl
  exact run_fnG F hr hb (hx σ) I1 r q
theorem pe_callG0 (F : FnG X.prog X.w X.K X.mg X.base CX k f fd ps sp) (hr : RoomG k X.A) (hg : Gl X x) (hm : X.mg x = some (.ref f)) (hk : PySem.W.keepIn X.K (.ref f) = true) (hb : Binds X.K fd ps []) (hx : ∀ σ, PassesAt CX X σ (E σ))
    (hdb : (x == ("__debug__" : Str)) = false := by decide) : PE X (.Call (.Name x p) [] [] pos) (tCallS sp E tNil) := by
  refine ⟨fun pins s σ H Q I h => ?_⟩
  refine wpAny_Call_Name_kw (ld_glob I hg hm ?_ hdb)
  exact PySem.W.callWith_K0 I.kIn hk (run_fnG (us := []) F hr hb (hx σ) I .nil h)
end

/-! ### a call within an except suite, the exception handed on as a thing that is known -/
/-- an exception's record, known: class at C, its own dict at d -/
def ExO2 (C d : Addr) : HO := .ext fun _ => True
/-- H with the exception at a frozen -/
def frzE (H : Hp) (a : Addr) (oe : Obj) : Hp := upd H a (.frz oe (.ext fun h => h.get? a = some oe))
theorem frzE_same {H : Hp} {a : Addr} {oe : Obj} : frzE H a oe a = some (.frz oe (.ext fun h => h.get? a = some oe)) := upd_same
theorem frzE_ne {H : Hp} {a b : Addr} {oe : Obj} (h : b ≠ a) : frzE H a oe b = H b := upd_ne h
theorem frzE_ok {P : Program} {w : World} {H : Hp} {h : Heap} {a : Addr} {oe : Obj} (x : HOk P w H h) (e : h.get? a = some oe) (n : H a = none) : HOk P w (frzE H a oe) h := fun b o q => by
  by_cases hb : b = a
  · subst hb
    rw [frzE_same] at q
    cases q
    exact ⟨e, e, ⟨oe, e⟩, fun h1 h2 z k => k _ z⟩
  · rw [frzE_ne hb] at q
    refine (x b o q).stay (fun c u _ r => r) (fun c r => ?_) fun c xs r => ?_
    · rw [frzE_ne (ne_of_none r n)]; exact r
    · rw [frzE_ne (ne_of_none r n)]; exact r
theorem del_ok {P : Program} {w : World} {H : Hp} {h : Heap} {a : Addr} {oe : Obj} {u : HO} (x : HOk P w H h) (e : H a = some (.frz oe u)) : HOk P w (L2.del H a) h := fun b o q => by
  by_cases hb : b = a
  · subst hb
    rw [L2.del_same] at q
    cases q
  · rw [L2.del_ne hb] at q
    refine (x b o q).stay (fun c u _ r => r) (fun c r => ?_) fun c xs r => ?_
    · rw [L2.del_ne (fun z => by rw [z, e] at r; cases r)]; exact r
    · rw [L2.del_ne (fun z => by rw [z, e] at r; cases r)]; exact r
/-- the exception at a is known: an object of the base, or frozen -/
def HE (base : Heap) (H : Hp) (a : Addr) (oe : Obj) : Prop := base.get? a = some oe ∨ H a = some (.frz oe (.ext fun h => h.get? a = some oe))
/-- behind the call it is let go -/
def Lost (a : Addr) (oe : Obj) (H2 H3 : Hp) : Prop := H3 = H2 ∨ (H3 = L2.del H2 a ∧ H2 a = some (.frz oe (.ext fun h => h.get? a = some oe)))
section
variable {X : Cx} {k : Nat} {f : Addr} {fd : FuncData} {ps : List Str} {sp : Sp} {x : Str} {p pos : Pos} {e : Expr} {es : List Expr} {t : TA} {a : Addr} {oe : Obj}
/-- what is told of the heap of a call with the exception at a handed on -/
def tCallZ (sp : Sp) (base : Heap) (a : Addr) (oe : Obj) (t : TA) : TE := fun σ H Q => t σ H fun vs H1 => H1 a = none → ∀ H1', Same H1 H1' → HE base H1' a oe → sp vs H1' (fun v H2 => ∀ H3, Lost a oe H2 H3 → Q v H3) (fun _ _ _ => False)
theorem pe_callZ (hp : (a, oe) ∈ X.pn) (F : FnC X.prog X.w X.K X.mg X.base (L2.CX X.prog X.w) k f fd ps sp) (hr : RoomC k X.A) (hg : Gl X x) (hm : X.mg x = some (.ref f)) (hk : PySem.W.keepIn X.K (.ref f) = true) (hb : Binds X.K fd ps [])
    (ha : PA X (e :: es) t) (hdb : (x == ("__debug__" : Str)) = false := by decide) (he : starEach (e :: es) X.env = (false, eval e X.env) :: starEach es X.env := by rfl) (hpl : (backTo pos (starEach es X.env)).any (·.1) = false := by rfl) :
    PE X (.Call (.Name x p) (e :: es) [] pos) (tCallZ sp X.base a oe t) := by
  refine ⟨fun pins s σ H Q I h => ?_⟩
  refine wpAny_Call_Name_kw (ld_glob I hg hm ?_ hdb)
  refine PySem.W.callWith_K (h₀ := X.base) I.ok.mod.kin hk (thn (ha.run pos pins s σ H _ I h) fun us s1 ⟨vs, H1, I1, r, q⟩ => ⟨I1.kIn, ?_⟩) he hpl
  obtain ⟨pe, pn, pL, pF, pd⟩ := I1.pin (a, oe) (List.mem_append_left _ hp)
  dsimp only at pe pn pL pF pd
  have pst : a ∉ frs X.stack := fun hm => (List.mem_cons.mp (I1.stkSub a hm)).elim pL pF
  have e0 := I1.env0
  have hxe : ∀ outer H s e s', ¬ L2.CX X.prog X.w outer H s (fun _ _ _ => False) e s' := fun _ _ _ _ _ h => by
    obtain ⟨_, _, _, _, _, _, _, _, _, _, _, _, z⟩ := h
    exact z
  cases hba : X.base.get? a with
  | some ob =>
    have eo : ob = oe := by
      have z := I1.bk a ob hba
      rw [pe] at z
      exact (Option.some.inj z).symm
    subst eo
    have q' := q pn H1 (Same.refl _) (.inl hba)
    have hl : us.length = ps.length := by rw [← r.length]; exact F.len _ _ _ _ q'
    have b := hb s1 us I1.kIn (by rw [List.append_nil]; exact hl)
    rw [List.append_nil] at b
    refine wpAny_call (codeAny_mono (F.run X.A X.stack s1 H1 ⟨us, []⟩ us vs _ _ hr e0 b r q') fun r2 s' hq => ?_)
    cases r2 with
    | error e => exact (hxe _ _ _ _ _ hq).elim
    | ok fl =>
      cases fl with
      | next => exact False.elim hq
      | brk => exact False.elim hq
      | cont => exact False.elim hq
      | ret u =>
        obtain ⟨v, H2, os, bare, un, hok, rv, qv⟩ := hq
        exact I1.after ⟨v, H2, os, bare, un, hok, rv, qv H2 (.inl rfl)⟩
  | none =>
    have sm : Same H1 (frzE H1 a oe) := fun b o eb => by
      rw [frzE_ne (fun z => by rw [z, pn] at eb; cases eb)]
      exact eb
    have q' := q pn (frzE H1 a oe) sm (.inr frzE_same)
    have hl : us.length = ps.length := by rw [← r.length]; exact F.len _ _ _ _ q'
    have b := hb s1 us I1.kIn (by rw [List.append_nil]; exact hl)
    rw [List.append_nil] at b
    have e1 : Env0 X.prog X.w X.K X.mg X.base X.A X.stack s1 (frzE H1 a oe) :=
      ⟨e0.frames, e0.mod, fun b o eb => ⟨(e0.bs b o eb).1, by rw [frzE_ne (fun z => by rw [z, hba] at eb; cases eb)]; exact (e0.bs b o eb).2⟩, e0.bsz, e0.funs,
        fun b hb' => by rw [frzE_ne (fun z => by subst z; exact pst hb')]; exact e0.frf b hb', frzE_ok e0.hok pe pn, e0.bare⟩
    refine wpAny_call (codeAny_mono (F.run X.A X.stack s1 (frzE H1 a oe) ⟨us, []⟩ us vs _ _ hr e1 b r q') fun r2 s' hq => ?_)
    cases r2 with
    | error e => exact (hxe _ _ _ _ _ hq).elim
    | ok fl =>
      cases fl with
      | next => exact False.elim hq
      | brk => exact False.elim hq
      | cont => exact False.elim hq
      | ret u =>
        obtain ⟨v, H2, os, bare, un, hok, rv, qv⟩ := hq
        have fz := un.frzs a oe _ frzE_same
        obtain ⟨ga, _⟩ := hok a _ fz
        refine I1.after ⟨v, L2.del H2 a, os, bare, ⟨fun b o eb n hf hx => ?_, fun b o eb n hf hx => ?_, fun b o eb n hx => ?_, fun b o eb hx => un.there b o eb hx, fun b xs eb => ?_, fun b o u' eb => ?_, fun b qs eb => ?_⟩, del_ok hok fz, rv, qv _ (.inr ⟨rfl, fz⟩)⟩
        · by_cases hb : b = a
          · subst hb
            rw [pe] at eb
            cases eb
            exact ga
          · exact un.keep b o eb (by rw [frzE_ne hb]; exact n) hf hx
        · exact un.slot b o eb (by rw [frzE_ne (fun z => by subst z; exact pst hf)]; exact n) hf hx
        · by_cases hb : b = a
          · subst hb
            exact L2.del_same
          · rw [L2.del_ne hb]
            exact un.free b o eb (by rw [frzE_ne hb]; exact n) hx
        · have hb : b ≠ a := fun z => by rw [z, pn] at eb; cases eb
          rw [L2.del_ne hb]
          exact un.tups b xs (by rw [frzE_ne hb]; exact eb)
        · have hb : b ≠ a := fun z => by rw [z, pn] at eb; cases eb
          rw [L2.del_ne hb]
          exact un.frzs b o u' (by rw [frzE_ne hb]; exact eb)
        · have hb : b ≠ a := fun z => by rw [z, pn] at eb; cases eb
          rw [L2.del_ne hb]
          exact un.tbls b qs (by rw [frzE_ne hb]; exact eb)
end
/-! ### isinstance and fields of an exception that is handed on -/
/-- an exception of the class at D stands at a, its own dict (if any) with the fields fs -/
structure ExAt (base : Heap) (H : Hp) (a D : Addr) (fs : List (Str × V)) : Prop where
  ex : ∃ (oe : Obj) (d : Option Addr), HE base H a oe ∧ Zc (.ref D) d oe ∧ (∃ vs, oe.data = .fields vs) ∧ ((d = none ∧ fs = []) ∨ ∃ dd, d = some dd ∧ H dd = some (.xd fs))
theorem ExAt.mono {base : Heap} {H H' : Hp} {a D : Addr} {fs : List (Str × V)} (x : ExAt base H a D fs) (e : Same H H') : ExAt base H' a D fs := by
  obtain ⟨oe, d, h, z, f, q⟩ := x
  refine ⟨oe, d, h.imp id (e _ _), z, f, q.imp id fun ⟨dd, e1, e2⟩ => ⟨dd, e1, e _ _ e2⟩⟩
section
variable {X : Cx} {pins : List (Addr × Obj)} {σ : L2.St} {H : Hp} {s : Shared} {a D : Addr} {fs : List (Str × V)}
theorem HE.get {oe : Obj} (I : Inv X pins σ H s) (h : HE X.base H a oe) : s.heap.get? a = some oe := by
  rcases h with h | h
  · exact I.bk a oe h
  · exact (I.hok a _ h).1
theorem ExAt.inst (I : Inv X pins σ H s) (x : ExAt X.base H a D fs) : ∃ (oe : Obj) (od : Option Obj), PySem.W.InstAt s.heap a oe D od ∧ ∀ n v, fs.lookup n = some v → ∃ o u, od = some o ∧ PySem.W.lookIn n o = some (some u) ∧ RelV v u := by
  obtain ⟨oe, d, h, z, ⟨vs, f⟩, q⟩ := x
  have g := HE.get I h
  rcases q with ⟨rfl, rfl⟩ | ⟨dd, rfl, hd⟩
  · refine ⟨oe, none, ⟨g, z.1, by unfold PySem.W.notCls; rw [f] <;> rfl, by rw [z.2]; trivial⟩, fun n v e => nomatch e⟩
  · have hx : ObjOk X.prog X.w H s.heap dd (.xd fs) := I.hok dd _ hd
    obtain ⟨mA, hns, hr⟩ := hx
    obtain ⟨od, ho, hl⟩ := lookIn_ns hns
    refine ⟨oe, some od, ⟨g, z.1, by unfold PySem.W.notCls; rw [f] <;> rfl, by rw [z.2]; exact ho⟩, fun n v e => ?_⟩
    obtain ⟨u, hu, ru⟩ := RelO.some_of (v := v) (o := mA n) (by rw [← e]; exact hr n)
    exact ⟨od, u, rfl, by rw [hl, hu], ru⟩
/-- isinstance(e, c), e an exception that is handed on -/
def rIsX (K : PySem.W.Frag) (base : Heap) : List V → Hp → VK → Prop := fun xs H Q => ∃ (a D : Addr) (fs : List (Str × V)) (c : V) (cv : Value) (b : Bool), xs = [.ref a, c] ∧ ExAt base H a D fs ∧ ExcC K D ∧ (∀ u, RelV c u → u = cv) ∧ PySem.W.kitOne K (.ref D) cv = some b ∧ Q (.bl b) H
theorem call_isX : CallR X (.builtin "isinstance") (rIsX X.K X.base) := by
  intro pins s σ H xs us Q I r h
  obtain ⟨a, D, fs, c, cv, b, rfl, x, C, hcv, e, q⟩ := h
  cases r with
  | cons rx rr =>
    cases rr with
    | cons rt rr =>
      cases rr
      cases rx
      have ec := hcv _ rt
      subst ec
      obtain ⟨oe, od, J, _⟩ := x.inst I
      have hcl : (PySem.W.clsIn X.K D).isSome = true := by
        obtain ⟨cd, hc, _⟩ := PySem.W.any_some C.hd
        rw [hc]; rfl
      exact PySem.W.kia_one (PySem.W.kitx_exc hcl C.hg C.hk C.hs C.ha C.hn C.ht C.hm) I.kIn J e (fun z => nomatch z) fun tk => ⟨.bl b, H, I.kept (t' := tk) fun _ _ z => z, rfl, q⟩
/-- e.f -/
def tXat (K : PySem.W.Frag) (base : Heap) (f : Str) (te : TE) : TE := fun σ H Q => te σ H fun x H1 => ∃ (a D : Addr) (fs : List (Str × V)) (v : V), x = .ref a ∧ ExAt base H1 a D fs ∧ ExcC K D ∧ PySem.W.findIn K (.ref D) f = some none ∧ fs.lookup f = some v ∧ Q v H1
theorem pe_xat {e : Expr} {te : TE} {pos : Pos} {n : Str} (he : PE X e te) (hb : attributeBase e n X.env (eval e X.env) = eval e X.env := by rfl) : PE X (.Attribute e n pos) (tXat X.K X.base n te) := by
  refine ⟨fun pins s σ H Q I h => ?_⟩
  refine attr_of hb (thn (he.run pins s σ H _ I h) fun u s1 hh => ?_)
  obtain ⟨x, H1, I1, rx, a, D, fs, v, ex, xa, C, hno, l, q⟩ := hh
  subst ex
  obtain rfl : u = Value.ref a := rx
  obtain ⟨oe, od, J, hf⟩ := xa.inst I1
  obtain ⟨o, u, eo, hl, ru⟩ := hf n v l
  subst eo
  exact HandSPX.exc_get I1.kIn J C.hg C.hk C.hs (PySem.W.findObj_own C.hd hno rfl hl) (handed_of ru) ⟨v, H1, I1.tok _, ru, q⟩
end
end Fp
namespace Fp
open PySem PySem.Spec PyProof.Rows L2

/-! ### data -/
def kd : Key → PyData
  | .inl i => .int i
  | .inr x => .str x
mutual
/-- v is the data d in H -/
def Dt (K : PySem.W.Frag) (H : Hp) : PyData → V → Prop
  | .none, v => v = .non
  | .bool b, v => v = .bl b
  | .int i, v => v = .int i
  | .str x, v => v = .str x
  | .list ds, v => ∃ a xs, v = .ref a ∧ SqL K H a xs ∧ DtAll K H ds xs
  | .tuple ds, v => ∃ a xs, v = .ref a ∧ SqT K H a xs ∧ DtAll K H ds xs
  | .dict kvs, v => ∃ a es, v = .ref a ∧ H a = some (.dK es) ∧ DtKv K H kvs es
def DtAll (K : PySem.W.Frag) (H : Hp) : List PyData → List V → Prop
  | [], xs => xs = []
  | d :: ds, xs => ∃ x r, xs = x :: r ∧ Dt K H d x ∧ DtAll K H ds r
def DtKv (K : PySem.W.Frag) (H : Hp) : List (PyData × PyData) → List (Key × V) → Prop
  | [], es => es = []
  | (k, d) :: r, es => ∃ kk v q, es = (kk, v) :: q ∧ kd kk = k ∧ Dt K H d v ∧ DtKv K H r q
end
theorem rd_mono {H H' : Hp} {a : Addr} {u : HO} (e : Same H H') (h : Rd H a u) : Rd H' a u := by
  rcases h with h | ⟨o, h⟩
  · exact .inl (e a _ h)
  · exact .inr ⟨o, e a _ h⟩
theorem sql_mono {K : PySem.W.Frag} {H H' : Hp} {a : Addr} {xs : List V} (e : Same H H') (h : SqL K H a xs) : SqL K H' a xs := h.imp (rd_mono e) id
theorem sqt_mono {K : PySem.W.Frag} {H H' : Hp} {a : Addr} {xs : List V} (e : Same H H') (h : SqT K H a xs) : SqT K H' a xs := h.imp (rd_mono e) id
section
variable {K : PySem.W.Frag} {H H' : Hp} (e : Same H H')
include e
mutual
theorem Dt.mono : ∀ {d : PyData} {v : V}, Dt K H d v → Dt K H' d v
  | .none, _, h | .bool _, _, h | .int _, _, h | .str _, _, h => by unfold Dt at h ⊢; exact h
  | .list ds, _, h => by
    unfold Dt at h ⊢
    obtain ⟨a, xs, ev, s, r⟩ := h
    exact ⟨a, xs, ev, sql_mono e s, DtAll.mono r⟩
  | .tuple ds, _, h => by
    unfold Dt at h ⊢
    obtain ⟨a, xs, ev, s, r⟩ := h
    exact ⟨a, xs, ev, sqt_mono e s, DtAll.mono r⟩
  | .dict kvs, _, h => by
    unfold Dt at h ⊢
    obtain ⟨a, xs, ev, s, r⟩ := h
    exact ⟨a, xs, ev, e _ _ s, DtKv.mono r⟩
theorem DtAll.mono : ∀ {ds : List PyData} {xs : List V}, DtAll K H ds xs → DtAll K H' ds xs
  | [], _, h => by unfold DtAll at h ⊢; exact h
  | d :: ds, _, h => by
    unfold DtAll at h ⊢
    obtain ⟨x, r, ex, h1, h2⟩ := h
    exact ⟨x, r, ex, Dt.mono h1, DtAll.mono h2⟩
theorem DtKv.mono : ∀ {ds : List (PyData × PyData)} {xs : List (Key × V)}, DtKv K H ds xs → DtKv K H' ds xs
  | [], _, h => by unfold DtKv at h ⊢; exact h
  | (k, d) :: ds, _, h => by
    unfold DtKv at h ⊢
    obtain ⟨kk, v, q, ex, ek, h1, h2⟩ := h
    exact ⟨kk, v, q, ex, ek, Dt.mono h1, DtKv.mono h2⟩
end
end

section
variable {X : Cx} {pins : List (Addr × Obj)} {σ : L2.St} {H : Hp} {s : Shared}
theorem sys_ne {a : Addr} {o : Obj} (hm : ∃ o es ep, X.base.get? sysModules = some o ∧ o.data = .dict es ep) (I : Inv X pins σ H s) (e : s.heap.get? a = some o) (hd : ∀ es ep, o.data ≠ .dict es ep) : sysModules ≠ a := fun z => by
  obtain ⟨o', es, ep, h1, h2⟩ := hm
  have q := I.bk _ _ h1
  rw [z, e] at q
  cases q
  exact hd _ _ h2
mutual
theorem Dt.reads (hm : ∃ o es ep, X.base.get? sysModules = some o ∧ o.data = .dict es ep) (I : Inv X pins σ H s) : ∀ {d : PyData} {v : V} {u : Value}, Dt X.K H d v → RelV v u → ∃ as, Reads s.heap u d as ∧ sysModules ∉ as
  | .none, _, _, h, r => by
    unfold Dt at h; subst h
    obtain rfl : _ = Value.none := r
    exact ⟨[], .none, by simp⟩
  | .bool b, _, _, h, r => by
    unfold Dt at h; subst h
    obtain rfl : _ = Value.bool b := r
    exact ⟨[], .bool b, by simp⟩
  | .int i, _, _, h, r => by
    unfold Dt at h; subst h
    obtain ⟨t, rfl⟩ := (show ∃ t, _ = Value.int i t from r)
    exact ⟨[], .int i t, by simp⟩
  | .str x, _, _, h, r => by
    unfold Dt at h; subst h
    obtain ⟨t, rfl⟩ := (show ∃ t, _ = Value.str x t from r)
    exact ⟨[], .str x t, by simp⟩
  | .list ds, _, _, h, r => by
    unfold Dt at h
    obtain ⟨a, xs, rfl, sq, ra⟩ := h
    obtain rfl : _ = Value.ref a := r
    obtain ⟨its, rv, ⟨o, n, e1, e2, e3, e4⟩, _⟩ := I.list sq
    obtain ⟨as, h1, h2⟩ := DtAll.reads hm I ra rv
    refine ⟨a :: as, .list e1 e2 e4 (by simpa using h1), ?_⟩
    intro z
    rcases List.mem_cons.mp z with z | z
    · exact sys_ne hm I e1 (fun es ep q => by rw [e4] at q; cases q) z
    · exact h2 z
  | .tuple ds, _, _, h, r => by
    unfold Dt at h
    obtain ⟨a, xs, rfl, sq, ra⟩ := h
    obtain rfl : _ = Value.ref a := r
    obtain ⟨its, rv, ⟨o, e1, e2, n, e4⟩, _⟩ := I.tuple sq
    obtain ⟨as, h1, h2⟩ := DtAll.reads hm I ra rv
    exact ⟨as, .tuple e1 e2 e4 (by simpa using h1), h2⟩
  | .dict kvs, _, _, h, r => by
    unfold Dt at h
    obtain ⟨a, es, rfl, ea, ra⟩ := h
    obtain rfl : _ = Value.ref a := r
    have ok : ObjOk X.prog X.w H s.heap a (.dK es) := I.hok a _ ea
    obtain ⟨hz, hs, vs, rv, hD⟩ := ok
    obtain ⟨o, es', ep, e1, e2, e3, e4⟩ := hD
    obtain ⟨as, bs, h1, h2, h3, h4⟩ := DtKv.reads hm I ra rv e4.2.1
    refine ⟨a :: as ++ bs, .dict e1 e2.1 e3 h1 h2, ?_⟩
    intro z
    rcases List.mem_append.mp z with z | z
    · rcases List.mem_cons.mp z with z | z
      · rw [← z] at hs; simp at hs
      · exact h3 z
    · exact h4 z
theorem DtAll.reads (hm : ∃ o es ep, X.base.get? sysModules = some o ∧ o.data = .dict es ep) (I : Inv X pins σ H s) : ∀ {ds : List PyData} {xs : List V} {us : List Value}, DtAll X.K H ds xs → Vals xs us → ∃ as, ReadsAll s.heap us ds as ∧ sysModules ∉ as
  | [], _, _, h, r => by
    unfold DtAll at h; subst h
    cases r
    exact ⟨[], .nil, by simp⟩
  | d :: ds, _, _, h, r => by
    unfold DtAll at h
    obtain ⟨x, q, rfl, h1, h2⟩ := h
    cases r with
    | cons r1 r2 =>
      obtain ⟨as, a1, a2⟩ := Dt.reads hm I h1 r1
      obtain ⟨bs, b1, b2⟩ := DtAll.reads hm I h2 r2
      exact ⟨as ++ bs, .cons a1 b1, fun z => (List.mem_append.mp z).elim a2 b2⟩
theorem DtKv.reads (hm : ∃ o es ep, X.base.get? sysModules = some o ∧ o.data = .dict es ep) (I : Inv X pins σ H s) : ∀ {ds : List (PyData × PyData)} {es : List (Key × V)} {vs : List (Key × Value)} {en : List DictEntry}, DtKv X.K H ds es → KV es vs → Pairs (mixKind X.prog X.w) en vs →
    ∃ as bs, ReadsAll s.heap (en.map (·.key)) (ds.map (·.1)) as ∧ ReadsAll s.heap (en.map (·.val)) (ds.map (·.2)) bs ∧ sysModules ∉ as ∧ sysModules ∉ bs
  | [], _, _, _, h, r, p => by
    unfold DtKv at h; subst h
    cases r
    cases p
    exact ⟨[], [], .nil, .nil, by simp, by simp⟩
  | (k, d) :: ds, _, _, _, h, r, p => by
    unfold DtKv at h
    obtain ⟨kk, v, q, rfl, rfl, h1, h2⟩ := h
    cases r with
    | cons r1 r2 =>
      obtain ⟨r1a, r1b⟩ := r1
      cases p with
      | cons p1 pv p2 =>
        obtain ⟨as, bs, a1, a2, a3, a4⟩ := DtKv.reads hm I h2 r2 p2
        obtain ⟨cs, c1, c2⟩ := Dt.reads hm I h1 r1b
        have p1 := (show keyIs _ _ = true from p1)
        rw [← show kk = _ from r1a] at p1
        rw [← pv] at c1
        have hk : ∀ {u : Value}, keyIs kk u = true → Reads s.heap u (kd kk) [] := fun {u} h => by
          rcases keyIs_shape h with ⟨i, t, e1, e2⟩ | ⟨x, t, e1, e2⟩
          · subst e1 e2; exact .int i t
          · subst e1 e2; exact .str x t
        exact ⟨[] ++ as, cs ++ bs, .cons (hk p1) a1, .cons c1 a2, by simpa using a3, fun z => (List.mem_append.mp z).elim c2 a4⟩
end
/-- repr of data -/
def rRepr (K : PySem.W.Frag) : List V → Hp → VK → Prop := fun xs H Q => ∃ (v : V) (d : PyData), xs = [v] ∧ Dt K H d v ∧ d.showable = true ∧ d.depth ≤ 100 ∧ d.shown.length ≤ sizeLine ∧ Q (.str d.shown) H
theorem call_repr (hm : ∃ o es ep, X.base.get? sysModules = some o ∧ o.data = .dict es ep) {k : Nat} (hr : RoomG k X.A) : CallR X (.builtin "repr") (rRepr X.K) := by
  intro pins s σ H xs us Q I r h
  obtain ⟨v, d, rfl, hd, hs, hdp, hl, q⟩ := h
  obtain ⟨u, rfl, ru⟩ := vals1 r
  obtain ⟨as, hR, hn⟩ := Dt.reads hm I hd ru
  have hun : X.A.units + 200 < cLine := by have := hr.r.un; omega
  have fin : ∀ (h' : Heap) (u' tk : Tok), (∀ b o, s.heap.get? b = some o → h'.get? b = some o) → EP X pins σ Q (.str d.shown u') { s with heap := h', toks := tk } := fun h' u' tk k =>
    ⟨.str d.shown, H, I.kept (t' := tk) k, ⟨_, rfl⟩, q⟩
  cases hR with
  | none => exact PySem.P.repr_of_none (by simpa [PyData.shown] using fin s.heap _ _ fun _ _ z => z)
  | bool b => exact PySem.P.repr_of_bool (by simpa [PyData.shown] using fin s.heap _ _ fun _ _ z => z)
  | int i t => exact PySem.P.repr_of_int (by simpa [PyData.showable] using hs) (by simpa [PyData.shown] using fin s.heap _ _ fun _ _ z => z)
  | str x t => exact PySem.P.repr_of_str (by simpa [PyData.shown] using fin s.heap _ _ fun _ _ z => z) (by simpa [PyData.shown] using hl)
  | list h1 h2 h3 h4 => exact repr_of_reads' (.list h1 h2 h3 h4) hs (fun _ => hn) hr.g (by omega) (fun _ _ z => z) fin hl
  | tuple h1 h2 h3 h4 => exact repr_of_reads' (.tuple h1 h2 h3 h4) hs (fun _ => hn) hr.g (by omega) (fun _ _ z => z) fin hl
  | dict h1 h2 h3 h4 h5 => exact repr_of_reads' (.dict h1 h2 h3 h4 h5) hs (fun _ => hn) hr.g (by omega) (fun _ _ z => z) fin hl
end
end Fp
namespace Fp
open PySem PySem.Spec PyProof.Rows L2

/-! ### operators of any kind of value -/
section
variable {X : Cx}
def rAddP (K : PySem.W.Frag) : R2 := fun x y H Q => rI0 (fun i j => .int (i + j)) x y H Q ∨ rCat x y H Q ∨ rCatA K x y H Q ∨ (∃ i j, x = .str i ∧ y = .str j ∧ i.length + j.length ≤ sizeLine ∧ Q (.str (i ++ j)) H)
theorem opAdd : OpR X (binaryOp .Add) (rAddP X.K) := op_add.or (op_cat.or (op_catA.or op_add_str))
def rMulP (K : PySem.W.Frag) : R2 := fun x y H Q => rI CMul (fun i j => .int (i * j)) x y H Q ∨ rI CMulW (fun i j => .int (i * j)) x y H Q ∨ rRep x y H Q ∨ rRepT K x y H Q
theorem opMul : OpR X (binaryOp .Mult) (rMulP X.K) := op_mul.or (op_mulW.or (op_rep.or op_repT))
def rFdivP : R2 := fun x y H Q => rI CDiv (fun i j => .int (i / j)) x y H Q ∨ rI CDivW (fun i j => .int (i / j)) x y H Q
theorem opFdiv : OpR X (binaryOp .FloorDiv) rFdivP := op_fdiv.or op_fdivW
def rEqP (K : PySem.W.Frag) : R2 := fun x y H Q => rEq x y H Q ∨ rEqD K x y H Q
theorem opEq {k : Nat} {X : Cx} (hr : RoomG k X.A) : OpR X (compareOp .Eq) (rEqP X.K) := op_eq.or (op_eqD (by have := hr.r.un; omega))
def rNeP (K : PySem.W.Frag) : R2 := fun x y H Q => rNe x y H Q ∨ rNeD K x y H Q
theorem opNe {k : Nat} {X : Cx} (hr : RoomG k X.A) : OpR X (compareOp .NotEq) (rNeP X.K) := op_ne.or (op_neD (by have := hr.r.un; omega))
theorem huG {k : Nat} {A : Around} (hr : RoomG k A) : A.units + 1 < cLine := by have := hr.r.un; omega
theorem huC {k : Nat} {A : Around} (hr : RoomC k A) : A.units + 1 < cLine := by have := hr.un; omega
end

/-! ### the source of draws -/
def penK (c : Addr) (i g n f : Int) : List (Key × V) := [(.inr "cells", .ref c), (.inr "at", .int i), (.inr "digits", .int g), (.inr "count", .int n), (.inr "fold", .int f)]
structure PenV (i g f : Int) : Prop where
  i0 : 0 ≤ i
  g0 : 0 ≤ g
  f0 : 0 ≤ f
  f1 : f < 4294967296
theorem pen_cells {c i g n f} : valV (penK c i g n f) (.inr "cells") = some (.ref c) := rfl
theorem pen_at {c i g n f} : valV (penK c i g n f) (.inr "at") = some (.int i) := rfl
theorem pen_digits {c i g n f} : valV (penK c i g n f) (.inr "digits") = some (.int g) := rfl
theorem pen_count {c i g n f} : valV (penK c i g n f) (.inr "count") = some (.int n) := rfl
theorem pen_fold {c i g n f} : valV (penK c i g n f) (.inr "fold") = some (.int f) := rfl
theorem put_at {c i g n f j} : putK (penK c i g n f) (.inr "at") (.int j) = penK c j g n f := rfl
theorem put_digits {c i g n f j} : putK (penK c i g n f) (.inr "digits") (.int j) = penK c i j n f := rfl
theorem put_count {c i g n f j} : putK (penK c i g n f) (.inr "count") (.int j) = penK c i g j f := rfl
theorem put_fold {c i g n f j} : putK (penK c i g n f) (.inr "fold") (.int j) = penK c i g n j := rfl
/-- the pen as a table -/
def PenT (H : Hp) (p : Addr) (c : Addr) (ns : List Int) (i g n f : Int) : Prop := H p = some (.dK (penK c i g n f)) ∧ H c = some (.lst (ns.map V.int)) ∧ PenV i g f
def spDrawT : Sp := fun vs H Q _ => ∃ (p c : Addr) (ns : List Int) (i g n f many : Int), vs = [.ref p, .int many] ∧ PenT H p c ns i g n f ∧ 1 ≤ many ∧ many < 1000000000 ∧
  ∀ r i' g' n' f', 0 ≤ r → r < many → PenV i' g' f' → Q (.int r) (upd H p (.dK (penK c i' g' n' f')))
theorem upd_upd' {H : Hp} {a : Addr} {o u : HO} : upd (upd H a o) a u = upd H a u := upd_upd
theorem getPen {H : Hp} {p : Addr} {kvs : List (Key × V)} {k : Str} {v : V} (h : H p = some (.dK kvs)) (e : valV kvs (.inr k) = some v) : DGet H p (.str k) (some v) := by
  have := DGet.k (k := .inr k) h
  rw [e] at this
  exact this
theorem putPen {H : Hp} {p : Addr} {kvs kvs' : List (Key × V)} {k : Str} {v : V} (h : H p = some (.dK kvs)) (e : putK kvs (.inr k) v = kvs') (hl : kvs.length ≤ 1000) : DPut H p (.str k) v (upd H p (.dK kvs')) := by
  have := DPut.k (k := .inr k) (v := v) h (small1000 hl)
  rw [e] at this
  exact this
end Fp
namespace Fp
open PySem PySem.Spec PyProof.Rows L2
theorem seq_rest {t u : TS} {D : Ends} {σ : L2.St} {H : Hp} (W : L2.St → Hp → Prop) (h2 : ∀ σ' H', W σ' H' → u D σ' H') (h1 : (∀ σ' H', W σ' H' → u D σ' H') → t { D with nx := u D } σ H) : tSeq t u D σ H := h1 h2
theorem iteB {A B : Prop} {b : Bool} (h1 : b = true → A) (h2 : b = false → B) : if b = true then A else B := by
  cases b with
  | true => exact h1 rfl
  | false => exact h2 rfl
end Fp
namespace Fp
open PySem PySem.Spec PyProof.Rows L2
theorem same_new {H : Hp} {p : Addr} {o : HO} (h : H p = none) : Same H (upd H p o) := fun b u e => by rw [upd_ne (ne_of_none e h)]; exact e
section
variable {P : Program} {w : World} {K : PySem.W.Frag} {mg : Str → Option Value} {base : Heap} {k : Nat} {f : Addr} {fd : FuncData}
/-- a pen at p, its cells at c -/
def PenO (P : Program) (w : World) (p c : Addr) : HO := .ext fun h => (p == sysModules) = false ∧ ∃ i g n f, PenV i g f ∧ ∃ vs, KV (penK c i g n f) vs ∧ h.DictOf (mixKind P w) p vs
def Pen (P : Program) (w : World) (H : Hp) (p : Addr) : Prop := ∃ (c : Addr) (ns : List Int), H p = some (PenO P w p c) ∧ H c = some (.lst (ns.map V.int))
theorem Pen.mono {H H' : Hp} {p : Addr} (e : Same H H') (h : Pen P w H p) : Pen P w H' p := by
  obtain ⟨c, ns, h1, h2⟩ := h
  exact ⟨c, ns, e _ _ h1, e _ _ h2⟩
theorem penO_ok {H : Hp} {h : Heap} {p c : Addr} {i g n f : Int} (x : ObjOk P w H h p (.dK (penK c i g n f))) (hv : PenV i g f) {H' : Hp} : ObjOk P w H' h p (PenO P w p c) := by
  obtain ⟨_, hs, vs, rv, hD⟩ := x
  obtain ⟨o, es, ep, e1, e2⟩ := hD
  refine ⟨⟨hs, i, g, n, f, hv, vs, rv, o, es, ep, e1, e2⟩, ⟨o, e1⟩, fun h1 h2 z kp => ?_⟩
  obtain ⟨hs, i, g, n, f, hv, vs, rv, o, es, ep, e1, e2⟩ := z
  exact ⟨hs, i, g, n, f, hv, vs, rv, o, es, ep, kp _ e1, e2⟩
theorem penO_at {H : Hp} {h : Heap} {p c : Addr} (x : ObjOk P w H h p (PenO P w p c)) {H' : Hp} : ∃ i g n f, PenV i g f ∧ ObjOk P w H' h p (.dK (penK c i g n f)) := by
  obtain ⟨⟨hs, i, g, n, f, hv, vs, rv, hD⟩, _⟩ := x
  exact ⟨i, g, n, f, hv, by show (5 : Nat) ≤ sizeLine; decide, hs, vs, rv, hD⟩
theorem penO_tup {p c : Addr} {xs : List V} : PenO P w p c ≠ .tup xs := fun z => by have z' : HO.ext _ = HO.tup xs := z; cases z'
theorem penO_own {p c x : Addr} : PenO P w p c ≠ .own x := fun z => by have z' : HO.ext _ = HO.own x := z; cases z'
theorem penO_lst {p c : Addr} {xs : List V} : PenO P w p c ≠ .lst xs := fun z => by have z' : HO.ext _ = HO.lst xs := z; cases z'
/-- a tracked thing that is told in another way -/
theorem hok_retell {H : Hp} {h : Heap} {p : Addr} {o o' : HO} (x : HOk P w H h) (e : H p = some o) (ok : ObjOk P w (upd H p o') h p o') (nt : ∀ xs, o ≠ .tup xs) (no : ∀ y, o ≠ .own y) : HOk P w (upd H p o') h := fun b u q => by
  by_cases hb : b = p
  · subst hb
    rw [upd_same] at q
    cases q
    exact ok
  · rw [upd_ne hb] at q
    refine (x b u q).stay (fun c v _ r => r) (fun c r => ?_) fun c xs r => ?_
    · rw [upd_ne (fun z => by rw [z, e] at r; exact no _ (Option.some.inj r))]; exact r
    · rw [upd_ne (fun z => by rw [z, e] at r; exact nt _ (Option.some.inj r))]; exact r
def spDraw (P : Program) (w : World) : Sp := fun vs H Q _ => ∃ (p : Addr) (many : Int), vs = [.ref p, .int many] ∧ Pen P w H p ∧ 1 ≤ many ∧ many < 1000000000 ∧ ∀ r, 0 ≤ r → r < many → Q (.int r) H
theorem ok_drawE (F : FnG P w K mg base (L2.CX P w) k f fd ["pen", "many"] spDrawT) : FnG P w K mg base (L2.CX P w) k f fd ["pen", "many"] (spDraw P w) := by
  refine ⟨fun vs H Q E ⟨_, _, e, _⟩ => by rw [e]; rfl, fun A outer s H args us vs Q E hr e0 hb r hs => ?_⟩
  obtain ⟨p, many, ev, ⟨c, ns, hp, hc⟩, m1, m2, q⟩ := hs
  have ox := e0.hok p _ hp
  obtain ⟨i, g, n, fo, hv, ok1⟩ := penO_at (H' := upd H p (.dK [])) ox
  obtain ok1 : ∀ H', ObjOk P w H' s.heap p (.dK (penK c i g n fo)) := fun _ => ok1
  have hcp : c ≠ p := fun z => by rw [z, hp] at hc; exact penO_lst (Option.some.inj hc)
  have hok' := hok_retell e0.hok hp (ok1 _) (fun _ => penO_tup) (fun _ => penO_own)
  have e1 : Env0 P w K mg base A outer s (upd H p (.dK (penK c i g n fo))) := ⟨e0.frames, e0.mod, fun b o eb => ⟨(e0.bs b o eb).1, by rw [upd_ne (fun z => by have := (e0.bs b o eb).2; rw [z, hp] at this; cases this)]; exact (e0.bs b o eb).2⟩, e0.bsz, e0.funs,
    fun b hb' => by rw [upd_ne (fun z => by have := e0.frf b hb'; rw [z, hp] at this; cases this)]; exact e0.frf b hb', hok', e0.bare⟩
  refine codeAny_mono (F.run A outer s _ args us vs (fun v H2 => ∃ r i g n fo, v = .int r ∧ 0 ≤ r ∧ r < many ∧ PenV i g fo ∧ H2 = upd (upd H p (.dK (penK c i g n fo))) p (.dK (penK c i g n fo))) (fun _ _ _ => False) hr e1 hb r ?_) fun rs s' hq => ?_
  · exact ⟨p, c, ns, i, g, n, fo, many, ev, ⟨upd_same, by rw [upd_ne hcp]; exact hc, hv⟩, m1, m2, fun r i' g' n' f' h1 h2 h3 => ⟨r, i', g', n', f', rfl, h1, h2, h3, by rw [upd_upd, upd_upd]⟩⟩
  cases rs with
  | error e =>
    obtain ⟨_, _, _, _, _, _, _, _, _, _, _, _, z⟩ := hq
    exact z.elim
  | ok fl =>
    cases fl with
    | next => exact False.elim hq
    | brk => exact False.elim hq
    | cont => exact False.elim hq
    | ret u =>
      obtain ⟨v, H2, os, bare, un, hok2, rv, rr, i2, g2, n2, f2, ev2, r0, r1, hv2, eH⟩ := hq
      subst ev2
      rw [upd_upd] at eH
      subst eH
      have np : ∀ {b : Addr}, H b = none → b ≠ p := fun {b} n z => by rw [z, hp] at n; cases n
      have eq : upd (upd H p (.dK (penK c i2 g2 n2 f2))) p (PenO P w p c) = H := by
        funext b
        by_cases hb : b = p
        · rw [hb, upd_same, hp]
        · rw [upd_ne hb, upd_ne hb]
      refine ⟨.int rr, H, os, bare, ⟨fun b o h1 h2 h3 h4 => ?_, fun b o h1 h2 h3 h4 => ?_, fun b o h1 h2 h4 => h2, fun b o h1 h4 => un.there b o h1 h4, fun b xs h => h, fun b o u h => h, fun b qs h => ⟨#[], by rw [h]; simp⟩⟩, ?_, rv, q rr r0 r1⟩
      · exact un.keep b o h1 (by rw [upd_ne (np h2)]; exact h2) h3 h4
      · exact un.slot b o h1 (by rw [upd_ne (np h2)]; exact h2) h3 h4
      · have := hok_retell (o' := PenO P w p c) hok2 upd_same (penO_ok (hok2 p _ upd_same) hv2) (fun _ z => nomatch z) (fun _ z => nomatch z)
        rw [eq] at this
        exact this
/-- a new pen -/
def spPenT (K : PySem.W.Frag) : Sp := fun vs H Q _ => ∃ (a : Addr) (ns : List Int), vs = [.ref a] ∧ SqL K H a (ns.map V.int) ∧ ∀ p c i g n f H', Same H H' → H p = none → H' p = some (.dK (penK c i g n f)) → H' c = some (.lst (ns.map V.int)) → PenV i g f → Q (.ref p) H'
def spPen (P : Program) (w : World) (K : PySem.W.Frag) : Sp := fun vs H Q _ => ∃ (a : Addr) (ns : List Int), vs = [.ref a] ∧ SqL K H a (ns.map V.int) ∧ ∀ p H', Same H H' → Pen P w H' p → Q (.ref p) H'
theorem ok_penE (F : FnG P w K mg base (L2.CX P w) k f fd ["script"] (spPenT K)) : FnG P w K mg base (L2.CX P w) k f fd ["script"] (spPen P w K) := by
  refine ⟨fun vs H Q E ⟨_, _, e, _⟩ => by rw [e]; rfl, fun A outer s H args us vs Q E hr e0 hb r hs => ?_⟩
  obtain ⟨a, ns, ev, hS, q⟩ := hs
  refine codeAny_mono (F.run A outer s H args us vs (fun v H2 => ∃ p c i g n f, v = .ref p ∧ Same H H2 ∧ H p = none ∧ H2 p = some (.dK (penK c i g n f)) ∧ H2 c = some (.lst (ns.map V.int)) ∧ PenV i g f) (fun _ _ _ => False) hr e0 hb r ?_) fun rs s' hq => ?_
  · exact ⟨a, ns, ev, hS, fun p c i g n f H' h1 h2 h3 h4 h5 => ⟨p, c, i, g, n, f, rfl, h1, h2, h3, h4, h5⟩⟩
  cases rs with
  | error e =>
    obtain ⟨_, _, _, _, _, _, _, _, _, _, _, _, z⟩ := hq
    exact z.elim
  | ok fl =>
    cases fl with
    | next => exact False.elim hq
    | brk => exact False.elim hq
    | cont => exact False.elim hq
    | ret u =>
      obtain ⟨v, H2, os, bare, un, hok2, rv, p, c, i, g, n, f, ev2, sm, hp0, hp, hc, hv⟩ := hq
      subst ev2
      have ne : ∀ {b : Addr} {o : HO}, H b = some o → b ≠ p := fun {b o} h z => by rw [z, hp0] at h; cases h
      have hcp : c ≠ p := fun z => by rw [z, hp] at hc; cases hc
      have sm2 : Same H (upd H2 p (PenO P w p c)) := fun b o h => by rw [upd_ne (ne h)]; exact sm b o h
      refine ⟨.ref p, upd H2 p (PenO P w p c), os, bare, ⟨un.keep, un.slot, fun b o h1 h2 h4 => ?_, un.there, fun b xs h => ?_, fun b o u h => ?_, fun b qs h => ⟨#[], ?_⟩⟩, ?_, rv, q p _ sm2 ⟨c, ns, upd_same, by rw [upd_ne hcp]; exact hc⟩⟩
      · have := un.free b o h1 h2 h4
        rw [upd_ne (fun z => by rw [z, hp] at this; cases this)]; exact this
      · exact sm2 _ _ h
      · exact sm2 _ _ h
      · rw [sm2 _ _ h]; simp
      · exact hok_retell (o' := PenO P w p c) hok2 hp (penO_ok (hok2 p _ hp) hv) (fun _ z => nomatch z) (fun _ z => nomatch z)
end
end Fp
namespace Fp
open PySem PySem.Spec PyProof.Rows L2

/-! ### errors with fields -/
/-- __init__(self, f1, ..) of such a class: each field is kept -/
def spInit (K : PySem.W.Frag) (C : Addr) (fs : List Str) : Sp := fun vs H Q _ => ∃ (a : Addr) (ws : List V), vs = .ref a :: ws ∧ ws.length = fs.length ∧ H a = some (exo a C none) ∧
  ∀ d H2, (∀ b o, b ≠ a → H b = some o → H2 b = some o) → H d = none → d ≠ a → H2 a = some (exo a C (some d)) → H2 d = some (exd d (fs.zip ws).reverse) → Q .non H2
/-- the class of an error that has fields -/
structure ErrI (P : Program) (w : World) (K : PySem.W.Frag) (mg : Str → Option Value) (base : Heap) (x : Str) (C : Addr) (fs : List Str) : Prop where
  g : mg x = some (.ref C)
  T : OexC K C
  ex : ∃ fI fd, PySem.W.findIn K (.ref C) "__init__" = some (some (.ref fI)) ∧ PySem.W.typeIn K (.ref fI) = some (.type "function") ∧ FnOk P w K mg base CX0 1 fI fd ("self" :: fs) (spInit K C fs) ∧ Binds K fd ("self" :: fs) []
/-- X(e, ..) -/
def tErr (C : Addr) (fs : List Str) (ta : TA) : L2.St → Hp → XK → Prop := fun σ H Q => ta σ H fun vs H1 => vs.length = fs.length ∧ ∀ d H3, Same H1 H3 → H1 d = none → H3 d = some (.xd (fs.zip vs).reverse) → Q (.ref C) (some d) H3
theorem PA.up {X : Cx} {es : List Expr} {t : TA} (h : PA X es t) : PA X es (fun σ H Q => ∃ R : List V → Hp → Prop, t σ H R ∧ ∀ vs H1, R vs H1 → Q vs H1) := by
  refine ⟨fun pos pins s σ H Q I ⟨R, h1, h2⟩ => ?_⟩
  refine wpAny_mono (h.run pos pins s σ H R I h1) (fun us s1 hs => ?_) fun _ _ z => z
  obtain ⟨vs, H1, I1, r, q⟩ := hs
  exact ⟨vs, H1, I1, r, h2 _ _ q⟩
theorem mk_err {X : Cx} {x : Str} {C : Addr} {fs : List Str} {e : Expr} {es : List Expr} {ta : TA} {p pos : Pos} (T : ErrI X.prog X.w X.K X.mg X.base x C fs) (hl : fs.length ≤ 10) (hr : RoomG 2 X.A) (hg : Gl X x) (ha : PA X (e :: es) ta)
    (hdb : (x == ("__debug__" : Str)) = false := by decide) (he : starEach (e :: es) X.env = (false, eval e X.env) :: starEach es X.env := by rfl) (hpl : (backTo pos (starEach es X.env)).any (·.1) = false := by rfl) :
    PMk X (.Call (.Name x p) (e :: es) [] pos) (tErr C fs ta) := by
  obtain ⟨fI, fd, h1, h2, h3, h4⟩ := T.ex
  have m := pmk_oex (p := p) (pos := pos) T.T h1 h2 h3 hr.r h4 .nil pass0 hg T.g (PA.up ha) hdb he hpl
  intro pins s σ H Q I h
  refine m pins s σ H Q I ⟨_, h, fun vs H1 hh => ?_⟩
  obtain ⟨hn, q⟩ := hh
  refine ⟨by omega, fun a na => ?_⟩
  rw [List.append_nil]
  refine ⟨a, vs, rfl, hn, upd_same, fun d H2 k nd dne ea ed => ⟨rfl, d, _, ea, ed, ?_, ?_⟩⟩
  · rw [upd_ne dne] at nd; exact nd
  · have nd' : H1 d = none := by rw [upd_ne dne] at nd; exact nd
    refine q d _ (fun b o eb => ?_) nd' upd_same
    have hba := ne_of_none eb na
    rw [upd_ne (ne_of_none eb nd'), L2.del_ne hba]
    exact k b o hba (by rw [upd_ne hba]; exact eb)
/-- X(), X without fields -/
theorem mk_err0 {X : Cx} {x : Str} {C : Addr} {bmB : List Value} {B newId initId : String} {p pos : Pos} (F : ExcBaseFacts B newId initId bmB) (q : PySem.W.excIn X.K C bmB newId = true) (gC : X.mg x = some (.ref C)) (kC : PySem.W.keepIn X.K (.ref C) = true) (r : Raises X (.ref C)) (hg : Gl X x)
    (hdb : (x == ("__debug__" : Str)) = false := by decide) : PMk X (.Call (.Name x p) [] [] pos) (fun _ H Q => Q (.ref C) none H) := by
  intro pins s σ H Q I h
  refine wpAny_Call_Name_kw (ld_glob I hg gC ?_ hdb)
  refine PySem.W.callWith_K0 I.kIn kC ?_
  obtain ⟨bm, N, nm, qn, bs, hdct, sn, sub, ab, col, dd, k0, k1, k2, k3, k5, mN, hC, hN, hni, T⟩ := exc_obj I.kIn q
  refine wpAny_call_exc_subT F T hC hN hni (fun h' e hm => ?_) (by show 0 ≤ sizeLine; rw [sizeLine_eq]; omega)
  exact mk_of I hm r h (I.hok.gone hm.new)

section
variable {K : PySem.W.Frag} {C : Addr} {f1 f2 f3 : Str} {vs : List V} {H : Hp} {Q : VK} {E : XK}
theorem init1 {N : List Str} (hN : N = [("self" : Str), f1]) (T : OexC K C) (n1 : PySem.W.findIn K (.ref C) f1 = some none) (h : spInit K C [f1] vs H Q E) : tOst K f1 (tVar 0) (tVar 1) { nx := fun _ H' => Q .non H', rt := Q } (L2.start N vs) H := by
  subst hN
  obtain ⟨a, ws, rfl, hl, ha, q⟩ := h
  obtain ⟨v1, rfl⟩ : ∃ v, ws = [v] := by
    cases ws with
    | nil => cases hl
    | cons v r => cases r with
      | nil => exact ⟨v, rfl⟩
      | cons _ _ => simp at hl
  refine ⟨v1, rfl, _, rfl, a, C, rfl, T, n1, .inl ⟨ha, fun d nd dne => ?_⟩⟩
  refine q d _ (fun b o hb e => ?_) nd dne upd_same (by rw [upd_ne dne, upd_same]; rfl)
  rw [upd_ne hb, upd_ne (ne_of_none e nd)]
  exact e
theorem init2 {N : List Str} (hN : N = [("self" : Str), f1, f2]) (T : OexC K C) (n1 : PySem.W.findIn K (.ref C) f1 = some none) (n2 : PySem.W.findIn K (.ref C) f2 = some none) (h : spInit K C [f1, f2] vs H Q E) :
    tSeq (tOst K f1 (tVar 0) (tVar 1)) (tOst K f2 (tVar 0) (tVar 2)) { nx := fun _ H' => Q .non H', rt := Q } (L2.start N vs) H := by
  subst hN
  obtain ⟨a, ws, rfl, hl, ha, q⟩ := h
  obtain ⟨v1, v2, rfl⟩ : ∃ v u, ws = [v, u] := by
    match ws, hl with
    | [v, u], _ => exact ⟨v, u, rfl⟩
  refine ⟨v1, rfl, _, rfl, a, C, rfl, T, n1, .inl ⟨ha, fun d nd dne => ?_⟩⟩
  refine ⟨v2, rfl, _, rfl, a, C, rfl, T, n2, .inr ⟨d, [(f1, v1)], upd_same, by rw [upd_ne dne, upd_same], (by show (_ : Nat) ≤ 900; simp), ?_⟩⟩
  refine q d _ (fun b o hb e => ?_) nd dne (by rw [upd_ne (Ne.symm dne), upd_same]) upd_same
  rw [upd_ne (ne_of_none e nd), upd_ne hb, upd_ne (ne_of_none e nd)]
  exact e
theorem init3 {N : List Str} (hN : N = [("self" : Str), f1, f2, f3]) (T : OexC K C) (n1 : PySem.W.findIn K (.ref C) f1 = some none) (n2 : PySem.W.findIn K (.ref C) f2 = some none) (n3 : PySem.W.findIn K (.ref C) f3 = some none) (h : spInit K C [f1, f2, f3] vs H Q E) :
    tSeq (tOst K f1 (tVar 0) (tVar 1)) (tSeq (tOst K f2 (tVar 0) (tVar 2)) (tOst K f3 (tVar 0) (tVar 3))) { nx := fun _ H' => Q .non H', rt := Q } (L2.start N vs) H := by
  subst hN
  obtain ⟨a, ws, rfl, hl, ha, q⟩ := h
  obtain ⟨v1, v2, v3, rfl⟩ : ∃ v u t, ws = [v, u, t] := by
    match ws, hl with
    | [v, u, t], _ => exact ⟨v, u, t, rfl⟩
  refine ⟨v1, rfl, _, rfl, a, C, rfl, T, n1, .inl ⟨ha, fun d nd dne => ?_⟩⟩
  refine ⟨v2, rfl, _, rfl, a, C, rfl, T, n2, .inr ⟨d, [(f1, v1)], upd_same, by rw [upd_ne dne, upd_same], (by show (_ : Nat) ≤ 900; simp), ?_⟩⟩
  refine ⟨v3, rfl, _, rfl, a, C, rfl, T, n3, .inr ⟨d, [(f2, v2), (f1, v1)], by rw [upd_ne (Ne.symm dne), upd_same], upd_same, (by show (_ : Nat) ≤ 900; simp), ?_⟩⟩
  refine q d _ (fun b o hb e => ?_) nd dne (by rw [upd_ne (Ne.symm dne), upd_ne (Ne.symm dne), upd_same]) upd_same
  rw [upd_ne (ne_of_none e nd), upd_ne (ne_of_none e nd), upd_ne hb, upd_ne (ne_of_none e nd)]
  exact e
end
end Fp
namespace Fp
open PySem PySem.Spec PyProof.Rows L2
/-! ### what the head tells of the error classes -/
abbrev veB : List Value := [.type "ValueError", .type "Exception", .type "BaseException", .type "object"]
/-- an error class: as a class of exceptions -/
structure ErrC (K : PySem.W.Frag) (mg : Str → Option Value) (x : Str) (C : Addr) : Prop where
  g : mg x = some (.ref C)
  X : ExcC K C
  k : PySem.W.keepIn K (.ref C) = true
  ex : PySem.W.subIn K (.ref C) (.type "BaseException") = some true
  ty : PySem.W.typeIn K (.ref C) = some (.type "type")
  ve : PySem.W.kitOne K (.ref C) (.type "ValueError") = some true
def errB (K : PySem.W.Frag) (x : Str) : Bool :=
  He.eqO (PySem.W.nsIn K mainGlobals x) (some (some (.ref (He.ga K x)))) && (
  He.eqO (PySem.W.findIn K (.ref (He.ga K x)) "__getattribute__") (some (some (.builtin "BaseException.__getattribute__"))) && (
  He.eqO (PySem.W.findIn K (.ref (He.ga K x)) "__getattr__") (some none) && (
  decide (PySem.W.subIn K (.ref (He.ga K x)) (.type "BaseException") = some true) && (
  PySem.W.hasDictIn K (He.ga K x) && (
  He.eqO (PySem.W.findIn K (.ref (He.ga K x)) "__class__") (some (some (.builtin "object.__class__"))) && (
  He.eqO (PySem.W.specialIn K (.builtin "object.__class__") "__get__") (some (some (.builtin "getset_descriptor.__get__"))) && (
  decide (PySem.W.takesIn K (.builtin "object.__class__") = some true) && (
  decide (PySem.W.mroIn K (He.ga K x) (.type "object") = some true) && (
  PySem.W.keepIn K (.ref (He.ga K x)) && (
  decide (PySem.W.typeIn K (.ref (He.ga K x)) = some (.type "type")) &&
  decide (PySem.W.kitOne K (.ref (He.ga K x)) (.type "ValueError") = some true)))))))))))
theorem errB_ok {K : PySem.W.Frag} {h : Heap} {mg : Str → Option Value} {x : Str} (X : K.In h) (G : h.Ns mainGlobals mg) (c : errB K x = true) : ErrC K mg x (He.ga K x) := by
  unfold errB at c
  simp only [Bool.and_eq_true] at c
  obtain ⟨c1, c2, c3, c4, c5, c6, c7, c8, c9, c10, c11, c12⟩ := c
  exact ⟨PySem.W.mg_of X G (He.eqO_ok c1), ⟨He.eqO_ok c2, He.eqO_ok c3, of_decide_eq_true c4, c5, He.eqO_ok c6, He.eqO_ok c7, of_decide_eq_true c8, of_decide_eq_true c9⟩, c10, of_decide_eq_true c4, of_decide_eq_true c11, of_decide_eq_true c12⟩
/-- a class whose instances have fields -/
def oexB (K : PySem.W.Frag) (x : Str) (fs : List Str) : Bool :=
  (match K.lookup (He.ga K x) with
    | some ⟨.type "type", _, .cls cd, sl⟩ => (match cd.mro, sl.toList with
      | .ref C' :: bm, [_, _, _, _, some (.builtin n), _] => decide (C' = He.ga K x) && (decide (n = "ValueError.__new__") && (cd.hasDict && (!cd.hasDel && PySem.HandSPX.refsVE bm)))
      | _, _ => false)
    | _ => false) && (
  He.eqO (PySem.W.findIn K (.ref (He.ga K x)) "__setattr__") (some (some (.builtin "object.__setattr__"))) && (
  He.eqO (PySem.W.findIn K (.ref (He.ga K x)) "__init__") (some (some (.ref (He.ma K (He.ga K x) "__init__")))) && (
  decide (PySem.W.typeIn K (.ref (He.ma K (He.ga K x) "__init__")) = some (.type "function")) &&
  fs.all fun f => He.eqO (PySem.W.findIn K (.ref (He.ga K x)) f) (some none))))
theorem oexB_ok {K : PySem.W.Frag} {mg : Str → Option Value} {x : Str} {fs : List Str} (e : ErrC K mg x (He.ga K x)) (c : oexB K x fs = true) :
    OexC K (He.ga K x) ∧ PySem.W.findIn K (.ref (He.ga K x)) "__init__" = some (some (.ref (He.ma K (He.ga K x) "__init__"))) ∧ PySem.W.typeIn K (.ref (He.ma K (He.ga K x) "__init__")) = some (.type "function") ∧ ∀ f ∈ fs, PySem.W.findIn K (.ref (He.ga K x)) f = some none := by
  unfold oexB at c
  simp only [Bool.and_eq_true] at c
  obtain ⟨c1, c2, c3, c4, c5⟩ := c
  refine ⟨⟨?_, He.eqO_ok c2, e.ex, e.ty, e.k⟩, He.eqO_ok c3, of_decide_eq_true c4, fun f hf => He.eqO_ok (List.all_eq_true.mp c5 f hf)⟩
  split at c1
  · rename_i dd cd sl ho
    split at c1
    · rename_i C' bm k0 k1 k2 k3 n k5 hm hs
      simp only [Bool.and_eq_true, decide_eq_true_eq, Bool.not_eq_true'] at c1
      obtain ⟨h1, h2, h3, h4, h5⟩ := c1
      subst h1 h2
      obtain ⟨nm, bs, mro, ns, qn, hd, sn, sub, ab, col, del⟩ := cd
      dsimp only at hm h3 h4
      subst hm h3 h4
      have hsl : sl = #[k0, k1, k2, k3, some (.builtin "ValueError.__new__"), k5] := by
        obtain ⟨l⟩ := sl
        simp only at hs
        rw [hs]
      subst hsl
      exact ⟨nm, qn, ns, bs, bm, sn, sub, ab, col, dd, k0, k1, k2, k3, k5, ho, h5⟩
    · cases c1
  · cases c1
/-- a class without fields -/
def zexB (K : PySem.W.Frag) (x : Str) : Bool := PySem.W.excIn K (He.ga K x) veB "ValueError.__new__"
/-- all pairs: is x one of y -/
def kitB (K : PySem.W.Frag) (x y : Str) (b : Bool) : Bool := decide (PySem.W.kitOne K (.ref (He.ga K x)) (.ref (He.ga K y)) = some b)
def exmB (K : PySem.W.Frag) (x y : Str) (b : Bool) : Bool := decide (PySem.W.exmOne K (.ref (He.ga K x)) (.ref (He.ga K y)) = some b)
end Fp
namespace Fp
open PySem PySem.Spec PyProof.Rows L2
section
variable {X : Cx} {CX : CXT} {k : Nat} {f C : Addr} {fd : FuncData} {ps : List Str} {sp : Sp} {E : L2.St → XK} {x m : Str} {p pos apos : Pos} {e o : Expr} {es : List Expr} {ta : TE} {t : TA}
theorem run_fnC {pins : List (Addr × Obj)} {σ : L2.St} {H : Hp} {s : Shared} {Q : VK} {us : List Value} {vs : List V} (F : FnC X.prog X.w X.K X.mg X.base CX k f fd ps sp) (hr : RoomC k X.A) (hb : Binds X.K fd ps []) (hx : PassesAt CX X σ (E σ))
    (I : Inv X pins σ H s) (r : Vals vs us) (h : sp vs H Q (E σ)) : wpAny (model X.prog X.w) X.A (call (.ref f) us) (EP X pins σ Q) X.xe s := by
  have hl : us.length = ps.length := by rw [← r.length]; exact F.len _ _ _ _ h
  have b := hb s us I.kIn (by rw [List.append_nil]; exact hl)
  rw [List.append_nil] at b
  refine wpAny_call (codeAny_mono (F.run X.A X.stack s H ⟨us, []⟩ us vs Q (E σ) hr I.env0 b r h) fun r s' hq => ?_)
  cases r with
  | error e => exact hx pins H s e s' I hq
  | ok fl =>
    cases fl with
    | ret u => exact I.after hq
    | next => exact False.elim hq
    | brk => exact False.elim hq
    | cont => exact False.elim hq
theorem pe_callC (F : FnC X.prog X.w X.K X.mg X.base CX k f fd ps sp) (hr : RoomC k X.A) (hg : Gl X x) (hm : X.mg x = some (.ref f)) (hk : PySem.W.keepIn X.K (.ref f) = true) (hb : Binds X.K fd ps []) (hx : ∀ σ, PassesAt CX X σ (E σ))
    (ha : PA X (e :: es) t) (hdb : (x == ("__debug__" : Str)) = false := by decide) (he : starEach (e :: es) X.env = (false, eval e X.env) :: starEach es X.env := by rfl) (hpl : (backTo pos (starEach es X.env)).any (·.1) = false := by rfl) :
    PE X (.Call (.Name x p) (e :: es) [] pos) (tCallS sp E t) := by
  refine ⟨fun pins s σ H Q I h => ?_⟩
  refine wpAny_Call_Name_kw (ld_glob I hg hm ?_ hdb)
  refine PySem.W.callWith_K (h₀ := X.base) I.ok.mod.kin hk (thn (ha.run pos pins s σ H _ I h) fun us s1 ⟨vs, H1, I1, r, q⟩ => ⟨I1.kIn, ?_⟩) he hpl
  exact run_fnC F hr hb (hx σ) I1 r q
end
/-- repr where an exception may be in hand -/
theorem call_reprC {X : Cx} (hm : ∃ o es ep, X.base.get? sysModules = some o ∧ o.data = .dict es ep) {k : Nat} (hr : RoomC k X.A) : CallR X (.builtin "repr") (rRepr X.K) := by
  intro pins s σ H xs us Q I r h
  obtain ⟨v, d, rfl, hd, hs, hdp, hl, q⟩ := h
  obtain ⟨u, rfl, ru⟩ := vals1 r
  obtain ⟨as, hR, hn⟩ := Dt.reads hm I hd ru
  have hun : X.A.units + 200 < cLine := by have := hr.un; omega
  have fin : ∀ (h' : Heap) (u' tk : Tok), (∀ b o, s.heap.get? b = some o → h'.get? b = some o) → EP X pins σ Q (.str d.shown u') { s with heap := h', toks := tk } := fun h' u' tk k =>
    ⟨.str d.shown, H, I.kept (t' := tk) k, ⟨_, rfl⟩, q⟩
  cases hR with
  | none => exact PySem.P.repr_of_none (by simpa [PyData.shown] using fin s.heap _ _ fun _ _ z => z)
  | bool b => exact PySem.P.repr_of_bool (by simpa [PyData.shown] using fin s.heap _ _ fun _ _ z => z)
  | int i t => exact PySem.P.repr_of_int (by simpa [PyData.showable] using hs) (by simpa [PyData.shown] using fin s.heap _ _ fun _ _ z => z)
  | str x t => exact PySem.P.repr_of_str (by simpa [PyData.shown] using fin s.heap _ _ fun _ _ z => z) (by simpa [PyData.shown] using hl)
  | list h1 h2 h3 h4 => exact repr_of_reads' (.list h1 h2 h3 h4) hs (fun _ => hn) hr.g (by omega) (fun _ _ z => z) fin hl
  | tuple h1 h2 h3 h4 => exact repr_of_reads' (.tuple h1 h2 h3 h4) hs (fun _ => hn) hr.g (by omega) (fun _ _ z => z) fin hl
  | dict h1 h2 h3 h4 h5 => exact repr_of_reads' (.dict h1 h2 h3 h4 h5) hs (fun _ => hn) hr.g (by omega) (fun _ _ z => z) fin hl
/-- isinstance(e, c), e the exception that the suite holds; it may have fields -/
def rIsE2 (K : PySem.W.Frag) (cls : Value) (d : Option Addr) (a : Addr) : List V → Hp → VK → Prop := fun xs H Q => ∃ (D : Addr) (c : V) (cv : Value) (b : Bool), cls = .ref D ∧ xs = [.ref a, c] ∧ ExcC K D ∧ (d = none ∨ ∃ dd fs, d = some dd ∧ H dd = some (.xd fs)) ∧ (∀ u, RelV c u → u = cv) ∧ PySem.W.kitOne K (.ref D) cv = some b ∧ Q (.bl b) H
theorem call_isE2 {X : Cx} {a : Addr} {oe : Obj} {cls : Value} {d : Option Addr} {pn : List (Addr × Obj)} (hz : Zc cls d oe) (hf : ∃ vs, oe.data = .fields vs) : CallR (X.suite a ((a, oe) :: pn)) (.builtin "isinstance") (rIsE2 X.K cls d a) := by
  intro pins s σ H xs us Q I r h
  obtain ⟨D, c, cv, b, rfl, rfl, C, hd, hcv, e, q⟩ := h
  cases r with
  | cons rx rr =>
    cases rr with
    | cons rt rr =>
      cases rr
      cases rx
      have ec := hcv _ rt
      subst ec
      obtain ⟨hget, _⟩ := I.pin (a, oe) (List.mem_append.mpr (.inl List.mem_cons_self))
      obtain ⟨vs, hv⟩ := hf
      have J : ∃ od, PySem.W.InstAt s.heap a oe D od := by
        rcases hd with rfl | ⟨dd, fs, rfl, hxd⟩
        · exact ⟨none, hget, hz.1, by unfold PySem.W.notCls; rw [hv] <;> rfl, by rw [hz.2]; trivial⟩
        · obtain ⟨mA, ⟨o, es, ep, ho, _⟩, _⟩ := (show ObjOk X.prog X.w H s.heap dd (.xd fs) from I.hok dd _ hxd)
          exact ⟨some o, hget, hz.1, by unfold PySem.W.notCls; rw [hv] <;> rfl, by rw [hz.2]; exact ho⟩
      obtain ⟨od, J⟩ := J
      have hcl : (PySem.W.clsIn X.K D).isSome = true := by
        obtain ⟨cd, hc, _⟩ := PySem.W.any_some C.hd
        rw [hc]; rfl
      exact PySem.W.kia_one (PySem.W.kitx_exc hcl C.hg C.hk C.hs C.ha C.hn C.ht C.hm) I.kIn J e (fun z => nomatch z) fun tk => ⟨.bl b, H, I.kept (t' := tk) fun _ _ z => z, rfl, q⟩
end Fp
namespace Fp
open PySem PySem.Spec PyProof.Rows L2
/-- a def of the module, by its name: what it promises -/
structure PrG (P : Program) (w : World) (K : PySem.W.Frag) (mg : Str → Option Value) (base : Heap) (x : Str) (k : Nat) (ps : List Str) (sp : Sp) : Prop where
  ex : ∃ f fd, mg x = some (.ref f) ∧ PySem.W.keepIn K (.ref f) = true ∧ Binds K fd ps [] ∧ FnG P w K mg base (L2.CX P w) k f fd ps sp
structure PrC (P : Program) (w : World) (K : PySem.W.Frag) (mg : Str → Option Value) (base : Heap) (x : Str) (k : Nat) (ps : List Str) (sp : Sp) : Prop where
  ex : ∃ f fd, mg x = some (.ref f) ∧ PySem.W.keepIn K (.ref f) = true ∧ Binds K fd ps [] ∧ FnC P w K mg base (L2.CX P w) k f fd ps sp
/-- a def's text stands there -/
structure Df (K : PySem.W.Frag) (mg : Str → Option Value) (x : Str) (st : Stmt) : Prop where
  ex : ∃ f fd, FunD K x x (defArgs st) (defBody st) (defScope st) [] [] f fd ∧ mg x = some (.ref f)
section
variable {P : Program} {w : World} {K : PySem.W.Frag} {mg : Str → Option Value} {base : Heap} {k : Nat} {ps : List Str} {sp sp' : Sp} {x : Str} {st : Stmt}
theorem Df.prG (D : Df K mg x st) (hb : ∀ (kV doc pm : Value) (an : Option Addr) (cdv ct : Value) (us : List Value), us.length = ps.length → bindArgs (PySem.W.fnOf x x (defArgs st) (defBody st) (defScope st) .none kV doc pm an cdv ct) ⟨us, []⟩ = pure (ps.zip us))
    (h : ∀ f fd, FunD K x x (defArgs st) (defBody st) (defScope st) [] [] f fd → FnG P w K mg base (L2.CX P w) k f fd ps sp) : PrG P w K mg base x k ps sp := by
  obtain ⟨f, fd, F, g⟩ := D.ex
  exact ⟨f, fd, g, F.kp, F.bindsN hb, h f fd F⟩
theorem Df.prC (D : Df K mg x st) (hb : ∀ (kV doc pm : Value) (an : Option Addr) (cdv ct : Value) (us : List Value), us.length = ps.length → bindArgs (PySem.W.fnOf x x (defArgs st) (defBody st) (defScope st) .none kV doc pm an cdv ct) ⟨us, []⟩ = pure (ps.zip us))
    (h : ∀ f fd, FunD K x x (defArgs st) (defBody st) (defScope st) [] [] f fd → FnC P w K mg base (L2.CX P w) k f fd ps sp) : PrC P w K mg base x k ps sp := by
  obtain ⟨f, fd, F, g⟩ := D.ex
  exact ⟨f, fd, g, F.kp, F.bindsN hb, h f fd F⟩
theorem PrG.map {j : Nat} (h : PrG P w K mg base x k ps sp) (hm : ∀ f fd, FnG P w K mg base (L2.CX P w) k f fd ps sp → FnG P w K mg base (L2.CX P w) j f fd ps sp') : PrG P w K mg base x j ps sp' := by
  obtain ⟨f, fd, h1, h2, h3, h4⟩ := h.ex
  exact ⟨f, fd, h1, h2, h3, hm f fd h4⟩
end
section
variable {X : Cx} {k : Nat} {ps : List Str} {sp : Sp} {x : Str} {p pos : Pos} {e : Expr} {es : List Expr} {t : TA} {W : L2.St → XK} {E : L2.St → XK}
theorem pe_callP (h : PrG X.prog X.w X.K X.mg X.base x k ps sp) (hr : RoomG k X.A) (hg : Gl X x) (hx : ∀ σ, PassesAt (L2.CX X.prog X.w) X σ (E σ))
    (ha : PA X (e :: es) t) (hdb : (x == ("__debug__" : Str)) = false := by decide) (he : starEach (e :: es) X.env = (false, eval e X.env) :: starEach es X.env := by rfl) (hpl : (backTo pos (starEach es X.env)).any (·.1) = false := by rfl) :
    PE X (.Call (.Name x p) (e :: es) [] pos) (tCallS sp E t) := by
  obtain ⟨f, fd, h1, h2, h3, h4⟩ := h.ex
  exact pe_callG h4 hr hg h1 h2 h3 hx ha hdb he hpl
theorem pe_callP0 (h : PrG X.prog X.w X.K X.mg X.base x k ps sp) (hr : RoomG k X.A) (hg : Gl X x) (hx : ∀ σ, PassesAt (L2.CX X.prog X.w) X σ (E σ))
    (hdb : (x == ("__debug__" : Str)) = false := by decide) : PE X (.Call (.Name x p) [] [] pos) (tCallS sp E tNil) := by
  obtain ⟨f, fd, h1, h2, h3, h4⟩ := h.ex
  exact pe_callG0 h4 hr hg h1 h2 h3 hx hdb
theorem pe_callPC (h : PrC X.prog X.w X.K X.mg X.base x k ps sp) (hr : RoomC k X.A) (hg : Gl X x) (hx : ∀ σ, PassesAt (L2.CX X.prog X.w) X σ (E σ))
    (ha : PA X (e :: es) t) (hdb : (x == ("__debug__" : Str)) = false := by decide) (he : starEach (e :: es) X.env = (false, eval e X.env) :: starEach es X.env := by rfl) (hpl : (backTo pos (starEach es X.env)).any (·.1) = false := by rfl) :
    PE X (.Call (.Name x p) (e :: es) [] pos) (tCallS sp E t) := by
  obtain ⟨f, fd, h1, h2, h3, h4⟩ := h.ex
  exact pe_callC h4 hr hg h1 h2 h3 hx ha hdb he hpl
theorem pe_callPZ {a : Addr} {oe : Obj} (hp : (a, oe) ∈ X.pn) (h : PrC X.prog X.w X.K X.mg X.base x k ps sp) (hr : RoomC k X.A) (hg : Gl X x)
    (ha : PA X (e :: es) t) (hdb : (x == ("__debug__" : Str)) = false := by decide) (he : starEach (e :: es) X.env = (false, eval e X.env) :: starEach es X.env := by rfl) (hpl : (backTo pos (starEach es X.env)).any (·.1) = false := by rfl) :
    PE X (.Call (.Name x p) (e :: es) [] pos) (tCallZ sp X.base a oe t) := by
  obtain ⟨f, fd, h1, h2, h3, h4⟩ := h.ex
  exact pe_callZ hp h4 hr hg h1 h2 h3 ha hdb he hpl
end
end Fp
namespace Fp
open PySem PySem.Spec PyProof.Rows L2

/-! ### signs of shown data -/
def OkS (x : Str) : Prop := ∀ c ∈ x.cps.toList, c < 16 ^ 8
theorem okS_append {x y : Str} (hx : OkS x) (hy : OkS y) : OkS (x ++ y) := fun c h => by
  have e : (x ++ y).cps.toList = x.cps.toList ++ y.cps.toList := by
    show (x.cps ++ y.cps).toList = _
    simp
  rw [e] at h
  rcases List.mem_append.mp h with h | h
  · exact hx c h
  · exact hy c h
theorem char_lt (c : Char) : c.toNat < 16 ^ 8 := by
  have h := c.valid
  have e : (16 : Nat) ^ 8 = 4294967296 := by decide
  rw [e]
  exact c.val.toNat_lt
theorem okS_ofString (s : String) : OkS (Str.ofString s) := fun c h => by
  have e : (Str.ofString s).cps.toList = s.toList.map Char.toNat := PyProof.Rows.signs_ofString s
  rw [e] at h
  obtain ⟨d, _, rfl⟩ := List.mem_map.mp h
  exact char_lt d
theorem hex_ok (n c : Nat) : ∀ d ∈ List.replicate n 48 ++ (Nat.toDigits 16 c).map Char.toNat, d < 16 ^ 8 := fun d h => by
  rcases List.mem_append.mp h with h | h
  · rw [(List.mem_replicate.mp h).2]; decide
  · obtain ⟨e, _, rfl⟩ := List.mem_map.mp h
    exact char_lt e
theorem reprChar_ok (q c : Nat) (hc : c < 16 ^ 8) : ∀ d ∈ Builtin.Str.reprChar q c, d < 16 ^ 8 := by
  intro d h
  unfold Builtin.Str.reprChar at h
  dsimp only at h
  have k : ∀ {l : List Nat} {m : List Nat}, (∀ x ∈ l, x < 16 ^ 8) → (∀ x ∈ m, x < 16 ^ 8) → ∀ x ∈ l ++ m, x < 16 ^ 8 := fun h1 h2 x hx => (List.mem_append.mp hx).elim (h1 x) (h2 x)
  have two : ∀ a b : Nat, a < 16 ^ 8 → b < 16 ^ 8 → ∀ x ∈ [a, b], x < 16 ^ 8 := fun a b h1 h2 x hx => by
    rcases List.mem_cons.mp hx with e | hx
    · rw [e]; exact h1
    · rw [List.mem_singleton.mp hx]; exact h2
  repeat' split at h
  all_goals first
    | exact two _ _ (by decide) hc d h
    | exact two _ _ (by decide) (by decide) d h
    | (rw [List.mem_singleton.mp h]; exact hc)
    | exact k (two _ _ (by decide) (by decide)) (hex_ok _ _) d h
theorem okS_repr {x : Str} (hx : OkS x) : OkS (reprText x) := by
  intro c h
  unfold reprText at h
  rw [Array.toList_push] at h
  have hq : reprQuote x < 16 ^ 8 := by unfold reprQuote; split <;> decide
  have key : ∀ (l : List Nat) (acc : Array Nat), (∀ c ∈ l, c < 16 ^ 8) → (∀ c ∈ acc.toList, c < 16 ^ 8) → ∀ c ∈ (l.foldl (fun out c => out ++ (Builtin.Str.reprChar (reprQuote x) c).toArray) acc).toList, c < 16 ^ 8 := by
    intro l
    induction l with
    | nil => intro acc _ h2; exact h2
    | cons a r ih =>
      intro acc h1 h2
      refine ih _ (fun c hc => h1 c (List.mem_cons_of_mem _ hc)) fun c hc => ?_
      rw [Array.toList_append] at hc
      rcases List.mem_append.mp hc with hc | hc
      · exact h2 c hc
      · exact reprChar_ok _ _ (h1 a (List.mem_cons_self ..)) c (by simpa using hc)
  rcases List.mem_append.mp h with h | h
  · rw [← Array.foldl_toList] at h
    refine key _ _ hx (fun c hc => ?_) c h
    have : c = reprQuote x := by simpa using hc
    rw [this]; exact hq
  · rw [List.mem_singleton.mp h]; exact hq
theorem okS_join (y : Str) (hy : OkS y) : ∀ ts : List Str, (∀ t ∈ ts, OkS t) → OkS (Str.join y ts)
  | [], _ => fun c h => by simp [Str.join, Str.empty] at h
  | [x], h => h x (List.mem_cons_self ..)
  | x :: z :: r, h => by
    show OkS (x ++ y ++ Str.join y (z :: r))
    exact okS_append (okS_append (h x (List.mem_cons_self ..)) hy) (okS_join y hy (z :: r) fun t ht => h t (List.mem_cons_of_mem _ ht))
theorem okS_list {ts : List Str} (h : ∀ t ∈ ts, OkS t) : OkS (listText ts) := by
  rw [listText_eq_join]
  exact okS_append (okS_append (okS_ofString _) (okS_join _ (okS_ofString _) _ h)) (okS_ofString _)
theorem okS_tuple {ts : List Str} (h : ∀ t ∈ ts, OkS t) : OkS (tupleText ts) := by
  unfold tupleText
  exact okS_append (okS_append (okS_ofString _) (okS_join _ (okS_ofString _) _ h)) (okS_ofString _)
theorem okS_dict {ts : List Str} (h : ∀ t ∈ ts, OkS t) : OkS (dictText ts) := by
  unfold dictText
  exact okS_append (okS_append (okS_ofString _) (okS_join _ (okS_ofString _) _ h)) (okS_ofString _)
mutual
theorem okS_shown (B : Nat) : ∀ d : PyData, d.leavesShort B = true → OkS d.shown
  | .none, _ => okS_ofString _
  | .bool b, _ => by simp only [PyData.shown]; split <;> exact okS_ofString _
  | .int i, _ => by simp only [PyData.shown]; exact okS_ofString _
  | .str x, h => by
    have hx : ∀ c ∈ x.cps.toList, c < 16 ^ 8 := by simpa only [PyData.leavesShort, List.all_eq_true, decide_eq_true_eq] using h
    simp only [PyData.shown]
    exact okS_repr hx
  | .list xs, h => by
    simp only [PyData.shown]
    exact okS_list (okS_shownAll B xs (by simpa only [PyData.leavesShort] using h))
  | .tuple xs, h => by
    simp only [PyData.shown]
    exact okS_tuple (okS_shownAll B xs (by simpa only [PyData.leavesShort] using h))
  | .dict kvs, h => by
    simp only [PyData.shown]
    exact okS_dict (okS_shownKv B kvs (by simpa only [PyData.leavesShort] using h))
theorem okS_shownAll (B : Nat) : ∀ xs : List PyData, PyData.leavesShortAll B xs = true → ∀ t ∈ PyData.shownAll xs, OkS t
  | [], _, t, ht => by simp [PyData.shownAll] at ht
  | x :: xs, h, t, ht => by
    have h' : x.leavesShort B = true ∧ PyData.leavesShortAll B xs = true := by simpa only [PyData.leavesShortAll, Bool.and_eq_true] using h
    simp only [PyData.shownAll] at ht
    rcases List.mem_cons.mp ht with e | ht
    · rw [e]; exact okS_shown B x h'.1
    · exact okS_shownAll B xs h'.2 t ht
theorem okS_shownKv (B : Nat) : ∀ kvs : List (PyData × PyData), PyData.leavesShortKv B kvs = true → ∀ t ∈ PyData.shownKv kvs, OkS t
  | [], _, t, ht => by simp [PyData.shownKv] at ht
  | (k, v) :: r, h, t, ht => by
    have h' : (k.leavesShort B = true ∧ v.leavesShort B = true) ∧ PyData.leavesShortKv B r = true := by simpa only [PyData.leavesShortKv, Bool.and_eq_true] using h
    simp only [PyData.shownKv] at ht
    rcases List.mem_cons.mp ht with e | ht
    · rw [e]; exact okS_append (okS_append (okS_shown B k h'.1.1) (okS_ofString _)) (okS_shown B v h'.1.2)
    · exact okS_shownKv B r h'.2 t ht
end
/-- data that can be shown: depth, weight -/
structure Gd (n W : Nat) (d : PyData) : Prop where
  sh : d.showable = true
  dp : d.depth ≤ n
  lf : d.leavesShort 42 = true
  wt : d.weight ≤ W
theorem Gd.len {n W : Nat} {d : PyData} (g : Gd n W d) : d.shown.length ≤ 44 * W + 42 := by
  have h := PyData.shown_le 42 (by decide) d g.lf
  have := g.wt
  have h2 : (42 + 2) * d.weight ≤ 44 * W := Nat.mul_le_mul (by decide) g.wt
  omega
theorem Gd.mono {n W n' W' : Nat} {d : PyData} (g : Gd n W d) (h1 : n ≤ n') (h2 : W ≤ W') : Gd n' W' d := ⟨g.sh, Nat.le_trans g.dp h1, g.lf, Nat.le_trans g.wt h2⟩
/-- its text is data again -/
theorem Gd.text {n W : Nat} {d : PyData} (g : Gd n W d) : Gd 0 (44 * W + 42) (.str d.shown) := by
  refine ⟨by simp [PyData.showable], by simp [PyData.depth], ?_, ?_⟩
  · have := okS_shown 42 d g.lf
    simp only [PyData.leavesShort, List.all_eq_true, decide_eq_true_eq]
    exact this
  · have := g.len
    simp only [PyData.weight]
    exact this
theorem gd_str (x : Str) (h : OkS x) : Gd 0 x.length (.str x) := ⟨by simp [PyData.showable], by simp [PyData.depth], by simp only [PyData.leavesShort, List.all_eq_true, decide_eq_true_eq]; exact h, by simp only [PyData.weight]; exact Nat.le_refl _⟩
theorem gd_int {i : Int} (h0 : 0 ≤ i) (h1 : i < 10 ^ 41) : Gd 0 140 (.int i) := by
  have hn : i.natAbs < 2 ^ 137 := by
    have : (10 : Int) ^ 41 < 2 ^ 137 := by decide
    omega
  have hl : i.natAbs.log2 < 137 := by
    by_cases z : i.natAbs = 0
    · rw [z]; decide
    · exact (Nat.log2_lt z).mpr hn
  refine ⟨by simp only [PyData.showable, decide_eq_true_eq]; omega, by simp [PyData.depth], ?_, ?_⟩
  · simp only [PyData.leavesShort, PyData.shown]
    refine decide_eq_true ?_
    exact Nat.le_trans (toString_length_le (k := 41) h0 (by decide) h1) (show 41 ≤ 42 by decide)
  · simp only [PyData.weight]
    split <;> omega
/-- lists of such -/
structure GdAll (n W : Nat) (ds : List PyData) : Prop where
  sh : PyData.showableAll ds = true
  dp : PyData.depthAll ds ≤ n
  lf : PyData.leavesShortAll 42 ds = true
  wt : PyData.weightAll ds ≤ W
theorem gdAll_nil : GdAll 0 0 [] := ⟨by simp [PyData.showableAll], by simp [PyData.depthAll], by simp [PyData.leavesShortAll], by simp [PyData.weightAll]⟩
theorem gdAll_cons {n W n' W' : Nat} {d : PyData} {ds : List PyData} (g : Gd n W d) (r : GdAll n' W' ds) : GdAll (max n n') (W + 1 + W') (d :: ds) := by
  have := g.dp; have := r.dp; have := g.wt; have := r.wt
  refine ⟨by simp [PyData.showableAll, g.sh, r.sh], ?_, by simp [PyData.leavesShortAll, g.lf, r.lf], ?_⟩
  · simp only [PyData.depthAll]; omega
  · simp only [PyData.weightAll]; omega
theorem Gd.tuple {n W : Nat} {ds : List PyData} (g : GdAll n W ds) : Gd (n + 1) W (.tuple ds) := by
  have := g.dp; have := g.wt
  exact ⟨by simp [PyData.showable, g.sh], by simp only [PyData.depth]; omega, by simp [PyData.leavesShort, g.lf], by simp only [PyData.weight]; omega⟩
theorem Gd.list {n W : Nat} {ds : List PyData} (g : GdAll n W ds) : Gd (n + 1) W (.list ds) := by
  have := g.dp; have := g.wt
  exact ⟨by simp [PyData.showable, g.sh], by simp only [PyData.depth]; omega, by simp [PyData.leavesShort, g.lf], by simp only [PyData.weight]; omega⟩
theorem Gd.big {n W : Nat} {d : PyData} (g : Gd n W d) (h : W ≤ 300000) : d.shown.length ≤ sizeLine := by
  have := g.len
  have e : sizeLine = 16777216 := by decide
  omega
end Fp
namespace Fp
theorem ite_no {A B : Prop} {b : Bool} (h : b = false) (x : B) : if b = true then A else B := by rw [h, if_neg (by decide)]; exact x
theorem ite_ye {A B : Prop} {b : Bool} (h : b = true) (x : A) : if b = true then A else B := by rw [h, if_pos rfl]; exact x
end Fp
namespace Fp
theorem relRef {a : PySem.Addr} : L2.RelV (.ref a) (PySem.Value.ref a) := rfl
theorem relTy {n : String} : L2.RelV (.ty n) (PySem.Value.type n) := rfl
end Fp
namespace Fp
open PySem PySem.Spec PyProof.Rows L2
/-- a call within a suite with the caught exception handed on, told without its record -/
def tCallZZ (sp : Sp) (base : Heap) (a : Addr) (cls : Value) (d : Option Addr) (t : TA) : TE := fun σ H Q => t σ H fun vs H1 => H1 a = none → ∀ oe, Zc cls d oe → (∃ vs, oe.data = .fields vs) → ∀ H1', Same H1 H1' → HE base H1' a oe → sp vs H1' (fun v H2 => ∀ H3, Lost a oe H2 H3 → Q v H3) (fun _ _ _ => False)
theorem pe_callPZZ {X : Cx} {k : Nat} {ps : List Str} {sp : Sp} {x : Str} {p pos : Pos} {e : Expr} {es : List Expr} {t : TA} {a : Addr} {oe : Obj} {cls : Value} {d : Option Addr} (B : Heap) (hB : X.base = B) (hz : Zc cls d oe) (hf : ∃ vs, oe.data = .fields vs) (hp : (a, oe) ∈ X.pn) (h : PrC X.prog X.w X.K X.mg X.base x k ps sp) (hr : RoomC k X.A) (hg : Gl X x)
    (ha : PA X (e :: es) t) (hdb : (x == ("__debug__" : Str)) = false := by decide) (he : starEach (e :: es) X.env = (false, eval e X.env) :: starEach es X.env := by rfl) (hpl : (backTo pos (starEach es X.env)).any (·.1) = false := by rfl) :
    PE X (.Call (.Name x p) (e :: es) [] pos) (tCallZZ sp B a cls d t) := by
  subst hB
  have q := pe_callPZ (p := p) (pos := pos) hp h hr hg (PA.up ha) hdb he hpl
  refine ⟨fun pins s σ H Q I hh => q.run pins s σ H Q I ⟨_, hh, fun vs H1 g na H1' s1 he => g na oe hz hf H1' s1 he⟩⟩
theorem Lost.keep {a : Addr} {oe : Obj} {H2 H3 : Hp} {b : Addr} {o : HO} (l : Lost a oe H2 H3) (h : H2 b = some o) (n : ∀ ob u, o ≠ .frz ob u) : H3 b = some o := by
  rcases l with rfl | ⟨rfl, hf⟩
  · exact h
  · have hb : b ≠ a := fun z => by rw [z, hf] at h; exact n _ _ (Option.some.inj h).symm
    rw [L2.del_ne hb]; exact h
theorem Lost.same {a : Addr} {oe : Obj} {H H2 H3 : Hp} (l : Lost a oe H2 H3) (s : Same H H2) (n : H a = none) : Same H H3 := fun b o e => by
  rcases l with rfl | ⟨rfl, hf⟩
  · exact s b o e
  · have hb : b ≠ a := fun z => by rw [z, n] at e; cases e
    rw [L2.del_ne hb]; exact s b o e
end Fp
namespace Fp
open PySem PySem.Spec PyProof.Rows L2
section
variable {X : Cx}
theorem opIn : OpR X (compareOp .In) (rIn X.K false) := op_in_seq
theorem opNotIn : OpR X (compareOp .NotIn) (rIn X.K true) := op_notIn_seq
theorem opIs : OpR X (compareOp .Is) (fun x y H Q => y = .non ∧ Q (.bl (decide (x = .non))) H) := op_isN
theorem opIsNot : OpR X (compareOp .IsNot) (fun x y H Q => y = .non ∧ Q (.bl (!decide (x = .non))) H) := op_notN
end
theorem dtAll_cons {K : PySem.W.Frag} {H : Hp} {d : PyData} {ds : List PyData} {v : V} {vs : List V} (h : Dt K H d v) (r : DtAll K H ds vs) : DtAll K H (d :: ds) (v :: vs) := by unfold DtAll; exact ⟨v, vs, rfl, h, r⟩
theorem dtAll_nil {K : PySem.W.Frag} {H : Hp} : DtAll K H [] [] := by unfold DtAll; rfl
theorem dt_str {K : PySem.W.Frag} {H : Hp} {x : Str} : Dt K H (.str x) (.str x) := by unfold Dt; rfl
theorem dt_int {K : PySem.W.Frag} {H : Hp} {i : Int} : Dt K H (.int i) (.int i) := by unfold Dt; rfl
theorem dt_tup {K : PySem.W.Frag} {H : Hp} {a : Addr} {xs : List V} {ds : List PyData} (h : SqT K H a xs) (r : DtAll K H ds xs) : Dt K H (.tuple ds) (.ref a) := by unfold Dt; exact ⟨a, xs, rfl, h, r⟩
theorem dt_lst {K : PySem.W.Frag} {H : Hp} {a : Addr} {xs : List V} {ds : List PyData} (h : SqL K H a xs) (r : DtAll K H ds xs) : Dt K H (.list ds) (.ref a) := by unfold Dt; exact ⟨a, xs, rfl, h, r⟩
end Fp
namespace Fp
open PySem PySem.Spec PyProof.Rows L2

/-! ### the end of a law -/
/-- there is a dict at sysModules -/
def ModD (h : Heap) : Prop := ∃ o es ep, h.get? sysModules = some o ∧ o.data = .dict es ep
/-- what may be tracked at the start: the script, if the module does not name it -/
structure Only1 (K : PySem.W.Frag) (H : Hp) (a : Addr) (vs : List Value) (ns : List Int) : Prop where
  only : ∀ b u, H b = some u → b = a ∧ K.lookup a = none ∧ u = .frz { cls := .type "list", data := .seq vs.toArray } (.lst (ns.map V.int))
  sq : SqL K H a (ns.map V.int)
section
variable {P : Program} {w : World} {K : PySem.W.Frag} {mg mb : Str → Option Value} {k : Nat} {fa a : Addr} {fd : FuncData} {x : Str} {sp : Sp} {s₁ : Shared} {vs : List Value} {ns : List Int} {H : Hp}
theorem Only1.keeps (o1 : Only1 K H a vs ns) (ha : s₁.heap.get? a = some { cls := .type "list", data := .seq vs.toArray }) {b : Addr} {o : Obj} (e : s₁.heap.get? b = some o) (d : ∀ us n, o.data ≠ .seq us n) : (hidT s₁.heap H).get? b = some o := by
  refine hidT_get e ?_
  cases hb : H b with
  | none => rfl
  | some u =>
    obtain ⟨rfl, _, _⟩ := o1.only b u hb
    rw [ha] at e
    obtain rfl := Option.some.inj e
    exact (d _ _ rfl).elim
theorem Only1.ns' (o1 : Only1 K H a vs ns) (ha : s₁.heap.get? a = some { cls := .type "list", data := .seq vs.toArray }) {b : Addr} {m : Str → Option Value} (n : s₁.heap.Ns b m) : (hidT s₁.heap H).Ns b m := by
  obtain ⟨o, es, ep, e, d, r⟩ := n
  exact ⟨o, es, ep, o1.keeps ha e (fun _ _ z => by rw [d] at z; cases z), d, r⟩
theorem Only1.inK (o1 : Only1 K H a vs ns) (KX : K.In s₁.heap) : K.In (hidT s₁.heap H) := fun b o e => by
  refine hidT_get (KX b o e) ?_
  cases hb : H b with
  | none => rfl
  | some u =>
    obtain ⟨rfl, kn, _⟩ := o1.only b u hb
    rw [kn] at e
    cases e
theorem Only1.hok (o1 : Only1 K H a vs ns) (ha : s₁.heap.get? a = some { cls := .type "list", data := .seq vs.toArray }) (hi : IntsAre vs ns) (hl : ns.length ≤ sizeLine) : HOk P w H s₁.heap := fun b u e => by
  obtain ⟨rfl, _, rfl⟩ := o1.only b u e
  exact ⟨ha, by simpa using hl, vs, _, vals_ints hi, ha⟩
/-- the law's def is called with the script -/
theorem call_law (KX : K.In s₁.heap) (hns : s₁.heap.Ns mainGlobals mg) (hb : s₁.heap.Ns builtinsNs mb) (hbb : ∀ x : Str, x ≠ "__name__" → mb x = bootBuiltins x) (hlim : s₁.heap.NoLimit) (hg : s₁.gens = #[]) (hM : ModD s₁.heap)
    (ha : s₁.heap.get? a = some { cls := .type "list", data := .seq vs.toArray }) (hi : IntsAre vs ns) (hl : ns.length ≤ sizeLine) (hr : RoomG k callerA)
    (F : ∀ base : Heap, K.In base → base.Ns mainGlobals mg → ModD base → FnG P w K mg base (L2.CX P w) k fa fd [x] sp) (hbind : ∀ (s : Shared) (u : Value), BindsTo s fd ⟨[u], []⟩ [(x, u)])
    (hsp : ∀ H : Hp, SqL K H a (ns.map V.int) → sp [.ref a] H (fun v _ => v = .bl true) fun _ _ _ => False) :
    codeAny (model P w) callerA (.call (.ref fa) ⟨[.ref a], []⟩) (fun r s' => r = .ok (.ret (.bool true)) ∧ OldK s₁.heap s'.heap ∧ s'.os = s₁.os ∧ AllBare s'.gens) s₁ := by
  have start : ∃ H, Only1 K H a vs ns := by
    cases hk : K.lookup a with
    | some o =>
      have e := KX a o hk
      rw [ha] at e
      obtain rfl := Option.some.inj e
      exact ⟨fun _ => none, ⟨fun b u z => (nomatch (show (none : Option HO) = some u from z)), .inr ⟨_, vs.toArray, _, hk, rfl, rfl, rfl, by rw [List.size_toArray, hi.length]; exact hl, by simpa using vals_ints hi⟩⟩⟩
    | none =>
      refine ⟨upd (fun _ => none) a (.frz { cls := .type "list", data := .seq vs.toArray } (.lst (ns.map V.int))), ⟨fun b u z => ?_, .inl (.inr ⟨_, upd_same⟩)⟩⟩
      by_cases h : b = a
      · subst h
        rw [upd_same] at z
        exact ⟨rfl, hk, (Option.some.inj z).symm⟩
      · rw [upd_ne h] at z
        cases z
  obtain ⟨H, o1⟩ := start
  have inK := o1.inK KX
  have nsG := o1.ns' ha hns
  have md : ModD (hidT s₁.heap H) := by
    obtain ⟨o, es, ep, e, d⟩ := hM
    exact ⟨o, es, ep, o1.keeps ha e (fun _ _ z => by rw [d] at z; cases z), d⟩
  have md2 : Mod K mg (hidT s₁.heap H) := by
    obtain ⟨mc, c1, c2⟩ := hlim
    exact ⟨inK, nsG, ⟨mb, o1.ns' ha hb, hbb⟩, mc, o1.ns' ha c1, c2⟩
  have hok : HOk P w H s₁.heap := o1.hok ha hi hl
  have e0 : Env0 P w K mg (hidT s₁.heap H) callerA [] s₁ H := { frames := rfl, mod := md2, bs := fun b o e => of_hidT e, bsz := Nat.le_of_eq (hidT_size _ _), funs := trivial, frf := fun b z => absurd z (by intro q; cases q), hok := hok, bare := .of_eq hg }
  have run := (F _ inK nsG md).run callerA [] s₁ H ⟨[.ref a], []⟩ [.ref a] [.ref a] (fun v _ => v = .bl true) (fun _ _ _ => False) hr e0 (hbind s₁ (.ref a)) (.cons rfl .nil) (hsp H o1.sq)
  refine codeAny_mono run fun r s' h => ?_
  match r, h with
  | .error e, h =>
    obtain ⟨_, _, _, _, _, _, _, _, _, _, _, _, z⟩ := h
    exact z.elim
  | .ok .next, h => exact (show False from h).elim
  | .ok .brk, h => exact (show False from h).elim
  | .ok .cont, h => exact (show False from h).elim
  | .ok (.ret u), h =>
    obtain ⟨v, H', os, bare, un, hok', rv, ev⟩ := h
    obtain rfl : v = .bl true := ev
    obtain rfl : u = Value.bool true := rv
    refine ⟨rfl, OldK.of_keep fun b o e => ?_, os, bare⟩
    cases hb : H b with
    | none => exact un.keep b o e hb (fun z => nomatch (show b ∈ ([] : List Addr) from z)) (fun z => nomatch z)
    | some u =>
      obtain ⟨rfl, _, rfl⟩ := o1.only b u hb
      have z := (hok' _ _ (un.frzs _ _ _ hb)).1
      rw [ha] at e
      rw [z]; exact e
end
theorem walk_law {l : PySem.W.OpenLaw} {n k : Nat} {q : Program} {loose : List Str} {XP : (Str → Option Value) → Heap → Prop} {YP : World → Heap → Prop} {d : DefRec} {x : Str}
    (hn : l.most = some n) (hn2 : n ≤ sizeLine) (hdf : d.params.defaults = []) (hr : RoomG k callerA)
    (F : ∀ (w : World) (mg : Str → Option Value) (fa : Addr) (h : Heap), YP w h → h.Ns mainGlobals mg → mg d.name = some (.ref fa) →
      ∃ (K : PySem.W.Frag) (fd : FuncData) (sp : Sp), K.In h ∧ ModD h ∧ (∀ (s : Shared) (u : Value), BindsTo s fd ⟨[u], []⟩ [(x, u)]) ∧
        (∀ (H : Hp) (a : Addr) (ns : List Int), ns.length ≤ n → SqL K H a (ns.map V.int) → sp [.ref a] H (fun v _ => v = .bl true) fun _ _ _ => False) ∧
        ∀ base : Heap, K.In base → base.Ns mainGlobals mg → ModD base → FnG l.prog w K mg base (L2.CX l.prog w) k fa fd [x] sp) :
    PySem.W.WalkO q loose XP YP l.row.toRowW d [] (fun f vs => PySem.call f vs) := by
  refine Att.attach_call hn hdf fun w s₀ s₁ mg mb fa o pm cd doc a vs ns G Y _ _ _ hmg ha hi hlen hg => ?_
  obtain ⟨K, fd, sp, KX, hM, hb, hsp, hF⟩ := F w mg fa _ Y G.T.g hmg
  exact call_law KX G.T.g G.T.b G.T.builtins G.T.nolimit hg hM ha hi (Nat.le_trans hlen hn2) hr hF hb fun H hS => hsp H a ns hlen hS

/-! ### the head -/
def modB (g : Addr → Option Obj) : Bool := match g sysModules with
  | some ⟨_, _, .dict _ _, _⟩ => true
  | _ => false
theorem modB_ok {h : Heap} (e : modB h.get? = true) : ModD h := by
  unfold modB at e
  split at e
  · rename_i c d es ep sl ho
    exact ⟨_, es, ep, ho, rfl⟩
  · cases e
def obsS (n : Nat) (ex : PySem.W.Frag → Bool) (fn : List He.DefD) (g : Addr → Option Obj) : Bool × List He.FnW :=
  (fun K : PySem.W.Frag => (ex K && (fn.all (fun d => d.ok K) && modB g), fn.map fun d => He.fnW K d.at_)) (He.frG g (He.asG g n))
structure SaysS (ex : PySem.W.Frag → Bool) (fn : List He.DefD) (h : Heap) (K : PySem.W.Frag) : Prop where
  inh : K.In h
  ex : ex K = true
  fn : ∀ d ∈ fn, ∃ fd, FunD K d.name d.qual d.params d.body d.scope (d.dvs K) (d.kws K) (He.fAd K d.at_) fd
  md : ModD h
def hookS (n : Nat) (ex : PySem.W.Frag → Bool) (fn : List He.DefD) : PySem.W.Hook where
  α := Bool × List He.FnW
  obs := fun s => obsS n ex fn s.heap.get?
  val := fun _ => (true, fn.map He.DefD.val)
  says := fun _ h => ∃ K : PySem.W.Frag, SaysS ex fn h K
  of := fun w s e => by
    obtain ⟨e1, e2⟩ := Prod.mk.inj e
    simp only [Bool.and_eq_true] at e1
    obtain ⟨h1, h2, h3⟩ := e1
    refine ⟨_, He.frG_in, h1, fun d hd => ?_, modB_ok h3⟩
    have h4 := List.all_eq_true.mp h2 d hd
    have key : ∀ l : List He.DefD, l.map (fun d => He.fnW (He.frG s.heap.get? (He.asG s.heap.get? n)) d.at_) = l.map He.DefD.val → ∀ d ∈ l, He.fnW (He.frG s.heap.get? (He.asG s.heap.get? n)) d.at_ = d.val := by
      intro l
      induction l with
      | nil => intro _ d hd; cases hd
      | cons a r ih =>
        intro h d hd
        injection h with h5 h6
        rcases List.mem_cons.mp hd with rfl | hd
        · exact h5
        · exact ih h6 d hd
    exact He.DefD.funD (key fn e2 d hd) h4
  keeps := fun w h h' ⟨K, s⟩ k => by
    obtain ⟨o, es, ep, e, d⟩ := s.md
    exact ⟨K, PySem.W.Frag.In.keeps s.inh k, s.ex, s.fn, o, es, ep, k _ _ e, d⟩
end Fp
namespace Fp
open PySem PySem.Spec PyProof.Rows L2

/-! ### heaps in which tables may grow -/
abbrev Gr := LamX.ExtN
theorem Gr.of {H H' : Hp} (e : Same H H') : Gr H H' := fun b o h _ => e b o h
theorem rd_gr {H H' : Hp} {a : Addr} {u : HO} (e : Gr H H') (h : Rd H a u) (n : ∀ ps, u ≠ .tbl ps) : Rd H' a u := by
  rcases h with h | ⟨o, h⟩
  · exact .inl (e a _ h n)
  · exact .inr ⟨o, e a _ h (fun _ z => nomatch z)⟩
theorem sql_gr {K : PySem.W.Frag} {H H' : Hp} {a : Addr} {xs : List V} (e : Gr H H') (h : SqL K H a xs) : SqL K H' a xs := h.imp (fun r => rd_gr e r fun _ z => nomatch z) id
theorem sqt_gr {K : PySem.W.Frag} {H H' : Hp} {a : Addr} {xs : List V} (e : Gr H H') (h : SqT K H a xs) : SqT K H' a xs := h.imp (fun r => rd_gr e r fun _ z => nomatch z) id
section
variable {K : PySem.W.Frag} {H H' : Hp} (e : Gr H H')
include e
mutual
theorem Dt.gr : ∀ {d : PyData} {v : V}, Dt K H d v → Dt K H' d v
  | .none, _, h | .bool _, _, h | .int _, _, h | .str _, _, h => by unfold Dt at h ⊢; exact h
  | .list ds, _, h => by
    unfold Dt at h ⊢
    obtain ⟨a, xs, ev, s, r⟩ := h
    exact ⟨a, xs, ev, sql_gr e s, DtAll.gr r⟩
  | .tuple ds, _, h => by
    unfold Dt at h ⊢
    obtain ⟨a, xs, ev, s, r⟩ := h
    exact ⟨a, xs, ev, sqt_gr e s, DtAll.gr r⟩
  | .dict kvs, _, h => by
    unfold Dt at h ⊢
    obtain ⟨a, xs, ev, s, r⟩ := h
    exact ⟨a, xs, ev, e _ _ s (fun _ z => nomatch z), DtKv.gr r⟩
theorem DtAll.gr : ∀ {ds : List PyData} {xs : List V}, DtAll K H ds xs → DtAll K H' ds xs
  | [], _, h => by unfold DtAll at h ⊢; exact h
  | d :: ds, _, h => by
    unfold DtAll at h ⊢
    obtain ⟨x, r, ex, h1, h2⟩ := h
    exact ⟨x, r, ex, Dt.gr h1, DtAll.gr h2⟩
theorem DtKv.gr : ∀ {ds : List (PyData × PyData)} {xs : List (Key × V)}, DtKv K H ds xs → DtKv K H' ds xs
  | [], _, h => by unfold DtKv at h ⊢; exact h
  | (k, d) :: ds, _, h => by
    unfold DtKv at h ⊢
    obtain ⟨kk, v, q, ex, ek, h1, h2⟩ := h
    exact ⟨kk, v, q, ex, ek, Dt.gr h1, DtKv.gr h2⟩
end
end
theorem Pen.gr {P : Program} {w : World} {H H' : Hp} {p : Addr} (e : Gr H H') (h : Pen P w H p) : Pen P w H' p := by
  obtain ⟨c, ns, h1, h2⟩ := h
  exact ⟨c, ns, e _ _ h1 (fun _ z => by have z' : HO.ext _ = HO.tbl _ := z; cases z'), e _ _ h2 (fun _ z => nomatch z)⟩

/-! ### a def whose code object is known -/
section
variable {P : Program} {w : World} {K : PySem.W.Frag} {mg : Str → Option Value} {base : Heap} {x qual : Str} {params : Arguments} {body : List Stmt} {scope : Scope} {dvs : List V} {kws : List (Str × V)} {fd : FuncData} {CX : CXT} {N ps : List Str} {k : Nat} {sp : Sp} {p : Str × Option Str}
theorem okK (F : FunD K x qual params body scope dvs kws (He.fAd K p) fd) (S : FnScope N ps scope) (len : ∀ vs H Q E, sp vs H Q E → vs.length = ps.length)
    (hbody : ∀ (A : Around) (outer : List Env) (s : Shared) (H : Hp) (vs : List V) (Q : VK) (E : XK), RoomG k (A.deeper (envOfC qual scope s.heap.objs.size (He.fAd K p) (.ref (He.codeOf K p)))) → sp vs H Q E →
      ∃ t, PSs (cxOf CX P w K mg base N qual scope (He.fAd K p) (.ref (He.codeOf K p)) A outer s H E) body t ∧ t { nx := fun _ H' => Q .non H', rt := Q } (L2.start N vs) H) : FnG P w K mg base CX (k + 1) (He.fAd K p) fd ps sp := by
  obtain ⟨oc, od, dV, kV, doc, pm, an, cdv, ct, osl, hfd, lk, hcd, h1, h2⟩ := F.ex
  obtain ⟨c, hc⟩ := He.codeIn_ref hcd
  have ec : He.codeOf K p = c := He.codeOf_eq lk (by rw [hfd]; exact hc)
  refine okG0 F S len fun cdv' A outer s H vs Q E e' hr hs => ?_
  have e2 : cdv' = .ref (He.codeOf K p) := by rw [← e', hfd, ec, ← hc] <;> rfl
  subst e2
  exact hbody A outer s H vs Q E hr hs
end
end Fp
namespace Fp
open PySem PySem.Spec PyProof.Rows L2 LamX
/-! ### the end of a law whose defs make lambdas: tables of code objects -/
structure Only2 (K : PySem.W.Frag) (H : Hp) (a : Addr) (vs : List Value) (ns : List Int) (cs : List (Addr × Addr)) : Prop where
  only : ∀ b u, H b = some u → (b = a ∧ K.lookup a = none ∧ u = .frz { cls := .type "list", data := .seq vs.toArray } (.lst (ns.map V.int))) ∨ ((∃ p ∈ cs, p.2 = b) ∧ u = .tbl #[])
  tab : ∀ p ∈ cs, H p.2 = some (.tbl #[])
  sq : SqL K H a (ns.map V.int)
section
variable {P : Program} {w : World} {K : PySem.W.Frag} {mg mb : Str → Option Value} {k : Nat} {fa a : Addr} {fd : FuncData} {x : Str} {sp : Sp} {s₁ : Shared} {vs : List Value} {ns : List Int} {H : Hp} {cs : List (Addr × Addr)}
abbrev TabE (h : Heap) (cs : List (Addr × Addr)) : Prop := ∀ p ∈ cs, h.get? p.2 = some { cls := .none, data := .fields #[] }
theorem Only2.keeps (o1 : Only2 K H a vs ns cs) (ha : s₁.heap.get? a = some { cls := .type "list", data := .seq vs.toArray }) (hT : TabE s₁.heap cs) {b : Addr} {o : Obj} (e : s₁.heap.get? b = some o) (d : ∀ us n, o.data ≠ .seq us n) (d2 : o.data ≠ .fields #[]) : (hidT s₁.heap H).get? b = some o := by
  refine hidT_get e ?_
  cases hb : H b with
  | none => rfl
  | some u =>
    rcases o1.only b u hb with ⟨rfl, _, _⟩ | ⟨⟨p, hp, rfl⟩, _⟩
    · rw [ha] at e
      obtain rfl := Option.some.inj e
      exact (d _ _ rfl).elim
    · rw [hT p hp] at e
      obtain rfl := Option.some.inj e
      exact (d2 rfl).elim
theorem Only2.dict (o1 : Only2 K H a vs ns cs) (ha : s₁.heap.get? a = some { cls := .type "list", data := .seq vs.toArray }) (hT : TabE s₁.heap cs) {b : Addr} {o : Obj} {es : Array DictEntry} {ep : Nat} (e : s₁.heap.get? b = some o) (d : o.data = .dict es ep) : (hidT s₁.heap H).get? b = some o :=
  o1.keeps ha hT e (fun _ _ z => by rw [d] at z; cases z) fun z => by rw [d] at z; cases z
theorem Only2.ns' (o1 : Only2 K H a vs ns cs) (ha : s₁.heap.get? a = some { cls := .type "list", data := .seq vs.toArray }) (hT : TabE s₁.heap cs) {b : Addr} {m : Str → Option Value} (n : s₁.heap.Ns b m) : (hidT s₁.heap H).Ns b m := by
  obtain ⟨o, es, ep, e, d, r⟩ := n
  exact ⟨o, es, ep, o1.dict ha hT e d, d, r⟩
theorem Only2.inK (o1 : Only2 K H a vs ns cs) (KX : K.In s₁.heap) (nT : ∀ p ∈ cs, K.lookup p.2 = none) : K.In (hidT s₁.heap H) := fun b o e => by
  refine hidT_get (KX b o e) ?_
  cases hb : H b with
  | none => rfl
  | some u =>
    rcases o1.only b u hb with ⟨rfl, kn, _⟩ | ⟨⟨p, hp, rfl⟩, _⟩
    · rw [kn] at e
      cases e
    · rw [nT p hp] at e
      cases e
theorem Only2.hok (o1 : Only2 K H a vs ns cs) (ha : s₁.heap.get? a = some { cls := .type "list", data := .seq vs.toArray }) (hT : TabE s₁.heap cs) (hi : IntsAre vs ns) (hl : ns.length ≤ sizeLine) : HOk P w H s₁.heap := fun b u e => by
  rcases o1.only b u e with ⟨rfl, _, rfl⟩ | ⟨⟨p, hp, rfl⟩, rfl⟩
  · exact ⟨ha, by simpa using hl, vs, _, vals_ints hi, ha⟩
  · exact hT p hp
theorem Only2.tabB (o1 : Only2 K H a vs ns cs) (ha : s₁.heap.get? a = some { cls := .type "list", data := .seq vs.toArray }) (hT : TabE s₁.heap cs) (C : ∀ p ∈ cs, PySem.W.CodeHd s₁.heap p.1 p.2) (hns : s₁.heap.Ns mainGlobals mg)
    (hbm : ∃ (bm : Addr) (ob : Obj), mg "__builtins__" = some (.ref bm) ∧ bm ≠ builtinsNs ∧ s₁.heap.get? bm = some ob ∧ ob.cls = .type "module" ∧ ob.dict = some builtinsNs ∧ ob.data = .plain) : ∀ p ∈ cs, TabB (hidT s₁.heap H) mg p.1 p.2 := fun p hp => by
  have tp := hT p hp
  obtain ⟨og, esg, epg, eg, dg, _⟩ := hns
  refine ⟨?_, ?_, fun z => ?_⟩
  · obtain ⟨o, us, file, tf, flags, tg, inF, text, tt, e1, r1, r2, r3, rest⟩ := C p hp
    exact ⟨o, us, file, tf, flags, tg, inF, text, tt, o1.keeps ha hT e1 (fun _ _ z => by rw [r2] at z; cases z) (fun z => by rw [r2] at z; cases z; simp at r3), r1, r2, r3, rest⟩
  · obtain ⟨bm, ob, b1, b2, b3, b4, b5, b6⟩ := hbm
    refine ⟨bm, ob, b1, b2, fun z => ?_, fun z => ?_, o1.keeps ha hT b3 (fun _ _ z => by rw [b6] at z; cases z) (fun z => by rw [b6] at z; cases z), b4, b5, b6⟩
    · rw [z, eg] at b3
      obtain rfl := Option.some.inj b3
      rw [dg] at b6
      cases b6
    · rw [z, tp] at b3
      obtain rfl := Option.some.inj b3
      cases b6
  · rw [z, tp] at eg
    obtain rfl := Option.some.inj eg
    cases dg
/-- the law's def is called with the script -/
theorem call_lawT (KX : K.In s₁.heap) (hns : s₁.heap.Ns mainGlobals mg) (hb : s₁.heap.Ns builtinsNs mb) (hbb : ∀ x : Str, x ≠ "__name__" → mb x = bootBuiltins x) (hlim : s₁.heap.NoLimit) (hg : s₁.gens = #[]) (hM : ModD s₁.heap)
    (hT : TabE s₁.heap cs) (nT : ∀ p ∈ cs, K.lookup p.2 = none) (C : ∀ p ∈ cs, PySem.W.CodeHd s₁.heap p.1 p.2)
    (hbm : ∃ (bm : Addr) (ob : Obj), mg "__builtins__" = some (.ref bm) ∧ bm ≠ builtinsNs ∧ s₁.heap.get? bm = some ob ∧ ob.cls = .type "module" ∧ ob.dict = some builtinsNs ∧ ob.data = .plain)
    (ha : s₁.heap.get? a = some { cls := .type "list", data := .seq vs.toArray }) (hi : IntsAre vs ns) (hl : ns.length ≤ sizeLine) (hr : RoomG k callerA)
    (F : ∀ base : Heap, K.In base → base.Ns mainGlobals mg → ModD base → (∀ p ∈ cs, TabB base mg p.1 p.2) → FnG P w K mg base (L2.CX P w) k fa fd [x] sp) (hbind : ∀ (s : Shared) (u : Value), BindsTo s fd ⟨[u], []⟩ [(x, u)])
    (hsp : ∀ H : Hp, (∀ p ∈ cs, H p.2 = some (.tbl #[])) → SqL K H a (ns.map V.int) → sp [.ref a] H (fun v _ => v = .bl true) fun _ _ _ => False) :
    codeAny (model P w) callerA (.call (.ref fa) ⟨[.ref a], []⟩) (fun r s' => r = .ok (.ret (.bool true)) ∧ OldK s₁.heap s'.heap ∧ s'.os = s₁.os ∧ AllBare s'.gens) s₁ := by
  have na : ∀ p ∈ cs, p.2 ≠ a := fun p hp z => by
    have q := hT p hp
    rw [z, ha] at q
    cases q
  have start : ∃ H, Only2 K H a vs ns cs := by
    let T : Hp := fun b => if ∃ p ∈ cs, p.2 = b then some (.tbl #[]) else none
    have T1 : ∀ p ∈ cs, T p.2 = some (.tbl #[]) := fun p hp => if_pos ⟨p, hp, rfl⟩
    have T2 : ∀ b u, T b = some u → (∃ p ∈ cs, p.2 = b) ∧ u = .tbl #[] := fun b u e => by
      by_cases h : ∃ p ∈ cs, p.2 = b
      · have z := (if_pos h).symm.trans e
        exact ⟨h, (Option.some.inj z).symm⟩
      · have z := (if_neg h).symm.trans e
        cases z
    cases hk : K.lookup a with
    | some o =>
      have e := KX a o hk
      rw [ha] at e
      obtain rfl := Option.some.inj e
      exact ⟨T, ⟨fun b u z => .inr (T2 b u z), T1, .inr ⟨_, vs.toArray, _, hk, rfl, rfl, rfl, by rw [List.size_toArray, hi.length]; exact hl, by simpa using vals_ints hi⟩⟩⟩
    | none =>
      refine ⟨upd T a (.frz { cls := .type "list", data := .seq vs.toArray } (.lst (ns.map V.int))), ⟨fun b u z => ?_, fun p hp => by rw [upd_ne (na p hp)]; exact T1 p hp, .inl (.inr ⟨_, upd_same⟩)⟩⟩
      by_cases h : b = a
      · subst h
        rw [upd_same] at z
        exact .inl ⟨rfl, hk, (Option.some.inj z).symm⟩
      · rw [upd_ne h] at z
        exact .inr (T2 b u z)
  obtain ⟨H, o1⟩ := start
  have inK := o1.inK KX nT
  have nsG := o1.ns' ha hT hns
  have md : ModD (hidT s₁.heap H) := by
    obtain ⟨o, es, ep, e, d⟩ := hM
    exact ⟨o, es, ep, o1.dict ha hT e d, d⟩
  have md2 : L2.Mod K mg (hidT s₁.heap H) := by
    obtain ⟨mc, c1, c2⟩ := hlim
    exact ⟨inK, nsG, ⟨mb, o1.ns' ha hT hb, hbb⟩, mc, o1.ns' ha hT c1, c2⟩
  have hok : HOk P w H s₁.heap := o1.hok ha hT hi hl
  have e0 : Env0 P w K mg (hidT s₁.heap H) callerA [] s₁ H := { frames := rfl, mod := md2, bs := fun b o e => of_hidT e, bsz := Nat.le_of_eq (hidT_size _ _), funs := trivial, frf := fun b z => absurd z (by intro q; cases q), hok := hok, bare := .of_eq hg }
  have run := (F _ inK nsG md (o1.tabB ha hT C hns hbm)).run callerA [] s₁ H ⟨[.ref a], []⟩ [.ref a] [.ref a] (fun v _ => v = .bl true) (fun _ _ _ => False) hr e0 (hbind s₁ (.ref a)) (.cons rfl .nil) (hsp H o1.tab o1.sq)
  refine codeAny_mono run fun r s' h => ?_
  match r, h with
  | .error e, h =>
    obtain ⟨_, _, _, _, _, _, _, _, _, _, _, _, z⟩ := h
    exact z.elim
  | .ok .next, h => exact (show False from h).elim
  | .ok .brk, h => exact (show False from h).elim
  | .ok .cont, h => exact (show False from h).elim
  | .ok (.ret u), h =>
    obtain ⟨v, H', os, bare, un, hok', rv, ev⟩ := h
    obtain rfl : v = .bl true := ev
    obtain rfl : u = Value.bool true := rv
    have grown : ∀ p ∈ cs, ∃ more : Array Value, s'.heap.get? p.2 = some { cls := .none, data := .fields more } := fun p hp => by
      obtain ⟨more, z⟩ := un.tbls p.2 #[] (o1.tab p hp)
      exact ⟨_, hok' p.2 _ z⟩
    have kept : ∀ b o, (¬ ∃ p ∈ cs, p.2 = b) → s₁.heap.get? b = some o → s'.heap.get? b = some o := fun b o nb e => by
      cases hb : H b with
      | none => exact un.keep b o e hb (fun z => nomatch (show b ∈ ([] : List Addr) from z)) (fun z => nomatch z)
      | some u =>
        rcases o1.only b u hb with ⟨rfl, _, rfl⟩ | ⟨h, _⟩
        · have z := (hok' _ _ (un.frzs _ _ _ hb)).1
          rw [ha] at e
          rw [z]; exact e
        · exact (nb h).elim
    refine ⟨rfl, ⟨fun b o e => ?_, fun b o e => ?_⟩, os, bare⟩
    · by_cases h : ∃ p ∈ cs, p.2 = b
      · obtain ⟨p, hp, rfl⟩ := h
        obtain ⟨more, hm⟩ := grown p hp
        rw [hT p hp] at e
        obtain rfl := Option.some.inj e
        exact .inr (.inl ⟨((C p hp).tab (hT p hp)).isCodeTable, rfl, #[], more, rfl, by rw [Array.empty_append]; exact hm⟩)
      · exact .inl (kept b o h e)
    · by_cases h : ∃ p ∈ cs, p.2 = b
      · obtain ⟨p, hp, rfl⟩ := h
        obtain ⟨more, hm⟩ := grown p hp
        exact ⟨_, hm⟩
      · exact ⟨o, kept b o h e⟩
end
theorem walk_lawT {l : PySem.W.OpenLaw} {n k : Nat} {q : Program} {loose : List Str} {XP : (Str → Option Value) → Heap → Prop} {YP : World → Heap → Prop} {d : DefRec} {x : Str}
    (hn : l.most = some n) (hn2 : n ≤ sizeLine) (hdf : d.params.defaults = []) (hr : RoomG k callerA)
    (F : ∀ (w : World) (mg : Str → Option Value) (fa : Addr) (h : Heap), YP w h → h.Ns mainGlobals mg → mg d.name = some (.ref fa) →
      ∃ (K : PySem.W.Frag) (fd : FuncData) (cs : List (Addr × Addr)) (sp : Sp), K.In h ∧ ModD h ∧ TabE h cs ∧ (∀ p ∈ cs, K.lookup p.2 = none) ∧ (∀ p ∈ cs, PySem.W.CodeHd h p.1 p.2) ∧ (∀ (s : Shared) (u : Value), BindsTo s fd ⟨[u], []⟩ [(x, u)]) ∧
        (∀ (H : Hp) (a : Addr) (ns : List Int), ns.length ≤ n → (∀ p ∈ cs, H p.2 = some (.tbl #[])) → SqL K H a (ns.map V.int) → sp [.ref a] H (fun v _ => v = .bl true) fun _ _ _ => False) ∧
        ∀ base : Heap, K.In base → base.Ns mainGlobals mg → ModD base → (∀ p ∈ cs, TabB base mg p.1 p.2) → FnG l.prog w K mg base (L2.CX l.prog w) k fa fd [x] sp) :
    PySem.W.WalkO q loose XP YP l.row.toRowW d [] (fun f vs => PySem.call f vs) := by
  refine Att.attach_call hn hdf fun w s₀ s₁ mg mb fa o pm cd doc a vs ns G Y _ _ _ hmg ha hi hlen hg => ?_
  obtain ⟨K, fd, cs, sp, KX, hM, hT, nT, C, hb, hsp, hF⟩ := F w mg fa _ Y G.T.g hmg
  exact call_lawT KX G.T.g G.T.b G.T.builtins G.T.nolimit hg hM hT nT C G.T.bmain ha hi (Nat.le_trans hlen hn2) hr hF hb fun H hH hS => hsp H a ns hlen hH hS

/-! ### the head with tables -/
structure SaysM (ex : PySem.W.Frag → Bool) (fn : List He.DefD) (tf : List He.Defn) (h : Heap) (K : PySem.W.Frag) : Prop where
  inh : K.In h
  ex : ex K = true
  fn : ∀ d ∈ fn, ∃ fd, FunD K d.name d.qual d.params d.body d.scope (d.dvs K) (d.kws K) (He.fAd K d.at_) fd
  md : ModD h
  hd : ∀ p ∈ tf, PySem.W.CodeHd h (He.cT K p).1 (He.cT K p).2
  out : ∀ p ∈ tf, K.lookup (He.cT K p).2 = none
  emp : ∀ p ∈ tf, h.get? (He.cT K p).2 = some { cls := .none, data := .fields #[] }
def obsM (n : Nat) (ex : PySem.W.Frag → Bool) (fn : List He.DefD) (tf : List He.Defn) (g : Addr → Option Obj) : Bool × List He.FnW :=
  (fun K : PySem.W.Frag => (ex K && (fn.all (fun d => d.ok K) && (modB g && He.tabsB g tf K)), fn.map fun d => He.fnW K d.at_)) (He.frT g (He.asD g n))
theorem codeHd_of {K : PySem.W.Frag} {h : Heap} (X : K.In h) {c P : Addr} (e : PySem.W.codeHdIn K c P = true) : PySem.W.CodeHd h c P := PySem.W.codeHd_of_K X e
def hookM (n : Nat) (ex : PySem.W.Frag → Bool) (fn : List He.DefD) (tf : List He.Defn) : PySem.W.Hook where
  α := Bool × List He.FnW
  obs := fun s => obsM n ex fn tf s.heap.get?
  val := fun _ => (true, fn.map He.DefD.val)
  says := fun _ h => ∃ K : PySem.W.Frag, SaysM ex fn tf h K
  of := fun w s e => by
    obtain ⟨e1, e2⟩ := Prod.mk.inj e
    simp only [Bool.and_eq_true] at e1
    obtain ⟨h1, h2, h3, h5⟩ := e1
    have tb : ∀ p ∈ tf, PySem.W.codeHdIn (He.frT s.heap.get? (He.asD s.heap.get? n)) (He.cT (He.frT s.heap.get? (He.asD s.heap.get? n)) p).1 (He.cT (He.frT s.heap.get? (He.asD s.heap.get? n)) p).2 = true ∧ ∃ o, s.heap.get? (He.cT (He.frT s.heap.get? (He.asD s.heap.get? n)) p).2 = some o ∧ He.emptyTab o = true := fun p hp => by
      have z := List.all_eq_true.mp h5 p hp
      simp only [Bool.and_eq_true] at z
      refine ⟨z.1, ?_⟩
      have z2 := z.2
      split at z2
      · rename_i o ho
        exact ⟨o, ho, z2⟩
      · cases z2
    refine ⟨_, He.frT_in, h1, fun d hd => ?_, modB_ok h3, fun p hp => codeHd_of He.frT_in (tb p hp).1, fun p hp => ?_, fun p hp => ?_⟩
    · have h4 := List.all_eq_true.mp h2 d hd
      have key : ∀ l : List He.DefD, l.map (fun d => He.fnW (He.frT s.heap.get? (He.asD s.heap.get? n)) d.at_) = l.map He.DefD.val → ∀ d ∈ l, He.fnW (He.frT s.heap.get? (He.asD s.heap.get? n)) d.at_ = d.val := by
        intro l
        induction l with
        | nil => intro _ d hd; cases hd
        | cons a r ih =>
          intro h d hd
          injection h with h5 h6
          rcases List.mem_cons.mp hd with rfl | hd
          · exact h5
          · exact ih h6 d hd
      exact He.DefD.funD (key fn e2 d hd) h4
    · obtain ⟨o, ho, et⟩ := (tb p hp).2
      exact He.frT_none ho et
    · obtain ⟨o, ho, et⟩ := (tb p hp).2
      rw [ho, He.emptyTab_eq et]
  keeps := fun w h h' ⟨K, s⟩ k => by
    obtain ⟨o, es, ep, e, d⟩ := s.md
    refine ⟨K, PySem.W.Frag.In.keeps s.inh k, s.ex, s.fn, ⟨o, es, ep, k _ _ e, d⟩, fun p hp => ?_, s.out, fun p hp => k _ _ (s.emp p hp)⟩
    obtain ⟨o, us, file, tf', flags, tg, inF, text, tt, e1, rest⟩ := s.hd p hp
    exact ⟨o, us, file, tf', flags, tg, inF, text, tt, k _ _ e1, rest⟩
end Fp
namespace Fp
open PySem PySem.Spec PyProof.Rows L2
/-- the classes of errors, their fields, what is handed to them -/
def cname : Nat → Str
  | 0 => "BadNumber"
  | 1 => "BadRow"
  | 2 => "BadTable"
  | 3 => "BadPoly"
  | 4 => "BadPaper"
  | 5 => "BadName"
  | 6 => "BadText"
  | 7 => "NoPlace"
  | 8 => "NoName"
  | 9 => "TakenName"
  | 10 => "Unlike"
  | 11 => "NotThere"
  | 12 => "TooMany"
  | 13 => "NotKept"
  | 14 => "NothingToUndo"
  | _ => "NothingToRedo"
def cfs : Nat → List Str
  | 0 => ["what", "number"]
  | 1 => ["what", "row"]
  | 2 => ["what"]
  | 3 => ["what"]
  | 4 => ["what"]
  | 5 => ["name"]
  | 6 => ["line", "word"]
  | 7 => ["what", "index"]
  | 8 => ["name"]
  | 9 => ["name"]
  | 10 => ["what"]
  | 11 => ["paper"]
  | 12 => ["what", "many", "limit"]
  | 13 => ["promise", "witness"]
  | 14 => []
  | _ => []
def cargs (v1 v2 v3 : V) : Nat → List V
  | 0 => [v1, v2]
  | 1 => [v1, v2]
  | 2 => [v1]
  | 3 => [v1]
  | 4 => [v1]
  | 5 => [v1]
  | 6 => [v1, v2]
  | 7 => [v1, v2]
  | 8 => [v1]
  | 9 => [v1]
  | 10 => [v1]
  | 11 => [v1]
  | 12 => [v1, v2, v3]
  | 13 => [v1, v2]
  | 14 => []
  | _ => []
/-- what is told of the k-th error -/
def told (v1 v2 v3 : V) (t1 t2 : Str) : Nat → List V
  | 0 => [.str "number", v1, .str t2]
  | 1 => [.str "row", v1, .str t2]
  | 2 => [.str "table", v1]
  | 3 => [.str "poly", v1]
  | 4 => [.str "paper", v1]
  | 5 => [.str "badname", .str t1]
  | 6 => [.str "text", v1, v2]
  | 7 => [.str "place", v1, .str t2]
  | 8 => [.str "noname", .str t1]
  | 9 => [.str "taken", .str t1]
  | 10 => [.str "unlike", v1]
  | 11 => [.str "notthere", v1]
  | 12 => [.str "many", v1, v2, v3]
  | 13 => [.str "kept", v1, v2]
  | 14 => [.str "undo"]
  | _ => [.str "redo"]
/-- whether the text of the first, of the second field is told -/
def need1 : Nat → Bool
  | 5 => true
  | 8 => true
  | 9 => true
  | _ => false
def need2 : Nat → Bool
  | 0 => true
  | 1 => true
  | 7 => true
  | _ => false
/-- the fields of the k-th error as its own dict holds them -/
def fsOf (v1 v2 v3 : V) (k : Nat) : List (Str × V) := ((cfs k).zip (cargs v1 v2 v3 k)).reverse
/-- what is known of all the classes -/
structure Errs (P : Program) (w : World) (K : PySem.W.Frag) (mg : Str → Option Value) (base : Heap) : Prop where
  c_FieldError : ErrC K mg "FieldError" (He.ga K "FieldError")
  c : ∀ k, k < 16 → ErrC K mg (cname k) (He.ga K (cname k))
  e : ∀ k, k < 14 → ErrI P w K mg base (cname k) (He.ga K (cname k)) (cfs k)
  z : ∀ k, 14 ≤ k → k < 16 → PySem.W.excIn K (He.ga K (cname k)) [.type "ValueError", .type "Exception", .type "BaseException", .type "object"] "ValueError.__new__" = true
  is : ∀ k j, k < 16 → j < 16 → PySem.W.kitOne K (.ref (He.ga K (cname k))) (.ref (He.ga K (cname j))) = some (decide (k = j))
  te : ∀ k, k < 16 → PySem.W.exmOne K (.ref (He.ga K (cname k))) (.ref (He.ga K "FieldError")) = some true
  no : ∀ k f, k < 14 → f ∈ cfs k → PySem.W.findIn K (.ref (He.ga K (cname k))) f = some none
/-- data that can be shown in a line -/
abbrev Sd (d : PyData) : Prop := Gd 90 300000 d
/-- what a told error wants of its fields -/
structure FldOk (K : PySem.W.Frag) (H : Hp) (k : Nat) (v1 v2 : V) (d1 d2 : PyData) : Prop where
  h1 : need1 k = true → Dt K H d1 v1 ∧ Sd d1
  h2 : need2 k = true → Dt K H d2 v2 ∧ Sd d2
theorem FldOk.mono {K : PySem.W.Frag} {H H' : Hp} {k : Nat} {v1 v2 : V} {d1 d2 : PyData} (e : Same H H') (f : FldOk K H k v1 v2 d1 d2) : FldOk K H' k v1 v2 d1 d2 := ⟨fun h => ⟨(f.h1 h).1.mono e, (f.h1 h).2⟩, fun h => ⟨(f.h2 h).1.mono e, (f.h2 h).2⟩⟩
def spKinds (K : PySem.W.Frag) (base : Heap) (lo hi : Nat) : Sp := fun vs H Q _ => ∃ (a : Addr) (k : Nat) (v1 v2 v3 : V) (d1 d2 : PyData), k < 16 ∧ vs = [.ref a] ∧ ExAt base H a (He.ga K (cname k)) (fsOf v1 v2 v3 k) ∧ FldOk K H k v1 v2 d1 d2 ∧
  ∀ l t H', Same H H' → H l = none → H' l = some (.lst (if lo ≤ k ∧ k < hi then [.ref t] else [])) → (lo ≤ k → k < hi → H' t = some (.tup (told v1 v2 v3 d1.shown d2.shown k))) → Q (.ref l) H'
theorem ty_list {K : PySem.W.Frag} {H : Hp} {l : Addr} {xs : List V} (h : H l = some (.lst xs)) : tyV K "list" (.ref l) H := .inl ⟨rfl, _, .inl (.inl h)⟩
theorem Gd.rep {n W : Nat} {d : PyData} (g : Gd n W d) (h : n ≤ 100) (h2 : W ≤ 300000) : d.showable = true ∧ d.depth ≤ 100 ∧ d.shown.length ≤ sizeLine := ⟨g.sh, Nat.le_trans g.dp h, g.big h2⟩
/-- the k-th error with its fields leaves a call -/
def EFault (K : PySem.W.Frag) (Q : VK) : XK := fun cls d H' => ∃ (k : Nat) (v1 v2 v3 : V) (d1 d2 : PyData), k < 16 ∧ cls = .ref (He.ga K (cname k)) ∧ ((d = none ∧ fsOf v1 v2 v3 k = []) ∨ ∃ dd, d = some dd ∧ H' dd = some (.xd (fsOf v1 v2 v3 k))) ∧ FldOk K H' k v1 v2 d1 d2 ∧
  ∀ t H3, Same H' H3 → H3 t = some (.tup (told v1 v2 v3 d1.shown d2.shown k)) → Q (.ref t) H3
/-- _law_fault of what is called -/
def TTF (K : PySem.W.Frag) : (XK → Hp → VK → Prop) → Hp → VK → Prop := fun tl H Q => tl (EFault K Q) H fun _ H' => Q .non H'
end Fp
namespace Fp
open PySem PySem.Spec PyProof.Rows L2
def rLenK (K : PySem.W.Frag) : List V → Hp → VK → Prop := fun xs H Q => ∃ p ys, xs = [.ref p] ∧ (SqL K H p ys ∨ SqT K H p ys) ∧ Q (.int ys.length) H
theorem call_lenK {X : Cx} (K : PySem.W.Frag) (h : X.K = K) : CallR X (.builtin "len") (rLenK K) := by subst h; exact call_len_seq
theorem ix_listK {X : Cx} (K : PySem.W.Frag) (h : X.K = K) : IxR X (rIxL K) := by subst h; exact ix_list
end Fp
namespace Fp
open PySem PySem.Spec PyProof.Rows L2 LamX
theorem PE.up {X : Cx} {e : Expr} {t : TE} (h : PE X e t) : PE X e (fun σ H Q => ∃ R : VK, t σ H R ∧ ∀ v H1, R v H1 → Q v H1) := by
  refine ⟨fun pins s σ H Q I ⟨R, h1, h2⟩ => ?_⟩
  refine wpAny_mono (h.run pins s σ H R I h1) (fun u s1 hs => ?_) fun _ _ z => z
  obtain ⟨v, H1, I1, r, q⟩ := hs
  exact ⟨v, H1, I1, r, h2 _ _ q⟩
section
variable {X : Cx} {pins : List (Addr × Obj)} {σ : L2.St} {H : Hp} {s : Shared}
/-- what the def that gets a lambda at f sees of it: the call a() -/
def Acts (X : Cx) (Y : Cx) (a : Str) (f c' : Addr) (q : Str) (tl : XK → Hp → VK → Prop) : Prop :=
  ∀ (W : WX) (E : XK) (p1 p2 : Pos), Takes Y W → PE Y (.Call (.Name a p1) [] [] p2) (fun σZ HZ Q => σZ[0]? = some (some (.ref f)) ∧ HZ c' = some (CodeO c' q) ∧ (∀ cls d H', E cls d H' → W cls d σZ H') ∧ tl E HZ Q)
theorem acts_of {CXg : CXT} {Eg : XK} {Ng : List Str} {qg : Str} {sg : Scope} {g f c' : Addr} {cdg pm ctv : Value} {params : Arguments} {body : Expr} {scope : Scope} {k : Nat} {a : Str} {pn : List (Addr × Obj)} {xe : Value → Shared → Prop} {t : XK → TE}
    (I : Inv X pins σ H s) (L : LamS X.env.scope scope) (hf : s.heap.get? f = some (PySem.W.kla_obj "<lambda>" (X.env.qual ++ "<lambda>") params body scope (cloFrom X.env.cells scope.names []) pm c' ctv)) (hfn : H f = none) (hfr : f ∉ frs X.stack)
    (hbind : bindArgs (PySem.W.kla_fn "<lambda>" (X.env.qual ++ "<lambda>") params body scope (cloFrom X.env.cells scope.names []) pm (.ref c') ctv) ⟨[], []⟩ = pure [])
    (hr : RoomG (k + 1) (X.A.deeper (envOfC qg sg s.heap.objs.size g cdg)))
    (hbody : ∀ (A : Around) (outer : List Env) (s : Shared) (H : Hp) (E : XK), RoomG k (A.deeper (lamEnv X scope s.heap.objs.size f c')) → PE (lamCx X A outer s H E scope f c') body (t E))
    (hN : Ng[0]? = some a) (hv : Vis sg a) (hd : (a == ("__debug__" : Str)) = false) (hcd : (a == ("__classdict__" : Str)) = false) :
    Acts X ((cxOf CXg X.prog X.w X.K X.mg X.base Ng qg sg g cdg X.A X.stack s H Eg).tr pn xe) a f c' (X.env.qual ++ "<lambda>") (fun E H' Q' => t E σ H' Q') := by
  intro W E p1 p2 tk
  refine ⟨fun pinsZ sZ σZ HZ Q IZ h => ?_⟩
  obtain ⟨hs, hc, hW, ht⟩ := h
  refine wpAny_Call_Name_kw (thn ((pe_var (pos := p1) (i := 0) hN hv hd hcd).run pinsZ sZ σZ HZ (fun v H1 => v = .ref f ∧ H1 = HZ) IZ ⟨.ref f, hs, rfl, rfl⟩) fun u s1 ⟨v, H1, I1, r1, ev, eH⟩ => ?_)
  subst ev
  rw [eH] at I1
  obtain rfl : u = Value.ref f := r1
  have of1 := I1.base.keep f _ hf hfn hfr (fun z => nomatch (show f ∈ ([] : List Addr) from z))
  refine PySem.W.callWith_F0 ⟨_, _, _, _, of1⟩ ?_
  have un : Un (frs X.stack) [] H HZ s.heap s1.heap := I1.base
  obtain ⟨⟨oc, vs, tq, hoc, hdc, hvc⟩, _, _⟩ := I1.hok c' _ hc
  have rc : codeAny (model X.prog X.w) (X.A.deeper (envOfC qg sg s.heap.objs.size g cdg)) (.call (.ref f) ⟨[], []⟩) (CR (L2.CX X.prog X.w) (envOfC qg sg s.heap.objs.size g cdg :: X.stack) X.prog X.w HZ s1 Q E) s1 := by
    refine PySem.W.kla_callFunE hr.r.depth of1 rfl L.co L.gen rfl ⟨c', oc, vs, tq, rfl, hoc, hdc, hvc⟩ ?_
    rw [hbind]
    refine wpAny_pure (wpAny_newFunctionEnv (fun y hy => (L.own y hy).2) (fun y hy => absurd hy (by simp)) (fun h₁ hns hsb => ⟨I1.nolimit.fresh _ hsb, ?_⟩) L.kind)
    show codeAny _ _ (.expr body (lamEnv X scope s1.heap.objs.size f c')) _ _
    have kp : ∀ b o, s1.heap.get? b = some o → h₁.get? b = some o := fun b o e => hsb.extBut b o (Nat.ne_of_lt (Heap.lt_size e)) (Heap.get?_push_of_some _ e)
    have J : Inv (lamCx X (X.A.deeper (envOfC qg sg s.heap.objs.size g cdg)) (envOfC qg sg s.heap.objs.size g cdg :: X.stack) s1 HZ E scope f c') [] σ HZ { s1 with heap := h₁, toks := s1.toks + ([] : List (Str × Value)).length } :=
      lam_start2 I L I1.env0 hr.r.hd un hns kp
    refine PySem.W.kla_codeExpr (wpAny_mono ((hbody _ _ s1 HZ E (hr.deeper _)).run [] _ _ HZ Q J ht) (fun v s' hq => ?_) fun e s' hq => hq)
    obtain ⟨w', H', J', rv, q⟩ := hq
    exact ⟨w', H', J'.os, J'.bare, J'.base, J'.hok, rv, q⟩
  refine wpAny_call (codeAny_mono rc fun r s' hq => ?_)
  match r, hq with
  | .error e, hq => exact tk e s' (XE.of_call I1 hW hq)
  | .ok (.ret u), hq => exact I1.after hq
  | .ok .next, hq => exact (show False from hq).elim
  | .ok .brk, hq => exact (show False from hq).elim
  | .ok .cont, hq => exact (show False from hq).elim
/-- a def of one parameter a, what it makes of a lambda (TT: of the lambda's reading) -/
def Makes (X : Cx) (Ng : List Str) (x : Str) (sg : Scope) (g : Addr) (cdg : Value) (bg : List Stmt) (a : Str) (q : Str) (TT : (XK → Hp → VK → Prop) → Hp → VK → Prop) : Prop :=
  ∀ (f c' : Addr) (s : Shared) (H : Hp) (Q : VK) (tl : XK → Hp → VK → Prop),
    (∀ (pn : List (Addr × Obj)) (xe : Value → Shared → Prop), Acts X ((cxOf C8.CX0 X.prog X.w X.K X.mg X.base Ng x sg g cdg X.A X.stack s H C8.E0).tr pn xe) a f c' q tl) →
    H c' = some (CodeO c' q) → TT tl H Q →
    ∃ t, PSs (cxOf C8.CX0 X.prog X.w X.K X.mg X.base Ng x sg g cdg X.A X.stack s H C8.E0).nox bg t ∧ t { nx := fun _ H' => Q .non H', rt := Q } (L2.start Ng [.ref f]) H
/-- x(lambda: body) -/
theorem pe_lam {T : List (Addr × Str)} {TT : (XK → Hp → VK → Prop) → Hp → VK → Prop} {x a : Str} {g c P : Addr} {k : Nat} {pg : Arguments} {bg : List Stmt} {sg : Scope} {dV kV doc pm cdv ct oc : Value} {an od : Option Addr} {osl : Array (Option Value)} {Ng : List Str}
    {params : Arguments} {body : Expr} {scope : Scope} {t : XK → TE} {p lpos pos : Pos} (hg : Gl X x) (hm : X.mg x = some (.ref g)) (hk : PySem.W.keepIn X.K (.ref g) = true)
    (lk : X.K.lookup g = some ⟨oc, od, .func (PySem.W.fnOf x x pg bg sg dV kV doc pm an cdv ct), osl⟩) (hcg : PySem.W.codeIn X.K cdv x = true) (hb : L2.Binds X.K (PySem.W.fnOf x x pg bg sg dV kV doc pm an cdv ct) [a] []) (Sg : FnScope Ng [a] sg) (hNg : Ng[0]? = some a) (hva : Vis sg a)
    (hG : Makes X Ng x sg g cdv bg a (X.env.qual ++ "<lambda>") TT)
    (TB : TabB X.base X.mg c P) (hcode : X.env.code = .ref c) (hmT : (P, X.env.qual ++ "<lambda>") ∈ T) (hu : ∀ p ∈ T, p.1 = P → p.2 = X.env.qual ++ "<lambda>") (hr : RoomG (k + 2) X.A) (L : LamS X.env.scope scope) (hdef : defaultsOf params X.env = ([], []))
    (hbind : ∀ (q : Str) (cl : List (Str × Addr)) (pm cv ctv : Value), bindArgs (PySem.W.kla_fn "<lambda>" q params body scope cl pm cv ctv) ⟨[], []⟩ = pure [])
    (hbody : ∀ (A : Around) (outer : List Env) (s : Shared) (H : Hp) (E : XK) (f c' : Addr), RoomG k (A.deeper (lamEnv X scope s.heap.objs.size f c')) → PE (lamCx X A outer s H E scope f c') body (t E))
    (hdb : (x == ("__debug__" : Str)) = false := by decide) (hd : (a == ("__debug__" : Str)) = false := by decide) (hcd : (a == ("__classdict__" : Str)) = false := by decide) :
    PE X (.Call (.Name x p) [.Lambda params body scope lpos] [] pos) (tLam T TT t) := by
  refine ⟨fun pins s σ H Q I h => ?_⟩
  obtain ⟨hT, h⟩ := h
  refine wpAny_Call_Name_kw (ld_glob I hg hm ?_ hdb)
  refine PySem.W.callWith_K (h₀ := X.base) I.ok.mod.kin hk ?_ (by rfl) (by rfl)
  show wpAny _ _ (spliced ((false, eval (.Lambda params body scope lpos) X.env) :: backTo pos (starEach [] X.env))) _ _ s
  refine Calls.spliced_cons (lam_make2 I TB hcode hmT hu hT hdef (L.has I.ok) fun f c' pm' ctv H1 s' I1 eN T1 hf hfn hfr hco => ?_)
  refine Calls.spliced_nil ⟨I1.kIn, ?_⟩
  have rc : codeAny (model X.prog X.w) X.A (.call (.ref g) ⟨[.ref f], []⟩) (CR C8.CX0 X.stack X.prog X.w H1 s' Q C8.E0) s' := by
    refine run_ofS (N := Ng) (ps := [a]) (us := [.ref f]) (vs := [.ref f]) lk hcg Sg hr.r I1.env0 (hb s' [.ref f] I1.kIn rfl) (.cons rfl .nil) rfl fun _ => ?_
    obtain ⟨t', ht', hq'⟩ := hG f c' s' H1 Q (fun E H' Q' => t E σ H' Q') (fun pn xe => acts_of I1 L hf hfn hfr (hbind _ _ _ _ _) (hr.deeper _) (fun A outer s H E hr2 => hbody A outer s H E f c' hr2) hNg hva hd hcd) hco (h H1 eN T1)
    exact ⟨t', ht'.nox, hq'⟩
  refine wpAny_call (codeAny_mono rc fun r s2 hq => ?_)
  match r, hq with
  | .error e, hq => exact (show False from hq).elim
  | .ok (.ret u), hq => exact I1.after hq
  | .ok .next, hq => exact (show False from hq).elim
  | .ok .brk, hq => exact (show False from hq).elim
  | .ok .cont, hq => exact (show False from hq).elim
end
end Fp
namespace L02
open PySem PySem.Spec PyProof.Rows L2 Fp
def top (i : Nat) : Stmt := PySem.Challenge.pw_fieldpapers_k02_ratios.main.body.getD i (.Pass ⟨0, 0, 0, 0⟩)
abbrev FnP (K : PySem.W.Frag) (x : Str) (st : Stmt) (f : Addr) (fd : FuncData) : Prop := FunD K x x (defArgs st) (defBody st) (defScope st) [] [] f fd
section
variable {P : Program} {w : World} {K : PySem.W.Frag} {mg : Str → Option Value} {base : Heap} {f fd1 : Addr} {fd : FuncData}

abbrev s_law_draw : Stmt := top 42
theorem sc_law_draw : FnScope ["pen", "many", "blend", "cell", "digit"] ["pen", "many"] (defScope s_law_draw) := ⟨rfl, rfl, rfl, by decide +kernel, rfl, by decide +kernel, by decide +kernel⟩

theorem ok_draw (F : FnP K "_law_draw" s_law_draw f fd) (g_int : mg "int" = none) (g_len : mg "len" = none) : FnG P w K mg base (L2.CX P w) 1 f fd ["pen", "many"] spDrawT := by
  refine okG F sc_law_draw (fun vs H Q E h => ?_) (fun cdv A outer s H vs Q E hr h => ?_)
  · obtain ⟨p, c, ns, i, g, n, fo, many, rfl, _⟩ := h
    rfl
  have nd := sc_law_draw.nd
  have hu := huG hr
  refine ⟨_, (pss_cons (ps_dput hu (pv 0) pe_str (pe_op opAdd (pe_dget hu (pv 0) pe_str (fun _ _ => rfl)) pe_int) rfl)
  (pss_cons (ps_if (PW.pt (pw_and (pt_cmpR (opEq hr) (pe_dget hu (pv 0) pe_str (fun _ _ => rfl)) pe_int (nomark _)) (pw_and1 (pt_cmpR op_lt (pe_dget hu (pv 0) pe_str (fun _ _ => rfl)) (pe_callB call_len_seq (by rfl) g_len (by rfl) (pa_cons (pe_dget hu (pv 0) pe_str (fun _ _ => rfl)) pa_nil)) (nomark _))))) (pss_cons (ps_set (i := 3) nd rfl (.inl rfl) (pe_ix ix_seq (pe_dget hu (pv 0) pe_str (fun _ _ => rfl)) (pe_dget hu (pv 0) pe_str (fun _ _ => rfl)) (fun _ _ => rfl)))
  (pss_cons (ps_dput hu (pv 0) pe_str (pe_op opAdd (pe_dget hu (pv 0) pe_str (fun _ _ => rfl)) pe_int) rfl)
  (pss_one (ps_if (pt_cmpR op_ge (pv 3) (pe_op op_pow pe_int pe_int) (nomark _)) (pss_one (ps_dput hu (pv 0) pe_str (pe_op op_sub (pv 3) (pe_op op_pow pe_int pe_int)) rfl)) (pss_one (ps_dput hu (pv 0) pe_str (pe_op op_mod (pe_callTy call_int1 (by rfl) g_int (by rfl) (pa_cons (pe_op opAdd (pe_op opMul (pe_dget hu (pv 0) pe_str (fun _ _ => rfl)) pe_int) (pv 3)) pa_nil)) pe_int) rfl)))))) pss_nil)
  (pss_cons (ps_if (pt_cmpR op_gt (pe_dget hu (pv 0) pe_str (fun _ _ => rfl)) pe_int (nomark _)) (pss_cons (ps_set (i := 4) nd rfl (.inl rfl) (pe_op op_mod (pe_callTy call_int1 (by rfl) g_int (by rfl) (pa_cons (pe_dget hu (pv 0) pe_str (fun _ _ => rfl)) pa_nil)) (pv 1)))
  (pss_cons (ps_dput hu (pv 0) pe_str (pe_op opFdiv (pe_dget hu (pv 0) pe_str (fun _ _ => rfl)) (pv 1)) rfl)
  (pss_one (ps_ret (pv 4))))) pss_nil)
  (pss_cons (ps_set (i := 2) nd rfl (.inl rfl) (pe_op op_mod (pe_callTy call_int1 (by rfl) g_int (by rfl) (pa_cons (pe_op opAdd (pe_op opAdd (pe_op opMul (pe_dget hu (pv 0) pe_str (fun _ _ => rfl)) pe_int) (pe_op opMul (pe_dget hu (pv 0) pe_str (fun _ _ => rfl)) pe_int)) pe_int) pa_nil)) pe_int))
  (pss_cons (ps_set (i := 2) nd rfl (.inl rfl) (pe_op op_mod (pe_callTy call_int1 (by rfl) g_int (by rfl) (pa_cons (pe_op opAdd (pe_op opAdd (pe_op opMul (pv 2) (pv 2)) (pe_op opMul pe_int (pv 2))) (pe_dget hu (pv 0) pe_str (fun _ _ => rfl))) pa_nil)) pe_int))
  (pss_cons (ps_dput hu (pv 0) pe_str (pe_op op_mod (pe_callTy call_int1 (by rfl) g_int (by rfl) (pa_cons (pe_op opAdd (pe_op opMul (pv 2) pe_int) pe_int) pa_nil)) pe_int) rfl)
  (pss_one (ps_ret (pe_op op_mod (pe_callTy call_int1 (by rfl) g_int (by rfl) (pa_cons (pe_op opFdiv (pv 2) pe_int) pa_nil)) (pv 1)))))))))), ?_⟩
  obtain ⟨p, c, ns, i, g, n, fo, many, rfl, ⟨hp, hc, hv⟩, h1, h2, q⟩ := h
  have hcp : c ≠ p := fun z => by rw [z, hp] at hc; cases hc
  have cK : ∀ {kvs : List (Key × V)}, upd H p (.dK kvs) c = some (.lst (ns.map V.int)) := fun {kvs} => by rw [upd_ne hcp]; exact hc
  have many0 : 0 < many := by omega
  -- count + 1
  refine ⟨_, rfl, _, _, rfl, Fp.getPen (by first | assumption | exact L2.upd_same) pen_count, ?_⟩
  refine .inl ⟨_, _, rfl, rfl, ?_⟩
  refine ⟨_, rfl, _, _, rfl, Fp.putPen (by first | assumption | exact L2.upd_same) put_count (by show (5 : Nat) ≤ 1000; decide), ?_⟩
  -- the rest from any pen
  dsimp only
  refine seq_rest (fun σ H' => ∃ v2 v3 v4 i g n fo, σ = [some (.ref p), some (.int many), v2, v3, v4] ∧ PenV i g fo ∧ H' = upd H p (.dK (penK c i g n fo))) ?_ fun rest => ?_
  · rintro σ H' ⟨v2, v3, v4, i, g, n, fo, rfl, hv, rfl⟩
    refine seq_rest (fun σ H' => ∃ v2 v3 v4 i g n fo, g = 0 ∧ σ = [some (.ref p), some (.int many), v2, v3, v4] ∧ PenV i g fo ∧ H' = upd H p (.dK (penK c i g n fo))) ?_ fun rest => ?_
    · rintro σ H' ⟨v2, v3, v4, i, g, n, fo, rfl, rfl, hv, rfl⟩
      -- the blend
      refine ⟨_, rfl, _, _, rfl, Fp.getPen (by first | assumption | exact L2.upd_same) pen_fold, ?_⟩
      refine .inl ⟨_, _, rfl, rfl, .inr ⟨by decide, by decide⟩, ?_⟩
      refine ⟨_, rfl, _, _, rfl, Fp.getPen (by first | assumption | exact L2.upd_same) pen_count, ?_⟩
      refine .inl ⟨_, _, rfl, rfl, .inr ⟨by decide, by decide⟩, ?_⟩
      refine .inl ⟨_, _, rfl, rfl, ?_⟩
      refine .inl ⟨_, _, rfl, rfl, ?_⟩
      refine .inl ⟨_, rfl, ?_⟩
      refine ⟨_, _, rfl, rfl, (by show (0 : Int) < _; decide), ?_⟩
      have b0 := Int.emod_nonneg (fo * 48271 + n * 7919 + 13) (show (2147483647 : Int) ≠ 0 by decide)
      have b1 := Int.emod_lt_of_pos (fo * 48271 + n * 7919 + 13) (show (0 : Int) < 2147483647 by decide)
      refine ⟨_, rfl, _, rfl, .inl ⟨_, _, rfl, rfl, .inl ⟨by omega, by omega⟩, ?_⟩⟩
      refine ⟨_, rfl, .inl ⟨_, _, rfl, rfl, .inl ⟨by decide, by decide⟩, ?_⟩⟩
      refine .inl ⟨_, _, rfl, rfl, ?_⟩
      refine ⟨_, rfl, _, _, rfl, Fp.getPen (by first | assumption | exact L2.upd_same) pen_count, ?_⟩
      refine .inl ⟨_, _, rfl, rfl, ?_⟩
      refine .inl ⟨_, rfl, ?_⟩
      refine ⟨_, _, rfl, rfl, (by show (0 : Int) < _; decide), ?_⟩
      refine ⟨_, rfl, .inl ⟨_, _, rfl, rfl, .inr ⟨by decide, by decide⟩, ?_⟩⟩
      refine .inl ⟨_, _, rfl, rfl, ?_⟩
      refine .inl ⟨_, rfl, ?_⟩
      refine ⟨_, _, rfl, rfl, (by show (0 : Int) < _; decide), ?_⟩
      refine ⟨_, rfl, _, _, rfl, Fp.putPen (by first | assumption | exact L2.upd_same) put_fold (by show (5 : Nat) ≤ 1000; decide), ?_⟩
      rw [upd_upd]
      refine ⟨_, rfl, .inl ⟨_, _, rfl, rfl, ⟨by decide, by decide⟩, ?_⟩⟩
      refine .inl ⟨_, rfl, ?_⟩
      refine ⟨_, rfl, _, _, rfl, rfl, many0, ?_⟩
      exact q _ _ _ _ _ (Int.emod_nonneg _ (by omega)) (Int.emod_lt_of_pos _ many0) ⟨hv.i0, hv.g0, Int.emod_nonneg _ (by decide), Int.lt_trans (Int.emod_lt_of_pos _ (by decide)) (by decide)⟩
    · refine ⟨_, rfl, _, _, rfl, Fp.getPen (by first | assumption | exact L2.upd_same) pen_digits, ?_⟩
      refine ⟨_, _, rfl, rfl, _, rfl, iteB (fun hb => ?_) fun hb => ?_⟩
      · refine ⟨_, rfl, _, _, rfl, Fp.getPen (by first | assumption | exact L2.upd_same) pen_digits, ?_⟩
        refine .inl ⟨_, rfl, ?_⟩
        refine ⟨_, rfl, _, _, rfl, rfl, many0, ?_⟩
        refine ⟨_, rfl, _, _, rfl, Fp.getPen (by first | assumption | exact L2.upd_same) pen_digits, ?_⟩
        refine ⟨_, rfl, .inl ⟨_, _, rfl, rfl, ⟨many0, by omega⟩, ?_⟩⟩
        refine ⟨_, rfl, _, _, rfl, Fp.putPen (by first | assumption | exact L2.upd_same) put_digits (by show (5 : Nat) ≤ 1000; decide), ?_⟩
        refine ⟨_, rfl, ?_⟩
        rw [upd_upd]
        refine q _ _ _ _ _ (Int.emod_nonneg _ (by omega)) (Int.emod_lt_of_pos _ many0) ⟨hv.i0, Int.ediv_nonneg hv.g0 (by omega), hv.f0, hv.f1⟩
      · refine rest _ _ ⟨_, _, _, _, _, _, _, ?_, rfl, hv, rfl⟩
        have := hv.g0
        simp at hb
        omega
  · refine ⟨_, rfl, _, _, rfl, Fp.getPen (by first | assumption | exact L2.upd_same) pen_digits, ?_⟩
    refine .inl ⟨rfl, _, rfl, iteB (fun hb => ?_) fun hb => ?_⟩
    · refine ⟨_, rfl, _, _, rfl, Fp.getPen (by first | assumption | exact L2.upd_same) pen_at, ?_⟩
      refine ⟨_, rfl, _, _, rfl, Fp.getPen (by first | assumption | exact L2.upd_same) pen_cells, ?_⟩
      refine ⟨_, _, rfl, .inl (.inl (.inl cK)), ?_⟩
      refine ⟨_, _, rfl, rfl, _, rfl, iteB (fun hb => ?_) fun hb => ?_⟩
      · refine ⟨_, rfl, _, _, rfl, Fp.getPen (by first | assumption | exact L2.upd_same) pen_cells, ?_⟩
        refine ⟨_, rfl, _, _, rfl, Fp.getPen (by first | assumption | exact L2.upd_same) pen_at, ?_⟩
        have hlt : i < (ns.length : Int) := by simpa using hb
        have i0 := hv.i0
        obtain ⟨j, rfl⟩ := Int.eq_ofNat_of_zero_le i0
        have hj : j < ns.length := by omega
        refine .inl ⟨_, _, _, _, rfl, rfl, .inl (.inl cK), atI_nat (show (ns.map V.int)[j]? = some (V.int ns[j]) by simp [hj]), ?_⟩
        refine ⟨_, rfl, _, _, rfl, Fp.getPen (by first | assumption | exact L2.upd_same) pen_at, ?_⟩
        refine .inl ⟨_, _, rfl, rfl, ?_⟩
        refine ⟨_, rfl, _, _, rfl, Fp.putPen (by first | assumption | exact L2.upd_same) put_at (by show (5 : Nat) ≤ 1000; decide), ?_⟩
        rw [upd_upd]
        refine ⟨_, rfl, _, _, rfl, rfl, ⟨by decide, by decide, by decide⟩, ?_⟩
        refine ⟨_, _, rfl, rfl, _, rfl, iteB (fun hb => ?_) fun hb => ?_⟩
        · refine ⟨_, rfl, _, _, rfl, rfl, ⟨by decide, by decide, by decide⟩, ?_⟩
          refine ⟨_, _, rfl, rfl, ?_⟩
          refine ⟨_, rfl, _, _, rfl, Fp.putPen (by first | assumption | exact L2.upd_same) put_digits (by show (5 : Nat) ≤ 1000; decide), ?_⟩
          rw [upd_upd]
          refine rest _ _ ⟨_, _, _, _, _, _, _, rfl, ⟨by omega, ?_, hv.f0, hv.f1⟩, rfl⟩
          have : (10 : Int) ^ (18 : Int).toNat ≤ ns[j] := by simpa using hb
          omega
        · refine ⟨_, rfl, _, _, rfl, Fp.getPen (by first | assumption | exact L2.upd_same) pen_fold, ?_⟩
          refine .inl ⟨_, _, rfl, rfl, .inr ⟨by decide, by decide⟩, ?_⟩
          refine ⟨_, rfl, ?_⟩
          refine .inl ⟨_, _, rfl, rfl, ?_⟩
          refine .inl ⟨_, rfl, ?_⟩
          refine ⟨_, _, rfl, rfl, (show (0 : Int) < 2147483587 by decide), ?_⟩
          refine ⟨_, rfl, _, _, rfl, Fp.putPen (by first | assumption | exact L2.upd_same) put_fold (by show (5 : Nat) ≤ 1000; decide), ?_⟩
          rw [upd_upd]
          have e0 := Int.emod_nonneg (fo * 69069 + ns[j]) (show (2147483587 : Int) ≠ 0 by decide)
          have e1 := Int.emod_lt_of_pos (fo * 69069 + ns[j]) (show (0 : Int) < 2147483587 by decide)
          exact rest _ _ ⟨_, _, _, _, _, _, _, rfl, ⟨by omega, hv.g0, e0, by omega⟩, rfl⟩
      · exact rest _ _ ⟨_, _, _, _, _, _, _, rfl, hv, rfl⟩
    · exact rest _ _ ⟨_, _, _, _, _, _, _, rfl, hv, rfl⟩


abbrev s_law_pen : Stmt := top 41
theorem sc_law_pen : FnScope ["script", "fold", "cell"] ["script"] (defScope s_law_pen) := ⟨rfl, rfl, rfl, by decide +kernel, rfl, by decide +kernel, by decide +kernel⟩

theorem ok_pen (F : FnP K "_law_pen" s_law_pen f fd) (g_int : mg "int" = none) (g_list : mg "list" = none) : FnG P w K mg base (L2.CX P w) 1 f fd ["script"] (spPenT K) := by
  refine okG F sc_law_pen (fun vs H Q E h => ?_) (fun cdv A outer s H vs Q E hr h => ?_)
  · obtain ⟨a, ns, rfl, _⟩ := h
    rfl
  have nd := sc_law_pen.nd
  have hu := huG hr
  refine ⟨_, (pss_cons (ps_set (i := 1) nd rfl (.inl rfl) pe_int)
  (pss_cons (ps_for (passes_of rfl) rfl (pi_list (pv 0)) (pg_name (i := 2) nd rfl (.inl rfl))
   (pss_one (ps_set (i := 1) nd rfl (.inl rfl) (pe_op op_mod (pe_callTy call_int1 (by rfl) g_int (by rfl) (pa_cons (pe_op opAdd (pe_op opMul (pv 1) pe_int) (pv 2)) pa_nil)) pe_int))))
  (pss_one (ps_ret (pe_disp (pps_cons pe_str (pe_callTy call_list_of (by rfl) g_list (by rfl) (pa_cons (pv 0) pa_nil)) (pps_cons pe_str pe_int (pps_cons pe_str pe_int (pps_cons pe_str pe_int (pps_cons pe_str (pv 1) pps_nil))))) rfl rfl (by decide) (by decide)))))), ?_⟩
  obtain ⟨a, ns, rfl, hS, q⟩ := h
  refine ⟨_, rfl, _, rfl, ⟨_, hS⟩, ?_⟩
  refine for_list (xs := ns.map V.int) (fun _ σ H' => H' = H ∧ ∃ (f : Int) (v : Option V), 0 ≤ f ∧ f < 1000000007 ∧ σ = [some (.ref a), some (.int f), v]) ⟨rfl, 0, none, by decide, by decide, rfl⟩ (fun i σ H' _ ⟨e, _⟩ => e ▸ hS) ?_ ?_
  · rintro i x σ _ hx ⟨rfl, fo, v, f0, f1, rfl⟩
    obtain ⟨m, _, rfl⟩ : ∃ m, m ∈ ns ∧ V.int m = x := by
      have := List.mem_of_getElem? hx
      simpa using this
    refine ⟨_, rfl, .inl ⟨_, _, rfl, rfl, .inr ⟨by decide, by decide⟩, ?_⟩⟩
    refine ⟨_, rfl, ?_⟩
    refine .inl ⟨_, _, rfl, rfl, ?_⟩
    refine .inl ⟨_, rfl, ?_⟩
    refine ⟨_, _, rfl, rfl, (by show (0 : Int) < _; decide), ?_⟩
    exact ⟨rfl, _, _, Int.emod_nonneg _ (by decide), Int.emod_lt_of_pos _ (by decide), rfl⟩
  · rintro σ H' ⟨rfl, fo, v, f0, f1, rfl⟩
    intro p hp
    refine ⟨_, rfl, _, _, rfl, .inl (sql_mono (same_new hp) hS), fun c hc => ?_⟩
    have hcp : p ≠ c := fun z => by rw [z, upd_same] at hc; cases hc
    refine ⟨_, rfl, ?_⟩
    refine ⟨by rw [upd_ne hcp, upd_same], [(.inr "cells", .ref c), (.inr "at", .int 0), (.inr "digits", .int 0), (.inr "count", .int 0), (.inr "fold", .int fo)], rfl, (by show (5 : Nat) ≤ 15; decide), ?_⟩
    have e : mergeK [] [(Sum.inr "cells", V.ref c), (.inr "at", .int 0), (.inr "digits", .int 0), (.inr "count", .int 0), (.inr "fold", .int fo)] = penK c 0 0 0 fo := rfl
    rw [e]
    have hc0 : H' c = none := by rw [upd_ne (Ne.symm hcp)] at hc; exact hc
    refine q p c 0 0 0 fo _ (fun b o h => ?_) hp upd_same (by rw [upd_ne (Ne.symm hcp), upd_same]) ⟨by decide, by decide, f0, by omega⟩
    rw [upd_ne (ne_of_none h hp), upd_ne (ne_of_none h hc0), upd_ne (ne_of_none h hp)]
    exact h

abbrev s_law_pick : Stmt := top 43
theorem sc_law_pick : FnScope ["pen", "some"] ["pen", "some"] (defScope s_law_pick) := ⟨rfl, rfl, rfl, by decide +kernel, rfl, by decide +kernel, by decide +kernel⟩

/-- an item of a list or a tuple -/
def spPick (P : Program) (w : World) (K : PySem.W.Frag) : Sp := fun vs H Q _ => ∃ (p a : Addr) (xs : List V), vs = [.ref p, .ref a] ∧ Pen P w H p ∧ (SqL K H a xs ∨ SqT K H a xs) ∧ xs ≠ [] ∧ xs.length < 1000 ∧ ∀ v, v ∈ xs → Q v H
theorem ok_pick (F : FnP K "_law_pick" s_law_pick f fd) (g_len : mg "len" = none) (p__law_draw : PrG P w K mg base "_law_draw" 1 ["pen", "many"] (spDraw P w)) : FnG P w K mg base (L2.CX P w) 2 f fd ["pen", "some"] (spPick P w K) := by
  refine okG F sc_law_pick (fun vs H Q E h => ?_) (fun cdv A outer s H vs Q E hr h => ?_)
  · obtain ⟨p, a, xs, rfl, _⟩ := h
    rfl
  have nd := sc_law_pick.nd
  have hu := huG hr
  refine ⟨_, (pss_one (ps_ret (pe_ix ix_seq (pv 1) (pe_callP p__law_draw (hr.mono (by decide)) (by rfl) (fun σ => passAt (takes_of rfl rfl rfl rfl) σ) (pa_cons (pv 0) (pa_cons (pe_callB call_len_seq (by rfl) g_len (by rfl) (pa_cons (pv 1) pa_nil)) pa_nil))) (fun _ _ => rfl)))), ?_⟩
  obtain ⟨p, a, xs, rfl, hp, hs, hne, hl, q⟩ := h
  refine ⟨_, rfl, _, rfl, _, rfl, _, _, rfl, hs, ?_⟩
  have hpos : 0 < xs.length := List.length_pos_iff.mpr hne
  refine ⟨_, _, rfl, hp, by omega, by omega, fun r r0 r1 => ?_⟩
  obtain ⟨j, rfl⟩ := Int.eq_ofNat_of_zero_le r0
  have hj : j < xs.length := by omega
  have at_ : atI xs ((j : Nat) : Int) = some xs[j] := atI_nat (by simp [hj])
  rcases hs with hs | hs
  · exact .inl ⟨_, _, _, _, rfl, rfl, hs, at_, q _ (List.getElem_mem hj)⟩
  · exact .inr (.inl ⟨_, _, _, _, rfl, rfl, hs, at_, q _ (List.getElem_mem hj)⟩)

end
section
variable {P : Program} {w : World} {K : PySem.W.Frag} {mg : Str → Option Value} {base : Heap}
def initOf (i : Nat) : Stmt := inClass (top i) 0
abbrev si_BadNumber : Stmt := initOf 3
theorem sci_BadNumber : FnScope ["self", "what", "number"] ["self", "what", "number"] (defScope si_BadNumber) := ⟨rfl, rfl, rfl, by decide +kernel, rfl, by decide +kernel, by decide +kernel⟩
theorem err_BadNumber {fd : FuncData} (c : ErrC K mg "BadNumber" (He.ga K "BadNumber")) (o : oexB K "BadNumber" ["what", "number"] = true) (F : FunD K "__init__" "BadNumber.__init__" (defArgs si_BadNumber) (defBody si_BadNumber) (defScope si_BadNumber) [] [] (He.ma K (He.ga K "BadNumber") "__init__") fd) : ErrI P w K mg base "BadNumber" (He.ga K "BadNumber") ["what", "number"] := by
  obtain ⟨T, i1, i2, no⟩ := oexB_ok c o
  refine ⟨c.g, T, _, fd, i1, i2, ?_, F.bindsN fun _ _ _ _ _ _ us hl => match us, hl with | [_, _, _], _ => rfl⟩
  refine F.ok sci_BadNumber (fun vs H Q E h => ?_) (fun cdv A outer s H vs Q E hr h => ?_)
  · obtain ⟨a, ws, rfl, hl, _⟩ := h
    simp [hl]
  exact ⟨_, (pss_cons (ps_ost (pv 0) (pv 1)) (pss_one (ps_ost (pv 0) (pv 2)))), init2 rfl T (no _ (by decide)) (no _ (by decide)) h⟩
abbrev si_BadRow : Stmt := initOf 4
theorem sci_BadRow : FnScope ["self", "what", "row"] ["self", "what", "row"] (defScope si_BadRow) := ⟨rfl, rfl, rfl, by decide +kernel, rfl, by decide +kernel, by decide +kernel⟩
theorem err_BadRow {fd : FuncData} (c : ErrC K mg "BadRow" (He.ga K "BadRow")) (o : oexB K "BadRow" ["what", "row"] = true) (F : FunD K "__init__" "BadRow.__init__" (defArgs si_BadRow) (defBody si_BadRow) (defScope si_BadRow) [] [] (He.ma K (He.ga K "BadRow") "__init__") fd) : ErrI P w K mg base "BadRow" (He.ga K "BadRow") ["what", "row"] := by
  obtain ⟨T, i1, i2, no⟩ := oexB_ok c o
  refine ⟨c.g, T, _, fd, i1, i2, ?_, F.bindsN fun _ _ _ _ _ _ us hl => match us, hl with | [_, _, _], _ => rfl⟩
  refine F.ok sci_BadRow (fun vs H Q E h => ?_) (fun cdv A outer s H vs Q E hr h => ?_)
  · obtain ⟨a, ws, rfl, hl, _⟩ := h
    simp [hl]
  exact ⟨_, (pss_cons (ps_ost (pv 0) (pv 1)) (pss_one (ps_ost (pv 0) (pv 2)))), init2 rfl T (no _ (by decide)) (no _ (by decide)) h⟩
abbrev si_BadTable : Stmt := initOf 5
theorem sci_BadTable : FnScope ["self", "what"] ["self", "what"] (defScope si_BadTable) := ⟨rfl, rfl, rfl, by decide +kernel, rfl, by decide +kernel, by decide +kernel⟩
theorem err_BadTable {fd : FuncData} (c : ErrC K mg "BadTable" (He.ga K "BadTable")) (o : oexB K "BadTable" ["what"] = true) (F : FunD K "__init__" "BadTable.__init__" (defArgs si_BadTable) (defBody si_BadTable) (defScope si_BadTable) [] [] (He.ma K (He.ga K "BadTable") "__init__") fd) : ErrI P w K mg base "BadTable" (He.ga K "BadTable") ["what"] := by
  obtain ⟨T, i1, i2, no⟩ := oexB_ok c o
  refine ⟨c.g, T, _, fd, i1, i2, ?_, F.bindsN fun _ _ _ _ _ _ us hl => match us, hl with | [_, _], _ => rfl⟩
  refine F.ok sci_BadTable (fun vs H Q E h => ?_) (fun cdv A outer s H vs Q E hr h => ?_)
  · obtain ⟨a, ws, rfl, hl, _⟩ := h
    simp [hl]
  exact ⟨_, (pss_one (ps_ost (pv 0) (pv 1))), init1 rfl T (no _ (by decide)) h⟩
abbrev si_BadPoly : Stmt := initOf 6
theorem sci_BadPoly : FnScope ["self", "what"] ["self", "what"] (defScope si_BadPoly) := ⟨rfl, rfl, rfl, by decide +kernel, rfl, by decide +kernel, by decide +kernel⟩
theorem err_BadPoly {fd : FuncData} (c : ErrC K mg "BadPoly" (He.ga K "BadPoly")) (o : oexB K "BadPoly" ["what"] = true) (F : FunD K "__init__" "BadPoly.__init__" (defArgs si_BadPoly) (defBody si_BadPoly) (defScope si_BadPoly) [] [] (He.ma K (He.ga K "BadPoly") "__init__") fd) : ErrI P w K mg base "BadPoly" (He.ga K "BadPoly") ["what"] := by
  obtain ⟨T, i1, i2, no⟩ := oexB_ok c o
  refine ⟨c.g, T, _, fd, i1, i2, ?_, F.bindsN fun _ _ _ _ _ _ us hl => match us, hl with | [_, _], _ => rfl⟩
  refine F.ok sci_BadPoly (fun vs H Q E h => ?_) (fun cdv A outer s H vs Q E hr h => ?_)
  · obtain ⟨a, ws, rfl, hl, _⟩ := h
    simp [hl]
  exact ⟨_, (pss_one (ps_ost (pv 0) (pv 1))), init1 rfl T (no _ (by decide)) h⟩
abbrev si_BadPaper : Stmt := initOf 7
theorem sci_BadPaper : FnScope ["self", "what"] ["self", "what"] (defScope si_BadPaper) := ⟨rfl, rfl, rfl, by decide +kernel, rfl, by decide +kernel, by decide +kernel⟩
theorem err_BadPaper {fd : FuncData} (c : ErrC K mg "BadPaper" (He.ga K "BadPaper")) (o : oexB K "BadPaper" ["what"] = true) (F : FunD K "__init__" "BadPaper.__init__" (defArgs si_BadPaper) (defBody si_BadPaper) (defScope si_BadPaper) [] [] (He.ma K (He.ga K "BadPaper") "__init__") fd) : ErrI P w K mg base "BadPaper" (He.ga K "BadPaper") ["what"] := by
  obtain ⟨T, i1, i2, no⟩ := oexB_ok c o
  refine ⟨c.g, T, _, fd, i1, i2, ?_, F.bindsN fun _ _ _ _ _ _ us hl => match us, hl with | [_, _], _ => rfl⟩
  refine F.ok sci_BadPaper (fun vs H Q E h => ?_) (fun cdv A outer s H vs Q E hr h => ?_)
  · obtain ⟨a, ws, rfl, hl, _⟩ := h
    simp [hl]
  exact ⟨_, (pss_one (ps_ost (pv 0) (pv 1))), init1 rfl T (no _ (by decide)) h⟩
abbrev si_BadName : Stmt := initOf 8
theorem sci_BadName : FnScope ["self", "name"] ["self", "name"] (defScope si_BadName) := ⟨rfl, rfl, rfl, by decide +kernel, rfl, by decide +kernel, by decide +kernel⟩
theorem err_BadName {fd : FuncData} (c : ErrC K mg "BadName" (He.ga K "BadName")) (o : oexB K "BadName" ["name"] = true) (F : FunD K "__init__" "BadName.__init__" (defArgs si_BadName) (defBody si_BadName) (defScope si_BadName) [] [] (He.ma K (He.ga K "BadName") "__init__") fd) : ErrI P w K mg base "BadName" (He.ga K "BadName") ["name"] := by
  obtain ⟨T, i1, i2, no⟩ := oexB_ok c o
  refine ⟨c.g, T, _, fd, i1, i2, ?_, F.bindsN fun _ _ _ _ _ _ us hl => match us, hl with | [_, _], _ => rfl⟩
  refine F.ok sci_BadName (fun vs H Q E h => ?_) (fun cdv A outer s H vs Q E hr h => ?_)
  · obtain ⟨a, ws, rfl, hl, _⟩ := h
    simp [hl]
  exact ⟨_, (pss_one (ps_ost (pv 0) (pv 1))), init1 rfl T (no _ (by decide)) h⟩
abbrev si_BadText : Stmt := initOf 9
theorem sci_BadText : FnScope ["self", "line", "word"] ["self", "line", "word"] (defScope si_BadText) := ⟨rfl, rfl, rfl, by decide +kernel, rfl, by decide +kernel, by decide +kernel⟩
theorem err_BadText {fd : FuncData} (c : ErrC K mg "BadText" (He.ga K "BadText")) (o : oexB K "BadText" ["line", "word"] = true) (F : FunD K "__init__" "BadText.__init__" (defArgs si_BadText) (defBody si_BadText) (defScope si_BadText) [] [] (He.ma K (He.ga K "BadText") "__init__") fd) : ErrI P w K mg base "BadText" (He.ga K "BadText") ["line", "word"] := by
  obtain ⟨T, i1, i2, no⟩ := oexB_ok c o
  refine ⟨c.g, T, _, fd, i1, i2, ?_, F.bindsN fun _ _ _ _ _ _ us hl => match us, hl with | [_, _, _], _ => rfl⟩
  refine F.ok sci_BadText (fun vs H Q E h => ?_) (fun cdv A outer s H vs Q E hr h => ?_)
  · obtain ⟨a, ws, rfl, hl, _⟩ := h
    simp [hl]
  exact ⟨_, (pss_cons (ps_ost (pv 0) (pv 1)) (pss_one (ps_ost (pv 0) (pv 2)))), init2 rfl T (no _ (by decide)) (no _ (by decide)) h⟩
abbrev si_NoPlace : Stmt := initOf 10
theorem sci_NoPlace : FnScope ["self", "what", "index"] ["self", "what", "index"] (defScope si_NoPlace) := ⟨rfl, rfl, rfl, by decide +kernel, rfl, by decide +kernel, by decide +kernel⟩
theorem err_NoPlace {fd : FuncData} (c : ErrC K mg "NoPlace" (He.ga K "NoPlace")) (o : oexB K "NoPlace" ["what", "index"] = true) (F : FunD K "__init__" "NoPlace.__init__" (defArgs si_NoPlace) (defBody si_NoPlace) (defScope si_NoPlace) [] [] (He.ma K (He.ga K "NoPlace") "__init__") fd) : ErrI P w K mg base "NoPlace" (He.ga K "NoPlace") ["what", "index"] := by
  obtain ⟨T, i1, i2, no⟩ := oexB_ok c o
  refine ⟨c.g, T, _, fd, i1, i2, ?_, F.bindsN fun _ _ _ _ _ _ us hl => match us, hl with | [_, _, _], _ => rfl⟩
  refine F.ok sci_NoPlace (fun vs H Q E h => ?_) (fun cdv A outer s H vs Q E hr h => ?_)
  · obtain ⟨a, ws, rfl, hl, _⟩ := h
    simp [hl]
  exact ⟨_, (pss_cons (ps_ost (pv 0) (pv 1)) (pss_one (ps_ost (pv 0) (pv 2)))), init2 rfl T (no _ (by decide)) (no _ (by decide)) h⟩
abbrev si_NoName : Stmt := initOf 11
theorem sci_NoName : FnScope ["self", "name"] ["self", "name"] (defScope si_NoName) := ⟨rfl, rfl, rfl, by decide +kernel, rfl, by decide +kernel, by decide +kernel⟩
theorem err_NoName {fd : FuncData} (c : ErrC K mg "NoName" (He.ga K "NoName")) (o : oexB K "NoName" ["name"] = true) (F : FunD K "__init__" "NoName.__init__" (defArgs si_NoName) (defBody si_NoName) (defScope si_NoName) [] [] (He.ma K (He.ga K "NoName") "__init__") fd) : ErrI P w K mg base "NoName" (He.ga K "NoName") ["name"] := by
  obtain ⟨T, i1, i2, no⟩ := oexB_ok c o
  refine ⟨c.g, T, _, fd, i1, i2, ?_, F.bindsN fun _ _ _ _ _ _ us hl => match us, hl with | [_, _], _ => rfl⟩
  refine F.ok sci_NoName (fun vs H Q E h => ?_) (fun cdv A outer s H vs Q E hr h => ?_)
  · obtain ⟨a, ws, rfl, hl, _⟩ := h
    simp [hl]
  exact ⟨_, (pss_one (ps_ost (pv 0) (pv 1))), init1 rfl T (no _ (by decide)) h⟩
abbrev si_TakenName : Stmt := initOf 12
theorem sci_TakenName : FnScope ["self", "name"] ["self", "name"] (defScope si_TakenName) := ⟨rfl, rfl, rfl, by decide +kernel, rfl, by decide +kernel, by decide +kernel⟩
theorem err_TakenName {fd : FuncData} (c : ErrC K mg "TakenName" (He.ga K "TakenName")) (o : oexB K "TakenName" ["name"] = true) (F : FunD K "__init__" "TakenName.__init__" (defArgs si_TakenName) (defBody si_TakenName) (defScope si_TakenName) [] [] (He.ma K (He.ga K "TakenName") "__init__") fd) : ErrI P w K mg base "TakenName" (He.ga K "TakenName") ["name"] := by
  obtain ⟨T, i1, i2, no⟩ := oexB_ok c o
  refine ⟨c.g, T, _, fd, i1, i2, ?_, F.bindsN fun _ _ _ _ _ _ us hl => match us, hl with | [_, _], _ => rfl⟩
  refine F.ok sci_TakenName (fun vs H Q E h => ?_) (fun cdv A outer s H vs Q E hr h => ?_)
  · obtain ⟨a, ws, rfl, hl, _⟩ := h
    simp [hl]
  exact ⟨_, (pss_one (ps_ost (pv 0) (pv 1))), init1 rfl T (no _ (by decide)) h⟩
abbrev si_Unlike : Stmt := initOf 13
theorem sci_Unlike : FnScope ["self", "what"] ["self", "what"] (defScope si_Unlike) := ⟨rfl, rfl, rfl, by decide +kernel, rfl, by decide +kernel, by decide +kernel⟩
theorem err_Unlike {fd : FuncData} (c : ErrC K mg "Unlike" (He.ga K "Unlike")) (o : oexB K "Unlike" ["what"] = true) (F : FunD K "__init__" "Unlike.__init__" (defArgs si_Unlike) (defBody si_Unlike) (defScope si_Unlike) [] [] (He.ma K (He.ga K "Unlike") "__init__") fd) : ErrI P w K mg base "Unlike" (He.ga K "Unlike") ["what"] := by
  obtain ⟨T, i1, i2, no⟩ := oexB_ok c o
  refine ⟨c.g, T, _, fd, i1, i2, ?_, F.bindsN fun _ _ _ _ _ _ us hl => match us, hl with | [_, _], _ => rfl⟩
  refine F.ok sci_Unlike (fun vs H Q E h => ?_) (fun cdv A outer s H vs Q E hr h => ?_)
  · obtain ⟨a, ws, rfl, hl, _⟩ := h
    simp [hl]
  exact ⟨_, (pss_one (ps_ost (pv 0) (pv 1))), init1 rfl T (no _ (by decide)) h⟩
abbrev si_NotThere : Stmt := initOf 14
theorem sci_NotThere : FnScope ["self", "paper"] ["self", "paper"] (defScope si_NotThere) := ⟨rfl, rfl, rfl, by decide +kernel, rfl, by decide +kernel, by decide +kernel⟩
theorem err_NotThere {fd : FuncData} (c : ErrC K mg "NotThere" (He.ga K "NotThere")) (o : oexB K "NotThere" ["paper"] = true) (F : FunD K "__init__" "NotThere.__init__" (defArgs si_NotThere) (defBody si_NotThere) (defScope si_NotThere) [] [] (He.ma K (He.ga K "NotThere") "__init__") fd) : ErrI P w K mg base "NotThere" (He.ga K "NotThere") ["paper"] := by
  obtain ⟨T, i1, i2, no⟩ := oexB_ok c o
  refine ⟨c.g, T, _, fd, i1, i2, ?_, F.bindsN fun _ _ _ _ _ _ us hl => match us, hl with | [_, _], _ => rfl⟩
  refine F.ok sci_NotThere (fun vs H Q E h => ?_) (fun cdv A outer s H vs Q E hr h => ?_)
  · obtain ⟨a, ws, rfl, hl, _⟩ := h
    simp [hl]
  exact ⟨_, (pss_one (ps_ost (pv 0) (pv 1))), init1 rfl T (no _ (by decide)) h⟩
abbrev si_TooMany : Stmt := initOf 15
theorem sci_TooMany : FnScope ["self", "what", "many", "limit"] ["self", "what", "many", "limit"] (defScope si_TooMany) := ⟨rfl, rfl, rfl, by decide +kernel, rfl, by decide +kernel, by decide +kernel⟩
theorem err_TooMany {fd : FuncData} (c : ErrC K mg "TooMany" (He.ga K "TooMany")) (o : oexB K "TooMany" ["what", "many", "limit"] = true) (F : FunD K "__init__" "TooMany.__init__" (defArgs si_TooMany) (defBody si_TooMany) (defScope si_TooMany) [] [] (He.ma K (He.ga K "TooMany") "__init__") fd) : ErrI P w K mg base "TooMany" (He.ga K "TooMany") ["what", "many", "limit"] := by
  obtain ⟨T, i1, i2, no⟩ := oexB_ok c o
  refine ⟨c.g, T, _, fd, i1, i2, ?_, F.bindsN fun _ _ _ _ _ _ us hl => match us, hl with | [_, _, _, _], _ => rfl⟩
  refine F.ok sci_TooMany (fun vs H Q E h => ?_) (fun cdv A outer s H vs Q E hr h => ?_)
  · obtain ⟨a, ws, rfl, hl, _⟩ := h
    simp [hl]
  exact ⟨_, (pss_cons (ps_ost (pv 0) (pv 1)) (pss_cons (ps_ost (pv 0) (pv 2)) (pss_one (ps_ost (pv 0) (pv 3))))), init3 rfl T (no _ (by decide)) (no _ (by decide)) (no _ (by decide)) h⟩
abbrev si_NotKept : Stmt := initOf 16
theorem sci_NotKept : FnScope ["self", "promise", "witness"] ["self", "promise", "witness"] (defScope si_NotKept) := ⟨rfl, rfl, rfl, by decide +kernel, rfl, by decide +kernel, by decide +kernel⟩
theorem err_NotKept {fd : FuncData} (c : ErrC K mg "NotKept" (He.ga K "NotKept")) (o : oexB K "NotKept" ["promise", "witness"] = true) (F : FunD K "__init__" "NotKept.__init__" (defArgs si_NotKept) (defBody si_NotKept) (defScope si_NotKept) [] [] (He.ma K (He.ga K "NotKept") "__init__") fd) : ErrI P w K mg base "NotKept" (He.ga K "NotKept") ["promise", "witness"] := by
  obtain ⟨T, i1, i2, no⟩ := oexB_ok c o
  refine ⟨c.g, T, _, fd, i1, i2, ?_, F.bindsN fun _ _ _ _ _ _ us hl => match us, hl with | [_, _, _], _ => rfl⟩
  refine F.ok sci_NotKept (fun vs H Q E h => ?_) (fun cdv A outer s H vs Q E hr h => ?_)
  · obtain ⟨a, ws, rfl, hl, _⟩ := h
    simp [hl]
  exact ⟨_, (pss_cons (ps_ost (pv 0) (pv 1)) (pss_one (ps_ost (pv 0) (pv 2)))), init2 rfl T (no _ (by decide)) (no _ (by decide)) h⟩
end
section
variable {P : Program} {w : World} {K : PySem.W.Frag} {mg : Str → Option Value} {base : Heap} {f : Addr} {fd : FuncData}
abbrev s_law_more_kinds : Stmt := top 69
theorem sc_law_more_kinds : FnScope ["e", "found"] ["e"] (defScope s_law_more_kinds) := ⟨rfl, rfl, rfl, by decide +kernel, rfl, by decide +kernel, by decide +kernel⟩

theorem ok_law_more_kinds (F : FnP K "_law_more_kinds" s_law_more_kinds f fd) (A : Errs P w K mg base) (hm : ∃ o es ep, base.get? sysModules = some o ∧ o.data = .dict es ep) (g_isinstance : mg "isinstance" = none) (g_repr : mg "repr" = none) : FnC P w K mg base (L2.CX P w) 1 f fd ["e"] (spKinds K base 8 16) := by
  refine okC F sc_law_more_kinds (fun vs H Q E h => ?_) (fun cdv B outer s H vs Q E hr h => ?_)
  · obtain ⟨a, k, v1, v2, v3, d1, d2, _, rfl, _⟩ := h
    rfl
  have nd := sc_law_more_kinds.nd
  have hu := huC hr
  have c_NoName : ErrC K mg "NoName" _ := A.c 8 (by decide)
  have c_TakenName : ErrC K mg "TakenName" _ := A.c 9 (by decide)
  have c_Unlike : ErrC K mg "Unlike" _ := A.c 10 (by decide)
  have c_NotThere : ErrC K mg "NotThere" _ := A.c 11 (by decide)
  have c_TooMany : ErrC K mg "TooMany" _ := A.c 12 (by decide)
  have c_NotKept : ErrC K mg "NotKept" _ := A.c 13 (by decide)
  have c_NothingToUndo : ErrC K mg "NothingToUndo" _ := A.c 14 (by decide)
  have c_NothingToRedo : ErrC K mg "NothingToRedo" _ := A.c 15 (by decide)
  refine ⟨_, (pss_cons (ps_set (i := 1) nd rfl (.inl rfl) (pe_lst pa_nil))
  (pss_cons (ps_if (pt_val (pe_callB call_isX (by rfl) g_isinstance (by rfl) (pa_cons (pv 0) (pa_cons (pe_glob (by rfl) c_NoName.g relRef) pa_nil)))) (pss_one (ps_expr (pe_bm PySem.F.plainAttrs_list PySem.F.slot_list_append PySem.F.type_list_append mt_append (pv 1) (pa_cons (pe_tup (pa_cons pe_str (pa_cons (pe_callB (call_reprC hm hr) (by rfl) g_repr (by rfl) (pa_cons (pe_xat (pv 0)) pa_nil)) pa_nil))) pa_nil)))) pss_nil)
  (pss_cons (ps_if (pt_val (pe_callB call_isX (by rfl) g_isinstance (by rfl) (pa_cons (pv 0) (pa_cons (pe_glob (by rfl) c_TakenName.g relRef) pa_nil)))) (pss_one (ps_expr (pe_bm PySem.F.plainAttrs_list PySem.F.slot_list_append PySem.F.type_list_append mt_append (pv 1) (pa_cons (pe_tup (pa_cons pe_str (pa_cons (pe_callB (call_reprC hm hr) (by rfl) g_repr (by rfl) (pa_cons (pe_xat (pv 0)) pa_nil)) pa_nil))) pa_nil)))) pss_nil)
  (pss_cons (ps_if (pt_val (pe_callB call_isX (by rfl) g_isinstance (by rfl) (pa_cons (pv 0) (pa_cons (pe_glob (by rfl) c_Unlike.g relRef) pa_nil)))) (pss_one (ps_expr (pe_bm PySem.F.plainAttrs_list PySem.F.slot_list_append PySem.F.type_list_append mt_append (pv 1) (pa_cons (pe_tup (pa_cons pe_str (pa_cons (pe_xat (pv 0)) pa_nil))) pa_nil)))) pss_nil)
  (pss_cons (ps_if (pt_val (pe_callB call_isX (by rfl) g_isinstance (by rfl) (pa_cons (pv 0) (pa_cons (pe_glob (by rfl) c_NotThere.g relRef) pa_nil)))) (pss_one (ps_expr (pe_bm PySem.F.plainAttrs_list PySem.F.slot_list_append PySem.F.type_list_append mt_append (pv 1) (pa_cons (pe_tup (pa_cons pe_str (pa_cons (pe_xat (pv 0)) pa_nil))) pa_nil)))) pss_nil)
  (pss_cons (ps_if (pt_val (pe_callB call_isX (by rfl) g_isinstance (by rfl) (pa_cons (pv 0) (pa_cons (pe_glob (by rfl) c_TooMany.g relRef) pa_nil)))) (pss_one (ps_expr (pe_bm PySem.F.plainAttrs_list PySem.F.slot_list_append PySem.F.type_list_append mt_append (pv 1) (pa_cons (pe_tup (pa_cons pe_str (pa_cons (pe_xat (pv 0)) (pa_cons (pe_xat (pv 0)) (pa_cons (pe_xat (pv 0)) pa_nil))))) pa_nil)))) pss_nil)
  (pss_cons (ps_if (pt_val (pe_callB call_isX (by rfl) g_isinstance (by rfl) (pa_cons (pv 0) (pa_cons (pe_glob (by rfl) c_NotKept.g relRef) pa_nil)))) (pss_one (ps_expr (pe_bm PySem.F.plainAttrs_list PySem.F.slot_list_append PySem.F.type_list_append mt_append (pv 1) (pa_cons (pe_tup (pa_cons pe_str (pa_cons (pe_xat (pv 0)) (pa_cons (pe_xat (pv 0)) pa_nil)))) pa_nil)))) pss_nil)
  (pss_cons (ps_if (pt_val (pe_callB call_isX (by rfl) g_isinstance (by rfl) (pa_cons (pv 0) (pa_cons (pe_glob (by rfl) c_NothingToUndo.g relRef) pa_nil)))) (pss_one (ps_expr (pe_bm PySem.F.plainAttrs_list PySem.F.slot_list_append PySem.F.type_list_append mt_append (pv 1) (pa_cons (pe_tup (pa_cons pe_str pa_nil)) pa_nil)))) pss_nil)
  (pss_cons (ps_if (pt_val (pe_callB call_isX (by rfl) g_isinstance (by rfl) (pa_cons (pv 0) (pa_cons (pe_glob (by rfl) c_NothingToRedo.g relRef) pa_nil)))) (pss_one (ps_expr (pe_bm PySem.F.plainAttrs_list PySem.F.slot_list_append PySem.F.type_list_append mt_append (pv 1) (pa_cons (pe_tup (pa_cons pe_str pa_nil)) pa_nil)))) pss_nil)
  (pss_one (ps_ret (pv 1)))))))))))), ?_⟩
  obtain ⟨a, k, v1, v2, v3, d1, d2, hk, rfl, hx, hf, q⟩ := h
  refine ⟨by show (0 : Nat) ≤ sizeLine; decide, fun l hl => ?_⟩
  have sm1 : Same H (upd H l (.lst [])) := same_new hl
  have hx1 := hx.mono sm1
  match k, hk, hx, hx1, hf, q with
  | 0, _, hx, hx1, hf, q =>
    refine ⟨_, rfl, a, _, _, _, _, _, rfl, hx1, (A.c 0 (by decide)).X, fun u r => r, A.is 0 8 (by decide) (by decide), _, rfl, ite_no (by decide) ?_⟩
    refine ⟨_, rfl, a, _, _, _, _, _, rfl, hx1, (A.c 0 (by decide)).X, fun u r => r, A.is 0 9 (by decide) (by decide), _, rfl, ite_no (by decide) ?_⟩
    refine ⟨_, rfl, a, _, _, _, _, _, rfl, hx1, (A.c 0 (by decide)).X, fun u r => r, A.is 0 10 (by decide) (by decide), _, rfl, ite_no (by decide) ?_⟩
    refine ⟨_, rfl, a, _, _, _, _, _, rfl, hx1, (A.c 0 (by decide)).X, fun u r => r, A.is 0 11 (by decide) (by decide), _, rfl, ite_no (by decide) ?_⟩
    refine ⟨_, rfl, a, _, _, _, _, _, rfl, hx1, (A.c 0 (by decide)).X, fun u r => r, A.is 0 12 (by decide) (by decide), _, rfl, ite_no (by decide) ?_⟩
    refine ⟨_, rfl, a, _, _, _, _, _, rfl, hx1, (A.c 0 (by decide)).X, fun u r => r, A.is 0 13 (by decide) (by decide), _, rfl, ite_no (by decide) ?_⟩
    refine ⟨_, rfl, a, _, _, _, _, _, rfl, hx1, (A.c 0 (by decide)).X, fun u r => r, A.is 0 14 (by decide) (by decide), _, rfl, ite_no (by decide) ?_⟩
    refine ⟨_, rfl, a, _, _, _, _, _, rfl, hx1, (A.c 0 (by decide)).X, fun u r => r, A.is 0 15 (by decide) (by decide), _, rfl, ite_no (by decide) ?_⟩
    exact ⟨_, rfl, q l 0 _ sm1 hl upd_same fun z => absurd z (by decide)⟩
  | 1, _, hx, hx1, hf, q =>
    refine ⟨_, rfl, a, _, _, _, _, _, rfl, hx1, (A.c 1 (by decide)).X, fun u r => r, A.is 1 8 (by decide) (by decide), _, rfl, ite_no (by decide) ?_⟩
    refine ⟨_, rfl, a, _, _, _, _, _, rfl, hx1, (A.c 1 (by decide)).X, fun u r => r, A.is 1 9 (by decide) (by decide), _, rfl, ite_no (by decide) ?_⟩
    refine ⟨_, rfl, a, _, _, _, _, _, rfl, hx1, (A.c 1 (by decide)).X, fun u r => r, A.is 1 10 (by decide) (by decide), _, rfl, ite_no (by decide) ?_⟩
    refine ⟨_, rfl, a, _, _, _, _, _, rfl, hx1, (A.c 1 (by decide)).X, fun u r => r, A.is 1 11 (by decide) (by decide), _, rfl, ite_no (by decide) ?_⟩
    refine ⟨_, rfl, a, _, _, _, _, _, rfl, hx1, (A.c 1 (by decide)).X, fun u r => r, A.is 1 12 (by decide) (by decide), _, rfl, ite_no (by decide) ?_⟩
    refine ⟨_, rfl, a, _, _, _, _, _, rfl, hx1, (A.c 1 (by decide)).X, fun u r => r, A.is 1 13 (by decide) (by decide), _, rfl, ite_no (by decide) ?_⟩
    refine ⟨_, rfl, a, _, _, _, _, _, rfl, hx1, (A.c 1 (by decide)).X, fun u r => r, A.is 1 14 (by decide) (by decide), _, rfl, ite_no (by decide) ?_⟩
    refine ⟨_, rfl, a, _, _, _, _, _, rfl, hx1, (A.c 1 (by decide)).X, fun u r => r, A.is 1 15 (by decide) (by decide), _, rfl, ite_no (by decide) ?_⟩
    exact ⟨_, rfl, q l 0 _ sm1 hl upd_same fun z => absurd z (by decide)⟩
  | 2, _, hx, hx1, hf, q =>
    refine ⟨_, rfl, a, _, _, _, _, _, rfl, hx1, (A.c 2 (by decide)).X, fun u r => r, A.is 2 8 (by decide) (by decide), _, rfl, ite_no (by decide) ?_⟩
    refine ⟨_, rfl, a, _, _, _, _, _, rfl, hx1, (A.c 2 (by decide)).X, fun u r => r, A.is 2 9 (by decide) (by decide), _, rfl, ite_no (by decide) ?_⟩
    refine ⟨_, rfl, a, _, _, _, _, _, rfl, hx1, (A.c 2 (by decide)).X, fun u r => r, A.is 2 10 (by decide) (by decide), _, rfl, ite_no (by decide) ?_⟩
    refine ⟨_, rfl, a, _, _, _, _, _, rfl, hx1, (A.c 2 (by decide)).X, fun u r => r, A.is 2 11 (by decide) (by decide), _, rfl, ite_no (by decide) ?_⟩
    refine ⟨_, rfl, a, _, _, _, _, _, rfl, hx1, (A.c 2 (by decide)).X, fun u r => r, A.is 2 12 (by decide) (by decide), _, rfl, ite_no (by decide) ?_⟩
    refine ⟨_, rfl, a, _, _, _, _, _, rfl, hx1, (A.c 2 (by decide)).X, fun u r => r, A.is 2 13 (by decide) (by decide), _, rfl, ite_no (by decide) ?_⟩
    refine ⟨_, rfl, a, _, _, _, _, _, rfl, hx1, (A.c 2 (by decide)).X, fun u r => r, A.is 2 14 (by decide) (by decide), _, rfl, ite_no (by decide) ?_⟩
    refine ⟨_, rfl, a, _, _, _, _, _, rfl, hx1, (A.c 2 (by decide)).X, fun u r => r, A.is 2 15 (by decide) (by decide), _, rfl, ite_no (by decide) ?_⟩
    exact ⟨_, rfl, q l 0 _ sm1 hl upd_same fun z => absurd z (by decide)⟩
  | 3, _, hx, hx1, hf, q =>
    refine ⟨_, rfl, a, _, _, _, _, _, rfl, hx1, (A.c 3 (by decide)).X, fun u r => r, A.is 3 8 (by decide) (by decide), _, rfl, ite_no (by decide) ?_⟩
    refine ⟨_, rfl, a, _, _, _, _, _, rfl, hx1, (A.c 3 (by decide)).X, fun u r => r, A.is 3 9 (by decide) (by decide), _, rfl, ite_no (by decide) ?_⟩
    refine ⟨_, rfl, a, _, _, _, _, _, rfl, hx1, (A.c 3 (by decide)).X, fun u r => r, A.is 3 10 (by decide) (by decide), _, rfl, ite_no (by decide) ?_⟩
    refine ⟨_, rfl, a, _, _, _, _, _, rfl, hx1, (A.c 3 (by decide)).X, fun u r => r, A.is 3 11 (by decide) (by decide), _, rfl, ite_no (by decide) ?_⟩
    refine ⟨_, rfl, a, _, _, _, _, _, rfl, hx1, (A.c 3 (by decide)).X, fun u r => r, A.is 3 12 (by decide) (by decide), _, rfl, ite_no (by decide) ?_⟩
    refine ⟨_, rfl, a, _, _, _, _, _, rfl, hx1, (A.c 3 (by decide)).X, fun u r => r, A.is 3 13 (by decide) (by decide), _, rfl, ite_no (by decide) ?_⟩
    refine ⟨_, rfl, a, _, _, _, _, _, rfl, hx1, (A.c 3 (by decide)).X, fun u r => r, A.is 3 14 (by decide) (by decide), _, rfl, ite_no (by decide) ?_⟩
    refine ⟨_, rfl, a, _, _, _, _, _, rfl, hx1, (A.c 3 (by decide)).X, fun u r => r, A.is 3 15 (by decide) (by decide), _, rfl, ite_no (by decide) ?_⟩
    exact ⟨_, rfl, q l 0 _ sm1 hl upd_same fun z => absurd z (by decide)⟩
  | 4, _, hx, hx1, hf, q =>
    refine ⟨_, rfl, a, _, _, _, _, _, rfl, hx1, (A.c 4 (by decide)).X, fun u r => r, A.is 4 8 (by decide) (by decide), _, rfl, ite_no (by decide) ?_⟩
    refine ⟨_, rfl, a, _, _, _, _, _, rfl, hx1, (A.c 4 (by decide)).X, fun u r => r, A.is 4 9 (by decide) (by decide), _, rfl, ite_no (by decide) ?_⟩
    refine ⟨_, rfl, a, _, _, _, _, _, rfl, hx1, (A.c 4 (by decide)).X, fun u r => r, A.is 4 10 (by decide) (by decide), _, rfl, ite_no (by decide) ?_⟩
    refine ⟨_, rfl, a, _, _, _, _, _, rfl, hx1, (A.c 4 (by decide)).X, fun u r => r, A.is 4 11 (by decide) (by decide), _, rfl, ite_no (by decide) ?_⟩
    refine ⟨_, rfl, a, _, _, _, _, _, rfl, hx1, (A.c 4 (by decide)).X, fun u r => r, A.is 4 12 (by decide) (by decide), _, rfl, ite_no (by decide) ?_⟩
    refine ⟨_, rfl, a, _, _, _, _, _, rfl, hx1, (A.c 4 (by decide)).X, fun u r => r, A.is 4 13 (by decide) (by decide), _, rfl, ite_no (by decide) ?_⟩
    refine ⟨_, rfl, a, _, _, _, _, _, rfl, hx1, (A.c 4 (by decide)).X, fun u r => r, A.is 4 14 (by decide) (by decide), _, rfl, ite_no (by decide) ?_⟩
    refine ⟨_, rfl, a, _, _, _, _, _, rfl, hx1, (A.c 4 (by decide)).X, fun u r => r, A.is 4 15 (by decide) (by decide), _, rfl, ite_no (by decide) ?_⟩
    exact ⟨_, rfl, q l 0 _ sm1 hl upd_same fun z => absurd z (by decide)⟩
  | 5, _, hx, hx1, hf, q =>
    refine ⟨_, rfl, a, _, _, _, _, _, rfl, hx1, (A.c 5 (by decide)).X, fun u r => r, A.is 5 8 (by decide) (by decide), _, rfl, ite_no (by decide) ?_⟩
    refine ⟨_, rfl, a, _, _, _, _, _, rfl, hx1, (A.c 5 (by decide)).X, fun u r => r, A.is 5 9 (by decide) (by decide), _, rfl, ite_no (by decide) ?_⟩
    refine ⟨_, rfl, a, _, _, _, _, _, rfl, hx1, (A.c 5 (by decide)).X, fun u r => r, A.is 5 10 (by decide) (by decide), _, rfl, ite_no (by decide) ?_⟩
    refine ⟨_, rfl, a, _, _, _, _, _, rfl, hx1, (A.c 5 (by decide)).X, fun u r => r, A.is 5 11 (by decide) (by decide), _, rfl, ite_no (by decide) ?_⟩
    refine ⟨_, rfl, a, _, _, _, _, _, rfl, hx1, (A.c 5 (by decide)).X, fun u r => r, A.is 5 12 (by decide) (by decide), _, rfl, ite_no (by decide) ?_⟩
    refine ⟨_, rfl, a, _, _, _, _, _, rfl, hx1, (A.c 5 (by decide)).X, fun u r => r, A.is 5 13 (by decide) (by decide), _, rfl, ite_no (by decide) ?_⟩
    refine ⟨_, rfl, a, _, _, _, _, _, rfl, hx1, (A.c 5 (by decide)).X, fun u r => r, A.is 5 14 (by decide) (by decide), _, rfl, ite_no (by decide) ?_⟩
    refine ⟨_, rfl, a, _, _, _, _, _, rfl, hx1, (A.c 5 (by decide)).X, fun u r => r, A.is 5 15 (by decide) (by decide), _, rfl, ite_no (by decide) ?_⟩
    exact ⟨_, rfl, q l 0 _ sm1 hl upd_same fun z => absurd z (by decide)⟩
  | 6, _, hx, hx1, hf, q =>
    refine ⟨_, rfl, a, _, _, _, _, _, rfl, hx1, (A.c 6 (by decide)).X, fun u r => r, A.is 6 8 (by decide) (by decide), _, rfl, ite_no (by decide) ?_⟩
    refine ⟨_, rfl, a, _, _, _, _, _, rfl, hx1, (A.c 6 (by decide)).X, fun u r => r, A.is 6 9 (by decide) (by decide), _, rfl, ite_no (by decide) ?_⟩
    refine ⟨_, rfl, a, _, _, _, _, _, rfl, hx1, (A.c 6 (by decide)).X, fun u r => r, A.is 6 10 (by decide) (by decide), _, rfl, ite_no (by decide) ?_⟩
    refine ⟨_, rfl, a, _, _, _, _, _, rfl, hx1, (A.c 6 (by decide)).X, fun u r => r, A.is 6 11 (by decide) (by decide), _, rfl, ite_no (by decide) ?_⟩
    refine ⟨_, rfl, a, _, _, _, _, _, rfl, hx1, (A.c 6 (by decide)).X, fun u r => r, A.is 6 12 (by decide) (by decide), _, rfl, ite_no (by decide) ?_⟩
    refine ⟨_, rfl, a, _, _, _, _, _, rfl, hx1, (A.c 6 (by decide)).X, fun u r => r, A.is 6 13 (by decide) (by decide), _, rfl, ite_no (by decide) ?_⟩
    refine ⟨_, rfl, a, _, _, _, _, _, rfl, hx1, (A.c 6 (by decide)).X, fun u r => r, A.is 6 14 (by decide) (by decide), _, rfl, ite_no (by decide) ?_⟩
    refine ⟨_, rfl, a, _, _, _, _, _, rfl, hx1, (A.c 6 (by decide)).X, fun u r => r, A.is 6 15 (by decide) (by decide), _, rfl, ite_no (by decide) ?_⟩
    exact ⟨_, rfl, q l 0 _ sm1 hl upd_same fun z => absurd z (by decide)⟩
  | 7, _, hx, hx1, hf, q =>
    refine ⟨_, rfl, a, _, _, _, _, _, rfl, hx1, (A.c 7 (by decide)).X, fun u r => r, A.is 7 8 (by decide) (by decide), _, rfl, ite_no (by decide) ?_⟩
    refine ⟨_, rfl, a, _, _, _, _, _, rfl, hx1, (A.c 7 (by decide)).X, fun u r => r, A.is 7 9 (by decide) (by decide), _, rfl, ite_no (by decide) ?_⟩
    refine ⟨_, rfl, a, _, _, _, _, _, rfl, hx1, (A.c 7 (by decide)).X, fun u r => r, A.is 7 10 (by decide) (by decide), _, rfl, ite_no (by decide) ?_⟩
    refine ⟨_, rfl, a, _, _, _, _, _, rfl, hx1, (A.c 7 (by decide)).X, fun u r => r, A.is 7 11 (by decide) (by decide), _, rfl, ite_no (by decide) ?_⟩
    refine ⟨_, rfl, a, _, _, _, _, _, rfl, hx1, (A.c 7 (by decide)).X, fun u r => r, A.is 7 12 (by decide) (by decide), _, rfl, ite_no (by decide) ?_⟩
    refine ⟨_, rfl, a, _, _, _, _, _, rfl, hx1, (A.c 7 (by decide)).X, fun u r => r, A.is 7 13 (by decide) (by decide), _, rfl, ite_no (by decide) ?_⟩
    refine ⟨_, rfl, a, _, _, _, _, _, rfl, hx1, (A.c 7 (by decide)).X, fun u r => r, A.is 7 14 (by decide) (by decide), _, rfl, ite_no (by decide) ?_⟩
    refine ⟨_, rfl, a, _, _, _, _, _, rfl, hx1, (A.c 7 (by decide)).X, fun u r => r, A.is 7 15 (by decide) (by decide), _, rfl, ite_no (by decide) ?_⟩
    exact ⟨_, rfl, q l 0 _ sm1 hl upd_same fun z => absurd z (by decide)⟩
  | 8, _, hx, hx1, hf, q =>
    refine ⟨_, rfl, a, _, _, _, _, _, rfl, hx1, (A.c 8 (by decide)).X, fun u r => r, A.is 8 8 (by decide) (by decide), _, rfl, ite_ye (by decide) ?_⟩
    refine ⟨_, rfl, ty_list upd_same, ?_⟩
    refine ⟨_, rfl, a, _, _, _, rfl, hx1, (A.c 8 (by decide)).X, A.no 8 _ (by decide) (by decide), rfl, ?_⟩
    refine ⟨_, d1, rfl, (hf.h1 rfl).1.mono sm1, (Gd.rep (hf.h1 rfl).2 (by decide) (by decide)).1, (Gd.rep (hf.h1 rfl).2 (by decide) (by decide)).2.1, (Gd.rep (hf.h1 rfl).2 (by decide) (by decide)).2.2, ?_⟩
    refine ⟨by show (2 : Nat) ≤ sizeLine; decide, fun t ht => ?_⟩
    have htl : t ≠ l := fun z => by rw [z, upd_same] at ht; cases ht
    have ht0 : H t = none := by rw [upd_ne htl] at ht; exact ht
    refine ⟨l, [], _, rfl, rfl, by rw [upd_ne (Ne.symm htl), upd_same], by show (0 : Nat) < sizeLine; decide, ?_⟩
    have sm2 : Same H (upd (upd (upd H l (.lst [])) t (.tup (told v1 v2 v3 d1.shown d2.shown 8))) l (.lst ([] ++ [V.ref t]))) := fun b o e => by rw [upd_ne (ne_of_none e hl), upd_ne (ne_of_none e ht0), upd_ne (ne_of_none e hl)]; exact e
    have hx2 := hx.mono sm2
    refine ⟨_, rfl, a, _, _, _, _, _, rfl, hx2, (A.c 8 (by decide)).X, fun u r => r, A.is 8 9 (by decide) (by decide), _, rfl, ite_no (by decide) ?_⟩
    refine ⟨_, rfl, a, _, _, _, _, _, rfl, hx2, (A.c 8 (by decide)).X, fun u r => r, A.is 8 10 (by decide) (by decide), _, rfl, ite_no (by decide) ?_⟩
    refine ⟨_, rfl, a, _, _, _, _, _, rfl, hx2, (A.c 8 (by decide)).X, fun u r => r, A.is 8 11 (by decide) (by decide), _, rfl, ite_no (by decide) ?_⟩
    refine ⟨_, rfl, a, _, _, _, _, _, rfl, hx2, (A.c 8 (by decide)).X, fun u r => r, A.is 8 12 (by decide) (by decide), _, rfl, ite_no (by decide) ?_⟩
    refine ⟨_, rfl, a, _, _, _, _, _, rfl, hx2, (A.c 8 (by decide)).X, fun u r => r, A.is 8 13 (by decide) (by decide), _, rfl, ite_no (by decide) ?_⟩
    refine ⟨_, rfl, a, _, _, _, _, _, rfl, hx2, (A.c 8 (by decide)).X, fun u r => r, A.is 8 14 (by decide) (by decide), _, rfl, ite_no (by decide) ?_⟩
    refine ⟨_, rfl, a, _, _, _, _, _, rfl, hx2, (A.c 8 (by decide)).X, fun u r => r, A.is 8 15 (by decide) (by decide), _, rfl, ite_no (by decide) ?_⟩
    exact ⟨_, rfl, q l t _ sm2 hl upd_same fun _ _ => by rw [upd_ne htl, upd_same]; rfl⟩
  | 9, _, hx, hx1, hf, q =>
    refine ⟨_, rfl, a, _, _, _, _, _, rfl, hx1, (A.c 9 (by decide)).X, fun u r => r, A.is 9 8 (by decide) (by decide), _, rfl, ite_no (by decide) ?_⟩
    refine ⟨_, rfl, a, _, _, _, _, _, rfl, hx1, (A.c 9 (by decide)).X, fun u r => r, A.is 9 9 (by decide) (by decide), _, rfl, ite_ye (by decide) ?_⟩
    refine ⟨_, rfl, ty_list upd_same, ?_⟩
    refine ⟨_, rfl, a, _, _, _, rfl, hx1, (A.c 9 (by decide)).X, A.no 9 _ (by decide) (by decide), rfl, ?_⟩
    refine ⟨_, d1, rfl, (hf.h1 rfl).1.mono sm1, (Gd.rep (hf.h1 rfl).2 (by decide) (by decide)).1, (Gd.rep (hf.h1 rfl).2 (by decide) (by decide)).2.1, (Gd.rep (hf.h1 rfl).2 (by decide) (by decide)).2.2, ?_⟩
    refine ⟨by show (2 : Nat) ≤ sizeLine; decide, fun t ht => ?_⟩
    have htl : t ≠ l := fun z => by rw [z, upd_same] at ht; cases ht
    have ht0 : H t = none := by rw [upd_ne htl] at ht; exact ht
    refine ⟨l, [], _, rfl, rfl, by rw [upd_ne (Ne.symm htl), upd_same], by show (0 : Nat) < sizeLine; decide, ?_⟩
    have sm2 : Same H (upd (upd (upd H l (.lst [])) t (.tup (told v1 v2 v3 d1.shown d2.shown 9))) l (.lst ([] ++ [V.ref t]))) := fun b o e => by rw [upd_ne (ne_of_none e hl), upd_ne (ne_of_none e ht0), upd_ne (ne_of_none e hl)]; exact e
    have hx2 := hx.mono sm2
    refine ⟨_, rfl, a, _, _, _, _, _, rfl, hx2, (A.c 9 (by decide)).X, fun u r => r, A.is 9 10 (by decide) (by decide), _, rfl, ite_no (by decide) ?_⟩
    refine ⟨_, rfl, a, _, _, _, _, _, rfl, hx2, (A.c 9 (by decide)).X, fun u r => r, A.is 9 11 (by decide) (by decide), _, rfl, ite_no (by decide) ?_⟩
    refine ⟨_, rfl, a, _, _, _, _, _, rfl, hx2, (A.c 9 (by decide)).X, fun u r => r, A.is 9 12 (by decide) (by decide), _, rfl, ite_no (by decide) ?_⟩
    refine ⟨_, rfl, a, _, _, _, _, _, rfl, hx2, (A.c 9 (by decide)).X, fun u r => r, A.is 9 13 (by decide) (by decide), _, rfl, ite_no (by decide) ?_⟩
    refine ⟨_, rfl, a, _, _, _, _, _, rfl, hx2, (A.c 9 (by decide)).X, fun u r => r, A.is 9 14 (by decide) (by decide), _, rfl, ite_no (by decide) ?_⟩
    refine ⟨_, rfl, a, _, _, _, _, _, rfl, hx2, (A.c 9 (by decide)).X, fun u r => r, A.is 9 15 (by decide) (by decide), _, rfl, ite_no (by decide) ?_⟩
    exact ⟨_, rfl, q l t _ sm2 hl upd_same fun _ _ => by rw [upd_ne htl, upd_same]; rfl⟩
  | 10, _, hx, hx1, hf, q =>
    refine ⟨_, rfl, a, _, _, _, _, _, rfl, hx1, (A.c 10 (by decide)).X, fun u r => r, A.is 10 8 (by decide) (by decide), _, rfl, ite_no (by decide) ?_⟩
    refine ⟨_, rfl, a, _, _, _, _, _, rfl, hx1, (A.c 10 (by decide)).X, fun u r => r, A.is 10 9 (by decide) (by decide), _, rfl, ite_no (by decide) ?_⟩
    refine ⟨_, rfl, a, _, _, _, _, _, rfl, hx1, (A.c 10 (by decide)).X, fun u r => r, A.is 10 10 (by decide) (by decide), _, rfl, ite_ye (by decide) ?_⟩
    refine ⟨_, rfl, ty_list upd_same, ?_⟩
    refine ⟨_, rfl, a, _, _, _, rfl, hx1, (A.c 10 (by decide)).X, A.no 10 _ (by decide) (by decide), rfl, ?_⟩
    refine ⟨by show (2 : Nat) ≤ sizeLine; decide, fun t ht => ?_⟩
    have htl : t ≠ l := fun z => by rw [z, upd_same] at ht; cases ht
    have ht0 : H t = none := by rw [upd_ne htl] at ht; exact ht
    refine ⟨l, [], _, rfl, rfl, by rw [upd_ne (Ne.symm htl), upd_same], by show (0 : Nat) < sizeLine; decide, ?_⟩
    have sm2 : Same H (upd (upd (upd H l (.lst [])) t (.tup (told v1 v2 v3 d1.shown d2.shown 10))) l (.lst ([] ++ [V.ref t]))) := fun b o e => by rw [upd_ne (ne_of_none e hl), upd_ne (ne_of_none e ht0), upd_ne (ne_of_none e hl)]; exact e
    have hx2 := hx.mono sm2
    refine ⟨_, rfl, a, _, _, _, _, _, rfl, hx2, (A.c 10 (by decide)).X, fun u r => r, A.is 10 11 (by decide) (by decide), _, rfl, ite_no (by decide) ?_⟩
    refine ⟨_, rfl, a, _, _, _, _, _, rfl, hx2, (A.c 10 (by decide)).X, fun u r => r, A.is 10 12 (by decide) (by decide), _, rfl, ite_no (by decide) ?_⟩
    refine ⟨_, rfl, a, _, _, _, _, _, rfl, hx2, (A.c 10 (by decide)).X, fun u r => r, A.is 10 13 (by decide) (by decide), _, rfl, ite_no (by decide) ?_⟩
    refine ⟨_, rfl, a, _, _, _, _, _, rfl, hx2, (A.c 10 (by decide)).X, fun u r => r, A.is 10 14 (by decide) (by decide), _, rfl, ite_no (by decide) ?_⟩
    refine ⟨_, rfl, a, _, _, _, _, _, rfl, hx2, (A.c 10 (by decide)).X, fun u r => r, A.is 10 15 (by decide) (by decide), _, rfl, ite_no (by decide) ?_⟩
    exact ⟨_, rfl, q l t _ sm2 hl upd_same fun _ _ => by rw [upd_ne htl, upd_same]; rfl⟩
  | 11, _, hx, hx1, hf, q =>
    refine ⟨_, rfl, a, _, _, _, _, _, rfl, hx1, (A.c 11 (by decide)).X, fun u r => r, A.is 11 8 (by decide) (by decide), _, rfl, ite_no (by decide) ?_⟩
    refine ⟨_, rfl, a, _, _, _, _, _, rfl, hx1, (A.c 11 (by decide)).X, fun u r => r, A.is 11 9 (by decide) (by decide), _, rfl, ite_no (by decide) ?_⟩
    refine ⟨_, rfl, a, _, _, _, _, _, rfl, hx1, (A.c 11 (by decide)).X, fun u r => r, A.is 11 10 (by decide) (by decide), _, rfl, ite_no (by decide) ?_⟩
    refine ⟨_, rfl, a, _, _, _, _, _, rfl, hx1, (A.c 11 (by decide)).X, fun u r => r, A.is 11 11 (by decide) (by decide), _, rfl, ite_ye (by decide) ?_⟩
    refine ⟨_, rfl, ty_list upd_same, ?_⟩
    refine ⟨_, rfl, a, _, _, _, rfl, hx1, (A.c 11 (by decide)).X, A.no 11 _ (by decide) (by decide), rfl, ?_⟩
    refine ⟨by show (2 : Nat) ≤ sizeLine; decide, fun t ht => ?_⟩
    have htl : t ≠ l := fun z => by rw [z, upd_same] at ht; cases ht
    have ht0 : H t = none := by rw [upd_ne htl] at ht; exact ht
    refine ⟨l, [], _, rfl, rfl, by rw [upd_ne (Ne.symm htl), upd_same], by show (0 : Nat) < sizeLine; decide, ?_⟩
    have sm2 : Same H (upd (upd (upd H l (.lst [])) t (.tup (told v1 v2 v3 d1.shown d2.shown 11))) l (.lst ([] ++ [V.ref t]))) := fun b o e => by rw [upd_ne (ne_of_none e hl), upd_ne (ne_of_none e ht0), upd_ne (ne_of_none e hl)]; exact e
    have hx2 := hx.mono sm2
    refine ⟨_, rfl, a, _, _, _, _, _, rfl, hx2, (A.c 11 (by decide)).X, fun u r => r, A.is 11 12 (by decide) (by decide), _, rfl, ite_no (by decide) ?_⟩
    refine ⟨_, rfl, a, _, _, _, _, _, rfl, hx2, (A.c 11 (by decide)).X, fun u r => r, A.is 11 13 (by decide) (by decide), _, rfl, ite_no (by decide) ?_⟩
    refine ⟨_, rfl, a, _, _, _, _, _, rfl, hx2, (A.c 11 (by decide)).X, fun u r => r, A.is 11 14 (by decide) (by decide), _, rfl, ite_no (by decide) ?_⟩
    refine ⟨_, rfl, a, _, _, _, _, _, rfl, hx2, (A.c 11 (by decide)).X, fun u r => r, A.is 11 15 (by decide) (by decide), _, rfl, ite_no (by decide) ?_⟩
    exact ⟨_, rfl, q l t _ sm2 hl upd_same fun _ _ => by rw [upd_ne htl, upd_same]; rfl⟩
  | 12, _, hx, hx1, hf, q =>
    refine ⟨_, rfl, a, _, _, _, _, _, rfl, hx1, (A.c 12 (by decide)).X, fun u r => r, A.is 12 8 (by decide) (by decide), _, rfl, ite_no (by decide) ?_⟩
    refine ⟨_, rfl, a, _, _, _, _, _, rfl, hx1, (A.c 12 (by decide)).X, fun u r => r, A.is 12 9 (by decide) (by decide), _, rfl, ite_no (by decide) ?_⟩
    refine ⟨_, rfl, a, _, _, _, _, _, rfl, hx1, (A.c 12 (by decide)).X, fun u r => r, A.is 12 10 (by decide) (by decide), _, rfl, ite_no (by decide) ?_⟩
    refine ⟨_, rfl, a, _, _, _, _, _, rfl, hx1, (A.c 12 (by decide)).X, fun u r => r, A.is 12 11 (by decide) (by decide), _, rfl, ite_no (by decide) ?_⟩
    refine ⟨_, rfl, a, _, _, _, _, _, rfl, hx1, (A.c 12 (by decide)).X, fun u r => r, A.is 12 12 (by decide) (by decide), _, rfl, ite_ye (by decide) ?_⟩
    refine ⟨_, rfl, ty_list upd_same, ?_⟩
    refine ⟨_, rfl, a, _, _, _, rfl, hx1, (A.c 12 (by decide)).X, A.no 12 _ (by decide) (by decide), rfl, ?_⟩
    refine ⟨_, rfl, a, _, _, _, rfl, hx1, (A.c 12 (by decide)).X, A.no 12 _ (by decide) (by decide), rfl, ?_⟩
    refine ⟨_, rfl, a, _, _, _, rfl, hx1, (A.c 12 (by decide)).X, A.no 12 _ (by decide) (by decide), rfl, ?_⟩
    refine ⟨by show (4 : Nat) ≤ sizeLine; decide, fun t ht => ?_⟩
    have htl : t ≠ l := fun z => by rw [z, upd_same] at ht; cases ht
    have ht0 : H t = none := by rw [upd_ne htl] at ht; exact ht
    refine ⟨l, [], _, rfl, rfl, by rw [upd_ne (Ne.symm htl), upd_same], by show (0 : Nat) < sizeLine; decide, ?_⟩
    have sm2 : Same H (upd (upd (upd H l (.lst [])) t (.tup (told v1 v2 v3 d1.shown d2.shown 12))) l (.lst ([] ++ [V.ref t]))) := fun b o e => by rw [upd_ne (ne_of_none e hl), upd_ne (ne_of_none e ht0), upd_ne (ne_of_none e hl)]; exact e
    have hx2 := hx.mono sm2
    refine ⟨_, rfl, a, _, _, _, _, _, rfl, hx2, (A.c 12 (by decide)).X, fun u r => r, A.is 12 13 (by decide) (by decide), _, rfl, ite_no (by decide) ?_⟩
    refine ⟨_, rfl, a, _, _, _, _, _, rfl, hx2, (A.c 12 (by decide)).X, fun u r => r, A.is 12 14 (by decide) (by decide), _, rfl, ite_no (by decide) ?_⟩
    refine ⟨_, rfl, a, _, _, _, _, _, rfl, hx2, (A.c 12 (by decide)).X, fun u r => r, A.is 12 15 (by decide) (by decide), _, rfl, ite_no (by decide) ?_⟩
    exact ⟨_, rfl, q l t _ sm2 hl upd_same fun _ _ => by rw [upd_ne htl, upd_same]; rfl⟩
  | 13, _, hx, hx1, hf, q =>
    refine ⟨_, rfl, a, _, _, _, _, _, rfl, hx1, (A.c 13 (by decide)).X, fun u r => r, A.is 13 8 (by decide) (by decide), _, rfl, ite_no (by decide) ?_⟩
    refine ⟨_, rfl, a, _, _, _, _, _, rfl, hx1, (A.c 13 (by decide)).X, fun u r => r, A.is 13 9 (by decide) (by decide), _, rfl, ite_no (by decide) ?_⟩
    refine ⟨_, rfl, a, _, _, _, _, _, rfl, hx1, (A.c 13 (by decide)).X, fun u r => r, A.is 13 10 (by decide) (by decide), _, rfl, ite_no (by decide) ?_⟩
    refine ⟨_, rfl, a, _, _, _, _, _, rfl, hx1, (A.c 13 (by decide)).X, fun u r => r, A.is 13 11 (by decide) (by decide), _, rfl, ite_no (by decide) ?_⟩
    refine ⟨_, rfl, a, _, _, _, _, _, rfl, hx1, (A.c 13 (by decide)).X, fun u r => r, A.is 13 12 (by decide) (by decide), _, rfl, ite_no (by decide) ?_⟩
    refine ⟨_, rfl, a, _, _, _, _, _, rfl, hx1, (A.c 13 (by decide)).X, fun u r => r, A.is 13 13 (by decide) (by decide), _, rfl, ite_ye (by decide) ?_⟩
    refine ⟨_, rfl, ty_list upd_same, ?_⟩
    refine ⟨_, rfl, a, _, _, _, rfl, hx1, (A.c 13 (by decide)).X, A.no 13 _ (by decide) (by decide), rfl, ?_⟩
    refine ⟨_, rfl, a, _, _, _, rfl, hx1, (A.c 13 (by decide)).X, A.no 13 _ (by decide) (by decide), rfl, ?_⟩
    refine ⟨by show (3 : Nat) ≤ sizeLine; decide, fun t ht => ?_⟩
    have htl : t ≠ l := fun z => by rw [z, upd_same] at ht; cases ht
    have ht0 : H t = none := by rw [upd_ne htl] at ht; exact ht
    refine ⟨l, [], _, rfl, rfl, by rw [upd_ne (Ne.symm htl), upd_same], by show (0 : Nat) < sizeLine; decide, ?_⟩
    have sm2 : Same H (upd (upd (upd H l (.lst [])) t (.tup (told v1 v2 v3 d1.shown d2.shown 13))) l (.lst ([] ++ [V.ref t]))) := fun b o e => by rw [upd_ne (ne_of_none e hl), upd_ne (ne_of_none e ht0), upd_ne (ne_of_none e hl)]; exact e
    have hx2 := hx.mono sm2
    refine ⟨_, rfl, a, _, _, _, _, _, rfl, hx2, (A.c 13 (by decide)).X, fun u r => r, A.is 13 14 (by decide) (by decide), _, rfl, ite_no (by decide) ?_⟩
    refine ⟨_, rfl, a, _, _, _, _, _, rfl, hx2, (A.c 13 (by decide)).X, fun u r => r, A.is 13 15 (by decide) (by decide), _, rfl, ite_no (by decide) ?_⟩
    exact ⟨_, rfl, q l t _ sm2 hl upd_same fun _ _ => by rw [upd_ne htl, upd_same]; rfl⟩
  | 14, _, hx, hx1, hf, q =>
    refine ⟨_, rfl, a, _, _, _, _, _, rfl, hx1, (A.c 14 (by decide)).X, fun u r => r, A.is 14 8 (by decide) (by decide), _, rfl, ite_no (by decide) ?_⟩
    refine ⟨_, rfl, a, _, _, _, _, _, rfl, hx1, (A.c 14 (by decide)).X, fun u r => r, A.is 14 9 (by decide) (by decide), _, rfl, ite_no (by decide) ?_⟩
    refine ⟨_, rfl, a, _, _, _, _, _, rfl, hx1, (A.c 14 (by decide)).X, fun u r => r, A.is 14 10 (by decide) (by decide), _, rfl, ite_no (by decide) ?_⟩
    refine ⟨_, rfl, a, _, _, _, _, _, rfl, hx1, (A.c 14 (by decide)).X, fun u r => r, A.is 14 11 (by decide) (by decide), _, rfl, ite_no (by decide) ?_⟩
    refine ⟨_, rfl, a, _, _, _, _, _, rfl, hx1, (A.c 14 (by decide)).X, fun u r => r, A.is 14 12 (by decide) (by decide), _, rfl, ite_no (by decide) ?_⟩
    refine ⟨_, rfl, a, _, _, _, _, _, rfl, hx1, (A.c 14 (by decide)).X, fun u r => r, A.is 14 13 (by decide) (by decide), _, rfl, ite_no (by decide) ?_⟩
    refine ⟨_, rfl, a, _, _, _, _, _, rfl, hx1, (A.c 14 (by decide)).X, fun u r => r, A.is 14 14 (by decide) (by decide), _, rfl, ite_ye (by decide) ?_⟩
    refine ⟨_, rfl, ty_list upd_same, ?_⟩
    refine ⟨by show (1 : Nat) ≤ sizeLine; decide, fun t ht => ?_⟩
    have htl : t ≠ l := fun z => by rw [z, upd_same] at ht; cases ht
    have ht0 : H t = none := by rw [upd_ne htl] at ht; exact ht
    refine ⟨l, [], _, rfl, rfl, by rw [upd_ne (Ne.symm htl), upd_same], by show (0 : Nat) < sizeLine; decide, ?_⟩
    have sm2 : Same H (upd (upd (upd H l (.lst [])) t (.tup (told v1 v2 v3 d1.shown d2.shown 14))) l (.lst ([] ++ [V.ref t]))) := fun b o e => by rw [upd_ne (ne_of_none e hl), upd_ne (ne_of_none e ht0), upd_ne (ne_of_none e hl)]; exact e
    have hx2 := hx.mono sm2
    refine ⟨_, rfl, a, _, _, _, _, _, rfl, hx2, (A.c 14 (by decide)).X, fun u r => r, A.is 14 15 (by decide) (by decide), _, rfl, ite_no (by decide) ?_⟩
    exact ⟨_, rfl, q l t _ sm2 hl upd_same fun _ _ => by rw [upd_ne htl, upd_same]; rfl⟩
  | 15, _, hx, hx1, hf, q =>
    refine ⟨_, rfl, a, _, _, _, _, _, rfl, hx1, (A.c 15 (by decide)).X, fun u r => r, A.is 15 8 (by decide) (by decide), _, rfl, ite_no (by decide) ?_⟩
    refine ⟨_, rfl, a, _, _, _, _, _, rfl, hx1, (A.c 15 (by decide)).X, fun u r => r, A.is 15 9 (by decide) (by decide), _, rfl, ite_no (by decide) ?_⟩
    refine ⟨_, rfl, a, _, _, _, _, _, rfl, hx1, (A.c 15 (by decide)).X, fun u r => r, A.is 15 10 (by decide) (by decide), _, rfl, ite_no (by decide) ?_⟩
    refine ⟨_, rfl, a, _, _, _, _, _, rfl, hx1, (A.c 15 (by decide)).X, fun u r => r, A.is 15 11 (by decide) (by decide), _, rfl, ite_no (by decide) ?_⟩
    refine ⟨_, rfl, a, _, _, _, _, _, rfl, hx1, (A.c 15 (by decide)).X, fun u r => r, A.is 15 12 (by decide) (by decide), _, rfl, ite_no (by decide) ?_⟩
    refine ⟨_, rfl, a, _, _, _, _, _, rfl, hx1, (A.c 15 (by decide)).X, fun u r => r, A.is 15 13 (by decide) (by decide), _, rfl, ite_no (by decide) ?_⟩
    refine ⟨_, rfl, a, _, _, _, _, _, rfl, hx1, (A.c 15 (by decide)).X, fun u r => r, A.is 15 14 (by decide) (by decide), _, rfl, ite_no (by decide) ?_⟩
    refine ⟨_, rfl, a, _, _, _, _, _, rfl, hx1, (A.c 15 (by decide)).X, fun u r => r, A.is 15 15 (by decide) (by decide), _, rfl, ite_ye (by decide) ?_⟩
    refine ⟨_, rfl, ty_list upd_same, ?_⟩
    refine ⟨by show (1 : Nat) ≤ sizeLine; decide, fun t ht => ?_⟩
    have htl : t ≠ l := fun z => by rw [z, upd_same] at ht; cases ht
    have ht0 : H t = none := by rw [upd_ne htl] at ht; exact ht
    refine ⟨l, [], _, rfl, rfl, by rw [upd_ne (Ne.symm htl), upd_same], by show (0 : Nat) < sizeLine; decide, ?_⟩
    have sm2 : Same H (upd (upd (upd H l (.lst [])) t (.tup (told v1 v2 v3 d1.shown d2.shown 15))) l (.lst ([] ++ [V.ref t]))) := fun b o e => by rw [upd_ne (ne_of_none e hl), upd_ne (ne_of_none e ht0), upd_ne (ne_of_none e hl)]; exact e
    have hx2 := hx.mono sm2
    exact ⟨_, rfl, q l t _ sm2 hl upd_same fun _ _ => by rw [upd_ne htl, upd_same]; rfl⟩
  | _ + 16, hk, _, _, _, _ => exact absurd hk (by omega)
abbrev s_law_kinds : Stmt := top 68
theorem sc_law_kinds : FnScope ["e", "found"] ["e"] (defScope s_law_kinds) := ⟨rfl, rfl, rfl, by decide +kernel, rfl, by decide +kernel, by decide +kernel⟩

theorem ok_law_kinds (F : FnP K "_law_kinds" s_law_kinds f fd) (A : Errs P w K mg base) (hm : ∃ o es ep, base.get? sysModules = some o ∧ o.data = .dict es ep) (g_isinstance : mg "isinstance" = none) (g_repr : mg "repr" = none) (p__law_more_kinds : PrC P w K mg base "_law_more_kinds" 1 ["e"] (spKinds K base 8 16)) : FnC P w K mg base (L2.CX P w) 2 f fd ["e"] (spKinds K base 0 16) := by
  refine okC F sc_law_kinds (fun vs H Q E h => ?_) (fun cdv B outer s H vs Q E hr h => ?_)
  · obtain ⟨a, k, v1, v2, v3, d1, d2, _, rfl, _⟩ := h
    rfl
  have nd := sc_law_kinds.nd
  have hu := huC hr
  have c_BadNumber : ErrC K mg "BadNumber" _ := A.c 0 (by decide)
  have c_BadRow : ErrC K mg "BadRow" _ := A.c 1 (by decide)
  have c_BadTable : ErrC K mg "BadTable" _ := A.c 2 (by decide)
  have c_BadPoly : ErrC K mg "BadPoly" _ := A.c 3 (by decide)
  have c_BadPaper : ErrC K mg "BadPaper" _ := A.c 4 (by decide)
  have c_BadName : ErrC K mg "BadName" _ := A.c 5 (by decide)
  have c_BadText : ErrC K mg "BadText" _ := A.c 6 (by decide)
  have c_NoPlace : ErrC K mg "NoPlace" _ := A.c 7 (by decide)
  refine ⟨_, (pss_cons (ps_set (i := 1) nd rfl (.inl rfl) (pe_lst pa_nil))
  (pss_cons (ps_if (pt_val (pe_callB call_isX (by rfl) g_isinstance (by rfl) (pa_cons (pv 0) (pa_cons (pe_glob (by rfl) c_BadNumber.g relRef) pa_nil)))) (pss_one (ps_expr (pe_bm PySem.F.plainAttrs_list PySem.F.slot_list_append PySem.F.type_list_append mt_append (pv 1) (pa_cons (pe_tup (pa_cons pe_str (pa_cons (pe_xat (pv 0)) (pa_cons (pe_callB (call_reprC hm hr) (by rfl) g_repr (by rfl) (pa_cons (pe_xat (pv 0)) pa_nil)) pa_nil)))) pa_nil)))) pss_nil)
  (pss_cons (ps_if (pt_val (pe_callB call_isX (by rfl) g_isinstance (by rfl) (pa_cons (pv 0) (pa_cons (pe_glob (by rfl) c_BadRow.g relRef) pa_nil)))) (pss_one (ps_expr (pe_bm PySem.F.plainAttrs_list PySem.F.slot_list_append PySem.F.type_list_append mt_append (pv 1) (pa_cons (pe_tup (pa_cons pe_str (pa_cons (pe_xat (pv 0)) (pa_cons (pe_callB (call_reprC hm hr) (by rfl) g_repr (by rfl) (pa_cons (pe_xat (pv 0)) pa_nil)) pa_nil)))) pa_nil)))) pss_nil)
  (pss_cons (ps_if (pt_val (pe_callB call_isX (by rfl) g_isinstance (by rfl) (pa_cons (pv 0) (pa_cons (pe_glob (by rfl) c_BadTable.g relRef) pa_nil)))) (pss_one (ps_expr (pe_bm PySem.F.plainAttrs_list PySem.F.slot_list_append PySem.F.type_list_append mt_append (pv 1) (pa_cons (pe_tup (pa_cons pe_str (pa_cons (pe_xat (pv 0)) pa_nil))) pa_nil)))) pss_nil)
  (pss_cons (ps_if (pt_val (pe_callB call_isX (by rfl) g_isinstance (by rfl) (pa_cons (pv 0) (pa_cons (pe_glob (by rfl) c_BadPoly.g relRef) pa_nil)))) (pss_one (ps_expr (pe_bm PySem.F.plainAttrs_list PySem.F.slot_list_append PySem.F.type_list_append mt_append (pv 1) (pa_cons (pe_tup (pa_cons pe_str (pa_cons (pe_xat (pv 0)) pa_nil))) pa_nil)))) pss_nil)
  (pss_cons (ps_if (pt_val (pe_callB call_isX (by rfl) g_isinstance (by rfl) (pa_cons (pv 0) (pa_cons (pe_glob (by rfl) c_BadPaper.g relRef) pa_nil)))) (pss_one (ps_expr (pe_bm PySem.F.plainAttrs_list PySem.F.slot_list_append PySem.F.type_list_append mt_append (pv 1) (pa_cons (pe_tup (pa_cons pe_str (pa_cons (pe_xat (pv 0)) pa_nil))) pa_nil)))) pss_nil)
  (pss_cons (ps_if (pt_val (pe_callB call_isX (by rfl) g_isinstance (by rfl) (pa_cons (pv 0) (pa_cons (pe_glob (by rfl) c_BadName.g relRef) pa_nil)))) (pss_one (ps_expr (pe_bm PySem.F.plainAttrs_list PySem.F.slot_list_append PySem.F.type_list_append mt_append (pv 1) (pa_cons (pe_tup (pa_cons pe_str (pa_cons (pe_callB (call_reprC hm hr) (by rfl) g_repr (by rfl) (pa_cons (pe_xat (pv 0)) pa_nil)) pa_nil))) pa_nil)))) pss_nil)
  (pss_cons (ps_if (pt_val (pe_callB call_isX (by rfl) g_isinstance (by rfl) (pa_cons (pv 0) (pa_cons (pe_glob (by rfl) c_BadText.g relRef) pa_nil)))) (pss_one (ps_expr (pe_bm PySem.F.plainAttrs_list PySem.F.slot_list_append PySem.F.type_list_append mt_append (pv 1) (pa_cons (pe_tup (pa_cons pe_str (pa_cons (pe_xat (pv 0)) (pa_cons (pe_xat (pv 0)) pa_nil)))) pa_nil)))) pss_nil)
  (pss_cons (ps_if (pt_val (pe_callB call_isX (by rfl) g_isinstance (by rfl) (pa_cons (pv 0) (pa_cons (pe_glob (by rfl) c_NoPlace.g relRef) pa_nil)))) (pss_one (ps_expr (pe_bm PySem.F.plainAttrs_list PySem.F.slot_list_append PySem.F.type_list_append mt_append (pv 1) (pa_cons (pe_tup (pa_cons pe_str (pa_cons (pe_xat (pv 0)) (pa_cons (pe_callB (call_reprC hm hr) (by rfl) g_repr (by rfl) (pa_cons (pe_xat (pv 0)) pa_nil)) pa_nil)))) pa_nil)))) pss_nil)
  (pss_one (ps_ret (pe_op opAdd (pv 1) (pe_callPC p__law_more_kinds (hr.mono (by decide)) (by rfl) (fun σ => passAt (takes_of rfl rfl rfl rfl) σ) (pa_cons (pv 0) pa_nil)))))))))))))), ?_⟩
  obtain ⟨a, k, v1, v2, v3, d1, d2, hk, rfl, hx, hf, q⟩ := h
  refine ⟨by show (0 : Nat) ≤ sizeLine; decide, fun l hl => ?_⟩
  have sm1 : Same H (upd H l (.lst [])) := same_new hl
  have hx1 := hx.mono sm1
  match k, hk, hx, hx1, hf, q with
  | 0, _, hx, hx1, hf, q =>
    refine ⟨_, rfl, a, _, _, _, _, _, rfl, hx1, (A.c 0 (by decide)).X, fun u r => r, A.is 0 0 (by decide) (by decide), _, rfl, ite_ye (by decide) ?_⟩
    refine ⟨_, rfl, ty_list upd_same, ?_⟩
    refine ⟨_, rfl, a, _, _, _, rfl, hx1, (A.c 0 (by decide)).X, A.no 0 _ (by decide) (by decide), rfl, ?_⟩
    refine ⟨_, rfl, a, _, _, _, rfl, hx1, (A.c 0 (by decide)).X, A.no 0 _ (by decide) (by decide), rfl, ?_⟩
    refine ⟨_, d2, rfl, (hf.h2 rfl).1.mono sm1, (Gd.rep (hf.h2 rfl).2 (by decide) (by decide)).1, (Gd.rep (hf.h2 rfl).2 (by decide) (by decide)).2.1, (Gd.rep (hf.h2 rfl).2 (by decide) (by decide)).2.2, ?_⟩
    refine ⟨by show (3 : Nat) ≤ sizeLine; decide, fun t ht => ?_⟩
    have htl : t ≠ l := fun z => by rw [z, upd_same] at ht; cases ht
    have ht0 : H t = none := by rw [upd_ne htl] at ht; exact ht
    refine ⟨l, [], _, rfl, rfl, by rw [upd_ne (Ne.symm htl), upd_same], by show (0 : Nat) < sizeLine; decide, ?_⟩
    have sm2 : Same H (upd (upd (upd H l (.lst [])) t (.tup (told v1 v2 v3 d1.shown d2.shown 0))) l (.lst ([] ++ [V.ref t]))) := fun b o e => by rw [upd_ne (ne_of_none e hl), upd_ne (ne_of_none e ht0), upd_ne (ne_of_none e hl)]; exact e
    have hx2 := hx.mono sm2
    refine ⟨_, rfl, a, _, _, _, _, _, rfl, hx2, (A.c 0 (by decide)).X, fun u r => r, A.is 0 1 (by decide) (by decide), _, rfl, ite_no (by decide) ?_⟩
    refine ⟨_, rfl, a, _, _, _, _, _, rfl, hx2, (A.c 0 (by decide)).X, fun u r => r, A.is 0 2 (by decide) (by decide), _, rfl, ite_no (by decide) ?_⟩
    refine ⟨_, rfl, a, _, _, _, _, _, rfl, hx2, (A.c 0 (by decide)).X, fun u r => r, A.is 0 3 (by decide) (by decide), _, rfl, ite_no (by decide) ?_⟩
    refine ⟨_, rfl, a, _, _, _, _, _, rfl, hx2, (A.c 0 (by decide)).X, fun u r => r, A.is 0 4 (by decide) (by decide), _, rfl, ite_no (by decide) ?_⟩
    refine ⟨_, rfl, a, _, _, _, _, _, rfl, hx2, (A.c 0 (by decide)).X, fun u r => r, A.is 0 5 (by decide) (by decide), _, rfl, ite_no (by decide) ?_⟩
    refine ⟨_, rfl, a, _, _, _, _, _, rfl, hx2, (A.c 0 (by decide)).X, fun u r => r, A.is 0 6 (by decide) (by decide), _, rfl, ite_no (by decide) ?_⟩
    refine ⟨_, rfl, a, _, _, _, _, _, rfl, hx2, (A.c 0 (by decide)).X, fun u r => r, A.is 0 7 (by decide) (by decide), _, rfl, ite_no (by decide) ?_⟩
    refine ⟨_, rfl, ?_⟩
    refine ⟨_, rfl, a, 0, v1, v2, v3, d1, d2, by decide, rfl, hx2, hf.mono sm2, fun m t2 H2 s2 m0 hm2 ht2 => ?_⟩
    have hl2 := s2 l _ upd_same
    refine .inr (.inl ⟨l, m, _, _, rfl, rfl, hl2, hm2, by show (1 : Nat) ≤ sizeLine; decide, fun r hr0 => ?_⟩)
    have s3 := (sm2.trans s2).trans (same_new (o := .lst ([V.ref t] ++ [])) hr0)
    refine q r t _ s3 ((sm2.trans s2).free hr0) upd_same fun _ _ => ?_
    refine same_new hr0 _ _ (s2 t _ ?_)
    rw [upd_ne htl, upd_same]; rfl
  | 1, _, hx, hx1, hf, q =>
    refine ⟨_, rfl, a, _, _, _, _, _, rfl, hx1, (A.c 1 (by decide)).X, fun u r => r, A.is 1 0 (by decide) (by decide), _, rfl, ite_no (by decide) ?_⟩
    refine ⟨_, rfl, a, _, _, _, _, _, rfl, hx1, (A.c 1 (by decide)).X, fun u r => r, A.is 1 1 (by decide) (by decide), _, rfl, ite_ye (by decide) ?_⟩
    refine ⟨_, rfl, ty_list upd_same, ?_⟩
    refine ⟨_, rfl, a, _, _, _, rfl, hx1, (A.c 1 (by decide)).X, A.no 1 _ (by decide) (by decide), rfl, ?_⟩
    refine ⟨_, rfl, a, _, _, _, rfl, hx1, (A.c 1 (by decide)).X, A.no 1 _ (by decide) (by decide), rfl, ?_⟩
    refine ⟨_, d2, rfl, (hf.h2 rfl).1.mono sm1, (Gd.rep (hf.h2 rfl).2 (by decide) (by decide)).1, (Gd.rep (hf.h2 rfl).2 (by decide) (by decide)).2.1, (Gd.rep (hf.h2 rfl).2 (by decide) (by decide)).2.2, ?_⟩
    refine ⟨by show (3 : Nat) ≤ sizeLine; decide, fun t ht => ?_⟩
    have htl : t ≠ l := fun z => by rw [z, upd_same] at ht; cases ht
    have ht0 : H t = none := by rw [upd_ne htl] at ht; exact ht
    refine ⟨l, [], _, rfl, rfl, by rw [upd_ne (Ne.symm htl), upd_same], by show (0 : Nat) < sizeLine; decide, ?_⟩
    have sm2 : Same H (upd (upd (upd H l (.lst [])) t (.tup (told v1 v2 v3 d1.shown d2.shown 1))) l (.lst ([] ++ [V.ref t]))) := fun b o e => by rw [upd_ne (ne_of_none e hl), upd_ne (ne_of_none e ht0), upd_ne (ne_of_none e hl)]; exact e
    have hx2 := hx.mono sm2
    refine ⟨_, rfl, a, _, _, _, _, _, rfl, hx2, (A.c 1 (by decide)).X, fun u r => r, A.is 1 2 (by decide) (by decide), _, rfl, ite_no (by decide) ?_⟩
    refine ⟨_, rfl, a, _, _, _, _, _, rfl, hx2, (A.c 1 (by decide)).X, fun u r => r, A.is 1 3 (by decide) (by decide), _, rfl, ite_no (by decide) ?_⟩
    refine ⟨_, rfl, a, _, _, _, _, _, rfl, hx2, (A.c 1 (by decide)).X, fun u r => r, A.is 1 4 (by decide) (by decide), _, rfl, ite_no (by decide) ?_⟩
    refine ⟨_, rfl, a, _, _, _, _, _, rfl, hx2, (A.c 1 (by decide)).X, fun u r => r, A.is 1 5 (by decide) (by decide), _, rfl, ite_no (by decide) ?_⟩
    refine ⟨_, rfl, a, _, _, _, _, _, rfl, hx2, (A.c 1 (by decide)).X, fun u r => r, A.is 1 6 (by decide) (by decide), _, rfl, ite_no (by decide) ?_⟩
    refine ⟨_, rfl, a, _, _, _, _, _, rfl, hx2, (A.c 1 (by decide)).X, fun u r => r, A.is 1 7 (by decide) (by decide), _, rfl, ite_no (by decide) ?_⟩
    refine ⟨_, rfl, ?_⟩
    refine ⟨_, rfl, a, 1, v1, v2, v3, d1, d2, by decide, rfl, hx2, hf.mono sm2, fun m t2 H2 s2 m0 hm2 ht2 => ?_⟩
    have hl2 := s2 l _ upd_same
    refine .inr (.inl ⟨l, m, _, _, rfl, rfl, hl2, hm2, by show (1 : Nat) ≤ sizeLine; decide, fun r hr0 => ?_⟩)
    have s3 := (sm2.trans s2).trans (same_new (o := .lst ([V.ref t] ++ [])) hr0)
    refine q r t _ s3 ((sm2.trans s2).free hr0) upd_same fun _ _ => ?_
    refine same_new hr0 _ _ (s2 t _ ?_)
    rw [upd_ne htl, upd_same]; rfl
  | 2, _, hx, hx1, hf, q =>
    refine ⟨_, rfl, a, _, _, _, _, _, rfl, hx1, (A.c 2 (by decide)).X, fun u r => r, A.is 2 0 (by decide) (by decide), _, rfl, ite_no (by decide) ?_⟩
    refine ⟨_, rfl, a, _, _, _, _, _, rfl, hx1, (A.c 2 (by decide)).X, fun u r => r, A.is 2 1 (by decide) (by decide), _, rfl, ite_no (by decide) ?_⟩
    refine ⟨_, rfl, a, _, _, _, _, _, rfl, hx1, (A.c 2 (by decide)).X, fun u r => r, A.is 2 2 (by decide) (by decide), _, rfl, ite_ye (by decide) ?_⟩
    refine ⟨_, rfl, ty_list upd_same, ?_⟩
    refine ⟨_, rfl, a, _, _, _, rfl, hx1, (A.c 2 (by decide)).X, A.no 2 _ (by decide) (by decide), rfl, ?_⟩
    refine ⟨by show (2 : Nat) ≤ sizeLine; decide, fun t ht => ?_⟩
    have htl : t ≠ l := fun z => by rw [z, upd_same] at ht; cases ht
    have ht0 : H t = none := by rw [upd_ne htl] at ht; exact ht
    refine ⟨l, [], _, rfl, rfl, by rw [upd_ne (Ne.symm htl), upd_same], by show (0 : Nat) < sizeLine; decide, ?_⟩
    have sm2 : Same H (upd (upd (upd H l (.lst [])) t (.tup (told v1 v2 v3 d1.shown d2.shown 2))) l (.lst ([] ++ [V.ref t]))) := fun b o e => by rw [upd_ne (ne_of_none e hl), upd_ne (ne_of_none e ht0), upd_ne (ne_of_none e hl)]; exact e
    have hx2 := hx.mono sm2
    refine ⟨_, rfl, a, _, _, _, _, _, rfl, hx2, (A.c 2 (by decide)).X, fun u r => r, A.is 2 3 (by decide) (by decide), _, rfl, ite_no (by decide) ?_⟩
    refine ⟨_, rfl, a, _, _, _, _, _, rfl, hx2, (A.c 2 (by decide)).X, fun u r => r, A.is 2 4 (by decide) (by decide), _, rfl, ite_no (by decide) ?_⟩
    refine ⟨_, rfl, a, _, _, _, _, _, rfl, hx2, (A.c 2 (by decide)).X, fun u r => r, A.is 2 5 (by decide) (by decide), _, rfl, ite_no (by decide) ?_⟩
    refine ⟨_, rfl, a, _, _, _, _, _, rfl, hx2, (A.c 2 (by decide)).X, fun u r => r, A.is 2 6 (by decide) (by decide), _, rfl, ite_no (by decide) ?_⟩
    refine ⟨_, rfl, a, _, _, _, _, _, rfl, hx2, (A.c 2 (by decide)).X, fun u r => r, A.is 2 7 (by decide) (by decide), _, rfl, ite_no (by decide) ?_⟩
    refine ⟨_, rfl, ?_⟩
    refine ⟨_, rfl, a, 2, v1, v2, v3, d1, d2, by decide, rfl, hx2, hf.mono sm2, fun m t2 H2 s2 m0 hm2 ht2 => ?_⟩
    have hl2 := s2 l _ upd_same
    refine .inr (.inl ⟨l, m, _, _, rfl, rfl, hl2, hm2, by show (1 : Nat) ≤ sizeLine; decide, fun r hr0 => ?_⟩)
    have s3 := (sm2.trans s2).trans (same_new (o := .lst ([V.ref t] ++ [])) hr0)
    refine q r t _ s3 ((sm2.trans s2).free hr0) upd_same fun _ _ => ?_
    refine same_new hr0 _ _ (s2 t _ ?_)
    rw [upd_ne htl, upd_same]; rfl
  | 3, _, hx, hx1, hf, q =>
    refine ⟨_, rfl, a, _, _, _, _, _, rfl, hx1, (A.c 3 (by decide)).X, fun u r => r, A.is 3 0 (by decide) (by decide), _, rfl, ite_no (by decide) ?_⟩
    refine ⟨_, rfl, a, _, _, _, _, _, rfl, hx1, (A.c 3 (by decide)).X, fun u r => r, A.is 3 1 (by decide) (by decide), _, rfl, ite_no (by decide) ?_⟩
    refine ⟨_, rfl, a, _, _, _, _, _, rfl, hx1, (A.c 3 (by decide)).X, fun u r => r, A.is 3 2 (by decide) (by decide), _, rfl, ite_no (by decide) ?_⟩
    refine ⟨_, rfl, a, _, _, _, _, _, rfl, hx1, (A.c 3 (by decide)).X, fun u r => r, A.is 3 3 (by decide) (by decide), _, rfl, ite_ye (by decide) ?_⟩
    refine ⟨_, rfl, ty_list upd_same, ?_⟩
    refine ⟨_, rfl, a, _, _, _, rfl, hx1, (A.c 3 (by decide)).X, A.no 3 _ (by decide) (by decide), rfl, ?_⟩
    refine ⟨by show (2 : Nat) ≤ sizeLine; decide, fun t ht => ?_⟩
    have htl : t ≠ l := fun z => by rw [z, upd_same] at ht; cases ht
    have ht0 : H t = none := by rw [upd_ne htl] at ht; exact ht
    refine ⟨l, [], _, rfl, rfl, by rw [upd_ne (Ne.symm htl), upd_same], by show (0 : Nat) < sizeLine; decide, ?_⟩
    have sm2 : Same H (upd (upd (upd H l (.lst [])) t (.tup (told v1 v2 v3 d1.shown d2.shown 3))) l (.lst ([] ++ [V.ref t]))) := fun b o e => by rw [upd_ne (ne_of_none e hl), upd_ne (ne_of_none e ht0), upd_ne (ne_of_none e hl)]; exact e
    have hx2 := hx.mono sm2
    refine ⟨_, rfl, a, _, _, _, _, _, rfl, hx2, (A.c 3 (by decide)).X, fun u r => r, A.is 3 4 (by decide) (by decide), _, rfl, ite_no (by decide) ?_⟩
    refine ⟨_, rfl, a, _, _, _, _, _, rfl, hx2, (A.c 3 (by decide)).X, fun u r => r, A.is 3 5 (by decide) (by decide), _, rfl, ite_no (by decide) ?_⟩
    refine ⟨_, rfl, a, _, _, _, _, _, rfl, hx2, (A.c 3 (by decide)).X, fun u r => r, A.is 3 6 (by decide) (by decide), _, rfl, ite_no (by decide) ?_⟩
    refine ⟨_, rfl, a, _, _, _, _, _, rfl, hx2, (A.c 3 (by decide)).X, fun u r => r, A.is 3 7 (by decide) (by decide), _, rfl, ite_no (by decide) ?_⟩
    refine ⟨_, rfl, ?_⟩
    refine ⟨_, rfl, a, 3, v1, v2, v3, d1, d2, by decide, rfl, hx2, hf.mono sm2, fun m t2 H2 s2 m0 hm2 ht2 => ?_⟩
    have hl2 := s2 l _ upd_same
    refine .inr (.inl ⟨l, m, _, _, rfl, rfl, hl2, hm2, by show (1 : Nat) ≤ sizeLine; decide, fun r hr0 => ?_⟩)
    have s3 := (sm2.trans s2).trans (same_new (o := .lst ([V.ref t] ++ [])) hr0)
    refine q r t _ s3 ((sm2.trans s2).free hr0) upd_same fun _ _ => ?_
    refine same_new hr0 _ _ (s2 t _ ?_)
    rw [upd_ne htl, upd_same]; rfl
  | 4, _, hx, hx1, hf, q =>
    refine ⟨_, rfl, a, _, _, _, _, _, rfl, hx1, (A.c 4 (by decide)).X, fun u r => r, A.is 4 0 (by decide) (by decide), _, rfl, ite_no (by decide) ?_⟩
    refine ⟨_, rfl, a, _, _, _, _, _, rfl, hx1, (A.c 4 (by decide)).X, fun u r => r, A.is 4 1 (by decide) (by decide), _, rfl, ite_no (by decide) ?_⟩
    refine ⟨_, rfl, a, _, _, _, _, _, rfl, hx1, (A.c 4 (by decide)).X, fun u r => r, A.is 4 2 (by decide) (by decide), _, rfl, ite_no (by decide) ?_⟩
    refine ⟨_, rfl, a, _, _, _, _, _, rfl, hx1, (A.c 4 (by decide)).X, fun u r => r, A.is 4 3 (by decide) (by decide), _, rfl, ite_no (by decide) ?_⟩
    refine ⟨_, rfl, a, _, _, _, _, _, rfl, hx1, (A.c 4 (by decide)).X, fun u r => r, A.is 4 4 (by decide) (by decide), _, rfl, ite_ye (by decide) ?_⟩
    refine ⟨_, rfl, ty_list upd_same, ?_⟩
    refine ⟨_, rfl, a, _, _, _, rfl, hx1, (A.c 4 (by decide)).X, A.no 4 _ (by decide) (by decide), rfl, ?_⟩
    refine ⟨by show (2 : Nat) ≤ sizeLine; decide, fun t ht => ?_⟩
    have htl : t ≠ l := fun z => by rw [z, upd_same] at ht; cases ht
    have ht0 : H t = none := by rw [upd_ne htl] at ht; exact ht
    refine ⟨l, [], _, rfl, rfl, by rw [upd_ne (Ne.symm htl), upd_same], by show (0 : Nat) < sizeLine; decide, ?_⟩
    have sm2 : Same H (upd (upd (upd H l (.lst [])) t (.tup (told v1 v2 v3 d1.shown d2.shown 4))) l (.lst ([] ++ [V.ref t]))) := fun b o e => by rw [upd_ne (ne_of_none e hl), upd_ne (ne_of_none e ht0), upd_ne (ne_of_none e hl)]; exact e
    have hx2 := hx.mono sm2
    refine ⟨_, rfl, a, _, _, _, _, _, rfl, hx2, (A.c 4 (by decide)).X, fun u r => r, A.is 4 5 (by decide) (by decide), _, rfl, ite_no (by decide) ?_⟩
    refine ⟨_, rfl, a, _, _, _, _, _, rfl, hx2, (A.c 4 (by decide)).X, fun u r => r, A.is 4 6 (by decide) (by decide), _, rfl, ite_no (by decide) ?_⟩
    refine ⟨_, rfl, a, _, _, _, _, _, rfl, hx2, (A.c 4 (by decide)).X, fun u r => r, A.is 4 7 (by decide) (by decide), _, rfl, ite_no (by decide) ?_⟩
    refine ⟨_, rfl, ?_⟩
    refine ⟨_, rfl, a, 4, v1, v2, v3, d1, d2, by decide, rfl, hx2, hf.mono sm2, fun m t2 H2 s2 m0 hm2 ht2 => ?_⟩
    have hl2 := s2 l _ upd_same
    refine .inr (.inl ⟨l, m, _, _, rfl, rfl, hl2, hm2, by show (1 : Nat) ≤ sizeLine; decide, fun r hr0 => ?_⟩)
    have s3 := (sm2.trans s2).trans (same_new (o := .lst ([V.ref t] ++ [])) hr0)
    refine q r t _ s3 ((sm2.trans s2).free hr0) upd_same fun _ _ => ?_
    refine same_new hr0 _ _ (s2 t _ ?_)
    rw [upd_ne htl, upd_same]; rfl
  | 5, _, hx, hx1, hf, q =>
    refine ⟨_, rfl, a, _, _, _, _, _, rfl, hx1, (A.c 5 (by decide)).X, fun u r => r, A.is 5 0 (by decide) (by decide), _, rfl, ite_no (by decide) ?_⟩
    refine ⟨_, rfl, a, _, _, _, _, _, rfl, hx1, (A.c 5 (by decide)).X, fun u r => r, A.is 5 1 (by decide) (by decide), _, rfl, ite_no (by decide) ?_⟩
    refine ⟨_, rfl, a, _, _, _, _, _, rfl, hx1, (A.c 5 (by decide)).X, fun u r => r, A.is 5 2 (by decide) (by decide), _, rfl, ite_no (by decide) ?_⟩
    refine ⟨_, rfl, a, _, _, _, _, _, rfl, hx1, (A.c 5 (by decide)).X, fun u r => r, A.is 5 3 (by decide) (by decide), _, rfl, ite_no (by decide) ?_⟩
    refine ⟨_, rfl, a, _, _, _, _, _, rfl, hx1, (A.c 5 (by decide)).X, fun u r => r, A.is 5 4 (by decide) (by decide), _, rfl, ite_no (by decide) ?_⟩
    refine ⟨_, rfl, a, _, _, _, _, _, rfl, hx1, (A.c 5 (by decide)).X, fun u r => r, A.is 5 5 (by decide) (by decide), _, rfl, ite_ye (by decide) ?_⟩
    refine ⟨_, rfl, ty_list upd_same, ?_⟩
    refine ⟨_, rfl, a, _, _, _, rfl, hx1, (A.c 5 (by decide)).X, A.no 5 _ (by decide) (by decide), rfl, ?_⟩
    refine ⟨_, d1, rfl, (hf.h1 rfl).1.mono sm1, (Gd.rep (hf.h1 rfl).2 (by decide) (by decide)).1, (Gd.rep (hf.h1 rfl).2 (by decide) (by decide)).2.1, (Gd.rep (hf.h1 rfl).2 (by decide) (by decide)).2.2, ?_⟩
    refine ⟨by show (2 : Nat) ≤ sizeLine; decide, fun t ht => ?_⟩
    have htl : t ≠ l := fun z => by rw [z, upd_same] at ht; cases ht
    have ht0 : H t = none := by rw [upd_ne htl] at ht; exact ht
    refine ⟨l, [], _, rfl, rfl, by rw [upd_ne (Ne.symm htl), upd_same], by show (0 : Nat) < sizeLine; decide, ?_⟩
    have sm2 : Same H (upd (upd (upd H l (.lst [])) t (.tup (told v1 v2 v3 d1.shown d2.shown 5))) l (.lst ([] ++ [V.ref t]))) := fun b o e => by rw [upd_ne (ne_of_none e hl), upd_ne (ne_of_none e ht0), upd_ne (ne_of_none e hl)]; exact e
    have hx2 := hx.mono sm2
    refine ⟨_, rfl, a, _, _, _, _, _, rfl, hx2, (A.c 5 (by decide)).X, fun u r => r, A.is 5 6 (by decide) (by decide), _, rfl, ite_no (by decide) ?_⟩
    refine ⟨_, rfl, a, _, _, _, _, _, rfl, hx2, (A.c 5 (by decide)).X, fun u r => r, A.is 5 7 (by decide) (by decide), _, rfl, ite_no (by decide) ?_⟩
    refine ⟨_, rfl, ?_⟩
    refine ⟨_, rfl, a, 5, v1, v2, v3, d1, d2, by decide, rfl, hx2, hf.mono sm2, fun m t2 H2 s2 m0 hm2 ht2 => ?_⟩
    have hl2 := s2 l _ upd_same
    refine .inr (.inl ⟨l, m, _, _, rfl, rfl, hl2, hm2, by show (1 : Nat) ≤ sizeLine; decide, fun r hr0 => ?_⟩)
    have s3 := (sm2.trans s2).trans (same_new (o := .lst ([V.ref t] ++ [])) hr0)
    refine q r t _ s3 ((sm2.trans s2).free hr0) upd_same fun _ _ => ?_
    refine same_new hr0 _ _ (s2 t _ ?_)
    rw [upd_ne htl, upd_same]; rfl
  | 6, _, hx, hx1, hf, q =>
    refine ⟨_, rfl, a, _, _, _, _, _, rfl, hx1, (A.c 6 (by decide)).X, fun u r => r, A.is 6 0 (by decide) (by decide), _, rfl, ite_no (by decide) ?_⟩
    refine ⟨_, rfl, a, _, _, _, _, _, rfl, hx1, (A.c 6 (by decide)).X, fun u r => r, A.is 6 1 (by decide) (by decide), _, rfl, ite_no (by decide) ?_⟩
    refine ⟨_, rfl, a, _, _, _, _, _, rfl, hx1, (A.c 6 (by decide)).X, fun u r => r, A.is 6 2 (by decide) (by decide), _, rfl, ite_no (by decide) ?_⟩
    refine ⟨_, rfl, a, _, _, _, _, _, rfl, hx1, (A.c 6 (by decide)).X, fun u r => r, A.is 6 3 (by decide) (by decide), _, rfl, ite_no (by decide) ?_⟩
    refine ⟨_, rfl, a, _, _, _, _, _, rfl, hx1, (A.c 6 (by decide)).X, fun u r => r, A.is 6 4 (by decide) (by decide), _, rfl, ite_no (by decide) ?_⟩
    refine ⟨_, rfl, a, _, _, _, _, _, rfl, hx1, (A.c 6 (by decide)).X, fun u r => r, A.is 6 5 (by decide) (by decide), _, rfl, ite_no (by decide) ?_⟩
    refine ⟨_, rfl, a, _, _, _, _, _, rfl, hx1, (A.c 6 (by decide)).X, fun u r => r, A.is 6 6 (by decide) (by decide), _, rfl, ite_ye (by decide) ?_⟩
    refine ⟨_, rfl, ty_list upd_same, ?_⟩
    refine ⟨_, rfl, a, _, _, _, rfl, hx1, (A.c 6 (by decide)).X, A.no 6 _ (by decide) (by decide), rfl, ?_⟩
    refine ⟨_, rfl, a, _, _, _, rfl, hx1, (A.c 6 (by decide)).X, A.no 6 _ (by decide) (by decide), rfl, ?_⟩
    refine ⟨by show (3 : Nat) ≤ sizeLine; decide, fun t ht => ?_⟩
    have htl : t ≠ l := fun z => by rw [z, upd_same] at ht; cases ht
    have ht0 : H t = none := by rw [upd_ne htl] at ht; exact ht
    refine ⟨l, [], _, rfl, rfl, by rw [upd_ne (Ne.symm htl), upd_same], by show (0 : Nat) < sizeLine; decide, ?_⟩
    have sm2 : Same H (upd (upd (upd H l (.lst [])) t (.tup (told v1 v2 v3 d1.shown d2.shown 6))) l (.lst ([] ++ [V.ref t]))) := fun b o e => by rw [upd_ne (ne_of_none e hl), upd_ne (ne_of_none e ht0), upd_ne (ne_of_none e hl)]; exact e
    have hx2 := hx.mono sm2
    refine ⟨_, rfl, a, _, _, _, _, _, rfl, hx2, (A.c 6 (by decide)).X, fun u r => r, A.is 6 7 (by decide) (by decide), _, rfl, ite_no (by decide) ?_⟩
    refine ⟨_, rfl, ?_⟩
    refine ⟨_, rfl, a, 6, v1, v2, v3, d1, d2, by decide, rfl, hx2, hf.mono sm2, fun m t2 H2 s2 m0 hm2 ht2 => ?_⟩
    have hl2 := s2 l _ upd_same
    refine .inr (.inl ⟨l, m, _, _, rfl, rfl, hl2, hm2, by show (1 : Nat) ≤ sizeLine; decide, fun r hr0 => ?_⟩)
    have s3 := (sm2.trans s2).trans (same_new (o := .lst ([V.ref t] ++ [])) hr0)
    refine q r t _ s3 ((sm2.trans s2).free hr0) upd_same fun _ _ => ?_
    refine same_new hr0 _ _ (s2 t _ ?_)
    rw [upd_ne htl, upd_same]; rfl
  | 7, _, hx, hx1, hf, q =>
    refine ⟨_, rfl, a, _, _, _, _, _, rfl, hx1, (A.c 7 (by decide)).X, fun u r => r, A.is 7 0 (by decide) (by decide), _, rfl, ite_no (by decide) ?_⟩
    refine ⟨_, rfl, a, _, _, _, _, _, rfl, hx1, (A.c 7 (by decide)).X, fun u r => r, A.is 7 1 (by decide) (by decide), _, rfl, ite_no (by decide) ?_⟩
    refine ⟨_, rfl, a, _, _, _, _, _, rfl, hx1, (A.c 7 (by decide)).X, fun u r => r, A.is 7 2 (by decide) (by decide), _, rfl, ite_no (by decide) ?_⟩
    refine ⟨_, rfl, a, _, _, _, _, _, rfl, hx1, (A.c 7 (by decide)).X, fun u r => r, A.is 7 3 (by decide) (by decide), _, rfl, ite_no (by decide) ?_⟩
    refine ⟨_, rfl, a, _, _, _, _, _, rfl, hx1, (A.c 7 (by decide)).X, fun u r => r, A.is 7 4 (by decide) (by decide), _, rfl, ite_no (by decide) ?_⟩
    refine ⟨_, rfl, a, _, _, _, _, _, rfl, hx1, (A.c 7 (by decide)).X, fun u r => r, A.is 7 5 (by decide) (by decide), _, rfl, ite_no (by decide) ?_⟩
    refine ⟨_, rfl, a, _, _, _, _, _, rfl, hx1, (A.c 7 (by decide)).X, fun u r => r, A.is 7 6 (by decide) (by decide), _, rfl, ite_no (by decide) ?_⟩
    refine ⟨_, rfl, a, _, _, _, _, _, rfl, hx1, (A.c 7 (by decide)).X, fun u r => r, A.is 7 7 (by decide) (by decide), _, rfl, ite_ye (by decide) ?_⟩
    refine ⟨_, rfl, ty_list upd_same, ?_⟩
    refine ⟨_, rfl, a, _, _, _, rfl, hx1, (A.c 7 (by decide)).X, A.no 7 _ (by decide) (by decide), rfl, ?_⟩
    refine ⟨_, rfl, a, _, _, _, rfl, hx1, (A.c 7 (by decide)).X, A.no 7 _ (by decide) (by decide), rfl, ?_⟩
    refine ⟨_, d2, rfl, (hf.h2 rfl).1.mono sm1, (Gd.rep (hf.h2 rfl).2 (by decide) (by decide)).1, (Gd.rep (hf.h2 rfl).2 (by decide) (by decide)).2.1, (Gd.rep (hf.h2 rfl).2 (by decide) (by decide)).2.2, ?_⟩
    refine ⟨by show (3 : Nat) ≤ sizeLine; decide, fun t ht => ?_⟩
    have htl : t ≠ l := fun z => by rw [z, upd_same] at ht; cases ht
    have ht0 : H t = none := by rw [upd_ne htl] at ht; exact ht
    refine ⟨l, [], _, rfl, rfl, by rw [upd_ne (Ne.symm htl), upd_same], by show (0 : Nat) < sizeLine; decide, ?_⟩
    have sm2 : Same H (upd (upd (upd H l (.lst [])) t (.tup (told v1 v2 v3 d1.shown d2.shown 7))) l (.lst ([] ++ [V.ref t]))) := fun b o e => by rw [upd_ne (ne_of_none e hl), upd_ne (ne_of_none e ht0), upd_ne (ne_of_none e hl)]; exact e
    have hx2 := hx.mono sm2
    refine ⟨_, rfl, ?_⟩
    refine ⟨_, rfl, a, 7, v1, v2, v3, d1, d2, by decide, rfl, hx2, hf.mono sm2, fun m t2 H2 s2 m0 hm2 ht2 => ?_⟩
    have hl2 := s2 l _ upd_same
    refine .inr (.inl ⟨l, m, _, _, rfl, rfl, hl2, hm2, by show (1 : Nat) ≤ sizeLine; decide, fun r hr0 => ?_⟩)
    have s3 := (sm2.trans s2).trans (same_new (o := .lst ([V.ref t] ++ [])) hr0)
    refine q r t _ s3 ((sm2.trans s2).free hr0) upd_same fun _ _ => ?_
    refine same_new hr0 _ _ (s2 t _ ?_)
    rw [upd_ne htl, upd_same]; rfl
  | 8, _, hx, hx1, hf, q =>
    refine ⟨_, rfl, a, _, _, _, _, _, rfl, hx1, (A.c 8 (by decide)).X, fun u r => r, A.is 8 0 (by decide) (by decide), _, rfl, ite_no (by decide) ?_⟩
    refine ⟨_, rfl, a, _, _, _, _, _, rfl, hx1, (A.c 8 (by decide)).X, fun u r => r, A.is 8 1 (by decide) (by decide), _, rfl, ite_no (by decide) ?_⟩
    refine ⟨_, rfl, a, _, _, _, _, _, rfl, hx1, (A.c 8 (by decide)).X, fun u r => r, A.is 8 2 (by decide) (by decide), _, rfl, ite_no (by decide) ?_⟩
    refine ⟨_, rfl, a, _, _, _, _, _, rfl, hx1, (A.c 8 (by decide)).X, fun u r => r, A.is 8 3 (by decide) (by decide), _, rfl, ite_no (by decide) ?_⟩
    refine ⟨_, rfl, a, _, _, _, _, _, rfl, hx1, (A.c 8 (by decide)).X, fun u r => r, A.is 8 4 (by decide) (by decide), _, rfl, ite_no (by decide) ?_⟩
    refine ⟨_, rfl, a, _, _, _, _, _, rfl, hx1, (A.c 8 (by decide)).X, fun u r => r, A.is 8 5 (by decide) (by decide), _, rfl, ite_no (by decide) ?_⟩
    refine ⟨_, rfl, a, _, _, _, _, _, rfl, hx1, (A.c 8 (by decide)).X, fun u r => r, A.is 8 6 (by decide) (by decide), _, rfl, ite_no (by decide) ?_⟩
    refine ⟨_, rfl, a, _, _, _, _, _, rfl, hx1, (A.c 8 (by decide)).X, fun u r => r, A.is 8 7 (by decide) (by decide), _, rfl, ite_no (by decide) ?_⟩
    refine ⟨_, rfl, ?_⟩
    refine ⟨_, rfl, a, 8, v1, v2, v3, d1, d2, by decide, rfl, hx1, hf.mono sm1, fun m t2 H2 s2 m0 hm2 ht2 => ?_⟩
    have hl2 := s2 l _ upd_same
    refine .inr (.inl ⟨l, m, _, _, rfl, rfl, hl2, hm2, by show (1 : Nat) ≤ sizeLine; decide, fun r hr0 => ?_⟩)
    have s3 := (sm1.trans s2).trans (same_new (o := .lst ([] ++ [V.ref t2])) hr0)
    exact q r t2 _ s3 ((sm1.trans s2).free hr0) upd_same fun _ _ => same_new hr0 _ _ (ht2 (by decide) (by decide))
  | 9, _, hx, hx1, hf, q =>
    refine ⟨_, rfl, a, _, _, _, _, _, rfl, hx1, (A.c 9 (by decide)).X, fun u r => r, A.is 9 0 (by decide) (by decide), _, rfl, ite_no (by decide) ?_⟩
    refine ⟨_, rfl, a, _, _, _, _, _, rfl, hx1, (A.c 9 (by decide)).X, fun u r => r, A.is 9 1 (by decide) (by decide), _, rfl, ite_no (by decide) ?_⟩
    refine ⟨_, rfl, a, _, _, _, _, _, rfl, hx1, (A.c 9 (by decide)).X, fun u r => r, A.is 9 2 (by decide) (by decide), _, rfl, ite_no (by decide) ?_⟩
    refine ⟨_, rfl, a, _, _, _, _, _, rfl, hx1, (A.c 9 (by decide)).X, fun u r => r, A.is 9 3 (by decide) (by decide), _, rfl, ite_no (by decide) ?_⟩
    refine ⟨_, rfl, a, _, _, _, _, _, rfl, hx1, (A.c 9 (by decide)).X, fun u r => r, A.is 9 4 (by decide) (by decide), _, rfl, ite_no (by decide) ?_⟩
    refine ⟨_, rfl, a, _, _, _, _, _, rfl, hx1, (A.c 9 (by decide)).X, fun u r => r, A.is 9 5 (by decide) (by decide), _, rfl, ite_no (by decide) ?_⟩
    refine ⟨_, rfl, a, _, _, _, _, _, rfl, hx1, (A.c 9 (by decide)).X, fun u r => r, A.is 9 6 (by decide) (by decide), _, rfl, ite_no (by decide) ?_⟩
    refine ⟨_, rfl, a, _, _, _, _, _, rfl, hx1, (A.c 9 (by decide)).X, fun u r => r, A.is 9 7 (by decide) (by decide), _, rfl, ite_no (by decide) ?_⟩
    refine ⟨_, rfl, ?_⟩
    refine ⟨_, rfl, a, 9, v1, v2, v3, d1, d2, by decide, rfl, hx1, hf.mono sm1, fun m t2 H2 s2 m0 hm2 ht2 => ?_⟩
    have hl2 := s2 l _ upd_same
    refine .inr (.inl ⟨l, m, _, _, rfl, rfl, hl2, hm2, by show (1 : Nat) ≤ sizeLine; decide, fun r hr0 => ?_⟩)
    have s3 := (sm1.trans s2).trans (same_new (o := .lst ([] ++ [V.ref t2])) hr0)
    exact q r t2 _ s3 ((sm1.trans s2).free hr0) upd_same fun _ _ => same_new hr0 _ _ (ht2 (by decide) (by decide))
  | 10, _, hx, hx1, hf, q =>
    refine ⟨_, rfl, a, _, _, _, _, _, rfl, hx1, (A.c 10 (by decide)).X, fun u r => r, A.is 10 0 (by decide) (by decide), _, rfl, ite_no (by decide) ?_⟩
    refine ⟨_, rfl, a, _, _, _, _, _, rfl, hx1, (A.c 10 (by decide)).X, fun u r => r, A.is 10 1 (by decide) (by decide), _, rfl, ite_no (by decide) ?_⟩
    refine ⟨_, rfl, a, _, _, _, _, _, rfl, hx1, (A.c 10 (by decide)).X, fun u r => r, A.is 10 2 (by decide) (by decide), _, rfl, ite_no (by decide) ?_⟩
    refine ⟨_, rfl, a, _, _, _, _, _, rfl, hx1, (A.c 10 (by decide)).X, fun u r => r, A.is 10 3 (by decide) (by decide), _, rfl, ite_no (by decide) ?_⟩
    refine ⟨_, rfl, a, _, _, _, _, _, rfl, hx1, (A.c 10 (by decide)).X, fun u r => r, A.is 10 4 (by decide) (by decide), _, rfl, ite_no (by decide) ?_⟩
    refine ⟨_, rfl, a, _, _, _, _, _, rfl, hx1, (A.c 10 (by decide)).X, fun u r => r, A.is 10 5 (by decide) (by decide), _, rfl, ite_no (by decide) ?_⟩
    refine ⟨_, rfl, a, _, _, _, _, _, rfl, hx1, (A.c 10 (by decide)).X, fun u r => r, A.is 10 6 (by decide) (by decide), _, rfl, ite_no (by decide) ?_⟩
    refine ⟨_, rfl, a, _, _, _, _, _, rfl, hx1, (A.c 10 (by decide)).X, fun u r => r, A.is 10 7 (by decide) (by decide), _, rfl, ite_no (by decide) ?_⟩
    refine ⟨_, rfl, ?_⟩
    refine ⟨_, rfl, a, 10, v1, v2, v3, d1, d2, by decide, rfl, hx1, hf.mono sm1, fun m t2 H2 s2 m0 hm2 ht2 => ?_⟩
    have hl2 := s2 l _ upd_same
    refine .inr (.inl ⟨l, m, _, _, rfl, rfl, hl2, hm2, by show (1 : Nat) ≤ sizeLine; decide, fun r hr0 => ?_⟩)
    have s3 := (sm1.trans s2).trans (same_new (o := .lst ([] ++ [V.ref t2])) hr0)
    exact q r t2 _ s3 ((sm1.trans s2).free hr0) upd_same fun _ _ => same_new hr0 _ _ (ht2 (by decide) (by decide))
  | 11, _, hx, hx1, hf, q =>
    refine ⟨_, rfl, a, _, _, _, _, _, rfl, hx1, (A.c 11 (by decide)).X, fun u r => r, A.is 11 0 (by decide) (by decide), _, rfl, ite_no (by decide) ?_⟩
    refine ⟨_, rfl, a, _, _, _, _, _, rfl, hx1, (A.c 11 (by decide)).X, fun u r => r, A.is 11 1 (by decide) (by decide), _, rfl, ite_no (by decide) ?_⟩
    refine ⟨_, rfl, a, _, _, _, _, _, rfl, hx1, (A.c 11 (by decide)).X, fun u r => r, A.is 11 2 (by decide) (by decide), _, rfl, ite_no (by decide) ?_⟩
    refine ⟨_, rfl, a, _, _, _, _, _, rfl, hx1, (A.c 11 (by decide)).X, fun u r => r, A.is 11 3 (by decide) (by decide), _, rfl, ite_no (by decide) ?_⟩
    refine ⟨_, rfl, a, _, _, _, _, _, rfl, hx1, (A.c 11 (by decide)).X, fun u r => r, A.is 11 4 (by decide) (by decide), _, rfl, ite_no (by decide) ?_⟩
    refine ⟨_, rfl, a, _, _, _, _, _, rfl, hx1, (A.c 11 (by decide)).X, fun u r => r, A.is 11 5 (by decide) (by decide), _, rfl, ite_no (by decide) ?_⟩
    refine ⟨_, rfl, a, _, _, _, _, _, rfl, hx1, (A.c 11 (by decide)).X, fun u r => r, A.is 11 6 (by decide) (by decide), _, rfl, ite_no (by decide) ?_⟩
    refine ⟨_, rfl, a, _, _, _, _, _, rfl, hx1, (A.c 11 (by decide)).X, fun u r => r, A.is 11 7 (by decide) (by decide), _, rfl, ite_no (by decide) ?_⟩
    refine ⟨_, rfl, ?_⟩
    refine ⟨_, rfl, a, 11, v1, v2, v3, d1, d2, by decide, rfl, hx1, hf.mono sm1, fun m t2 H2 s2 m0 hm2 ht2 => ?_⟩
    have hl2 := s2 l _ upd_same
    refine .inr (.inl ⟨l, m, _, _, rfl, rfl, hl2, hm2, by show (1 : Nat) ≤ sizeLine; decide, fun r hr0 => ?_⟩)
    have s3 := (sm1.trans s2).trans (same_new (o := .lst ([] ++ [V.ref t2])) hr0)
    exact q r t2 _ s3 ((sm1.trans s2).free hr0) upd_same fun _ _ => same_new hr0 _ _ (ht2 (by decide) (by decide))
  | 12, _, hx, hx1, hf, q =>
    refine ⟨_, rfl, a, _, _, _, _, _, rfl, hx1, (A.c 12 (by decide)).X, fun u r => r, A.is 12 0 (by decide) (by decide), _, rfl, ite_no (by decide) ?_⟩
    refine ⟨_, rfl, a, _, _, _, _, _, rfl, hx1, (A.c 12 (by decide)).X, fun u r => r, A.is 12 1 (by decide) (by decide), _, rfl, ite_no (by decide) ?_⟩
    refine ⟨_, rfl, a, _, _, _, _, _, rfl, hx1, (A.c 12 (by decide)).X, fun u r => r, A.is 12 2 (by decide) (by decide), _, rfl, ite_no (by decide) ?_⟩
    refine ⟨_, rfl, a, _, _, _, _, _, rfl, hx1, (A.c 12 (by decide)).X, fun u r => r, A.is 12 3 (by decide) (by decide), _, rfl, ite_no (by decide) ?_⟩
    refine ⟨_, rfl, a, _, _, _, _, _, rfl, hx1, (A.c 12 (by decide)).X, fun u r => r, A.is 12 4 (by decide) (by decide), _, rfl, ite_no (by decide) ?_⟩
    refine ⟨_, rfl, a, _, _, _, _, _, rfl, hx1, (A.c 12 (by decide)).X, fun u r => r, A.is 12 5 (by decide) (by decide), _, rfl, ite_no (by decide) ?_⟩
    refine ⟨_, rfl, a, _, _, _, _, _, rfl, hx1, (A.c 12 (by decide)).X, fun u r => r, A.is 12 6 (by decide) (by decide), _, rfl, ite_no (by decide) ?_⟩
    refine ⟨_, rfl, a, _, _, _, _, _, rfl, hx1, (A.c 12 (by decide)).X, fun u r => r, A.is 12 7 (by decide) (by decide), _, rfl, ite_no (by decide) ?_⟩
    refine ⟨_, rfl, ?_⟩
    refine ⟨_, rfl, a, 12, v1, v2, v3, d1, d2, by decide, rfl, hx1, hf.mono sm1, fun m t2 H2 s2 m0 hm2 ht2 => ?_⟩
    have hl2 := s2 l _ upd_same
    refine .inr (.inl ⟨l, m, _, _, rfl, rfl, hl2, hm2, by show (1 : Nat) ≤ sizeLine; decide, fun r hr0 => ?_⟩)
    have s3 := (sm1.trans s2).trans (same_new (o := .lst ([] ++ [V.ref t2])) hr0)
    exact q r t2 _ s3 ((sm1.trans s2).free hr0) upd_same fun _ _ => same_new hr0 _ _ (ht2 (by decide) (by decide))
  | 13, _, hx, hx1, hf, q =>
    refine ⟨_, rfl, a, _, _, _, _, _, rfl, hx1, (A.c 13 (by decide)).X, fun u r => r, A.is 13 0 (by decide) (by decide), _, rfl, ite_no (by decide) ?_⟩
    refine ⟨_, rfl, a, _, _, _, _, _, rfl, hx1, (A.c 13 (by decide)).X, fun u r => r, A.is 13 1 (by decide) (by decide), _, rfl, ite_no (by decide) ?_⟩
    refine ⟨_, rfl, a, _, _, _, _, _, rfl, hx1, (A.c 13 (by decide)).X, fun u r => r, A.is 13 2 (by decide) (by decide), _, rfl, ite_no (by decide) ?_⟩
    refine ⟨_, rfl, a, _, _, _, _, _, rfl, hx1, (A.c 13 (by decide)).X, fun u r => r, A.is 13 3 (by decide) (by decide), _, rfl, ite_no (by decide) ?_⟩
    refine ⟨_, rfl, a, _, _, _, _, _, rfl, hx1, (A.c 13 (by decide)).X, fun u r => r, A.is 13 4 (by decide) (by decide), _, rfl, ite_no (by decide) ?_⟩
    refine ⟨_, rfl, a, _, _, _, _, _, rfl, hx1, (A.c 13 (by decide)).X, fun u r => r, A.is 13 5 (by decide) (by decide), _, rfl, ite_no (by decide) ?_⟩
    refine ⟨_, rfl, a, _, _, _, _, _, rfl, hx1, (A.c 13 (by decide)).X, fun u r => r, A.is 13 6 (by decide) (by decide), _, rfl, ite_no (by decide) ?_⟩
    refine ⟨_, rfl, a, _, _, _, _, _, rfl, hx1, (A.c 13 (by decide)).X, fun u r => r, A.is 13 7 (by decide) (by decide), _, rfl, ite_no (by decide) ?_⟩
    refine ⟨_, rfl, ?_⟩
    refine ⟨_, rfl, a, 13, v1, v2, v3, d1, d2, by decide, rfl, hx1, hf.mono sm1, fun m t2 H2 s2 m0 hm2 ht2 => ?_⟩
    have hl2 := s2 l _ upd_same
    refine .inr (.inl ⟨l, m, _, _, rfl, rfl, hl2, hm2, by show (1 : Nat) ≤ sizeLine; decide, fun r hr0 => ?_⟩)
    have s3 := (sm1.trans s2).trans (same_new (o := .lst ([] ++ [V.ref t2])) hr0)
    exact q r t2 _ s3 ((sm1.trans s2).free hr0) upd_same fun _ _ => same_new hr0 _ _ (ht2 (by decide) (by decide))
  | 14, _, hx, hx1, hf, q =>
    refine ⟨_, rfl, a, _, _, _, _, _, rfl, hx1, (A.c 14 (by decide)).X, fun u r => r, A.is 14 0 (by decide) (by decide), _, rfl, ite_no (by decide) ?_⟩
    refine ⟨_, rfl, a, _, _, _, _, _, rfl, hx1, (A.c 14 (by decide)).X, fun u r => r, A.is 14 1 (by decide) (by decide), _, rfl, ite_no (by decide) ?_⟩
    refine ⟨_, rfl, a, _, _, _, _, _, rfl, hx1, (A.c 14 (by decide)).X, fun u r => r, A.is 14 2 (by decide) (by decide), _, rfl, ite_no (by decide) ?_⟩
    refine ⟨_, rfl, a, _, _, _, _, _, rfl, hx1, (A.c 14 (by decide)).X, fun u r => r, A.is 14 3 (by decide) (by decide), _, rfl, ite_no (by decide) ?_⟩
    refine ⟨_, rfl, a, _, _, _, _, _, rfl, hx1, (A.c 14 (by decide)).X, fun u r => r, A.is 14 4 (by decide) (by decide), _, rfl, ite_no (by decide) ?_⟩
    refine ⟨_, rfl, a, _, _, _, _, _, rfl, hx1, (A.c 14 (by decide)).X, fun u r => r, A.is 14 5 (by decide) (by decide), _, rfl, ite_no (by decide) ?_⟩
    refine ⟨_, rfl, a, _, _, _, _, _, rfl, hx1, (A.c 14 (by decide)).X, fun u r => r, A.is 14 6 (by decide) (by decide), _, rfl, ite_no (by decide) ?_⟩
    refine ⟨_, rfl, a, _, _, _, _, _, rfl, hx1, (A.c 14 (by decide)).X, fun u r => r, A.is 14 7 (by decide) (by decide), _, rfl, ite_no (by decide) ?_⟩
    refine ⟨_, rfl, ?_⟩
    refine ⟨_, rfl, a, 14, v1, v2, v3, d1, d2, by decide, rfl, hx1, hf.mono sm1, fun m t2 H2 s2 m0 hm2 ht2 => ?_⟩
    have hl2 := s2 l _ upd_same
    refine .inr (.inl ⟨l, m, _, _, rfl, rfl, hl2, hm2, by show (1 : Nat) ≤ sizeLine; decide, fun r hr0 => ?_⟩)
    have s3 := (sm1.trans s2).trans (same_new (o := .lst ([] ++ [V.ref t2])) hr0)
    exact q r t2 _ s3 ((sm1.trans s2).free hr0) upd_same fun _ _ => same_new hr0 _ _ (ht2 (by decide) (by decide))
  | 15, _, hx, hx1, hf, q =>
    refine ⟨_, rfl, a, _, _, _, _, _, rfl, hx1, (A.c 15 (by decide)).X, fun u r => r, A.is 15 0 (by decide) (by decide), _, rfl, ite_no (by decide) ?_⟩
    refine ⟨_, rfl, a, _, _, _, _, _, rfl, hx1, (A.c 15 (by decide)).X, fun u r => r, A.is 15 1 (by decide) (by decide), _, rfl, ite_no (by decide) ?_⟩
    refine ⟨_, rfl, a, _, _, _, _, _, rfl, hx1, (A.c 15 (by decide)).X, fun u r => r, A.is 15 2 (by decide) (by decide), _, rfl, ite_no (by decide) ?_⟩
    refine ⟨_, rfl, a, _, _, _, _, _, rfl, hx1, (A.c 15 (by decide)).X, fun u r => r, A.is 15 3 (by decide) (by decide), _, rfl, ite_no (by decide) ?_⟩
    refine ⟨_, rfl, a, _, _, _, _, _, rfl, hx1, (A.c 15 (by decide)).X, fun u r => r, A.is 15 4 (by decide) (by decide), _, rfl, ite_no (by decide) ?_⟩
    refine ⟨_, rfl, a, _, _, _, _, _, rfl, hx1, (A.c 15 (by decide)).X, fun u r => r, A.is 15 5 (by decide) (by decide), _, rfl, ite_no (by decide) ?_⟩
    refine ⟨_, rfl, a, _, _, _, _, _, rfl, hx1, (A.c 15 (by decide)).X, fun u r => r, A.is 15 6 (by decide) (by decide), _, rfl, ite_no (by decide) ?_⟩
    refine ⟨_, rfl, a, _, _, _, _, _, rfl, hx1, (A.c 15 (by decide)).X, fun u r => r, A.is 15 7 (by decide) (by decide), _, rfl, ite_no (by decide) ?_⟩
    refine ⟨_, rfl, ?_⟩
    refine ⟨_, rfl, a, 15, v1, v2, v3, d1, d2, by decide, rfl, hx1, hf.mono sm1, fun m t2 H2 s2 m0 hm2 ht2 => ?_⟩
    have hl2 := s2 l _ upd_same
    refine .inr (.inl ⟨l, m, _, _, rfl, rfl, hl2, hm2, by show (1 : Nat) ≤ sizeLine; decide, fun r hr0 => ?_⟩)
    have s3 := (sm1.trans s2).trans (same_new (o := .lst ([] ++ [V.ref t2])) hr0)
    exact q r t2 _ s3 ((sm1.trans s2).free hr0) upd_same fun _ _ => same_new hr0 _ _ (ht2 (by decide) (by decide))
  | _ + 16, hk, _, _, _, _ => exact absurd hk (by omega)
end
end L02
namespace L02
open PySem.W PySem.Calls
open PySem PySem.Spec PyProof.Rows L2 Fp

def tabF : List He.Defn := [("_law_made_right", none), ("_law_reckoned_right", none), ("_law_refused_right", none), ("_law_rows_right", none)]
def exK (K : PySem.W.Frag) : Bool :=
  errB K "FieldError" && (((List.range 16).all fun k => errB K (cname k)) && (((List.range 14).all fun k => oexB K (cname k) (cfs k)) && ((zexB K "NothingToUndo" && zexB K "NothingToRedo") && (((List.range 16).all fun k => (List.range 16).all fun j => kitB K (cname k) (cname j) (decide (k = j))) && (
  ((List.range 16).all fun k => exmB K (cname k) "FieldError" true) && ((([("int" : PySem.Str), ("bool" : PySem.Str), ("str" : PySem.Str), ("list" : PySem.Str), ("tuple" : PySem.Str), ("len" : PySem.Str), ("range" : PySem.Str), ("repr" : PySem.Str), ("isinstance" : PySem.Str), ("ValueError" : PySem.Str), ("zip" : PySem.Str), ("all" : PySem.Str), ("abs" : PySem.Str)] : List Str).all fun x => (He.Fa.free x).ok K) && ((([("is_integer" : PySem.Str), ("is_ratio" : PySem.Str), ("pair" : PySem.Str), ("in_lowest" : PySem.Str), ("ratio" : PySem.Str), ("need_ratios" : PySem.Str), ("plus" : PySem.Str), ("added" : PySem.Str), ("minus" : PySem.Str), ("opposite" : PySem.Str), ("times" : PySem.Str), ("multiplied" : PySem.Str), ("over" : PySem.Str), ("divided" : PySem.Str), ("sign" : PySem.Str), ("sign_of" : PySem.Str), ("below" : PySem.Str), ("is_below" : PySem.Str), ("dot" : PySem.Str), ("summed" : PySem.Str), ("_law_pen" : PySem.Str), ("_law_draw" : PySem.Str), ("_law_pick" : PySem.Str), ("_law_is" : PySem.Str), ("_law_says" : PySem.Str), ("_law_divisor" : PySem.Str), ("_law_low" : PySem.Str), ("_law_pair" : PySem.Str), ("_law_plus" : PySem.Str), ("_law_opposite" : PySem.Str), ("_law_minus" : PySem.Str), ("_law_times" : PySem.Str), ("_law_over" : PySem.Str), ("_law_sign" : PySem.Str), ("_law_less" : PySem.Str), ("_law_dot" : PySem.Str), ("_law_is_list" : PySem.Str), ("_law_is_ratio" : PySem.Str), ("_law_is_whole" : PySem.Str), ("_law_is_any_row" : PySem.Str), ("_law_number" : PySem.Str), ("_law_wide" : PySem.Str), ("_law_size" : PySem.Str), ("_law_row" : PySem.Str), ("_law_odd" : PySem.Str), ("_law_bent_row" : PySem.Str), ("_law_fault" : PySem.Str), ("_law_kinds" : PySem.Str), ("_law_more_kinds" : PySem.Str), ("_law_made_right" : PySem.Str), ("_law_reckoned_right" : PySem.Str), ("_law_refused_right" : PySem.Str), ("_law_rows_right" : PySem.Str), ("law" : PySem.Str)] : List Str).all fun x => (He.Fa.glo x).ok K) && (
  He.eqO (PySem.W.nsIn K mainGlobals "gcd") (some (some (.builtin "math.gcd"))) && (tabF.all fun p => tabF.all fun q => decide (p = q) || !decide ((He.cT K p).2 = (He.cT K q).2))))))))))
abbrev fnD (x : Str) (st : Stmt) : He.DefD := ⟨(x, none), x, x, defArgs st, defBody st, defScope st, [], []⟩
abbrev inD (x : Str) (q : Str) (st : Stmt) : He.DefD := ⟨(x, some "__init__"), "__init__", q, defArgs st, defBody st, defScope st, [], []⟩
def defs : List He.DefD := [fnD "is_integer" (top 20),
  fnD "is_ratio" (top 21),
  fnD "pair" (top 22),
  fnD "in_lowest" (top 23),
  fnD "ratio" (top 24),
  fnD "need_ratios" (top 25),
  fnD "plus" (top 26),
  fnD "added" (top 27),
  fnD "minus" (top 28),
  fnD "opposite" (top 29),
  fnD "times" (top 30),
  fnD "multiplied" (top 31),
  fnD "over" (top 32),
  fnD "divided" (top 33),
  fnD "sign" (top 34),
  fnD "sign_of" (top 35),
  fnD "below" (top 36),
  fnD "is_below" (top 37),
  fnD "dot" (top 38),
  fnD "summed" (top 39),
  fnD "_law_pen" (top 41),
  fnD "_law_draw" (top 42),
  fnD "_law_pick" (top 43),
  fnD "_law_is" (top 44),
  fnD "_law_says" (top 45),
  fnD "_law_divisor" (top 46),
  fnD "_law_low" (top 47),
  fnD "_law_pair" (top 48),
  fnD "_law_plus" (top 49),
  fnD "_law_opposite" (top 50),
  fnD "_law_minus" (top 51),
  fnD "_law_times" (top 52),
  fnD "_law_over" (top 53),
  fnD "_law_sign" (top 54),
  fnD "_law_less" (top 55),
  fnD "_law_dot" (top 56),
  fnD "_law_is_list" (top 57),
  fnD "_law_is_ratio" (top 58),
  fnD "_law_is_whole" (top 59),
  fnD "_law_is_any_row" (top 60),
  fnD "_law_number" (top 61),
  fnD "_law_wide" (top 62),
  fnD "_law_size" (top 63),
  fnD "_law_row" (top 64),
  fnD "_law_odd" (top 65),
  fnD "_law_bent_row" (top 66),
  fnD "_law_fault" (top 67),
  fnD "_law_kinds" (top 68),
  fnD "_law_more_kinds" (top 69),
  fnD "_law_made_right" (top 70),
  fnD "_law_reckoned_right" (top 71),
  fnD "_law_refused_right" (top 72),
  fnD "_law_rows_right" (top 73),
  fnD "law" (top 74),
  inD "BadNumber" "BadNumber.__init__" si_BadNumber,
  inD "BadRow" "BadRow.__init__" si_BadRow,
  inD "BadTable" "BadTable.__init__" si_BadTable,
  inD "BadPoly" "BadPoly.__init__" si_BadPoly,
  inD "BadPaper" "BadPaper.__init__" si_BadPaper,
  inD "BadName" "BadName.__init__" si_BadName,
  inD "BadText" "BadText.__init__" si_BadText,
  inD "NoPlace" "NoPlace.__init__" si_NoPlace,
  inD "NoName" "NoName.__init__" si_NoName,
  inD "TakenName" "TakenName.__init__" si_TakenName,
  inD "Unlike" "Unlike.__init__" si_Unlike,
  inD "NotThere" "NotThere.__init__" si_NotThere,
  inD "TooMany" "TooMany.__init__" si_TooMany,
  inD "NotKept" "NotKept.__init__" si_NotKept]
abbrev Rw : PySem.W.OpenRow := PySem.W.OpenLaw.row PySem.Challenge.rw_fieldpapers_k02_ratios
abbrev hk : PySem.W.Hook := hookM 4 exK defs tabF
def loose : List Str := [("FieldError" : PySem.Str), ("BadNumber" : PySem.Str), ("BadRow" : PySem.Str), ("BadTable" : PySem.Str), ("BadPoly" : PySem.Str), ("BadPaper" : PySem.Str), ("BadName" : PySem.Str), ("BadText" : PySem.Str), ("NoPlace" : PySem.Str), ("NoName" : PySem.Str), ("TakenName" : PySem.Str), ("Unlike" : PySem.Str), ("NotThere" : PySem.Str), ("TooMany" : PySem.Str), ("NotKept" : PySem.Str), ("NothingToUndo" : PySem.Str), ("NothingToRedo" : PySem.Str), ("is_integer" : PySem.Str), ("is_ratio" : PySem.Str), ("pair" : PySem.Str), ("in_lowest" : PySem.Str), ("ratio" : PySem.Str), ("need_ratios" : PySem.Str), ("plus" : PySem.Str), ("added" : PySem.Str), ("minus" : PySem.Str), ("opposite" : PySem.Str), ("times" : PySem.Str), ("multiplied" : PySem.Str), ("over" : PySem.Str), ("divided" : PySem.Str), ("sign" : PySem.Str), ("sign_of" : PySem.Str), ("below" : PySem.Str), ("is_below" : PySem.Str)] ++ [("dot" : PySem.Str), ("summed" : PySem.Str), ("_law_pen" : PySem.Str), ("_law_draw" : PySem.Str), ("_law_pick" : PySem.Str), ("_law_is" : PySem.Str), ("_law_says" : PySem.Str), ("_law_divisor" : PySem.Str), ("_law_low" : PySem.Str), ("_law_pair" : PySem.Str), ("_law_plus" : PySem.Str), ("_law_opposite" : PySem.Str), ("_law_minus" : PySem.Str), ("_law_times" : PySem.Str), ("_law_over" : PySem.Str), ("_law_sign" : PySem.Str), ("_law_less" : PySem.Str), ("_law_dot" : PySem.Str), ("_law_is_list" : PySem.Str), ("_law_is_ratio" : PySem.Str), ("_law_is_whole" : PySem.Str), ("_law_is_any_row" : PySem.Str), ("_law_number" : PySem.Str), ("_law_wide" : PySem.Str), ("_law_size" : PySem.Str), ("_law_row" : PySem.Str), ("_law_odd" : PySem.Str), ("_law_bent_row" : PySem.Str), ("_law_fault" : PySem.Str), ("_law_kinds" : PySem.Str), ("_law_more_kinds" : PySem.Str), ("_law_made_right" : PySem.Str), ("_law_reckoned_right" : PySem.Str), ("_law_refused_right" : PySem.Str), ("_law_rows_right" : PySem.Str)]
def ob (s : PySem.W.SharedT) : Bool × List He.FnW := obsM 4 exK defs tabF (HandSHeadRun.getT s)
theorem ob_eq (s : PySem.W.SharedT) : ob s = hk.obs s.abs := by
  have e : HandSHeadRun.getT s = s.abs.heap.get? := funext fun a => HandSHeadRun.getT_eq s a
  show obsM 4 exK defs tabF (HandSHeadRun.getT s) = obsM 4 exK defs tabF s.abs.heap.get?
  rw [e]
abbrev Qv : Program := PySem.W.view Rw.prog [0, 74]
noncomputable abbrev whole (w : World) := HandSHeadRun.wholeF (fun p => HandSHeadRun.stepQ (HandSHeadRun.denQ HandSHeadRun.tabQ) p w) HandSHeadRun.fenceQ 40000 Rw.prog
theorem run1 (w : World) : (whole w).map (fun x => HandSHeadRun.looksF Rw.prog x.1.heap x.2.abs) = some true := by
  kernel_rfl
theorem run2 (w : World) : (whole w).map (fun x => HandSHeadRun.seenQ Qv loose (importedModules Rw.prog.main.body) (fun s => xlAt Qv [] s && recOk Rw.toRowW.records s) x.2.abs) = some (openGood Qv loose) := by
  kernel_rfl
theorem run3 (w : World) : (whole w).map (fun x => (ob x.2).1) = some true := by
  kernel_rfl
theorem run4 (w : World) : (whole w).map (fun x => (ob x.2).2) = some (defs.map He.DefD.val) := by
  kernel_rfl
theorem run (w : World) : HandSHeadRun.RunEqI Rw Qv hk ob 40000 loose w := by
  have h1 := run1 w
  have h2 := run2 w
  have h3 := run3 w
  have h4 := run4 w
  unfold HandSHeadRun.RunEqI
  show (whole w).map _ = _
  revert h1 h2 h3 h4
  cases whole w with
  | none => intro h1; cases h1
  | some x =>
    intro h1 h2 h3 h4
    exact congrArg some (Prod.ext (Option.some.inj h1) (Prod.ext (Option.some.inj h2) (Prod.ext (Option.some.inj h3) (Option.some.inj h4))))
end L02
namespace Fp
open PySem PySem.Spec PyProof.Rows L2

/-! ### texts of data are made of signs -/
def OkT (x : Str) : Prop := ∀ c ∈ x.cps.toList, c < 0x110000
theorem okT_append {x y : Str} (hx : OkT x) (hy : OkT y) : OkT (x ++ y) := fun c h => by
  have e : (x ++ y).cps.toList = x.cps.toList ++ y.cps.toList := by
    show (x.cps ++ y.cps).toList = _
    simp
  rw [e] at h
  exact (List.mem_append.mp h).elim (hx c) (hy c)
theorem char_ok (c : Char) : c.toNat < 0x110000 := by
  have h := c.valid
  rcases h with h | ⟨_, h⟩
  · exact Nat.lt_trans h (by decide)
  · exact h
theorem okT_ofString (s : String) : OkT (Str.ofString s) := fun c h => by
  rw [PyProof.Rows.signs_ofString s] at h
  obtain ⟨d, _, rfl⟩ := List.mem_map.mp h
  exact char_ok d
theorem hexT_ok (n c : Nat) : ∀ d ∈ List.replicate n 48 ++ (Nat.toDigits 16 c).map Char.toNat, d < 0x110000 := fun d h => by
  rcases List.mem_append.mp h with h | h
  · rw [(List.mem_replicate.mp h).2]; decide
  · obtain ⟨e, _, rfl⟩ := List.mem_map.mp h
    exact char_ok e
theorem reprCharT (q c : Nat) (hc : c < 0x110000) : ∀ d ∈ Builtin.Str.reprChar q c, d < 0x110000 := by
  intro d h
  unfold Builtin.Str.reprChar at h
  dsimp only at h
  have k : ∀ {l : List Nat} {m : List Nat}, (∀ x ∈ l, x < 0x110000) → (∀ x ∈ m, x < 0x110000) → ∀ x ∈ l ++ m, x < 0x110000 := fun h1 h2 x hx => (List.mem_append.mp hx).elim (h1 x) (h2 x)
  have two : ∀ a b : Nat, a < 0x110000 → b < 0x110000 → ∀ x ∈ [a, b], x < 0x110000 := fun a b h1 h2 x hx => by
    rcases List.mem_cons.mp hx with e | hx
    · rw [e]; exact h1
    · rw [List.mem_singleton.mp hx]; exact h2
  repeat' split at h
  all_goals first
    | exact two _ _ (by decide) hc d h
    | exact two _ _ (by decide) (by decide) d h
    | (rw [List.mem_singleton.mp h]; exact hc)
    | exact k (two _ _ (by decide) (by decide)) (hexT_ok _ _) d h
theorem okT_repr {x : Str} (hx : OkT x) : OkT (reprText x) := by
  intro c h
  unfold reprText at h
  rw [Array.toList_push] at h
  have hq : reprQuote x < 0x110000 := by unfold reprQuote; split <;> decide
  have key : ∀ (l : List Nat) (acc : Array Nat), (∀ c ∈ l, c < 0x110000) → (∀ c ∈ acc.toList, c < 0x110000) → ∀ c ∈ (l.foldl (fun out c => out ++ (Builtin.Str.reprChar (reprQuote x) c).toArray) acc).toList, c < 0x110000 := by
    intro l
    induction l with
    | nil => intro acc _ h2; exact h2
    | cons a r ih =>
      intro acc h1 h2
      refine ih _ (fun c hc => h1 c (List.mem_cons_of_mem _ hc)) fun c hc => ?_
      rw [Array.toList_append] at hc
      rcases List.mem_append.mp hc with hc | hc
      · exact h2 c hc
      · exact reprCharT _ _ (h1 a (List.mem_cons_self ..)) c (by simpa using hc)
  rcases List.mem_append.mp h with h | h
  · rw [← Array.foldl_toList] at h
    refine key _ _ hx (fun c hc => ?_) c h
    have : c = reprQuote x := by simpa using hc
    rw [this]; exact hq
  · rw [List.mem_singleton.mp h]; exact hq
theorem okT_join (y : Str) (hy : OkT y) : ∀ ts : List Str, (∀ t ∈ ts, OkT t) → OkT (Str.join y ts)
  | [], _ => fun c h => by simp [Str.join, Str.empty] at h
  | [x], h => h x (List.mem_cons_self ..)
  | x :: z :: r, h => by
    show OkT (x ++ y ++ Str.join y (z :: r))
    exact okT_append (okT_append (h x (List.mem_cons_self ..)) hy) (okT_join y hy (z :: r) fun t ht => h t (List.mem_cons_of_mem _ ht))
mutual
/-- all texts in it are made of signs -/
def txtOk : PyData → Bool
  | .str x => PyData.strOk x
  | .list xs | .tuple xs => txtOkAll xs
  | .dict kvs => txtOkKv kvs
  | .none | .bool _ | .int _ => true
def txtOkAll : List PyData → Bool
  | [] => true
  | x :: xs => txtOk x && txtOkAll xs
def txtOkKv : List (PyData × PyData) → Bool
  | [] => true
  | (k, v) :: r => txtOk k && txtOk v && txtOkKv r
end
theorem okT_of {x : Str} (h : PyData.strOk x = true) : OkT x := fun c hc => by
  unfold PyData.strOk at h
  rw [Array.all_eq_true'] at h
  have := h c (Array.mem_toList_iff.mp hc)
  simpa using this
theorem strOk_of {x : Str} (h : OkT x) : PyData.strOk x = true := by
  unfold PyData.strOk
  rw [Array.all_eq_true']
  intro c hc
  simpa using h c (Array.mem_toList_iff.mpr hc)
mutual
theorem okT_shown : ∀ d : PyData, txtOk d = true → OkT d.shown
  | .none, _ => okT_ofString _
  | .bool b, _ => by simp only [PyData.shown]; split <;> exact okT_ofString _
  | .int i, _ => by simp only [PyData.shown]; exact okT_ofString _
  | .str x, h => by
    simp only [PyData.shown]
    exact okT_repr (okT_of (by simpa only [txtOk] using h))
  | .list xs, h => by
    simp only [PyData.shown]
    rw [listText_eq_join]
    exact okT_append (okT_append (okT_ofString _) (okT_join _ (okT_ofString _) _ (okT_shownAll xs (by simpa only [txtOk] using h)))) (okT_ofString _)
  | .tuple xs, h => by
    simp only [PyData.shown]
    unfold tupleText
    exact okT_append (okT_append (okT_ofString _) (okT_join _ (okT_ofString _) _ (okT_shownAll xs (by simpa only [txtOk] using h)))) (okT_ofString _)
  | .dict kvs, h => by
    simp only [PyData.shown]
    unfold dictText
    exact okT_append (okT_append (okT_ofString _) (okT_join _ (okT_ofString _) _ (okT_shownKv kvs (by simpa only [txtOk] using h)))) (okT_ofString _)
theorem okT_shownAll : ∀ xs : List PyData, txtOkAll xs = true → ∀ t ∈ PyData.shownAll xs, OkT t
  | [], _, t, ht => by simp [PyData.shownAll] at ht
  | x :: xs, h, t, ht => by
    have h' : txtOk x = true ∧ txtOkAll xs = true := by simpa only [txtOkAll, Bool.and_eq_true] using h
    simp only [PyData.shownAll] at ht
    rcases List.mem_cons.mp ht with e | ht
    · rw [e]; exact okT_shown x h'.1
    · exact okT_shownAll xs h'.2 t ht
theorem okT_shownKv : ∀ kvs : List (PyData × PyData), txtOkKv kvs = true → ∀ t ∈ PyData.shownKv kvs, OkT t
  | [], _, t, ht => by simp [PyData.shownKv] at ht
  | (k, v) :: r, h, t, ht => by
    have h' : (txtOk k = true ∧ txtOk v = true) ∧ txtOkKv r = true := by simpa only [txtOkKv, Bool.and_eq_true] using h
    simp only [PyData.shownKv] at ht
    rcases List.mem_cons.mp ht with e | ht
    · rw [e]; exact okT_append (okT_append (okT_shown k h'.1.1) (okT_ofString _)) (okT_shown v h'.1.2)
    · exact okT_shownKv r h'.2 t ht
end

/-! ### kinds of data -/
def tyName : PyData → String
  | .none => "NoneType"
  | .bool _ => "bool"
  | .int _ => "int"
  | .str _ => "str"
  | .list _ => "list"
  | .tuple _ => "tuple"
  | .dict _ => "dict"
def isTy (d : PyData) (n : String) : Bool := (tyName d == n) || (tyName d == "bool" && n == "int")
theorem dt_ty {K : PySem.W.Frag} {H : Hp} {d : PyData} {v : V} (h : Dt K H d v) : TyX K H v (.type (tyName d)) := by
  cases d with
  | none => unfold Dt at h; subst h; exact .base .non
  | bool b => unfold Dt at h; subst h; exact .base (.bl b)
  | int i => unfold Dt at h; subst h; exact .base (.int i)
  | str x => unfold Dt at h; subst h; exact .base (.str x)
  | list ds =>
    unfold Dt at h
    obtain ⟨a, xs, rfl, s, _⟩ := h
    rcases s with (s | ⟨o, s⟩) | ⟨o, its, n, hk, hc, _⟩
    · exact .base (.lst s)
    · exact .base (.frz s)
    · exact .kList hk hc
  | tuple ds =>
    unfold Dt at h
    obtain ⟨a, xs, rfl, s, _⟩ := h
    rcases s with (s | ⟨o, s⟩) | ⟨o, its, n, hk, hc, _⟩
    · exact .base (.tup s)
    · exact .fTuple s
    · exact .kTuple hk hc
  | dict kvs =>
    unfold Dt at h
    obtain ⟨a, es, rfl, s, _⟩ := h
    exact .base (.dK s)
theorem kit_data {K : PySem.W.Frag} (d : PyData) (n : String) (hn : n = "int" ∨ n = "bool" ∨ n = "str" ∨ n = "list" ∨ n = "tuple" ∨ n = "dict") : PySem.W.kitOne K (.type (tyName d)) (.type n) = some (isTy d n) := by
  have key : ∀ t ∈ ["NoneType", "bool", "int", "str", "list", "tuple", "dict"], ∀ m ∈ ["int", "bool", "str", "list", "tuple", "dict"], L2.kitB t m = some ((t == m) || (t == "bool" && m == "int")) := by decide +kernel
  refine kit_ty (key _ ?_ _ ?_)
  · cases d <;> simp [tyName]
  · rcases hn with rfl | rfl | rfl | rfl | rfl | rfl <;> simp
/-- isinstance(x, T) of data -/
def rIsD (K : PySem.W.Frag) : List V → Hp → VK → Prop := fun xs H Q => ∃ (x : V) (n : String) (d : PyData), xs = [x, .ty n] ∧ Dt K H d x ∧ (n = "int" ∨ n = "bool" ∨ n = "str" ∨ n = "list" ∨ n = "tuple" ∨ n = "dict") ∧ Q (.bl (isTy d n)) H
theorem call_isD {X : Cx} : CallR X (.builtin "isinstance") (rIsD X.K) := by
  intro pins s σ H xs us Q I r h
  obtain ⟨x, n, d, rfl, hd, hn, q⟩ := h
  exact call_isi pins s σ H _ us Q I r ⟨x, .ty n, _, _, _, rfl, .ty n, dt_ty hd, kit_data d n hn, q⟩
/-- isinstance(x, (list, tuple)) of data, the tuple just laid -/
def rIsLT (K : PySem.W.Frag) : List V → Hp → VK → Prop := fun xs H Q => ∃ (x : V) (tp : Addr) (d : PyData), xs = [x, .ref tp] ∧ H tp = some (.tup [.ty "list", .ty "tuple"]) ∧ Dt K H d x ∧ Q (.bl (isTy d "list" || isTy d "tuple")) H
theorem call_isLT {X : Cx} : CallR X (.builtin "isinstance") (rIsLT X.K) := by
  intro pins s σ H xs us Q I r h
  obtain ⟨x, tp, d, rfl, ht, hd, q⟩ := h
  refine call_isiT pins s σ H _ us Q I r ⟨x, tp, _, _, _, _, rfl, ht, .cons (.ty "list") (.cons (.ty "tuple") .nil), dt_ty hd, ?_, q⟩
  refine kitAny_cons (kit_data d "list" (by simp)) (fun h1 => ?_) (fun h1 => by rw [h1, Bool.true_or])
  refine kitAny_cons (kit_data d "tuple" (by simp)) (fun h2 => ?_) (fun h2 => by rw [h2, Bool.or_true])
  rw [h1, h2]; exact kitAny_nil

/-! ### == of data -/
mutual
theorem dp_of {K : PySem.W.Frag} {H : Hp} : ∀ {d : PyData} {v : V}, d.canLay0 = true → Dt K H d v → Dp K H v d
  | .none, _, _, h => by unfold Dt at h; subst h; exact .non
  | .bool b, _, _, h => by unfold Dt at h; subst h; exact .bl b
  | .int i, _, _, h => by unfold Dt at h; subst h; exact .int i
  | .str x, _, _, h => by unfold Dt at h; subst h; exact .str x
  | .list ds, _, c, h => by
    unfold Dt at h
    obtain ⟨a, xs, rfl, s, r⟩ := h
    exact .lst s (dpAll_of (by simpa only [PyData.canLay0] using c) r)
  | .tuple ds, _, c, h => by
    unfold Dt at h
    obtain ⟨a, xs, rfl, s, r⟩ := h
    exact .tup s (dpAll_of (by simpa only [PyData.canLay0] using c) r)
  | .dict kvs, _, c, h => by simp [PyData.canLay0] at c
theorem dpAll_of {K : PySem.W.Frag} {H : Hp} : ∀ {ds : List PyData} {xs : List V}, PyData.canLayAll0 ds = true → DtAll K H ds xs → DpAll K H xs ds
  | [], _, _, h => by unfold DtAll at h; subst h; exact .nil
  | d :: ds, _, c, h => by
    unfold DtAll at h
    obtain ⟨x, r, rfl, h1, h2⟩ := h
    have c' : d.canLay0 = true ∧ PyData.canLayAll0 ds = true := by simpa only [PyData.canLayAll0, Bool.and_eq_true] using c
    exact .cons (dp_of c'.1 h1) (dpAll_of c'.2 h2)
end
/-- data that == may take -/
def EqOk (d : PyData) : Bool := SeqAt.shaped d
def rEqDt (K : PySem.W.Frag) : R2 := fun x y H Q => ∃ d e, Dt K H d x ∧ Dt K H e y ∧ EqOk d = true ∧ EqOk e = true ∧ Q (.bl (PyData.eqv d e)) H
def rNeDt (K : PySem.W.Frag) : R2 := fun x y H Q => ∃ d e, Dt K H d x ∧ Dt K H e y ∧ EqOk d = true ∧ EqOk e = true ∧ Q (.bl (!PyData.eqv d e)) H
theorem eqOk_lay {d : PyData} (h : EqOk d = true) : d.canLay0 = true := by
  unfold EqOk SeqAt.shaped at h
  exact (Bool.and_eq_true_iff.mp h).1
theorem opEqD {k : Nat} {X : Cx} (hr : RoomG k X.A) : OpR X (compareOp .Eq) (rEqDt X.K) := by
  intro pins s σ H x y u v Q I rx ry ⟨d, e, h1, h2, c1, c2, q⟩
  exact op_eqD (by have := hr.r.un; omega) pins s σ H x y u v Q I rx ry ⟨d, e, dp_of (eqOk_lay c1) h1, dp_of (eqOk_lay c2) h2, c1, c2, q⟩
theorem opNeD {k : Nat} {X : Cx} (hr : RoomG k X.A) : OpR X (compareOp .NotEq) (rNeDt X.K) := by
  intro pins s σ H x y u v Q I rx ry ⟨d, e, h1, h2, c1, c2, q⟩
  exact op_neD (by have := hr.r.un; omega) pins s σ H x y u v Q I rx ry ⟨d, e, dp_of (eqOk_lay c1) h1, dp_of (eqOk_lay c2) h2, c1, c2, q⟩
end Fp
namespace Fp
open PySem PySem.Spec PyProof.Rows L2
/-- == of ints, texts, None, bools; of any data -/
def rEqA (K : PySem.W.Frag) : R2 := fun x y H Q => rEq x y H Q ∨ rEqDt K x y H Q
theorem opEqA {k : Nat} {X : Cx} (hr : RoomG k X.A) : OpR X (compareOp .Eq) (rEqA X.K) := op_eq.or (opEqD hr)
def rNeA (K : PySem.W.Frag) : R2 := fun x y H Q => rNe x y H Q ∨ rNeDt K x y H Q
theorem opNeA {k : Nat} {X : Cx} (hr : RoomG k X.A) : OpR X (compareOp .NotEq) (rNeA X.K) := op_ne.or (opNeD hr)
def rFdivA : R2 := fun x y H Q => rI CDiv (fun i j => .int (i / j)) x y H Q ∨ rI CDivW (fun i j => .int (i / j)) x y H Q ∨ rI CDivN (fun i j => .int (i.fdiv j)) x y H Q
theorem opFdivA {X : Cx} : OpR X (binaryOp .FloorDiv) rFdivA := op_fdiv.or (op_fdivW.or op_fdivN)
/-- a promise about data: R tells the answer -/
def spDt (K : PySem.W.Frag) (n : Nat) (R : List PyData → PyData → Prop) : Sp := fun vs H Q _ => vs.length = n ∧ ∃ ds d, DtAll K H ds vs ∧ R ds d ∧ ∀ v H', Same H H' → Dt K H' d v → Q v H'
theorem dtAll1 {K : PySem.W.Frag} {H : Hp} {d : PyData} {v : V} (h : Dt K H d v) : DtAll K H [d] [v] := dtAll_cons h dtAll_nil
theorem dtAll2 {K : PySem.W.Frag} {H : Hp} {d e : PyData} {v u : V} (h : Dt K H d v) (h2 : Dt K H e u) : DtAll K H [d, e] [v, u] := dtAll_cons h (dtAll1 h2)
theorem dtAll_len {K : PySem.W.Frag} {H : Hp} : ∀ {ds : List PyData} {vs : List V}, DtAll K H ds vs → ds.length = vs.length
  | [], _, h => by unfold DtAll at h; subst h; rfl
  | d :: ds, _, h => by
    unfold DtAll at h
    obtain ⟨x, r, rfl, _, h2⟩ := h
    simp [dtAll_len h2]
theorem dtAll_one {K : PySem.W.Frag} {H : Hp} {ds : List PyData} {v : V} (h : DtAll K H ds [v]) : ∃ d, ds = [d] ∧ Dt K H d v := by
  cases ds with
  | nil => unfold DtAll at h; cases h
  | cons d r =>
    unfold DtAll at h
    obtain ⟨x, q, e, h1, h2⟩ := h
    injection e with e1 e2
    subst e1 e2
    cases r with
    | nil => exact ⟨d, rfl, h1⟩
    | cons _ _ => unfold DtAll at h2; obtain ⟨_, _, z, _⟩ := h2; cases z
theorem dtAll_two {K : PySem.W.Frag} {H : Hp} {ds : List PyData} {v u : V} (h : DtAll K H ds [v, u]) : ∃ d e, ds = [d, e] ∧ Dt K H d v ∧ Dt K H e u := by
  cases ds with
  | nil => unfold DtAll at h; cases h
  | cons d r =>
    unfold DtAll at h
    obtain ⟨x, q, e, h1, h2⟩ := h
    injection e with e1 e2
    subst e1 e2
    obtain ⟨e, rfl, h3⟩ := dtAll_one h2
    exact ⟨d, e, rfl, h1, h3⟩
theorem dt_bool {K : PySem.W.Frag} {H : Hp} {b : Bool} : Dt K H (.bool b) (.bl b) := by unfold Dt; rfl
theorem dt_none {K : PySem.W.Frag} {H : Hp} : Dt K H .none .non := by unfold Dt; rfl
theorem dt_int_inv {K : PySem.W.Frag} {H : Hp} {i : Int} {v : V} (h : Dt K H (.int i) v) : v = .int i := by unfold Dt at h; exact h
theorem dt_bool_inv {K : PySem.W.Frag} {H : Hp} {i : Bool} {v : V} (h : Dt K H (.bool i) v) : v = .bl i := by unfold Dt at h; exact h
theorem dt_str_inv {K : PySem.W.Frag} {H : Hp} {i : Str} {v : V} (h : Dt K H (.str i) v) : v = .str i := by unfold Dt at h; exact h
theorem dt_none_inv {K : PySem.W.Frag} {H : Hp} {v : V} (h : Dt K H .none v) : v = .non := by unfold Dt at h; exact h
theorem dt_tup_inv {K : PySem.W.Frag} {H : Hp} {ds : List PyData} {v : V} (h : Dt K H (.tuple ds) v) : ∃ a xs, v = .ref a ∧ SqT K H a xs ∧ DtAll K H ds xs := by unfold Dt at h; exact h
theorem dt_lst_inv {K : PySem.W.Frag} {H : Hp} {ds : List PyData} {v : V} (h : Dt K H (.list ds) v) : ∃ a xs, v = .ref a ∧ SqL K H a xs ∧ DtAll K H ds xs := by unfold Dt at h; exact h
/-- a pair of data -/
theorem dt_pair_inv {K : PySem.W.Frag} {H : Hp} {d e : PyData} {v : V} (h : Dt K H (.tuple [d, e]) v) : ∃ a x y, v = .ref a ∧ SqT K H a [x, y] ∧ Dt K H d x ∧ Dt K H e y := by
  obtain ⟨a, xs, rfl, s, r⟩ := dt_tup_inv h
  have hl := dtAll_len r
  match xs, hl with
  | [x, y], _ =>
    obtain ⟨d', e', z, h1, h2⟩ := dtAll_two r
    injection z with z1 z2
    injection z2 with z2 _
    subst z1 z2
    exact ⟨a, x, y, rfl, s, h1, h2⟩
/-- a tuple that was just laid -/
theorem dt_new {K : PySem.W.Frag} {H : Hp} {a : Addr} {xs : List V} {ds : List PyData} (n : H a = none) (r : DtAll K H ds xs) : Dt K (upd H a (.tup xs)) (.tuple ds) (.ref a) := dt_tup (.inl (.inl upd_same)) (r.mono (same_new n))
theorem dt_newL {K : PySem.W.Frag} {H : Hp} {a : Addr} {xs : List V} {ds : List PyData} (n : H a = none) (r : DtAll K H ds xs) : Dt K (upd H a (.lst xs)) (.list ds) (.ref a) := dt_lst (.inl (.inl upd_same)) (r.mono (same_new n))

/-! ### ratios -/
def isI : PyData → Bool
  | .int _ => true
  | _ => false
def isRatioD : PyData → Bool
  | .int _ => true
  | .tuple [.int t, .int b] => decide (1 < b) && decide (Nat.gcd t.natAbs b.natAbs = 1)
  | _ => false
def numD (n : Int × Int) : PyData := if n.2 = 1 then .int n.1 else .tuple [.int n.1, .int n.2]
def gcdI (t b : Int) : Int := if 0 < b then (Nat.gcd t.natAbs b.natAbs : Nat) else -((Nat.gcd t.natAbs b.natAbs : Nat) : Int)
def low (t b : Int) : Int × Int := (t / gcdI t b, b / gcdI t b)
/-- a ratio -/
structure Rt (d : PyData) (t b : Int) : Prop where
  e : d = numD (t, b)
  b0 : 0 < b
  g : Nat.gcd t.natAbs b.natAbs = 1
theorem gcdI_ne {t b : Int} (h : b ≠ 0) : gcdI t b ≠ 0 := by
  have : 0 < Nat.gcd t.natAbs b.natAbs := Nat.gcd_pos_of_pos_right _ (by omega)
  unfold gcdI
  split <;> omega
theorem gcdI_dvd_l (t b : Int) : gcdI t b ∣ t := by
  have h : ((Nat.gcd t.natAbs b.natAbs : Nat) : Int) ∣ t := Int.ofNat_dvd_left.mpr (Nat.gcd_dvd_left _ _)
  unfold gcdI
  split
  · exact h
  · exact Int.neg_dvd.mpr h
theorem gcdI_dvd_r (t b : Int) : gcdI t b ∣ b := by
  have h : ((Nat.gcd t.natAbs b.natAbs : Nat) : Int) ∣ b := Int.ofNat_dvd_left.mpr (Nat.gcd_dvd_right _ _)
  unfold gcdI
  split
  · exact h
  · exact Int.neg_dvd.mpr h
theorem low_one {t b : Int} (h : b ≠ 0) : (b = gcdI t b) ↔ (low t b).2 = 1 := by
  unfold low
  constructor
  · intro e
    show b / gcdI t b = 1
    rw [← e]; exact Int.ediv_self h
  · intro e
    have e : b / gcdI t b = 1 := e
    have := Int.ediv_mul_cancel (gcdI_dvd_r t b)
    rw [e] at this
    omega
theorem low_mul {t b : Int} : (low t b).1 * gcdI t b = t ∧ (low t b).2 * gcdI t b = b := ⟨Int.ediv_mul_cancel (gcdI_dvd_l t b), Int.ediv_mul_cancel (gcdI_dvd_r t b)⟩
theorem low_pos {t b : Int} (h : b ≠ 0) : 0 < (low t b).2 := by
  have e := (low_mul (t := t) (b := b)).2
  have g0 := gcdI_ne (t := t) h
  have sg : (0 < b → 0 < gcdI t b) ∧ (b < 0 → gcdI t b < 0) := by
    have : 0 < Nat.gcd t.natAbs b.natAbs := Nat.gcd_pos_of_pos_right _ (by omega)
    unfold gcdI
    constructor <;> intro hb
    · rw [if_pos hb]; omega
    · rw [if_neg (by omega)]; omega
  rcases Int.lt_trichotomy b 0 with hb | hb | hb
  · have g := sg.2 hb
    rcases Int.lt_trichotomy (low t b).2 0 with z | z | z
    · have := Int.mul_pos_of_neg_of_neg z g; omega
    · rw [z] at e; omega
    · exact z
  · exact absurd hb h
  · have g := sg.1 hb
    rcases Int.lt_trichotomy (low t b).2 0 with z | z | z
    · have := Int.mul_neg_of_neg_of_pos z g; omega
    · rw [z] at e; omega
    · exact z
end Fp
namespace Fp
open PySem PySem.Spec PyProof.Rows L2
theorem gcdI_abs (t b : Int) : (gcdI t b).natAbs = Nat.gcd t.natAbs b.natAbs := by
  unfold gcdI
  split <;> simp
theorem low_cop {t b : Int} (h : b ≠ 0) : Nat.gcd (low t b).1.natAbs (low t b).2.natAbs = 1 := by
  obtain ⟨e1, e2⟩ := low_mul (t := t) (b := b)
  have a1 : (low t b).1.natAbs * Nat.gcd t.natAbs b.natAbs = t.natAbs := by rw [← gcdI_abs, ← Int.natAbs_mul, e1]
  have a2 : (low t b).2.natAbs * Nat.gcd t.natAbs b.natAbs = b.natAbs := by rw [← gcdI_abs, ← Int.natAbs_mul, e2]
  have hg : 0 < Nat.gcd t.natAbs b.natAbs := Nat.gcd_pos_of_pos_right _ (by omega)
  have := Nat.gcd_mul_right (low t b).1.natAbs (Nat.gcd t.natAbs b.natAbs) (low t b).2.natAbs
  rw [a1, a2] at this
  exact Nat.eq_of_mul_eq_mul_right hg (by rw [← this, Nat.one_mul])
theorem frac_unique {p q p' q' : Int} (h : p * q' = p' * q) (hq : 0 < q) (hq' : 0 < q') (c : Nat.gcd p.natAbs q.natAbs = 1) (c' : Nat.gcd p'.natAbs q'.natAbs = 1) : p = p' ∧ q = q' := by
  have hn : p.natAbs * q'.natAbs = p'.natAbs * q.natAbs := by rw [← Int.natAbs_mul, ← Int.natAbs_mul, h]
  have d1 : q.natAbs ∣ q'.natAbs := by
    have : q.natAbs ∣ p.natAbs * q'.natAbs := by rw [hn]; exact Nat.dvd_mul_left _ _
    exact Nat.Coprime.dvd_of_dvd_mul_left (show Nat.Coprime q.natAbs p.natAbs from (Nat.gcd_comm _ _).trans c) this
  have d2 : q'.natAbs ∣ q.natAbs := by
    have : q'.natAbs ∣ p'.natAbs * q.natAbs := by rw [← hn]; exact Nat.dvd_mul_left _ _
    exact Nat.Coprime.dvd_of_dvd_mul_left (show Nat.Coprime q'.natAbs p'.natAbs from (Nat.gcd_comm _ _).trans c') this
  have eq : q = q' := by have := Nat.dvd_antisymm d1 d2; omega
  subst eq
  exact ⟨Int.eq_of_mul_eq_mul_right (by omega) h, rfl⟩
theorem low_eq {t b t' b' : Int} (hb : b ≠ 0) (hb' : b' ≠ 0) (h : t * b' = t' * b) : low t b = low t' b' := by
  obtain ⟨e1, e2⟩ := low_mul (t := t) (b := b)
  obtain ⟨f1, f2⟩ := low_mul (t := t') (b := b')
  have g0 := gcdI_ne (t := t) hb
  have g1 := gcdI_ne (t := t') hb'
  have key : (low t b).1 * (low t' b').2 = (low t' b').1 * (low t b).2 := by
    refine Int.eq_of_mul_eq_mul_right (Int.mul_ne_zero g0 g1) ?_
    calc (low t b).1 * (low t' b').2 * (gcdI t b * gcdI t' b') = ((low t b).1 * gcdI t b) * ((low t' b').2 * gcdI t' b') := by
          rw [Int.mul_assoc, Int.mul_assoc, Int.mul_left_comm (low t' b').2]
      _ = t * b' := by rw [e1, f2]
      _ = t' * b := h
      _ = ((low t' b').1 * gcdI t' b') * ((low t b).2 * gcdI t b) := by rw [f1, e2]
      _ = (low t' b').1 * (low t b).2 * (gcdI t b * gcdI t' b') := by
          rw [Int.mul_assoc, Int.mul_assoc, Int.mul_left_comm (low t b).2, Int.mul_left_comm (gcdI t' b'), Int.mul_comm (gcdI t' b') (gcdI t b), Int.mul_left_comm (low t b).2]
  obtain ⟨a, c⟩ := frac_unique key (low_pos hb) (low_pos hb') (low_cop hb) (low_cop hb')
  exact Prod.ext a c
theorem low_id {t b : Int} (h : 0 < b) (g : Nat.gcd t.natAbs b.natAbs = 1) : low t b = (t, b) := by
  unfold low gcdI
  rw [if_pos h, g]
  simp
theorem rt_low {t b : Int} (h : b ≠ 0) : Rt (numD (low t b)) (low t b).1 (low t b).2 := ⟨rfl, low_pos h, low_cop h⟩
theorem rt_int (t : Int) : Rt (.int t) t 1 := ⟨rfl, by decide, by simp⟩
theorem Rt.low {d : PyData} {t b : Int} (r : Rt d t b) : d = numD (low t b) := by rw [low_id r.b0 r.g]; exact r.e
theorem Rt.cases {d : PyData} {t b : Int} (r : Rt d t b) : (d = .int t ∧ b = 1) ∨ (d = .tuple [.int t, .int b] ∧ 1 < b) := by
  have h := r.e
  have := r.b0
  unfold numD at h
  split at h
  · rename_i e
    exact .inl ⟨h, e⟩
  · rename_i e
    have e : ¬ b = 1 := e
    exact .inr ⟨h, by omega⟩
theorem Rt.is {d : PyData} {t b : Int} (r : Rt d t b) : isRatioD d = true := by
  rcases r.cases with ⟨rfl, _⟩ | ⟨rfl, h⟩
  · rfl
  · simp [isRatioD, h, r.g]
theorem rt_of {d : PyData} (h : isRatioD d = true) : ∃ t b, Rt d t b := by
  unfold isRatioD at h
  split at h
  · exact ⟨_, 1, rt_int _⟩
  · rename_i t b
    simp only [Bool.and_eq_true, decide_eq_true_eq] at h
    exact ⟨t, b, by unfold numD; rw [if_neg (by show ¬ b = 1; omega)], by omega, h.2⟩
  · cases h
end Fp
namespace Fp
open PySem PySem.Spec PyProof.Rows L2
/-! ### sizes -/
structure Sz (t b : Int) : Prop where
  t : t.natAbs < 2 ^ 2000
  b : b.natAbs < 2 ^ 2000
/-- what in_lowest takes: a divisor that // can take -/
def LowOk (t b : Int) : Prop := b ≠ 0 ∧ (Nat.gcd t.natAbs b.natAbs).log2 < 9000 ∧ (b < 0 → Nat.gcd t.natAbs b.natAbs < 1073741824)
theorem log2_lt' {n k : Nat} (h : n < 2 ^ k) (hk : 0 < k) : n.log2 < k := by
  by_cases z : n = 0
  · subst z; simpa using hk
  · exact (Nat.log2_lt z).mpr h
theorem lowOk_pos {t b : Int} (h : 0 < b) (hb : b.natAbs < 2 ^ 8000) : LowOk t b := by
  refine ⟨by omega, log2_lt' (Nat.lt_of_le_of_lt (Nat.le_of_dvd (by omega) (Nat.gcd_dvd_right _ _)) (Nat.lt_trans hb (Nat.pow_lt_pow_right (by decide) (by decide)))) (by decide), fun z => by omega⟩
theorem mulW {i j : Int} {a b : Nat} (ha : i.natAbs < 2 ^ a) (hb : j.natAbs < 2 ^ b) (h0 : 0 < a := by decide) (h1 : 0 < b := by decide) (h : a + b ≤ 1000000 := by decide) : CMulW i j := wide_mul ha hb h0 h1 h
theorem mul_lt {i j : Int} {a b c : Nat} (ha : i.natAbs < 2 ^ a) (hb : j.natAbs < 2 ^ b) (h : a + b = c := by rfl) : (i * j).natAbs < 2 ^ c := by rw [← h]; exact wide_lt ha hb
theorem add_lt {i j : Int} {a b : Nat} (ha : i.natAbs < 2 ^ a) (hb : j.natAbs < 2 ^ a) (h : a + 1 = b := by rfl) : (i + j).natAbs < 2 ^ b := by
  rw [← h, Nat.pow_succ]
  omega
theorem one_lt : (1 : Int).natAbs < 2 ^ 2000 := by
  show 1 < 2 ^ 2000
  exact Nat.one_lt_two_pow (by decide)
/-- the sum, the product, the quotient of two ratios -/
def addN (a b : Int × Int) : Int × Int := low (a.1 * b.2 + b.1 * a.2) (a.2 * b.2)
def mulN (a b : Int × Int) : Int × Int := low (a.1 * b.1) (a.2 * b.2)
def divN (a b : Int × Int) : Int × Int := low (a.1 * b.2) (a.2 * b.1)
theorem low_ints (t : Int) : low t 1 = (t, 1) := low_id (by decide) (by simp)
theorem numD_int (t : Int) : numD (t, 1) = .int t := rfl
/-- an error BadNumber(what, v) is raised -/
def ErrN (K : PySem.W.Frag) (H : Hp) (E : XK) (what : Str) (v : V) : Prop := ∀ d H', Same H H' → H d = none → H' d = some (.xd (fsOf (.str what) v .non 0)) → E (.ref (He.ga K (cname 0))) (some d) H'
end Fp
/-! zip of a list and a tuple (turned from HandS.Zip0, HandS.Zip: one kind more) -/
namespace Fp
open PySem PySem.Spec PyProof.Rows L2 RZ
/-- a tuple (true), a list -/
def SqH (b : Bool) (h : Heap) (l : Addr) (xs : Array Value) : Prop := if b = true then h.IsTuple l xs else h.IsList l xs
def ItH (b : Bool) (h : Heap) (it l : Addr) (i : Nat) : Prop := if b = true then h.IsTupleIter it l i else h.IsListIter it l i
theorem SqH.extBut {b : Bool} {h h' : Heap} {a c : Addr} {xs : Array Value} (x : SqH b h a xs) (hs : Heap.ExtBut c h h') (hn : a ≠ c) : SqH b h' a xs := by
  cases b
  · exact Heap.IsList.extBut (show h.IsList a xs from x) hs hn
  · exact Heap.IsTuple.extBut (show h.IsTuple a xs from x) hs hn
theorem ItH.extBut {b : Bool} {h h' : Heap} {a l c : Addr} {i : Nat} (x : ItH b h a l i) (hs : Heap.ExtBut c h h') (hn : a ≠ c) : ItH b h' a l i := by
  cases b
  · exact Heap.IsListIter.extBut (show h.IsListIter a l i from x) hs hn
  · exact Heap.IsTupleIter.extBut (show h.IsTupleIter a l i from x) hs hn
theorem ItH.at {b : Bool} {h h' : Heap} {a l : Addr} {i : Nat} (x : ItH b h a l i) (e : ∀ o, h.get? a = some o → h'.get? a = some o) : ItH b h' a l i := by
  cases b
  · exact Heap.IsListIter.at (show h.IsListIter a l i from x) e
  · exact Heap.IsTupleIter.at (show h.IsTupleIter a l i from x) e
theorem ItH.obj {b : Bool} {h : Heap} {a l : Addr} {i : Nat} (x : ItH b h a l i) : ∃ o, h.get? a = some o ∧ ∀ v, o.data ≠ .cell v := by
  cases b
  · obtain ⟨o, e, _, d⟩ := (show h.IsListIter a l i from x)
    exact ⟨o, e, fun v q => by rw [d] at q; cases q⟩
  · obtain ⟨o, e, _, d⟩ := (show h.IsTupleIter a l i from x)
    exact ⟨o, e, fun v q => by rw [d] at q; cases q⟩
section
variable {prog : Program} {w : World} {A : Around} {E : Value → Shared → Prop} {s : Shared} {c1 c2 : Bool}
theorem nextOf_item {b : Bool} {it l : Addr} {i : Nat} {items : Array Value} {x : Value} {Q : Value → Shared → Prop} (hit : ItH b s.heap it l i) (hl : SqH b s.heap l items) (hx : items[i]? = some x)
    (hQ : ∀ h', ItH b h' it l (i + 1) → Heap.SameBut it s.heap h' → Q x { s with heap := h' }) : wpAny (model prog w) A (Builtin.SmallTypes.nextOf (.ref it)) Q E s := by
  cases b
  · exact wpAny_nextOf_list_item (show s.heap.IsListIter it l i from hit) (show s.heap.IsList l items from hl) hx hQ
  · exact nextOf_tuple_item (show s.heap.IsTupleIter it l i from hit) (show s.heap.IsTuple l items from hl) hx hQ
theorem nextOf_end {b : Bool} {it l : Addr} {i : Nat} {items : Array Value} {Q : Value → Shared → Prop} (hh : A.handled = none) (hit : ItH b s.heap it l i) (hl : SqH b s.heap l items) (hx : items[i]? = none)
    (hE : ∀ h' e, Heap.ExtBut it s.heap h' → (∃ o, h'.get? e = some o ∧ o.cls = .type "StopIteration") → E (.ref e) { s with heap := h' }) : wpAny (model prog w) A (Builtin.SmallTypes.nextOf (.ref it)) Q E s := by
  cases b
  · exact wpAny_nextOf_list_end hh (show s.heap.IsListIter it l i from hit) (show s.heap.IsList l items from hl) hx hE
  · exact nextOf_tuple_end hh (show s.heap.IsTupleIter it l i from hit) (show s.heap.IsTuple l items from hl) hx hE
theorem zipM_next_item {z TI TO i1 i2 l1 l2 : Addr} {k1 k2 : Nat} {xs ys : Array Value} {x y a b : Value} {Q : Value → Shared → Prop} (D : ZipApart z TI TO i1 i2 l1 l2)
    (hz : IsZip s.heap z TI TO .none) (hTI : IsPair s.heap TI (.ref i1) (.ref i2)) (hTO : IsPair s.heap TO a b)
    (h1 : ItH c1 s.heap i1 l1 k1) (h2 : ItH c2 s.heap i2 l2 k2) (hl1 : SqH c1 s.heap l1 xs) (hl2 : SqH c2 s.heap l2 ys) (hx : xs[k1]? = some x) (hy : ys[k2]? = some y)
    (hQ : ∀ h', IsZip h' z TI TO (rawInt s.heap.objs.size) → IsPair h' TO x y → ItH c1 h' i1 l1 (k1 + 1) → ItH c2 h' i2 l2 (k2 + 1) → IsPair h' s.heap.objs.size x y → h'.objs.size = s.heap.objs.size + 1 →
      (∀ c o, c ≠ z → c ≠ TO → c ≠ i1 → c ≠ i2 → s.heap.get? c = some o → h'.get? c = some o) → Q (.ref s.heap.objs.size) { s with heap := h' }) :
    wpAny (model prog w) A (Builtin.«zip.__next__» ⟨[.ref z], []⟩) (fun fin s' => ∃ v, fin = .done (.ret v) ∧ Q v s') E s := by
  show wpAny _ _ (field (.ref z) 2 >>= _) _ _ _
  refine wpAny_bind (wpAny_field hz rfl (x := .bool false) rfl ?_)
  show wpAny _ _ (field (.ref z) 3 >>= _) _ _ _
  refine wpAny_bind (wpAny_field hz rfl (x := .ref TI) rfl ?_)
  refine wpAny_bind (wpAny_seqItems hTI rfl ?_)
  show wpAny _ _ (Builtin.SmallTypes.ownedTupleIsFree (.ref z) >>= _) _ _ _
  refine wpAny_bind ?_
  unfold Builtin.SmallTypes.ownedTupleIsFree
  refine wpAny_bind (wpAny_field hz rfl (x := .none) rfl (wpAny_pure ?_))
  simp only [if_true]
  refine wpAny_bind (wpAny_rule ?_)
  refine wpAny_bind (wpAny_field hz rfl (x := .ref TO) rfl ?_)
  refine wpAny_bind (wpAny_setField_rec hz (by simp) fun h₁ hz₁ hs₁ => ?_)
  replace hz₁ : IsZip h₁ z TI TO .ellipsis := hz₁
  refine wpAny_bind ?_
  simp only [List.zipIdx_cons, List.zipIdx_nil, List.forIn_cons, List.forIn_nil]

  refine wpAny_bind (wpAny_bind (wpAny_onRaise ?_))
  show wpAny _ _ (Builtin.SmallTypes.nextOf (.ref i1) >>= _) _ _ _
  refine wpAny_bind (nextOf_item (h1.extBut hs₁.extBut D.i1z) (hl1.extBut hs₁.extBut D.l1z) hx fun h₂ h1₂ hs₂ => wpAny_pure ?_)
  have hTO₂ : IsPair h₂ TO a b := hs₂.extBut _ _ D.TOi1 (hs₁.extBut _ _ D.TOz hTO)
  refine wpAny_bind (wpAny_seqItems hTO₂ rfl ?_)
  refine wpAny_bind (wpAny_updateSeq_pair hTO₂ fun h₃ hTO₃ hs₃ => ?_)
  replace hTO₃ : IsPair h₃ TO x b := hTO₃
  refine wpAny_bind (wpAny_letGo (wpAny_pure ?_))

  refine wpAny_bind (wpAny_bind (wpAny_onRaise ?_))
  show wpAny _ _ (Builtin.SmallTypes.nextOf (.ref i2) >>= _) _ _ _
  refine wpAny_bind (nextOf_item (((h2.extBut hs₁.extBut D.i2z).extBut hs₂.extBut D.i12.symm).extBut hs₃.extBut D.TOi2.symm)
    (((hl2.extBut hs₁.extBut D.l2z).extBut hs₂.extBut D.l2i1).extBut hs₃.extBut D.l2TO) hy fun h₄ h2₄ hs₄ => wpAny_pure ?_)
  have hTO₄ : IsPair h₄ TO x b := hs₄.extBut _ _ D.TOi2 hTO₃
  refine wpAny_bind (wpAny_seqItems hTO₄ rfl ?_)
  refine wpAny_bind (wpAny_updateSeq_pair hTO₄ fun h₅ hTO₅ hs₅ => ?_)
  replace hTO₅ : IsPair h₅ TO x y := hTO₅
  refine wpAny_bind (wpAny_letGo (wpAny_pure (wpAny_pure ?_)))

  refine wpAny_bind (wpAny_seqItems hTO₅ rfl ?_)
  refine wpAny_bind (wpAny_newTuple ?_)
  have hsz : h₅.objs.size = s.heap.objs.size := by rw [hs₅.1, hs₄.1, hs₃.1, hs₂.1, hs₁.1]
  have hz₅ : IsZip h₅ z TI TO .ellipsis := hs₅.extBut _ _ D.TOz.symm (hs₄.extBut _ _ D.i2z.symm (hs₃.extBut _ _ D.TOz.symm (hs₂.extBut _ _ D.i1z.symm hz₁)))
  have hk₅ : ∀ c o, c ≠ z → c ≠ TO → c ≠ i1 → c ≠ i2 → s.heap.get? c = some o → h₅.get? c = some o := fun c o c1 c2 c3 c4 e =>
    hs₅.extBut _ _ c2 (hs₄.extBut _ _ c4 (hs₃.extBut _ _ c2 (hs₂.extBut _ _ c3 (hs₁.extBut _ _ c1 e))))
  have h1₅ : ItH c1 h₅ i1 l1 (k1 + 1) := ((h1₂.extBut hs₃.extBut D.TOi1.symm).extBut hs₄.extBut D.i12).extBut hs₅.extBut D.TOi1.symm
  have h2₅ : ItH c2 h₅ i2 l2 (k2 + 1) := h2₄.extBut hs₅.extBut D.TOi2.symm
  have hzlt : z < h₅.objs.size := Heap.lt_size hz₅
  have hTOlt : TO < h₅.objs.size := Heap.lt_size hTO₅
  have hi1lt : i1 < h₅.objs.size := by obtain ⟨_, e, _⟩ := h1₅.obj; exact Heap.lt_size e
  have hi2lt : i2 < h₅.objs.size := by obtain ⟨_, e, _⟩ := h2₅.obj; exact Heap.lt_size e
  show wpAny _ _ (Builtin.SmallTypes.ownedTupleHandOut (.ref z) (.ref h₅.objs.size) >>= _) _ _ _
  refine wpAny_bind ?_
  unfold Builtin.SmallTypes.ownedTupleHandOut
  have hz₆ : IsZip (h₅.push { cls := .type "tuple", data := .seq #[x, y] }) z TI TO .ellipsis := Heap.get?_push_of_some _ hz₅
  refine wpAny_bind (wpAny_setField_rec hz₆ (by simp) fun h₇ hz₇ hs₇ => ?_)
  replace hz₇ : IsZip h₇ z TI TO (rawInt h₅.objs.size) := hz₇
  refine wpAny_setField_rec hz₇ (by simp) fun h₈ hz₈ hs₈ => ?_
  replace hz₈ : IsZip h₈ z TI TO (rawInt h₅.objs.size) := hz₈
  have up : ∀ c o, c ≠ z → h₅.get? c = some o → h₈.get? c = some o := fun c o c1 e => hs₈.extBut _ _ c1 (hs₇.extBut _ _ c1 (Heap.get?_push_of_some _ e))
  have hT₈ : IsPair h₈ h₅.objs.size x y := hs₈.extBut _ _ (Nat.ne_of_gt hzlt) (hs₇.extBut _ _ (Nat.ne_of_gt hzlt) (Heap.get?_push_size _ rfl))
  have hz8 : h₈.objs.size = h₅.objs.size + 1 := by rw [hs₈.1, hs₇.1, Heap.size_push]
  rw [hsz] at hz₈ hT₈ hz8
  refine wpAny_pure ⟨_, rfl, ?_⟩
  show Q (.ref h₅.objs.size) _
  rw [hsz]
  exact hQ h₈ hz₈ (up _ _ D.TOz hTO₅) (h1₅.at fun o e => up _ o D.i1z e) (h2₅.at fun o e => up _ o D.i2z e) hT₈ hz8 fun c o c1 c2 c3 c4 e => up c o c1 (hk₅ c o c1 c2 c3 c4 e)

theorem zipM_next_end {z TI TO i1 i2 l1 l2 : Addr} {k1 k2 : Nat} {xs ys : Array Value} {a b : Value} {Q : Fin → Shared → Prop} (hh : A.handled = none) (D : ZipApart z TI TO i1 i2 l1 l2)
    (hz : IsZip s.heap z TI TO .none) (hTI : IsPair s.heap TI (.ref i1) (.ref i2)) (hTO : IsPair s.heap TO a b)
    (h1 : ItH c1 s.heap i1 l1 k1) (h2 : ItH c2 s.heap i2 l2 k2) (hl1 : SqH c1 s.heap l1 xs) (hl2 : SqH c2 s.heap l2 ys) (hend : xs[k1]? = none ∨ ys[k2]? = none)
    (hE : ∀ h' e, (∀ c o, c ≠ z → c ≠ TO → c ≠ i1 → c ≠ i2 → s.heap.get? c = some o → h'.get? c = some o) → (∃ o, h'.get? e = some o ∧ o.cls = .type "StopIteration") → E (.ref e) { s with heap := h' }) :
    wpAny (model prog w) A (Builtin.«zip.__next__» ⟨[.ref z], []⟩) Q E s := by
  show wpAny _ _ (field (.ref z) 2 >>= _) _ _ _
  refine wpAny_bind (wpAny_field hz rfl (x := .bool false) rfl ?_)
  show wpAny _ _ (field (.ref z) 3 >>= _) _ _ _
  refine wpAny_bind (wpAny_field hz rfl (x := .ref TI) rfl ?_)
  refine wpAny_bind (wpAny_seqItems hTI rfl ?_)
  show wpAny _ _ (Builtin.SmallTypes.ownedTupleIsFree (.ref z) >>= _) _ _ _
  refine wpAny_bind ?_
  unfold Builtin.SmallTypes.ownedTupleIsFree
  refine wpAny_bind (wpAny_field hz rfl (x := .none) rfl (wpAny_pure ?_))
  simp only [if_true]
  refine wpAny_bind (wpAny_rule ?_)
  refine wpAny_bind (wpAny_field hz rfl (x := .ref TO) rfl ?_)
  refine wpAny_bind (wpAny_setField_rec hz (by simp) fun h₁ hz₁ hs₁ => ?_)
  replace hz₁ : IsZip h₁ z TI TO .ellipsis := hz₁
  refine wpAny_bind ?_
  simp only [List.zipIdx_cons, List.zipIdx_nil, List.forIn_cons, List.forIn_nil]
  refine wpAny_bind (wpAny_bind (wpAny_onRaise ?_))
  show wpAny _ _ (Builtin.SmallTypes.nextOf (.ref i1) >>= _) _ _ _
  cases hx : xs[k1]? with
  | none =>
    refine wpAny_bind (nextOf_end hh (h1.extBut hs₁.extBut D.i1z) (hl1.extBut hs₁.extBut D.l1z) hx fun h₂ e hs₂ he => ?_)
    obtain ⟨oe, hoe, hce⟩ := he
    have hz₂ : IsZip h₂ z TI TO .ellipsis := hs₂ _ _ D.i1z.symm hz₁
    have hez : e ≠ z := fun x => by subst x; rw [hz₂] at hoe; cases hoe; simp at hce
    refine wpAny_setField_rec hz₂ (by simp) fun h₃ _ hs₃ => hE h₃ e (fun c o c1 _ c3 _ x => hs₃.extBut _ _ c1 (hs₂ _ _ c3 (hs₁.extBut _ _ c1 x))) ⟨oe, hs₃.extBut _ _ hez hoe, hce⟩
  | some x =>
    have hy : ys[k2]? = none := by rcases hend with h | h; rw [hx] at h; cases h; exact h
    refine wpAny_bind (nextOf_item (h1.extBut hs₁.extBut D.i1z) (hl1.extBut hs₁.extBut D.l1z) hx fun h₂ h1₂ hs₂ => wpAny_pure ?_)
    have hTO₂ : IsPair h₂ TO a b := hs₂.extBut _ _ D.TOi1 (hs₁.extBut _ _ D.TOz hTO)
    refine wpAny_bind (wpAny_seqItems hTO₂ rfl ?_)
    refine wpAny_bind (wpAny_updateSeq_pair hTO₂ fun h₃ hTO₃ hs₃ => ?_)
    refine wpAny_bind (wpAny_letGo (wpAny_pure ?_))
    refine wpAny_bind (wpAny_bind (wpAny_onRaise ?_))
    show wpAny _ _ (Builtin.SmallTypes.nextOf (.ref i2) >>= _) _ _ _
    refine wpAny_bind (nextOf_end hh (((h2.extBut hs₁.extBut D.i2z).extBut hs₂.extBut D.i12.symm).extBut hs₃.extBut D.TOi2.symm)
      (((hl2.extBut hs₁.extBut D.l2z).extBut hs₂.extBut D.l2i1).extBut hs₃.extBut D.l2TO) hy fun h₄ e hs₄ he => ?_)
    obtain ⟨oe, hoe, hce⟩ := he
    have hz₄ : IsZip h₄ z TI TO .ellipsis := hs₄ _ _ D.i2z.symm (hs₃.extBut _ _ D.TOz.symm (hs₂.extBut _ _ D.i1z.symm hz₁))
    have hez : e ≠ z := fun x => by subst x; rw [hz₄] at hoe; cases hoe; simp at hce
    refine wpAny_setField_rec hz₄ (by simp) fun h₅ _ hs₅ => hE h₅ e (fun c o c1 c2 c3 c4 x => hs₅.extBut _ _ c1 (hs₄ _ _ c4 (hs₃.extBut _ _ c2 (hs₂.extBut _ _ c3 (hs₁.extBut _ _ c1 x))))) ⟨oe, hs₅.extBut _ _ hez hoe, hce⟩

theorem pyNext_zipM_item {z TI TO i1 i2 l1 l2 : Addr} {k1 k2 : Nat} {xs ys : Array Value} {x y a b : Value} {Q : Option Value → Shared → Prop} (D : ZipApart z TI TO i1 i2 l1 l2)
    (hz : IsZip s.heap z TI TO .none) (hTI : IsPair s.heap TI (.ref i1) (.ref i2)) (hTO : IsPair s.heap TO a b)
    (h1 : ItH c1 s.heap i1 l1 k1) (h2 : ItH c2 s.heap i2 l2 k2) (hl1 : SqH c1 s.heap l1 xs) (hl2 : SqH c2 s.heap l2 ys) (hx : xs[k1]? = some x) (hy : ys[k2]? = some y)
    (hQ : ∀ h', IsZip h' z TI TO (rawInt s.heap.objs.size) → IsPair h' TO x y → ItH c1 h' i1 l1 (k1 + 1) → ItH c2 h' i2 l2 (k2 + 1) → IsPair h' s.heap.objs.size x y → h'.objs.size = s.heap.objs.size + 1 →
      (∀ c o, c ≠ z → c ≠ TO → c ≠ i1 → c ≠ i2 → s.heap.get? c = some o → h'.get? c = some o) → Q (some (.ref s.heap.objs.size)) { s with heap := h' }) :
    wpAny (model prog w) A (pyNext (.ref z)) Q E s := by
  have hT : s.TypeIs (.ref z) "zip" := ⟨_, hz, rfl⟩
  unfold pyNext
  exact wpAny_bind (wpAny_attempt (wpAny_callSpecial?_slot (name := Str.ofString "__next__") hT F.slot_zip_next
    (wpAny_call_entry F.slot_zip_next hT F.entry_zip_next
      (zipM_next_item D hz hTI hTO h1 h2 hl1 hl2 hx hy fun h' a1 a2 a3 a4 a5 a6 a7 => wpAny_pure (hQ h' a1 a2 a3 a4 a5 a6 a7)) (F.args_zip_next_1 _))))

theorem pyNext_zipM_end {z TI TO i1 i2 l1 l2 : Addr} {k1 k2 : Nat} {xs ys : Array Value} {a b : Value} {Q : Option Value → Shared → Prop} (hh : A.handled = none) (D : ZipApart z TI TO i1 i2 l1 l2)
    (hz : IsZip s.heap z TI TO .none) (hTI : IsPair s.heap TI (.ref i1) (.ref i2)) (hTO : IsPair s.heap TO a b)
    (h1 : ItH c1 s.heap i1 l1 k1) (h2 : ItH c2 s.heap i2 l2 k2) (hl1 : SqH c1 s.heap l1 xs) (hl2 : SqH c2 s.heap l2 ys) (hend : xs[k1]? = none ∨ ys[k2]? = none)
    (hQ : ∀ h', (∀ c o, c ≠ z → c ≠ TO → c ≠ i1 → c ≠ i2 → s.heap.get? c = some o → h'.get? c = some o) → Q none { s with heap := h' }) : wpAny (model prog w) A (pyNext (.ref z)) Q E s := by
  have hT : s.TypeIs (.ref z) "zip" := ⟨_, hz, rfl⟩
  unfold pyNext
  refine wpAny_bind (wpAny_attempt (wpAny_callSpecial?_slot (name := Str.ofString "__next__") hT F.slot_zip_next
    (wpAny_call_entry F.slot_zip_next hT F.entry_zip_next (zipM_next_end hh D hz hTI hTO h1 h2 hl1 hl2 hend fun h' e hk he => ?_) (F.args_zip_next_1 _))))
  obtain ⟨o, ho, hc⟩ := he
  refine wpAny_bind (wpAny_isInstance (T := "StopIteration") (b := true) ⟨o, ho, hc⟩ isSubtype_stop ?_)
  exact wpAny_pure (hQ _ hk)
end
abbrev zmH1 (h : Heap) (l1 : Addr) : Heap := h.push { cls := .type "list_iterator", data := .fields #[.ref l1, .int 0 0] }
abbrev zmH2 (h : Heap) (l1 l2 : Addr) : Heap := (zmH1 h l1).push { cls := .type "tuple_iterator", data := .fields #[.ref l2, .int 0 0] }
abbrev zmH3 (h : Heap) (l1 l2 : Addr) : Heap := (zmH2 h l1 l2).push { cls := .type "tuple", data := .seq #[.ref h.objs.size, .ref (zmH1 h l1).objs.size] }
abbrev zmH4 (h : Heap) (l1 l2 : Addr) : Heap := (zmH3 h l1 l2).push { cls := .type "tuple", data := .seq #[.none, .none] }
abbrev zmH5 (h : Heap) (l1 l2 : Addr) : Heap := (zmH4 h l1 l2).push { cls := .type "zip", data := .fields #[.none, .bool false, .bool false, .ref (zmH2 h l1 l2).objs.size, .ref (zmH3 h l1 l2).objs.size] }
theorem meets_zipM_new (l1 l2 : Addr) (xs ys : Array Value) :
    Meets (Builtin.«zip.__new__» ⟨[.type "zip", .ref l1, .ref l2], []⟩) (fun _ R s => s.heap.IsList l1 xs ∧ s.heap.IsTuple l2 ys ∧
      R (.ok (.ret (.ref (zmH4 s.heap l1 l2).objs.size))) { s with heap := zmH5 s.heap l1 l2 }) :=
  .of_wp fun prog w A R s h => by
    obtain ⟨hp, g, d, tk, os⟩ := s; obtain ⟨hl1, hl2, h⟩ := h
    have hsub := sub_zip
    have hL1 : Heap.IsList (Shared.heap ⟨hp, g, d, tk, os⟩) l1 xs := hl1
    have hL2 : Heap.IsTuple (Shared.heap ⟨hp.push { cls := .type "list_iterator", data := .fields #[.ref l1, .int 0 0] }, g, d, tk, os⟩) l2 ys := Heap.IsTuple.push hl2 _
    wp_walk using wpAny_pyIter_list hL1, wpAny_pyIter_tuple hL2
    exact ⟨_, rfl, h⟩
section
variable {prog : Program} {w : World} {A : Around} {E : Value → Shared → Prop} {s : Shared}
theorem call_zipM {l1 l2 : Addr} {xs ys : Array Value} {Q : Value → Shared → Prop} (hl1 : s.heap.IsList l1 xs) (hl2 : s.heap.IsTuple l2 ys)
    (h : ∀ h', IsZip h' (s.heap.objs.size + 4) (s.heap.objs.size + 2) (s.heap.objs.size + 3) .none → IsPair h' (s.heap.objs.size + 2) (.ref s.heap.objs.size) (.ref (s.heap.objs.size + 1)) →
      IsPair h' (s.heap.objs.size + 3) .none .none → ItH false h' s.heap.objs.size l1 0 → ItH true h' (s.heap.objs.size + 1) l2 0 →
      (∀ c o, s.heap.get? c = some o → h'.get? c = some o) → Q (.ref (s.heap.objs.size + 4)) { s with heap := h' }) :
    wpAny (model prog w) A (call (.type "zip") [.ref l1, .ref l2]) Q E s := by
  refine callType_new F.called_zip (by decide) (F.typeCall_zip_2 _ _) (F.newCall_zip_2 _ _) (fun obj => F.args_object_init_3 obj _ _) F.entry_zip_new
    (meets_zipM_new l1 l2 xs ys) ⟨hl1, hl2, ?_⟩
  have z1 : (zmH1 s.heap l1).objs.size = s.heap.objs.size + 1 := Heap.size_push ..
  have z2 : (zmH2 s.heap l1 l2).objs.size = s.heap.objs.size + 2 := by rw [Heap.size_push, z1]
  have z3 : (zmH3 s.heap l1 l2).objs.size = s.heap.objs.size + 3 := by rw [Heap.size_push, z2]
  have z4 : (zmH4 s.heap l1 l2).objs.size = s.heap.objs.size + 4 := by rw [Heap.size_push, z3]
  have up : ∀ {h : Heap} {o o' : Obj} {c : Addr}, h.get? c = some o → (h.push o').get? c = some o := fun e => Heap.get?_push_of_some _ e
  have g5 : (zmH5 s.heap l1 l2).get? (zmH4 s.heap l1 l2).objs.size = some _ := Heap.get?_push_size _ rfl
  have g4 : (zmH5 s.heap l1 l2).get? (zmH3 s.heap l1 l2).objs.size = some _ := up (Heap.get?_push_size _ rfl)
  have g3 : (zmH5 s.heap l1 l2).get? (zmH2 s.heap l1 l2).objs.size = some _ := up (up (Heap.get?_push_size _ rfl))
  have g2 : (zmH5 s.heap l1 l2).get? (zmH1 s.heap l1).objs.size = some _ := up (up (up (Heap.get?_push_size _ rfl)))
  have g1 : (zmH5 s.heap l1 l2).get? s.heap.objs.size = some _ := up (up (up (up (Heap.get?_push_size _ rfl))))
  show _ ∧ _
  rw [z2, z3, z4] at g5
  rw [z1, z2] at g3
  rw [z3] at g4
  rw [z1] at g2
  rw [z4]
  exact ⟨⟨_, g5, rfl⟩, h _ g5 g3 g4 ⟨_, g1, rfl, rfl⟩ ⟨_, g2, rfl, rfl⟩ fun c o x => up (up (up (up (up x))))⟩
end
/-- the list at a and the tuple at b as they stand at each turn, the items in new pairs -/
def ItzM (K : PySem.W.Frag) (a b : Addr) : It :=
  ⟨fun i H => ∃ (xs ys : List V) (x y : V), SqL K H a xs ∧ SqT K H b ys ∧ xs[i]? = some x ∧ ys[i]? = some y,
    fun i H v H' => ∃ T x y, v = .ref T ∧ H T = none ∧ H' = upd H T (.tup [x, y]) ∧ (∀ xs, SqL K H a xs → xs[i]? = some x) ∧ ∀ ys, SqT K H b ys → ys[i]? = some y,
    fun i H => ∃ xs ys : List V, SqL K H a xs ∧ SqT K H b ys ∧ (xs.length ≤ i ∨ ys.length ≤ i)⟩
theorem turn_zipM {P : Program} {w : World} {K : PySem.W.Frag} {elts : List Expr} {kk : Nat} {tpos : Pos} {a b z TI TO i1 i2 : Addr} (D : ZipApart z TI TO i1 i2 a b) :
    Turn P w K (.Tuple elts kk tpos) (ItzM K a b) [z, TI, TO, i1, i2] z (fun i h => IsZip h z TI TO .none ∧ IsPair h TI (.ref i1) (.ref i2) ∧ (∃ x y, IsPair h TO x y) ∧ ItH false h i1 a i ∧ ItH true h i2 b i) where
  mem := by simp
  obj := fun i h st c hc => by
    obtain ⟨hz, hTI, ⟨x, y, hTO⟩, q1, q2⟩ := st
    obtain ⟨o1, e1, d1⟩ := q1.obj
    obtain ⟨o2, e2, d2⟩ := q2.obj
    have e' : c = z ∨ c = TI ∨ c = TO ∨ c = i1 ∨ c = i2 := by simpa using hc
    rcases e' with q | q | q | q | q
    · rw [q]; exact ⟨_, hz, fun v q => nomatch q⟩
    · rw [q]; exact ⟨_, hTI, fun v q => nomatch q⟩
    · rw [q]; exact ⟨_, hTO, fun v q => nomatch q⟩
    · rw [q]; exact ⟨o1, e1, fun v q => by exact d1 v q⟩
    · rw [q]; exact ⟨o2, e2, fun v q => by exact d2 v q⟩
  keep := fun i h h' st k => by
    obtain ⟨hz, hTI, ⟨x, y, hTO⟩, h1, h2⟩ := st
    exact ⟨k z (by simp) _ hz, k TI (by simp) _ hTI, ⟨x, y, k TO (by simp) _ hTO⟩, h1.at fun o q => k i1 (by simp) o q, h2.at fun o q => k i2 (by simp) o q⟩
  item := by
    intro X hP hw hK hc i pins s σ H E I hf st hg
    subst hP hw hK
    obtain ⟨hz, hTI, ⟨x0, y0, hTO⟩, h1, h2⟩ := st
    obtain ⟨xs, ys, x, y, hqx, hqy, hx, hy⟩ := hg
    obtain ⟨its, rv, p, _⟩ := I.list hqx
    obtain ⟨its2, rv2, p2, _⟩ := I.tuple hqy
    obtain ⟨u, hu, ru⟩ := rv.get hx
    obtain ⟨u2, hu2, ru2⟩ := rv2.get hy
    have hzl : z < s.heap.objs.size := Heap.lt_size hz
    refine pyNext_zipM_item D hz hTI hTO h1 h2 (c1 := false) (c2 := true) p.isList p2 (x := u) (y := u2) (by simpa using hu) (by simpa using hu2) fun h' z' TO' h1' h2' hT hsz hk => ?_
    refine ⟨_, rfl, wpAny_letOwnedTupleGo_zip (s := { s with heap := h' }) z' fun h'' z'' sb => ?_⟩
    have hT2 : h''.get? s.heap.objs.size = some { cls := .type "tuple", data := .seq #[u, u2] } := (sb.2 _ (Nat.ne_of_gt hzl)).trans hT
    have new : ObjOk X.prog X.w (upd H s.heap.objs.size (.tup [x, y])) h'' s.heap.objs.size (.tup [x, y]) :=
      ⟨by show 2 ≤ sizeLine; decide, [u, u2], .cons ru (.cons ru2 .nil), ⟨_, hT2, rfl, _, rfl⟩⟩
    have I1 : Inv X pins σ (upd H s.heap.objs.size (.tup [x, y])) { s with heap := h'' } :=
      I.turnedNew (t' := s.toks) (ch := [z, TI, TO, i1, i2]) (fun c o hb q => (sb.2 c (fun q' => hb (by simp [q']))).trans (hk c o (fun q' => hb (by simp [q'])) (fun q' => hb (by simp [q'])) (fun q' => hb (by simp [q'])) (fun q' => hb (by simp [q'])) q)) hf (Nat.le_refl _) new
    refine ⟨.ref s.heap.objs.size, _, I1, rfl, ⟨_, x, y, rfl, I.hok.fresh (Nat.le_refl _), rfl, fun l hl => by rw [I.list_inj hl hqx]; exact hx, fun l hl => by rw [I.tuple_inj hl hqy]; exact hy⟩, ⟨z'', ?_, ⟨u, u2, ?_⟩, ?_, ?_⟩, fun c hcm => ?_⟩
    · exact (sb.2 _ D.TIz).trans (hk _ _ D.TIz D.TITO D.TIi1 D.TIi2 hTI)
    · exact (sb.2 _ D.TOz).trans TO'
    · exact h1'.at fun o q => (sb.2 _ D.i1z).trans q
    · exact h2'.at fun o q => (sb.2 _ D.i2z).trans q
    · have hlt : c < s.heap.objs.size := by
        have e' : c = z ∨ c = TI ∨ c = TO ∨ c = i1 ∨ c = i2 := by simpa using hcm
        rcases e' with q | q | q | q | q
        · rw [q]; exact hzl
        · rw [q]; exact Heap.lt_size hTI
        · rw [q]; exact Heap.lt_size hTO
        · rw [q]; obtain ⟨_, e1, _⟩ := h1.obj; exact Heap.lt_size e1
        · rw [q]; obtain ⟨_, e2, _⟩ := h2.obj; exact Heap.lt_size e2
      rw [upd_ne (Nat.ne_of_lt hlt)]
      exact (hf c hcm).1
  done := by
    intro X hP hw hK hc i pins s σ H E I hf st hg
    subst hP hw hK
    obtain ⟨hz, hTI, ⟨x0, y0, hTO⟩, h1, h2⟩ := st
    obtain ⟨xs, ys, hqx, hqy, hend⟩ := hg
    obtain ⟨its, rv, p, _⟩ := I.list hqx
    obtain ⟨its2, rv2, p2, _⟩ := I.tuple hqy
    have l1 := rv.length
    have l2 := rv2.length
    have he : its.toArray[i]? = none ∨ its2.toArray[i]? = none := by
      rcases hend with q | q
      · exact .inl (by simp; omega)
      · exact .inr (by simp; omega)
    exact pyNext_zipM_end (I.ok.hd hc) D hz hTI hTO h1 h2 (show SqH false s.heap a its.toArray from p.isList) (show SqH true s.heap b its2.toArray from p2) he fun h' hk => ⟨rfl, I.turnedL (t' := s.toks) (ch := [z, TI, TO, i1, i2]) (fun c o hb q =>
      hk c o (fun q' => hb (by simp [q'])) (fun q' => hb (by simp [q'])) (fun q' => hb (by simp [q'])) (fun q' => hb (by simp [q'])) q) hf⟩
  self := fun A i s Q E st h => wpAny_pyIter_zip st.1 h


def iZipM (K : PySem.W.Frag) (ta : TA) : TI := fun σ H R => ta σ H fun vs H1 => ∃ a b xs ys, vs = [.ref a, .ref b] ∧ SqL K H1 a xs ∧ SqT K H1 b ys ∧ R (ItzM K a b) H1
theorem pi_zipM {X : Cx} {e e2 : Expr} {ta : TA} {p pos tpos : Pos} {elts : List Expr} {kk : Nat} (hg : Gl X "zip") (hm : X.mg "zip" = none) (ha : PA X [e, e2] ta)
    (hs : starEach [e, e2] X.env = (false, eval e X.env) :: starEach [e2] X.env := by rfl) (hpl : (backTo pos (starEach [e2] X.env)).any (·.1) = false := by rfl) :
    PI X (.Tuple elts kk tpos) (.Call (.Name "zip" p) [e, e2] [] pos) (iZipM X.K ta) := by
  refine ⟨fun pins s σ H R I h => ?_⟩
  refine Call_ (ld_blt I hg hm PyProof.Rows.boot_zip (PyProof.Rows.callWith_type1 (thn (ha.run pos pins s σ H _ I h) fun us s1 ⟨vs, H1, I1, r1, q1⟩ => ?_) hs hpl))
  obtain ⟨a, b, xs, ys, ex, hqx, hqy, q⟩ := q1
  subst ex
  cases r1 with
  | cons r rr =>
    cases rr with
    | cons r' rr =>
      cases rr
      cases r
      cases r'
      have fresh5 : ∀ c, c ∈ [s1.heap.objs.size + 4, s1.heap.objs.size + 2, s1.heap.objs.size + 3, s1.heap.objs.size, s1.heap.objs.size + 1] → FpOk X pins H1 c := fun c hcm => by
        have e' : c = s1.heap.objs.size + 4 ∨ c = s1.heap.objs.size + 2 ∨ c = s1.heap.objs.size + 3 ∨ c = s1.heap.objs.size ∨ c = s1.heap.objs.size + 1 := by simpa using hcm
        have hle : s1.heap.objs.size ≤ c := by
          rcases e' with z | z | z | z | z <;> rw [z] <;> first | exact Nat.le_add_right _ _ | exact Nat.le_refl _
        exact I1.fpOk hle (I1.hok.fresh hle)
      obtain ⟨its, rv, p1, _⟩ := I1.list hqx
      obtain ⟨its2, rv2, p2, _⟩ := I1.tuple hqy
      obtain ⟨o2, ho2, _⟩ := id p2
      refine call_zipM p1.isList (show s1.heap.IsTuple b its2.toArray from p2) fun h' hz hTI hTO h1 h2 hk => wpAny_pyIter_zip hz ?_
      have I2 : Inv X pins σ H1 { s1 with heap := h' } := I1.kept (t' := s1.toks) hk
      exact ⟨s1.heap.objs.size + 4, [s1.heap.objs.size + 4, s1.heap.objs.size + 2, s1.heap.objs.size + 3, s1.heap.objs.size, s1.heap.objs.size + 1], _, _, H1, rfl, I2, turn_zipM (PySem.W.ktu_apart s1.heap.objs.size a b p1.lt (Heap.lt_size ho2)), ⟨hz, hTI, ⟨_, _, hTO⟩, h1, h2⟩, fresh5, q⟩
theorem walk_zipM {K : PySem.W.Frag} {a b : Addr} {xs ys : List V} {n : Nat} (hn : n = min xs.length ys.length) : Walk (ItzM K a b) n (fun H => SqL K H a xs ∧ SqT K H b ys) (YPair (fun i => xs[i]?) (fun i => ys[i]?)) := by
  subst hn
  refine ⟨fun i _ hi q => ?_, fun _ q => ⟨xs, ys, q.1, q.2, by omega⟩, fun i H v H' _ q y => ?_⟩
  · have h1 : i < xs.length := by omega
    have h2 : i < ys.length := by omega
    exact ⟨xs, ys, xs[i], ys[i], q.1, q.2, by simp [h1], by simp [h2]⟩
  · obtain ⟨T, x, z, h1, h2, h3, h4, h5⟩ := y
    exact ⟨T, x, z, h1, h2, h3, h4 xs q.1, h5 ys q.2⟩
theorem walk_zipTT {K : PySem.W.Frag} {a b : Addr} {xs ys : List V} {n : Nat} (hn : n = min xs.length ys.length) : Walk (ItzT K a b) n (fun H => SqT K H a xs ∧ SqT K H b ys) (YPair (fun i => xs[i]?) (fun i => ys[i]?)) := by
  subst hn
  refine ⟨fun i _ hi q => ?_, fun _ q => ⟨xs, ys, q.1, q.2, by omega⟩, fun i H v H' _ q y => ?_⟩
  · have h1 : i < xs.length := by omega
    have h2 : i < ys.length := by omega
    exact ⟨xs, ys, xs[i], ys[i], q.1, q.2, by simp [h1], by simp [h2]⟩
  · obtain ⟨T, x, z, h1, h2, h3, h4, h5⟩ := y
    exact ⟨T, x, z, h1, h2, h3, h4 xs q.1, h5 ys q.2⟩
/-- one of two ways to walk -/
theorem PI.or {X : Cx} {tg e : Expr} {t u : TI} (h : PI X tg e t) (g : PI X tg e u) : PI X tg e (fun σ H R => t σ H R ∨ u σ H R) := ⟨fun pins s σ H R I q => q.elim (h.run pins s σ H R I) (g.run pins s σ H R I)⟩
end Fp
/-! comprehensions over data; x == []; all; errors with told fields -/
namespace Fp
open PySem PySem.Spec PyProof.Rows L2 RZ
theorem passN {X : Cx} (σ : L2.St) : PassesAt (L2.CX X.prog X.w) X σ (fun _ _ _ => False) := fun _ _ _ e s' _ c => by
  obtain ⟨_, _, _, _, _, _, _, _, _, _, _, _, z⟩ := c
  exact z.elim
/-! ### x == [] -/
def rEqNil (K : PySem.W.Frag) : R2 := fun x y H Q => ∃ a b xs, x = .ref a ∧ y = .ref b ∧ SqL K H a xs ∧ SqL K H b [] ∧ Q (.bl xs.isEmpty) H
theorem opEqNil {k : Nat} {X : Cx} (hr : RoomG k X.A) : OpR X (compareOp .Eq) (rEqNil X.K) := by
  intro pins s σ H x y u v Q I rx ry ⟨a, b, xs, e1, e2, h1, h2, q⟩
  subst e1 e2
  obtain rfl : u = Value.ref a := rx
  obtain rfl : v = Value.ref b := ry
  obtain ⟨its, r1, p1, _⟩ := I.list h1
  obtain ⟨its2, r2, p2, _⟩ := I.list h2
  have hu : X.A.units < cLine := by have := hr.r.un; omega
  have l1 := r1.length
  have l2 := r2.length
  cases xs with
  | nil =>
    have e1 : its = [] := List.eq_nil_of_length_eq_zero (by simpa using l1.symm)
    have e2 : its2 = [] := List.eq_nil_of_length_eq_zero (by simpa using l2.symm)
    subst e1 e2
    exact SeqAt.eq_listAt (e := fun _ => true) p1.isList p2.isList rfl hu (fun j h1 _ => absurd h1 (by simp)) ⟨.bl _, H, I, rfl, q⟩
  | cons x r =>
    refine SeqAt.eq_list_lengthsAt p1.isList p2.isList ?_ hu ⟨.bl _, H, I, rfl, q⟩
    simp only [List.length_cons, List.length_nil] at l1 l2
    simp only [List.size_toArray, bne_iff_ne, ne_eq]
    omega
def rEqB (K : PySem.W.Frag) : R2 := fun x y H Q => rEqA K x y H Q ∨ rEqNil K x y H Q
theorem opEqB {k : Nat} {X : Cx} (hr : RoomG k X.A) : OpR X (compareOp .Eq) (rEqB X.K) := (opEqA hr).or (opEqNil hr)

/-! ### data without lists -/
mutual
def noL : PyData → Bool
  | .list _ | .dict _ => false
  | .tuple xs => noLAll xs
  | .none | .bool _ | .int _ | .str _ => true
def noLAll : List PyData → Bool
  | [] => true
  | x :: xs => noL x && noLAll xs
end
theorem sqt_upd {K : PySem.W.Frag} {H : Hp} {D a : Addr} {ys : List V} {o : HO} {xs : List V} (hD : H D = some (.lst ys)) (h : SqT K H a xs) : SqT K (upd H D o) a xs := h.imp (fun r => by
  have ne : a ≠ D := fun z => by
    subst z
    rcases r with r | ⟨ob, r⟩ <;> rw [hD] at r <;> cases r
  rcases r with r | ⟨ob, r⟩
  · exact .inl (by rw [upd_ne ne]; exact r)
  · exact .inr ⟨ob, by rw [upd_ne ne]; exact r⟩) id
section
variable {K : PySem.W.Frag} {H : Hp} {D : Addr} {ys : List V} {o : HO} (hD : H D = some (.lst ys))
include hD
mutual
theorem Dt.updL : ∀ {d : PyData} {v : V}, noL d = true → Dt K H d v → Dt K (upd H D o) d v
  | .none, _, _, h | .bool _, _, _, h | .int _, _, _, h | .str _, _, _, h => by unfold Dt at h ⊢; exact h
  | .list ds, _, c, h => by simp [noL] at c
  | .dict ds, _, c, h => by simp [noL] at c
  | .tuple ds, _, c, h => by
    unfold Dt at h ⊢
    obtain ⟨a, xs, ev, s, r⟩ := h
    exact ⟨a, xs, ev, sqt_upd hD s, DtAll.updL (by simpa only [noL] using c) r⟩
theorem DtAll.updL : ∀ {ds : List PyData} {xs : List V}, noLAll ds = true → DtAll K H ds xs → DtAll K (upd H D o) ds xs
  | [], _, _, h => by unfold DtAll at h ⊢; exact h
  | d :: ds, _, c, h => by
    unfold DtAll at h ⊢
    obtain ⟨x, r, ex, h1, h2⟩ := h
    have c' : noL d = true ∧ noLAll ds = true := by simpa only [noLAll, Bool.and_eq_true] using c
    exact ⟨x, r, ex, Dt.updL c'.1 h1, DtAll.updL c'.2 h2⟩
end
end
theorem noLAll_append {ds es : List PyData} : noLAll (ds ++ es) = (noLAll ds && noLAll es) := by
  induction ds with
  | nil => simp [noLAll]
  | cons d r ih => simp [noLAll, ih, Bool.and_assoc]
theorem dtAll_append {K : PySem.W.Frag} {H : Hp} : ∀ {ds es : List PyData} {xs ys : List V}, DtAll K H ds xs → DtAll K H es ys → DtAll K H (ds ++ es) (xs ++ ys)
  | [], _, _, _, h, g => by unfold DtAll at h; subst h; exact g
  | d :: ds, _, _, _, h, g => by
    unfold DtAll at h
    obtain ⟨x, r, rfl, h1, h2⟩ := h
    exact dtAll_cons h1 (dtAll_append h2 g)
theorem dtAll_get {K : PySem.W.Frag} {H : Hp} : ∀ {ds : List PyData} {xs : List V} {j : Nat} {v : V}, DtAll K H ds xs → xs[j]? = some v → ∃ d, ds[j]? = some d ∧ Dt K H d v
  | [], _, j, v, h, e => by unfold DtAll at h; subst h; simp at e
  | d :: ds, _, j, v, h, e => by
    unfold DtAll at h
    obtain ⟨x, r, rfl, h1, h2⟩ := h
    cases j with
    | zero =>
      simp at e
      subst e
      exact ⟨d, rfl, h1⟩
    | succ j =>
      simp at e
      obtain ⟨d', e', h'⟩ := dtAll_get h2 e
      exact ⟨d', by simpa using e', h'⟩
theorem dtAll_getD {K : PySem.W.Frag} {H : Hp} : ∀ {ds : List PyData} {xs : List V} {j : Nat} {d : PyData}, DtAll K H ds xs → ds[j]? = some d → ∃ v, xs[j]? = some v ∧ Dt K H d v := fun {ds xs j d} h e => by
  have hl := dtAll_len h
  obtain ⟨hj, _⟩ := List.getElem?_eq_some_iff.mp e
  have hv : xs[j]? = some xs[j] := List.getElem?_eq_getElem (by omega)
  obtain ⟨d', e', h'⟩ := dtAll_get h hv
  rw [e] at e'
  cases e'
  exact ⟨_, hv, h'⟩
theorem dtAll_bools {K : PySem.W.Frag} {H : Hp} : ∀ {bs : List Bool} {xs : List V}, DtAll K H (bs.map PyData.bool) xs → xs = bs.map V.bl
  | [], _, h => by unfold DtAll at h; exact h
  | b :: bs, _, h => by
    simp only [List.map_cons] at h
    unfold DtAll at h
    obtain ⟨x, r, rfl, h1, h2⟩ := h
    rw [dt_bool_inv h1, dtAll_bools h2]
    rfl

/-! ### comprehensions -/
/-- [f x for x in xs]; what a turn does is told by its data -/
theorem lc_mapG {K : PySem.W.Frag} {J : It} {n i : Nat} {G : Hp → Prop} {Y : Nat → Hp → V → Hp → Prop} {te : TE} {σ : L2.St} {H1 : Hp} {D : Addr} {Qd : Hp → Prop} (R : Nat → List PyData → Prop) (w : Walk J n G Y) (hG : ∀ H, Same H1 H → G H) (hD : H1 D = none) (hn : n < sizeLine) (h0 : R 0 [])
    (hte : ∀ (j : Nat) (x : V) (H H' : Hp) (acc : List PyData) (Q : VK), j < n → Same H1 H → Y j H x H' → R j acc → (∀ y d H4, Same H H4 → Dt K H4 d y → noL d = true → R (j + 1) (acc ++ [d]) → Q y H4) → te ((wipe σ [i]).set i (some x)) H' Q)
    (hd : ∀ (H : Hp) (ds : List PyData) (vs : List V), Same H1 H → H D = some (.lst vs) → DtAll K H ds vs → R n ds → Qd H) :
    ∃ W : Nat → Nat → Hp → Prop, (∃ m, W 0 m (upd H1 D (.lst []))) ∧ ∀ j m H, W j m H →
      (J.stop j H ∧ Qd H) ∨ (J.go j H ∧ ∃ Nx : Hp → Prop, (∀ H', Nx H' → ∃ m', m' < m ∧ W (j + 1) m' H') ∧ ∀ x H', J.yld j H x H' → gName i x (wipe σ [i]) H' fun σ2 H2 => wipe σ2 [i] = wipe σ [i] ∧ tYes σ2 H2 fun b H3 =>
        if b = true then te σ2 H3 fun y H4 => ∃ acc, H4 D = some (.lst acc) ∧ acc.length < sizeLine ∧ Nx (upd H4 D (.lst (acc ++ [y]))) else Nx H3) := by
  refine lc_it w (fun j H => ∃ ds vs, Same H1 H ∧ H D = some (.lst vs) ∧ DtAll K H ds vs ∧ noLAll ds = true ∧ vs.length = j ∧ R j ds) ⟨[], [], same_new hD, upd_same, dtAll_nil, rfl, rfl, h0⟩ (fun j H _ ⟨_, _, s, _⟩ => hG H s) (fun j x H H' hj ⟨ds, vs, s, hv, hds, hno, hl, hR⟩ hY => ?_) fun H ⟨ds, vs, s, hv, hds, _, _, hR⟩ => hd H ds vs s hv hds hR
  refine ⟨?_, ?_⟩
  · show (((σ.set i none).set i (some x)).set i none) = σ.set i none
    rw [List.set_set, List.set_set]
  · unfold tYes
    dsimp only
    rw [if_pos rfl]
    refine hte j x H H' ds _ hj s hY hR fun y d H4 s4 hy hn1 hR' => ?_
    have hv4 : H4 D = some (.lst vs) := s4 D _ hv
    refine ⟨vs, hv4, by omega, ds ++ [d], vs ++ [y], fun b o e => ?_, upd_same, ?_, by rw [noLAll_append]; simp [hno, noLAll, hn1], by simp [hl], hR'⟩
    · have ne : b ≠ D := fun z => by rw [z, hD] at e; cases e
      rw [upd_ne ne]
      exact s4 _ _ (s b o e)
    · exact dtAll_append (DtAll.updL hv4 hno (hds.mono s4)) (dtAll1 (Dt.updL hv4 hn1 hy))
/-- [x for x in xs if not t x]: what is found is told by its count -/
theorem lc_filt {K : PySem.W.Frag} {J : It} {i : Nat} {xs : List V} {G : Hp → Prop} {Y : Nat → Hp → V → Hp → Prop} {tt : TT} {te : TE} {σ : L2.St} {H1 : Hp} {D : Addr} {Qd : Hp → Prop} {n : Nat} (p : Nat → Bool) (w : Walk J n G Y) (hG : ∀ H, Same H1 H → G H) (hD : H1 D = none) (hn : n < sizeLine)
    (htt : ∀ (j : Nat) (x : V) (H H' : Hp) (Q : Bool → Hp → Prop), j < n → Same H1 H → Y j H x H' → (∀ H3, Same H H3 → Q (p j) H3) → tt ((wipe σ [i]).set i (some x)) H' Q)
    (hte : ∀ (x : V) (H : Hp) (Q : VK), (∀ y, Q y H) → te ((wipe σ [i]).set i (some x)) H Q)
    (hd : ∀ (H : Hp) (vs : List V), Same H1 H → H D = some (.lst vs) → vs.length = ((List.range n).filter p).length → Qd H) :
    ∃ W : Nat → Nat → Hp → Prop, (∃ m, W 0 m (upd H1 D (.lst []))) ∧ ∀ j m H, W j m H →
      (J.stop j H ∧ Qd H) ∨ (J.go j H ∧ ∃ Nx : Hp → Prop, (∀ H', Nx H' → ∃ m', m' < m ∧ W (j + 1) m' H') ∧ ∀ x H', J.yld j H x H' → gName i x (wipe σ [i]) H' fun σ2 H2 => wipe σ2 [i] = wipe σ [i] ∧ tt σ2 H2 fun b H3 =>
        if b = true then te σ2 H3 fun y H4 => ∃ acc, H4 D = some (.lst acc) ∧ acc.length < sizeLine ∧ Nx (upd H4 D (.lst (acc ++ [y]))) else Nx H3) := by
  have cnt : ∀ j, ((List.range j).filter p).length ≤ j := fun j => Nat.le_trans (List.length_filter_le _ _) (by simp)
  have step : ∀ j, ((List.range (j + 1)).filter p).length = ((List.range j).filter p).length + (if p j = true then 1 else 0) := fun j => by
    rw [List.range_succ, List.filter_append, List.length_append]
    congr 1
    by_cases h : p j = true
    · simp [h]
    · simp [h]
  refine lc_it w (fun j H => ∃ vs, Same H1 H ∧ H D = some (.lst vs) ∧ vs.length = ((List.range j).filter p).length) ⟨[], same_new hD, upd_same, rfl⟩ (fun j H _ ⟨_, s, _⟩ => hG H s) (fun j x H H' hj ⟨vs, s, hv, hl⟩ hY => ?_) fun H ⟨vs, s, hv, hl⟩ => hd H vs s hv hl
  refine ⟨?_, ?_⟩
  · show (((σ.set i none).set i (some x)).set i none) = σ.set i none
    rw [List.set_set, List.set_set]
  · refine htt j x H H' _ hj s hY fun H3 s3 => ?_
    have hv3 : H3 D = some (.lst vs) := s3 D _ hv
    by_cases hp : p j = true
    · rw [if_pos hp]
      refine hte x H3 _ fun y => ?_
      refine ⟨vs, hv3, by have := cnt j; omega, vs ++ [y], fun b o e => ?_, upd_same, by rw [step, if_pos hp, ← hl]; simp⟩
      have ne : b ≠ D := fun z => by rw [z, hD] at e; cases e
      rw [upd_ne ne]
      exact s3 _ _ (s b o e)
    · rw [if_neg hp]
      refine ⟨vs, fun b o e => s3 _ _ (s b o e), hv3, by rw [step, if_neg hp, hl]; simp⟩
/-- a walk over a list or a tuple -/
abbrev iSeq (K : PySem.W.Frag) (t : TE) : TI := fun σ H R => iList K t σ H R ∨ iTup K t σ H R
theorem pi_seq {X : Cx} {tg e : Expr} {t : TE} (h : PE X e t) : PI X tg e (iSeq X.K t) := PI.or (pi_list h) (pi_tup h)
/-- data that is a list or a tuple -/
def seqD : PyData → Option (List PyData)
  | .list ds => some ds
  | .tuple ds => some ds
  | _ => none
theorem seqD_ty {d : PyData} : (isTy d "list" || isTy d "tuple") = (seqD d).isSome := by
  cases d <;> simp [isTy, tyName, seqD]
theorem dt_seq_inv {K : PySem.W.Frag} {H : Hp} {d : PyData} {ds : List PyData} {v : V} (h : Dt K H d v) (e : seqD d = some ds) : ∃ a xs, v = .ref a ∧ (SqL K H a xs ∨ SqT K H a xs) ∧ DtAll K H ds xs ∧ ((SqL K H a xs ∧ d = .list ds) ∨ (SqT K H a xs ∧ d = .tuple ds)) := by
  cases d with
  | list es =>
    cases e
    obtain ⟨a, xs, rfl, s, r⟩ := dt_lst_inv h
    exact ⟨a, xs, rfl, .inl s, r, .inl ⟨s, rfl⟩⟩
  | tuple es =>
    cases e
    obtain ⟨a, xs, rfl, s, r⟩ := dt_tup_inv h
    exact ⟨a, xs, rfl, .inr s, r, .inr ⟨s, rfl⟩⟩
  | none => cases e
  | bool _ => cases e
  | int _ => cases e
  | str _ => cases e
  | dict _ => cases e
/-- the k-th error, its fields told, is raised -/
def ErrF (K : PySem.W.Frag) (H : Hp) (E : XK) (k : Nat) (v1 v2 v3 : V) : Prop := ∀ d H', Same H H' → H d = none → H' d = some (.xd (fsOf v1 v2 v3 k)) → E (.ref (He.ga K (cname k))) (some d) H'
theorem ErrF.mono {K : PySem.W.Frag} {H H' : Hp} {E : XK} {k : Nat} {v1 v2 v3 : V} (h : ErrF K H E k v1 v2 v3) (s : Same H H') : ErrF K H' E k v1 v2 v3 := fun d H2 s2 n e => h d H2 (s.trans s2) (s.free n) e
end Fp
/-! the data layer: values without addresses -/
namespace PD
open PySem PySem.Spec PyProof.Rows L2 Fp LamX

/-! ### hiding -/
section
variable {S S' : Addr → Prop} {H H' : Hp} {p : Addr} {u : HO}
open Classical in
noncomputable def hide (S : Addr → Prop) (H : Hp) : Hp := fun a => if S a then none else H a
theorem hide_pos (h : S p) : hide S H p = none := if_pos h
theorem hide_neg (h : ¬ S p) : hide S H p = H p := if_neg h
theorem hide_some (h : hide S H p = some u) : ¬ S p ∧ H p = some u := by
  by_cases c : S p
  · rw [hide_pos c] at h; cases h
  · rw [hide_neg c] at h; exact ⟨c, h⟩
theorem hide_sub : Same (hide S H) H := fun _ _ h => (hide_some h).2
theorem hide_anti (h : ∀ a, S' a → S a) : Same (hide S H) (hide S' H) := fun a u e => by
  obtain ⟨n, e⟩ := hide_some e
  rw [hide_neg fun z => n (h a z)]; exact e
theorem hide_gr (e : Gr H H') : Gr (hide S H) (hide S H') := fun a u h n => by
  obtain ⟨c, h⟩ := hide_some h
  rw [hide_neg c]; exact e a u h n
theorem hide_new (c : ¬ S p) : hide S (upd H p u) = upd (hide S H) p u := by
  funext a
  by_cases z : a = p
  · subst z; rw [hide_neg c, upd_same, upd_same]
  · rw [upd_ne z]
    by_cases q : S a
    · rw [hide_pos q, hide_pos q]
    · rw [hide_neg q, hide_neg q, upd_ne z]
theorem hide_own (c : S p) : hide S (upd H p u) = hide S H := by
  funext a
  by_cases q : S a
  · rw [hide_pos q, hide_pos q]
  · rw [hide_neg q, hide_neg q, upd_ne fun z => q (by rw [z]; exact c)]
theorem hide_nil : hide (fun _ => False) H = H := by
  funext a
  rw [hide_neg fun z => z]
end

/-! ### values -/
/-- a value of the data layer: data; the pen; a def; a tuple of defs; the list of slot i, held by it alone; a list just made; an object that stays -/
inductive En where
  | d (x : PyData)
  | pen
  | fn (f : Str)
  | fns (fs : List Str)
  | own (i : Nat) (ds : List PyData)
  | new (ds : List PyData)
  | ob (c : Str) (fs : List (Str × PyData))
abbrev Env := List (Option En)
/-- an error with its fields -/
structure Flt where
  k : Nat
  a : PyData
  b : PyData
  c : PyData
abbrev Wd := (En → Prop) → (Flt → Prop) → Prop
abbrev Wb := (Bool → Prop) → (Flt → Prop) → Prop
abbrev Wl := (List En → Prop) → (Flt → Prop) → Prop
structure Ks where
  nx : Env → Prop
  rt : En → Prop
  bk : Env → Prop
  ct : Env → Prop
  er : Flt → Prop
abbrev Ws := Env → Ks → Prop

structure Pm where
  P : Program
  w : World
  K : PySem.W.Frag
  mg : Str → Option Value
end PD
namespace L2
abbrev Cx.pm (X : Cx) : PD.Pm := ⟨X.prog, X.w, X.K, X.mg⟩
end L2
namespace PD
open PySem PySem.Spec PyProof.Rows L2 Fp LamX

/-- an object that stays as it is, in G -/
def ObR (K : PySem.W.Frag) (G : Hp) (c : Str) (fs : List (Str × PyData)) (v : V) : Prop :=
  ∃ (a dx : Addr) (vs : List (Str × V)), v = .ref a ∧ G a = some (.ins (He.ga K c) dx vs) ∧ vs.map (·.1) = fs.map (·.1) ∧ DtAll K G (fs.map (·.2)) (vs.map (·.2))
/-- v is the value r, in H; S: what is hidden, o: the lists that slots hold alone -/
def R (M : Pm) (o : Nat → Option Addr) (S : Addr → Prop) (H : Hp) : En → V → Prop
  | .d x, v => Dt M.K (hide S H) x v
  | .pen, v => ∃ p, v = .ref p ∧ Pen M.P M.w (hide S H) p
  | .fn f, v => ∃ a, v = .ref a ∧ M.mg f = some (.ref a)
  | .fns fs, v => ∃ a xs, v = .ref a ∧ SqT M.K (hide S H) a xs ∧ Paired (fun f x => ∃ b, x = V.ref b ∧ M.mg f = some (.ref b)) fs xs
  | .own i ds, v => ∃ a xs, v = .ref a ∧ o i = some a ∧ H a = some (.lst xs) ∧ DtAll M.K (hide S H) ds xs
  | .new _, _ => False
  | .ob c fs, v => ObR M.K (hide S H) c fs v
theorem ObR.gr {K : PySem.W.Frag} {G G' : Hp} {c : Str} {fs : List (Str × PyData)} {v : V} (e : Gr G G') (h : ObR K G c fs v) : ObR K G' c fs v := by
  obtain ⟨a, dx, vs, h1, h2, h3, h4⟩ := h
  exact ⟨a, dx, vs, h1, e _ _ h2 (fun _ z => nomatch z), h3, DtAll.gr e h4⟩
theorem R.gr {M : Pm} {o : Nat → Option Addr} {S : Addr → Prop} {H H' : Hp} (e : Gr H H') : ∀ {r : En} {v : V}, R M o S H r v → R M o S H' r v
  | .d x, _, h => Dt.gr (hide_gr e) h
  | .pen, _, ⟨p, h1, h2⟩ => ⟨p, h1, Pen.gr (hide_gr e) h2⟩
  | .fn f, _, h => h
  | .fns fs, _, ⟨a, xs, h1, h2, h3⟩ => ⟨a, xs, h1, sqt_gr (hide_gr e) h2, h3⟩
  | .own i ds, _, ⟨a, xs, h1, h2, h3, h4⟩ => ⟨a, xs, h1, h2, e _ _ h3 (fun _ z => nomatch z), DtAll.gr (hide_gr e) h4⟩
  | .new ds, _, h => h
  | .ob c fs, _, h => ObR.gr (hide_gr e) h
/-- nothing but a table stands there -/
def NoT (H : Hp) (a : Addr) : Prop := ∀ u, H a = some u → ∃ ps, u = .tbl ps
theorem NoT.of {H : Hp} {a : Addr} (n : H a = none) : NoT H a := fun u e => by rw [n] at e; cases e
theorem NoT.back {H H' : Hp} {a : Addr} (e : Gr H H') (n : NoT H' a) : NoT H a := fun u h => by
  cases u with
  | tbl ps => exact ⟨ps, rfl⟩
  | _ => exact n _ (e _ _ h (fun _ z => nomatch z))
/-- what an expression gives: a list just made may be taken by a slot -/
def R' (M : Pm) (o : Nat → Option Addr) (S : Addr → Prop) (Hs H : Hp) (r : En) (v : V) : Prop := match r with
  | .new ds => ∃ a xs, v = .ref a ∧ NoT Hs a ∧ H a = some (.lst xs) ∧ DtAll M.K (hide (fun b => S b ∨ b = a) H) ds xs
  | r => R M o S H r v
def En.flat : En → En
  | .new ds => .d (.list ds)
  | r => r
theorem R'.of {M : Pm} {o : Nat → Option Addr} {S : Addr → Prop} {Hs H : Hp} {v : V} : ∀ {r : En}, R M o S H r v → R' M o S Hs H r v
  | .d _, h | .pen, h | .fn _, h | .fns _, h | .own _ _, h | .ob _ _, h => h
  | .new _, h => h.elim
theorem R'.back {M : Pm} {o : Nat → Option Addr} {S : Addr → Prop} {Hs Hs' H : Hp} {v : V} (e : Gr Hs Hs') : ∀ {r : En}, R' M o S Hs' H r v → R' M o S Hs H r v
  | .d _, h | .pen, h | .fn _, h | .fns _, h | .own _ _, h | .ob _ _, h => h
  | .new ds, ⟨a, xs, h1, h2, h3, h4⟩ => ⟨a, xs, h1, h2.back e, h3, h4⟩
/-- a value that is held by no slot alone -/
def En.thaw : En → En
  | .own _ ds => .d (.list ds)
  | r => r
theorem R.sub {M : Pm} {o o' : Nat → Option Addr} {S S' : Addr → Prop} {H : Hp} (h : ∀ a, S' a → S a) : ∀ {r : En} {v : V}, (∀ i ds, r ≠ .own i ds) → R M o S H r v → R M o' S' H r v
  | .d x, _, _, q => Dt.mono (hide_anti h) q
  | .pen, _, _, ⟨p, h1, h2⟩ => ⟨p, h1, h2.mono (hide_anti h)⟩
  | .fn f, _, _, q => q
  | .fns fs, _, _, ⟨a, xs, h1, h2, h3⟩ => ⟨a, xs, h1, sqt_mono (hide_anti h) h2, h3⟩
  | .own i ds, _, n, _ => absurd rfl (n i ds)
  | .new ds, _, _, q => q.elim
  | .ob c fs, _, _, q => ObR.gr (Gr.of (hide_anti h)) q
theorem R.thaw {M : Pm} {o o' : Nat → Option Addr} {S : Addr → Prop} {H : Hp} : ∀ {r : En} {v : V}, R M o S H r v → R M o' (fun _ => False) H r.thaw v
  | .own i ds, _, ⟨a, xs, h1, h2, h3, h4⟩ => by
    show Dt _ _ _ _
    rw [hide_nil]
    subst h1
    exact dt_lst (.inl (.inl h3)) (h4.mono hide_sub)
  | .d x, _, q => R.sub (r := .d x) (fun _ z => z.elim) (fun _ _ z => nomatch z) q
  | .pen, _, q => R.sub (r := .pen) (fun _ z => z.elim) (fun _ _ z => nomatch z) q
  | .fn f, _, q => q
  | .fns fs, _, q => R.sub (r := .fns fs) (fun _ z => z.elim) (fun _ _ z => nomatch z) q
  | .new ds, _, q => q.elim
  | .ob c fs, _, q => R.sub (r := .ob c fs) (fun _ z => z.elim) (fun _ _ z => nomatch z) q

/-! ### slots -/
structure Ag (M : Pm) (o : Nat → Option Addr) (S : Addr → Prop) (env : Env) (σ : L2.St) (H : Hp) : Prop where
  len : env.length = σ.length
  at_ : ∀ (i : Nat) (r : En), env[i]? = some (some r) → ∃ v : V, σ[i]? = some (some v) ∧ R M o S H r v
  own : ∀ (i j : Nat) (ds : List PyData), env[i]? = some (some (.own j ds)) → j = i
  inj : ∀ i j a, o i = some a → o j = some a → i = j
  sub : ∀ i a, o i = some a → S a
  lst : ∀ a, S a → ∃ xs, H a = some (.lst xs)
theorem Ag.gr {M : Pm} {o : Nat → Option Addr} {S : Addr → Prop} {env : Env} {σ : L2.St} {H H' : Hp} (A : Ag M o S env σ H) (e : Gr H H') : Ag M o S env σ H' :=
  ⟨A.len, fun i r h => by
    obtain ⟨v, h1, h2⟩ := A.at_ i r h
    exact ⟨v, h1, h2.gr e⟩, A.own, A.inj, A.sub, fun a s => by
    obtain ⟨xs, h⟩ := A.lst a s
    exact ⟨xs, e _ _ h (fun _ z => nomatch z)⟩⟩
theorem Ag.fresh {M : Pm} {o : Nat → Option Addr} {S : Addr → Prop} {env : Env} {σ : L2.St} {H : Hp} (A : Ag M o S env σ H) {p : Addr} (n : NoT H p) : ¬ S p := fun s => by
  obtain ⟨xs, h⟩ := A.lst p s
  obtain ⟨ps, z⟩ := n _ h
  cases z
theorem Ag.flat {M : Pm} {o : Nat → Option Addr} {S : Addr → Prop} {env : Env} {σ : L2.St} {H H' : Hp} (A : Ag M o S env σ H) {v : V} : ∀ {r : En}, R' M o S H H' r v → R M o S H' r.flat v
  | .d _, h | .pen, h | .fn _, h | .fns _, h | .own _ _, h | .ob _ _, h => h
  | .new ds, ⟨a, xs, h1, h2, h3, h4⟩ => by
    show Dt _ _ _ _
    subst h1
    refine dt_lst (.inl (.inl ?_)) (h4.mono (hide_anti fun _ => .inl))
    rw [hide_neg (A.fresh h2)]
    exact h3

/-! ### heaps that grow -/
structure Gx (T : List (Addr × Str)) (H H' : Hp) : Prop where
  gr : Gr H H'
  tb : Tabs T H'
theorem Gx.refl {T : List (Addr × Str)} {H : Hp} (t : Tabs T H) : Gx T H H := ⟨fun _ _ h _ => h, t⟩
theorem Gx.of {T : List (Addr × Str)} {H H' : Hp} (t : Tabs T H) (s : Same H H') : Gx T H H' := ⟨Gr.of s, t.ext s⟩
theorem Gx.trans {T : List (Addr × Str)} {H H1 H2 : Hp} (a : Gx T H H1) (b : Gx T H1 H2) : Gx T H H2 := ⟨a.gr.trans b.gr, b.tb⟩

/-! ### errors -/
def FltR (K : PySem.W.Frag) (H : Hp) (x : Flt) (d : Option Addr) : Prop := x.k < 16 ∧ ∃ v1 v2 v3 : V, ((d = none ∧ fsOf v1 v2 v3 x.k = []) ∨ ∃ dd, d = some dd ∧ H dd = some (.xd (fsOf v1 v2 v3 x.k))) ∧ Dt K H x.a v1 ∧ Dt K H x.b v2 ∧ Dt K H x.c v3

/-! ### readings by data -/
section
variable (M : Pm) (T : List (Addr × Str)) (E : XK)
def erK (S : Addr → Prop) (H : Hp) : Flt → Prop := fun x => ∀ d H', Gx T H H' → FltR M.K (hide S H') x d → E (.ref (He.ga M.K (cname x.k))) d H'
def tD (f : Env → Wd) : TE := fun σ H Q => ∃ o S env, Ag M o S env σ H ∧ Tabs T H ∧ f env (fun r => ∀ v H', Gx T H H' → R' M o S H H' r v → Q v H') (erK M T E S H)
def tDT (f : Env → Wb) : TT := fun σ H Q => ∃ o S env, Ag M o S env σ H ∧ Tabs T H ∧ f env (fun b => ∀ H', Gx T H H' → Q b H') (erK M T E S H)
def tDA (f : Env → Wl) : TA := fun σ H Q => ∃ o S env, Ag M o S env σ H ∧ Tabs T H ∧ f env (fun rs => ∀ vs H', Gx T H H' → Paired (R M o S H') rs vs → Q vs H') (erK M T E S H)
end
def Mono {α : Type} (f : Env → (α → Prop) → (Flt → Prop) → Prop) : Prop := ∀ env (Q Q' : α → Prop) (Er Er' : Flt → Prop), (∀ r, Q r → Q' r) → (∀ x, Er x → Er' x) → f env Q Er → f env Q' Er'
section
variable (X : Cx) (T : List (Addr × Str)) (E : XK)
structure Ev (e : Expr) (f : Env → Wd) : Prop where
  mono : Mono f
  run : PE X e (tD X.pm T E f)
structure Tv (e : Expr) (f : Env → Wb) : Prop where
  mono : Mono f
  run : PT X e (tDT X.pm T E f)
structure Wv (e : Expr) (f : Env → Wb) : Prop where
  mono : Mono f
  run : PW X e (tDT X.pm T E f)
structure Av (es : List Expr) (f : Env → Wl) : Prop where
  mono : Mono f
  run : PA X es (tDA X.pm T E f)
end
theorem erK_gx {M : Pm} {T : List (Addr × Str)} {E : XK} {S : Addr → Prop} {H H' : Hp} (g : Gx T H H') : ∀ x, erK M T E S H x → erK M T E S H' x := fun x h d H2 g2 r => h d H2 (g.trans g2) r
theorem weakE {X : Cx} {e : Expr} {t u : TE} (h : PE X e t) (w : ∀ σ H Q, u σ H Q → t σ H Q) : PE X e u := ⟨fun pins s σ H Q I q => h.run pins s σ H Q I (w _ _ _ q)⟩
theorem weakT {X : Cx} {e : Expr} {t u : TT} (h : PT X e t) (w : ∀ σ H Q, u σ H Q → t σ H Q) : PT X e u := ⟨fun pins s σ H Q I q => h.run pins s σ H Q I (w _ _ _ q)⟩
theorem weakW {X : Cx} {e : Expr} {t u : TT} (h : PW X e t) (w : ∀ σ H Q, u σ H Q → t σ H Q) : PW X e u := ⟨fun wh pins s σ H Q I q => h.run wh pins s σ H Q I (w _ _ _ q)⟩
theorem weakA {X : Cx} {es : List Expr} {t u : TA} (h : PA X es t) (w : ∀ σ H Q, u σ H Q → t σ H Q) : PA X es u := ⟨fun p pins s σ H Q I q => h.run p pins s σ H Q I (w _ _ _ q)⟩

/-! ### names, constants -/
section
variable {X : Cx} {T : List (Addr × Str)} {E : XK}
def eN (i : Nat) : Env → Wd := fun env Q _ => match env[i]? with
  | some (some r) => Q r
  | _ => False
theorem eN_mono (i : Nat) : Mono (eN i) := fun env Q Q' _ _ h _ q => by
  unfold eN at q ⊢
  split at q
  · exact h _ q
  · exact q
theorem ev_var {i : Nat} {e : Expr} (h : PE X e (tVar i)) : Ev X T E e (eN i) := ⟨eN_mono i, weakE h fun σ H Q ⟨o, S, env, A, t, q⟩ => by
  unfold eN at q
  split at q
  · rename_i r hr
    obtain ⟨v, h1, h2⟩ := A.at_ i r hr
    exact ⟨v, h1, q v H (Gx.refl t) (.of h2)⟩
  · exact q.elim⟩
def eC (r : En) : Env → Wd := fun _ Q _ => Q r
theorem eC_mono (r : En) : Mono (eC r) := fun _ _ _ _ _ h _ q => h _ q
/-- constants -/
def CV : PyData → V → Prop
  | .none, .non => True
  | .bool b, .bl c => b = c
  | .int i, .int j => i = j
  | .str x, .str y => x = y
  | _, _ => False
theorem CV.dt {K : PySem.W.Frag} {G : Hp} {x : PyData} {v : V} (h : CV x v) : Dt K G x v := by
  cases x <;> cases v <;> first | exact h.elim | (cases h; unfold Dt; rfl) | (unfold Dt; rfl)
theorem ev_const {x : PyData} {v : V} {e : Expr} (h : PE X e (tC v)) (c : CV x v) : Ev X T E e (eC (.d x)) := ⟨eC_mono _, weakE h fun σ H Q ⟨o, S, env, A, t, q⟩ => q v H (Gx.refl t) c.dt⟩
theorem ev_int {i j pos} : Ev X T E (.Constant (.int i) j pos) (eC (.d (.int i))) := ev_const pe_int rfl
theorem ev_bl {b j pos} : Ev X T E (.Constant (.bool b) j pos) (eC (.d (.bool b))) := ev_const pe_bl rfl
theorem ev_non {j pos} : Ev X T E (.Constant .none j pos) (eC (.d .none)) := ev_const pe_non trivial
theorem ev_str {x j pos} : Ev X T E (.Constant (.str x) j pos) (eC (.d (.str x))) := ev_const pe_str rfl
/-- a def as a value -/
theorem ev_fn {f : Str} {a : Addr} {e : Expr} (h : PE X e (tC (.ref a))) (g : X.mg f = some (.ref a)) : Ev X T E e (eC (.fn f)) := ⟨eC_mono _, weakE h fun σ H Q ⟨o, S, env, A, t, q⟩ => q (.ref a) H (Gx.refl t) ⟨a, rfl, g⟩⟩

/-! ### operators -/
abbrev W2 := En → En → (En → Prop) → Prop
abbrev W1 := En → (En → Prop) → Prop
/-- what an operator does, by data -/
structure Op2 (M : Pm) (r : R2) (w : W2) : Prop where
  mono : ∀ x y (Q Q' : En → Prop), (∀ r, Q r → Q' r) → w x y Q → w x y Q'
  run : ∀ (T : List (Addr × Str)) o S env σ H x y u v (Q : VK), Ag M o S env σ H → Tabs T H → R M o S H x u → R M o S H y v → w x y (fun z => ∀ v' H', Gx T H H' → R' M o S H H' z v' → Q v' H') → r u v H Q
structure Op1 (M : Pm) (r : V → Hp → VK → Prop) (w : W1) : Prop where
  mono : ∀ x (Q Q' : En → Prop), (∀ r, Q r → Q' r) → w x Q → w x Q'
  run : ∀ (T : List (Addr × Str)) o S env σ H x u (Q : VK), Ag M o S env σ H → Tabs T H → R M o S H x u → w x (fun z => ∀ v' H', Gx T H H' → R' M o S H H' z v' → Q v' H') → r u H Q
def eOp (w : W2) (fa fb : Env → Wd) : Env → Wd := fun env Q Er => fa env (fun a => fb env (fun b => w a.flat b.flat Q) Er) Er
theorem eOp_mono {w : W2} {fa fb : Env → Wd} (hw : ∀ x y (Q Q' : En → Prop), (∀ r, Q r → Q' r) → w x y Q → w x y Q') (ha : Mono fa) (hb : Mono fb) : Mono (eOp w fa fb) := fun env Q Q' Er Er' h he q =>
  ha env _ _ _ _ (fun a => hb env _ _ _ _ (fun b => hw _ _ _ _ h) he) he q
theorem tOp_D {M : Pm} {r : R2} {w : W2} (O : Op2 M r w) {fa fb : Env → Wd} (ha : Mono fa) (hb : Mono fb) {σ : L2.St} {H : Hp} {Q : VK} (h : tD M T E (eOp w fa fb) σ H Q) : tOp r (tD M T E fa) (tD M T E fb) σ H Q := by
  obtain ⟨o, S, env, A, t, q⟩ := h
  refine ⟨o, S, env, A, t, ha env _ _ _ _ (fun a q v H1 g1 r1 => ?_) (fun _ z => z) q⟩
  refine ⟨o, S, env, A.gr g1.gr, g1.tb, hb env _ _ _ _ (fun b q u H2 g2 r2 => ?_) (erK_gx g1) q⟩
  have A1 := A.gr g1.gr
  refine O.run T o S env σ H2 a.flat b.flat v u Q (A1.gr g2.gr) g2.tb ((A.flat r1).gr g2.gr) (A1.flat r2) (O.mono _ _ _ _ (fun z q v' H' g3 r3 => ?_) q)
  exact q v' H' ((g1.trans g2).trans g3) (r3.back (g1.trans g2).gr)
theorem ev_op {op : Operator} {r : R2} {w : W2} {a b : Expr} {pos : Pos} {fa fb : Env → Wd} (ho : OpR X (binaryOp op) r) (O : Op2 X.pm r w) (ha : Ev X T E a fa) (hb : Ev X T E b fb) : Ev X T E (.BinOp a op b pos) (eOp w fa fb) :=
  ⟨eOp_mono O.mono ha.mono hb.mono, weakE (pe_op ho ha.run hb.run) fun σ H Q q => tOp_D O ha.mono hb.mono q⟩
theorem ev_cmp {op : CmpOp} {r : R2} {w : W2} {a b : Expr} {pos : Pos} {fa fb : Env → Wd} (ho : OpR X (compareOp op) r) (O : Op2 X.pm r w) (ha : Ev X T E a fa) (hb : Ev X T E b fb) (hm : behindInMarks op b = false) : Ev X T E (.Compare a [op] [b] pos) (eOp w fa fb) :=
  ⟨eOp_mono O.mono ha.mono hb.mono, weakE (pe_cmpR ho ha.run hb.run hm) fun σ H Q q => tOp_D O ha.mono hb.mono q⟩
theorem ev_ix {r : R2} {w : W2} {a b : Expr} {pos : Pos} {fa fb : Env → Wd} (ho : IxR X r) (O : Op2 X.pm r w) (ha : Ev X T E a fa) (hb : Ev X T E b fb) (hs : PlainIx b) : Ev X T E (.Subscript a b pos) (eOp w fa fb) :=
  ⟨eOp_mono O.mono ha.mono hb.mono, weakE (pe_ix ho ha.run hb.run hs) fun σ H Q q => tOp_D O ha.mono hb.mono q⟩
def eUn (w : W1) (fa : Env → Wd) : Env → Wd := fun env Q Er => fa env (fun a => w a.flat Q) Er
theorem ev_un {op : UnaryOp} {r : V → Hp → VK → Prop} {w : W1} {a : Expr} {pos : Pos} {fa : Env → Wd} (ho : UnR X (unaryOp op) r) (O : Op1 X.pm r w) (ha : Ev X T E a fa) : Ev X T E (.UnaryOp op a pos) (eUn w fa) :=
  ⟨fun env Q Q' Er Er' h he q => ha.mono env _ _ _ _ (fun a => O.mono _ _ _ h) he q, weakE (pe_un ho ha.run) fun σ H Q ⟨o, S, env, A, t, q⟩ =>
    ⟨o, S, env, A, t, ha.mono env _ _ _ _ (fun a q v H1 g1 r1 => O.run T o S env σ H1 a.flat v Q (A.gr g1.gr) g1.tb (A.flat r1) (O.mono _ _ _ (fun z q v' H' g3 r3 => q v' H' (g1.trans g3) (r3.back g1.gr)) q)) (fun _ z => z) q⟩⟩

/-! ### tests -/
/-- the truth of a bool -/
def tru (r : En) (Q : Bool → Prop) : Prop := match r with
  | .d (.bool b) => Q b
  | _ => False
theorem tru_mono {r : En} {Q Q' : Bool → Prop} (h : ∀ b, Q b → Q' b) (q : tru r Q) : tru r Q' := by
  unfold tru at q ⊢
  split at q
  · exact h _ q
  · exact q
theorem R'.bool {M : Pm} {o : Nat → Option Addr} {S : Addr → Prop} {Hs H : Hp} {b : Bool} {v : V} (h : R' M o S Hs H (.d (.bool b)) v) : v = .bl b := dt_bool_inv (K := M.K) (H := hide S H) h
theorem R'.mkb {M : Pm} {o : Nat → Option Addr} {S : Addr → Prop} {Hs H : Hp} {b : Bool} : R' M o S Hs H (.d (.bool b)) (.bl b) := dt_bool (K := M.K) (H := hide S H)
theorem R.bool {M : Pm} {o : Nat → Option Addr} {S : Addr → Prop} {H : Hp} {b : Bool} {v : V} (h : R M o S H (.d (.bool b)) v) : v = .bl b := dt_bool_inv (K := M.K) (H := hide S H) h
theorem R.mkb {M : Pm} {o : Nat → Option Addr} {S : Addr → Prop} {H : Hp} {b : Bool} : R M o S H (.d (.bool b)) (.bl b) := dt_bool (K := M.K) (H := hide S H)
def bV (fa : Env → Wd) : Env → Wb := fun env Q Er => fa env (fun a => tru a Q) Er
theorem tB_D {M : Pm} {fa : Env → Wd} (ha : Mono fa) {σ : L2.St} {H : Hp} {Q : Bool → Hp → Prop} (h : tDT M T E (bV fa) σ H Q) : tB (tD M T E fa) σ H Q := by
  obtain ⟨o, S, env, A, t, q⟩ := h
  refine ⟨o, S, env, A, t, ha env _ _ _ _ (fun a q v H1 g1 r1 => ?_) (fun _ z => z) q⟩
  unfold tru at q
  split at q
  · rename_i b
    exact ⟨b, R'.bool r1, q H1 g1⟩
  · exact q.elim
theorem bV_mono {fa : Env → Wd} (ha : Mono fa) : Mono (bV fa) := fun env Q Q' Er Er' h he q => ha env _ _ _ _ (fun _ => tru_mono h) he q
theorem tv_val {e : Expr} {fa : Env → Wd} (ha : Ev X T E e fa) (he : ∀ whole, isTrue e X.env whole = (do let v ← whole; standAt e.pos; holding [v] (truthy v)) := by intro _; rfl) : Tv X T E e (bV fa) :=
  ⟨bV_mono ha.mono, weakT (pt_val ha.run he) fun σ H Q q => tB_D ha.mono q⟩
theorem tv_cmp {op : CmpOp} {r : R2} {w : W2} {a b : Expr} {pos : Pos} {fa fb : Env → Wd} (ho : OpR X (compareOp op) r) (O : Op2 X.pm r w) (ha : Ev X T E a fa) (hb : Ev X T E b fb) (hm : behindInMarks op b = false) : Tv X T E (.Compare a [op] [b] pos) (bV (eOp w fa fb)) := by
  have m := eOp_mono O.mono ha.mono hb.mono
  refine ⟨bV_mono m, weakT (pt_cmpR ho ha.run hb.run hm) fun σ H Q q => ?_⟩
  obtain ⟨o, S, env, A, t, q⟩ := q
  refine tOp_D O ha.mono hb.mono ⟨o, S, env, A, t, m env _ _ _ _ (fun a q v H1 g1 r1 => ?_) (fun _ z => z) q⟩
  unfold tru at q
  split at q
  · rename_i b
    exact ⟨b, R'.bool r1, q H1 g1⟩
  · exact q.elim
def bAnd (fa fb : Env → Wb) : Env → Wb := fun env Q Er => fa env (fun c => if c = true then fb env Q Er else Q false) Er
def bOr (fa fb : Env → Wb) : Env → Wb := fun env Q Er => fa env (fun c => if c = true then Q true else fb env Q Er) Er
def bNot (fa : Env → Wb) : Env → Wb := fun env Q Er => fa env (fun c => Q (!c)) Er
theorem tv_not {a : Expr} {pos : Pos} {fa : Env → Wb} (ha : Tv X T E a fa) : Tv X T E (.UnaryOp .Not a pos) (bNot fa) :=
  ⟨fun env Q Q' Er Er' h he q => ha.mono env _ _ _ _ (fun c => h _) he q, weakT (pt_not ha.run) fun σ H Q ⟨o, S, env, A, t, q⟩ => ⟨o, S, env, A, t, q⟩⟩
theorem wv_and1 {a : Expr} {pos : Pos} {fa : Env → Wb} (ha : Tv X T E a fa) : Wv X T E (.BoolOp .And [a] pos) fa := ⟨ha.mono, pw_and1 ha.run⟩
theorem wv_or1 {a : Expr} {pos : Pos} {fa : Env → Wb} (ha : Tv X T E a fa) : Wv X T E (.BoolOp .Or [a] pos) fa := ⟨ha.mono, pw_or1 ha.run⟩
theorem wv_and {a b : Expr} {rest : List Expr} {pos : Pos} {fa fb : Env → Wb} (ha : Tv X T E a fa) (hb : Wv X T E (.BoolOp .And (b :: rest) pos) fb) : Wv X T E (.BoolOp .And (a :: b :: rest) pos) (bAnd fa fb) :=
  ⟨fun env Q Q' Er Er' h he q => ha.mono env _ _ _ _ (fun c q => by
    by_cases z : c = true
    · rw [if_pos z] at q ⊢; exact hb.mono env _ _ _ _ h he q
    · rw [if_neg z] at q ⊢; exact h _ q) he q, weakW (pw_and ha.run hb.run) fun σ H Q ⟨o, S, env, A, t, q⟩ => ⟨o, S, env, A, t, ha.mono env _ _ _ _ (fun c q H1 g1 => by
    by_cases z : c = true
    · rw [if_pos z] at q ⊢
      exact ⟨o, S, env, A.gr g1.gr, g1.tb, hb.mono env _ _ _ _ (fun c q H2 g2 => q H2 (g1.trans g2)) (erK_gx g1) q⟩
    · rw [if_neg z] at q ⊢; exact q H1 g1) (fun _ z => z) q⟩⟩
theorem wv_or {a b : Expr} {rest : List Expr} {pos : Pos} {fa fb : Env → Wb} (ha : Tv X T E a fa) (hb : Wv X T E (.BoolOp .Or (b :: rest) pos) fb) : Wv X T E (.BoolOp .Or (a :: b :: rest) pos) (bOr fa fb) :=
  ⟨fun env Q Q' Er Er' h he q => ha.mono env _ _ _ _ (fun c q => by
    by_cases z : c = true
    · rw [if_pos z] at q ⊢; exact h _ q
    · rw [if_neg z] at q ⊢; exact hb.mono env _ _ _ _ h he q) he q, weakW (pw_or ha.run hb.run) fun σ H Q ⟨o, S, env, A, t, q⟩ => ⟨o, S, env, A, t, ha.mono env _ _ _ _ (fun c q H1 g1 => by
    by_cases z : c = true
    · rw [if_pos z] at q ⊢; exact q H1 g1
    · rw [if_neg z] at q ⊢
      exact ⟨o, S, env, A.gr g1.gr, g1.tb, hb.mono env _ _ _ _ (fun c q H2 g2 => q H2 (g1.trans g2)) (erK_gx g1) q⟩) (fun _ z => z) q⟩⟩
theorem Wv.tv {e : Expr} {f : Env → Wb} (h : Wv X T E e f) : Tv X T E e f := ⟨h.mono, h.run.pt⟩
/-! ### values by tests -/
def eIf (fc : Env → Wb) (fa fb : Env → Wd) : Env → Wd := fun env Q Er => fc env (fun c => if c = true then fa env Q Er else fb env Q Er) Er
theorem ev_if {c a b : Expr} {pos : Pos} {fc : Env → Wb} {fa fb : Env → Wd} (hc : Tv X T E c fc) (ha : Ev X T E a fa) (hb : Ev X T E b fb) : Ev X T E (.IfExp c a b pos) (eIf fc fa fb) :=
  ⟨fun env Q Q' Er Er' h he q => hc.mono env _ _ _ _ (fun c q => by
    by_cases z : c = true
    · rw [if_pos z] at q ⊢; exact ha.mono env _ _ _ _ h he q
    · rw [if_neg z] at q ⊢; exact hb.mono env _ _ _ _ h he q) he q, weakE (pe_ifExp hc.run ha.run hb.run) fun σ H Q ⟨o, S, env, A, t, q⟩ => ⟨o, S, env, A, t, hc.mono env _ _ _ _ (fun c q H1 g1 => by
    by_cases z : c = true
    · rw [if_pos z] at q ⊢
      exact ⟨o, S, env, A.gr g1.gr, g1.tb, ha.mono env _ _ _ _ (fun r q v H2 g2 r2 => q v H2 (g1.trans g2) (r2.back g1.gr)) (erK_gx g1) q⟩
    · rw [if_neg z] at q ⊢
      exact ⟨o, S, env, A.gr g1.gr, g1.tb, hb.mono env _ _ _ _ (fun r q v H2 g2 r2 => q v H2 (g1.trans g2) (r2.back g1.gr)) (erK_gx g1) q⟩) (fun _ z => z) q⟩⟩
def eNot (fa : Env → Wd) : Env → Wd := fun env Q Er => fa env (fun a => tru a fun c => Q (.d (.bool (!c)))) Er
theorem ev_not {a : Expr} {pos : Pos} {fa : Env → Wd} (ha : Ev X T E a fa) : Ev X T E (.UnaryOp .Not a pos) (eNot fa) :=
  ⟨fun env Q Q' Er Er' h he q => ha.mono env _ _ _ _ (fun _ => tru_mono fun _ => h _) he q, weakE (pe_not ha.run) fun σ H Q ⟨o, S, env, A, t, q⟩ => ⟨o, S, env, A, t, ha.mono env _ _ _ _ (fun a q v H1 g1 r1 => by
    unfold tru at q
    split at q
    · rename_i b
      exact ⟨b, R'.bool r1, q _ H1 g1 R'.mkb⟩
    · exact q.elim) (fun _ z => z) q⟩⟩
def eAnd (fa fb : Env → Wd) : Env → Wd := fun env Q Er => fa env (fun a => tru a fun c => if c = true then fb env Q Er else Q (.d (.bool false))) Er
def eOr (fa fb : Env → Wd) : Env → Wd := fun env Q Er => fa env (fun a => tru a fun c => if c = true then Q (.d (.bool true)) else fb env Q Er) Er
theorem ev_one {op} {a : Expr} {pos : Pos} {fa : Env → Wd} (ha : Ev X T E a fa) : Ev X T E (.BoolOp op [a] pos) fa := ⟨ha.mono, pe_one ha.run⟩
theorem ev_and {a b : Expr} {rest : List Expr} {pos : Pos} {fa fb : Env → Wd} (ha : Ev X T E a fa) (hb : Ev X T E (.BoolOp .And (b :: rest) pos) fb) : Ev X T E (.BoolOp .And (a :: b :: rest) pos) (eAnd fa fb) :=
  ⟨fun env Q Q' Er Er' h he q => ha.mono env _ _ _ _ (fun a => tru_mono fun c q => by
    by_cases z : c = true
    · rw [if_pos z] at q ⊢; exact hb.mono env _ _ _ _ h he q
    · rw [if_neg z] at q ⊢; exact h _ q) he q, weakE (pe_and ha.run hb.run) fun σ H Q ⟨o, S, env, A, t, q⟩ => ⟨o, S, env, A, t, ha.mono env _ _ _ _ (fun a q v H1 g1 r1 => by
    unfold tru at q
    split at q
    · rename_i c
      refine ⟨c, R'.bool r1, ?_⟩
      by_cases z : c = true
      · rw [if_pos z] at q ⊢
        exact ⟨o, S, env, A.gr g1.gr, g1.tb, hb.mono env _ _ _ _ (fun r q v H2 g2 r2 => q v H2 (g1.trans g2) (r2.back g1.gr)) (erK_gx g1) q⟩
      · rw [if_neg z] at q ⊢; exact q _ H1 g1 R'.mkb
    · exact q.elim) (fun _ z => z) q⟩⟩
theorem ev_or {a b : Expr} {rest : List Expr} {pos : Pos} {fa fb : Env → Wd} (ha : Ev X T E a fa) (hb : Ev X T E (.BoolOp .Or (b :: rest) pos) fb) : Ev X T E (.BoolOp .Or (a :: b :: rest) pos) (eOr fa fb) :=
  ⟨fun env Q Q' Er Er' h he q => ha.mono env _ _ _ _ (fun a => tru_mono fun c q => by
    by_cases z : c = true
    · rw [if_pos z] at q ⊢; exact h _ q
    · rw [if_neg z] at q ⊢; exact hb.mono env _ _ _ _ h he q) he q, weakE (pe_or ha.run hb.run) fun σ H Q ⟨o, S, env, A, t, q⟩ => ⟨o, S, env, A, t, ha.mono env _ _ _ _ (fun a q v H1 g1 r1 => by
    unfold tru at q
    split at q
    · rename_i c
      refine ⟨c, R'.bool r1, ?_⟩
      by_cases z : c = true
      · rw [if_pos z] at q ⊢; exact q _ H1 g1 R'.mkb
      · rw [if_neg z] at q ⊢
        exact ⟨o, S, env, A.gr g1.gr, g1.tb, hb.mono env _ _ _ _ (fun r q v H2 g2 r2 => q v H2 (g1.trans g2) (r2.back g1.gr)) (erK_gx g1) q⟩
    · exact q.elim) (fun _ z => z) q⟩⟩

/-! ### arguments -/
def aNil : Env → Wl := fun _ Q _ => Q []
def aCons (fa : Env → Wd) (fr : Env → Wl) : Env → Wl := fun env Q Er => fa env (fun a => fr env (fun rs => Q (a.flat :: rs)) Er) Er
theorem av_nil : Av X T E [] aNil := ⟨fun _ _ _ _ _ h _ q => h _ q, weakA pa_nil fun σ H Q ⟨o, S, env, A, t, q⟩ => q [] H (Gx.refl t) .nil⟩
theorem av_cons {e : Expr} {es : List Expr} {fa : Env → Wd} {fr : Env → Wl} (ha : Ev X T E e fa) (hr : Av X T E es fr) (hs : starEach (e :: es) X.env = (false, eval e X.env) :: starEach es X.env := by rfl) : Av X T E (e :: es) (aCons fa fr) :=
  ⟨fun env Q Q' Er Er' h he q => ha.mono env _ _ _ _ (fun a => hr.mono env _ _ _ _ (fun rs => h _) he) he q, weakA (pa_cons ha.run hr.run hs) fun σ H Q ⟨o, S, env, A, t, q⟩ =>
    ⟨o, S, env, A, t, ha.mono env _ _ _ _ (fun a q v H1 g1 r1 => ⟨o, S, env, A.gr g1.gr, g1.tb, hr.mono env _ _ _ _ (fun rs q vs H2 g2 r2 => q (v :: vs) H2 (g1.trans g2) (.cons ((A.flat r1).gr g2.gr) r2)) (erK_gx g1) q⟩) (fun _ z => z) q⟩⟩
end
end PD
/-! the data layer: statements -/
namespace PD
open PySem PySem.Spec PyProof.Rows L2 Fp LamX

/-! ### changes of slots -/
section
variable {M : Pm} {o o' : Nat → Option Addr} {S S' : Addr → Prop} {H H' : Hp} {v : V}
theorem R.gx (e : Gr (hide S H) (hide S' H')) (e2 : ∀ i a xs, o i = some a → H a = some (.lst xs) → H' a = some (.lst xs)) : ∀ {r : En}, (∀ i ds, r = .own i ds → o' i = o i) → R M o S H r v → R M o' S' H' r v
  | .d x, _, h => Dt.gr e h
  | .pen, _, ⟨p, h1, h2⟩ => ⟨p, h1, Pen.gr e h2⟩
  | .fn f, _, h => h
  | .fns fs, _, ⟨a, xs, h1, h2, h3⟩ => ⟨a, xs, h1, sqt_gr e h2, h3⟩
  | .own i ds, n, ⟨a, xs, h1, h2, h3, h4⟩ => ⟨a, xs, h1, (n i ds rfl).trans h2, e2 i _ _ h2 h3, DtAll.gr e h4⟩
  | .new ds, _, h => h
  | .ob c fs, _, h => ObR.gr e h
theorem hide_or (n : NoT H p) : Gr (hide S H) (hide (fun b => S b ∨ b = p) H) := fun b u h t => by
  obtain ⟨c, h⟩ := hide_some h
  have ne : b ≠ p := fun z => by
    subst z
    obtain ⟨ps, z⟩ := n _ h
    exact t ps z
  rw [hide_neg fun z => z.elim c ne]
  exact h
end
def bindE (m : Bool) (i : Nat) (r : En) (env : Env) (Q : Env → Prop) : Prop := match r with
  | .new ds => Q (env.set i (some (if m = true then .own i ds else .d (.list ds))))
  | .own _ _ => False
  | r => Q (env.set i (some r))
theorem bindE_mono {m : Bool} {i : Nat} {r : En} {env : Env} {Q Q' : Env → Prop} (h : ∀ e, Q e → Q' e) (q : bindE m i r env Q) : bindE m i r env Q' := by
  unfold bindE at q ⊢
  split at q
  · exact h _ q
  · exact q
  · exact h _ q
/-- one slot gets a value that is held by no other -/
theorem Ag.put {M : Pm} {o : Nat → Option Addr} {S : Addr → Prop} {env : Env} {σ : L2.St} {H H' : Hp} (A : Ag M o S env σ H) (e : Gr H H') {i : Nat} {r : En} {v : V} (h : R M o S H' r v) (n : ∀ j ds, r ≠ .own j ds) :
    Ag M (fun j => if j = i then none else o j) S (env.set i (some r)) (σ.set i (some v)) H' := by
  have B := A.gr e
  refine ⟨by simp [B.len], fun j r' hj => ?_, fun j l ds hj => ?_, fun j l a h1 h2 => ?_, fun j a h1 => ?_, B.lst⟩
  · by_cases z : j = i
    · subst z
      have hl : j < env.length := by
        by_cases q : j < env.length
        · exact q
        · rw [List.getElem?_eq_none (by simp; omega)] at hj; cases hj
      rw [List.getElem?_set_self hl] at hj
      cases hj
      exact ⟨v, List.getElem?_set_self (by rw [← B.len]; exact hl), R.gx (fun _ _ q _ => q) (fun _ _ _ _ q => q) (fun i ds z => absurd z (n i ds)) h⟩
    · rw [List.getElem?_set_ne (Ne.symm z)] at hj ⊢
      obtain ⟨u, h1, h2⟩ := B.at_ j r' hj
      exact ⟨u, h1, R.gx (fun _ _ q _ => q) (fun _ _ _ _ q => q) (fun l ds z' => by
        subst z'
        rw [if_neg (by rw [B.own j l ds hj]; exact z)]) h2⟩
  · by_cases z : j = i
    · subst z
      have hl : j < env.length := by
        by_cases q : j < env.length
        · exact q
        · rw [List.getElem?_eq_none (by simp; omega)] at hj; cases hj
      rw [List.getElem?_set_self hl] at hj
      cases hj
      exact absurd rfl (n l ds)
    · rw [List.getElem?_set_ne (Ne.symm z)] at hj
      exact B.own j l ds hj
  · by_cases z1 : j = i
    · simp [z1] at h1
    · by_cases z2 : l = i
      · simp [z2] at h2
      · rw [if_neg z1] at h1; rw [if_neg z2] at h2
        exact B.inj j l a h1 h2
  · by_cases z1 : j = i
    · simp [z1] at h1
    · rw [if_neg z1] at h1
      exact B.sub j a h1
/-- one slot takes a list -/
theorem Ag.take {M : Pm} {o : Nat → Option Addr} {S : Addr → Prop} {env : Env} {σ : L2.St} {H H' : Hp} (A : Ag M o S env σ H) (e : Gr H H') {i : Nat} {ds : List PyData} {a : Addr} {xs : List V} (n : NoT H a) (ha : H' a = some (.lst xs)) (hd : DtAll M.K (hide (fun b => S b ∨ b = a) H') ds xs) :
    Ag M (fun j => if j = i then some a else o j) (fun b => S b ∨ b = a) (env.set i (some (.own i ds))) (σ.set i (some (.ref a))) H' := by
  have B := A.gr e
  have ns : ¬ S a := A.fresh n
  have g : Gr (hide S H) (hide (fun b => S b ∨ b = a) H') := (hide_or (S := S) n).trans (hide_gr e)
  refine ⟨by simp [A.len], fun j r' hj => ?_, fun j l ds' hj => ?_, fun j l b h1 h2 => ?_, fun j b h1 => ?_, fun b hb => ?_⟩
  · by_cases z : j = i
    · subst z
      have hl : j < env.length := by
        by_cases q : j < env.length
        · exact q
        · rw [List.getElem?_eq_none (by simp; omega)] at hj; cases hj
      rw [List.getElem?_set_self hl] at hj
      cases hj
      exact ⟨_, List.getElem?_set_self (by rw [← A.len]; exact hl), a, xs, rfl, if_pos rfl, ha, hd⟩
    · rw [List.getElem?_set_ne (Ne.symm z)] at hj ⊢
      obtain ⟨u, h1, h2⟩ := A.at_ j r' hj
      exact ⟨u, h1, R.gx g (fun _ _ _ _ q => e _ _ q (fun _ z => nomatch z)) (fun l ds' z' => by
        subst z'
        rw [if_neg (by rw [A.own j l ds' hj]; exact z)]) h2⟩
  · by_cases z : j = i
    · subst z
      have hl : j < env.length := by
        by_cases q : j < env.length
        · exact q
        · rw [List.getElem?_eq_none (by simp; omega)] at hj; cases hj
      rw [List.getElem?_set_self hl] at hj
      cases hj
      rfl
    · rw [List.getElem?_set_ne (Ne.symm z)] at hj
      exact A.own j l ds' hj
  · by_cases z1 : j = i
    · by_cases z2 : l = i
      · rw [z1, z2]
      · rw [if_pos z1] at h1; rw [if_neg z2] at h2
        cases h1
        exact absurd (A.sub l _ h2) ns
    · by_cases z2 : l = i
      · rw [if_neg z1] at h1; rw [if_pos z2] at h2
        cases h2
        exact absurd (A.sub j _ h1) ns
      · rw [if_neg z1] at h1; rw [if_neg z2] at h2
        exact A.inj j l b h1 h2
  · by_cases z1 : j = i
    · rw [if_pos z1] at h1
      cases h1
      exact .inr rfl
    · rw [if_neg z1] at h1
      exact .inl (A.sub j b h1)
  · rcases hb with hb | rfl
    · exact B.lst b hb
    · exact ⟨xs, ha⟩
theorem Ag.bind {M : Pm} {o : Nat → Option Addr} {S : Addr → Prop} {env : Env} {σ : L2.St} {H H' : Hp} (A : Ag M o S env σ H) (e : Gr H H') {m : Bool} {i : Nat} {v : V} {Q : Env → Prop} : ∀ {r : En}, R' M o S H H' r v → bindE m i r env Q →
    ∃ o' S' env', Ag M o' S' env' (σ.set i (some v)) H' ∧ (∀ a, S' a → S a ∨ NoT H a) ∧ Q env'
  | .d x, h, q => ⟨_, _, _, A.put e (r := .d x) h (fun _ _ z => nomatch z), fun _ => .inl, q⟩
  | .pen, h, q => ⟨_, _, _, A.put e (r := .pen) h (fun _ _ z => nomatch z), fun _ => .inl, q⟩
  | .fn f, h, q => ⟨_, _, _, A.put e (r := .fn f) h (fun _ _ z => nomatch z), fun _ => .inl, q⟩
  | .fns f, h, q => ⟨_, _, _, A.put e (r := .fns f) h (fun _ _ z => nomatch z), fun _ => .inl, q⟩
  | .own _ _, h, q => q.elim
  | .ob c f, h, q => ⟨_, _, _, A.put e (r := .ob c f) h (fun _ _ z => nomatch z), fun _ => .inl, q⟩
  | .new ds, h, q => by
    cases m with
    | false => exact ⟨_, _, _, A.put e (r := .d (.list ds)) (A.flat (r := .new ds) h) (fun _ _ z => nomatch z), fun _ => .inl, q⟩
    | true =>
      obtain ⟨a, xs, rfl, h2, h3, h4⟩ := h
      exact ⟨_, _, _, A.take e h2 h3 h4, fun b hb => hb.imp id fun z => by rw [z]; exact h2, q⟩

/-! ### statements by data -/
/-- what is hidden came behind H0 -/
def Fr (S : Addr → Prop) (H0 : Hp) : Prop := ∀ a, S a → NoT H0 a
structure DR (M : Pm) (T : List (Addr × Str)) (E : XK) (H0 : Hp) (D : Ends) (k : Ks) : Prop where
  nx : ∀ o S env σ H, Ag M o S env σ H → Fr S H0 → Gx T H0 H → k.nx env → D.nx σ H
  bk : ∀ o S env σ H, Ag M o S env σ H → Fr S H0 → Gx T H0 H → k.bk env → D.bk σ H
  ct : ∀ o S env σ H, Ag M o S env σ H → Fr S H0 → Gx T H0 H → k.ct env → D.ct σ H
  rt : ∀ r v H, Gx T H0 H → R M (fun _ => none) (fun _ => False) H r v → k.rt r → D.rt v H
  er : ∀ x d H, Gx T H0 H → FltR M.K H x d → k.er x → E (.ref (He.ga M.K (cname x.k))) d H
theorem FltR.same {K : PySem.W.Frag} {H H' : Hp} {x : Flt} {d : Option Addr} (e : Same H H') (h : FltR K H x d) : FltR K H' x d := by
  obtain ⟨h0, v1, v2, v3, h1, h2, h3, h4⟩ := h
  exact ⟨h0, v1, v2, v3, h1.imp id (fun ⟨dd, e1, e2⟩ => ⟨dd, e1, e _ _ e2⟩), h2.mono e, h3.mono e, h4.mono e⟩
theorem DR.erK {M : Pm} {T : List (Addr × Str)} {E : XK} {S : Addr → Prop} {H0 H : Hp} {D : Ends} {k : Ks} (d : DR M T E H0 D k) (g : Gx T H0 H) : ∀ x, k.er x → PD.erK M T E S H x := fun x h dd H' g2 r => d.er x dd H' (g.trans g2) (r.same hide_sub) h
def tDS (M : Pm) (T : List (Addr × Str)) (E : XK) (g : Ws) : TS := fun D σ H => ∃ H0 o S env k, Ag M o S env σ H ∧ Fr S H0 ∧ Gx T H0 H ∧ DR M T E H0 D k ∧ g env k
structure Le (k k' : Ks) : Prop where
  nx : ∀ e, k.nx e → k'.nx e
  rt : ∀ r, k.rt r → k'.rt r
  bk : ∀ e, k.bk e → k'.bk e
  ct : ∀ e, k.ct e → k'.ct e
  er : ∀ x, k.er x → k'.er x
def MonoS (g : Ws) : Prop := ∀ env k k', Le k k' → g env k → g env k'
section
variable (X : Cx) (T : List (Addr × Str)) (E : XK)
structure Sv (ss : List Stmt) (g : Ws) : Prop where
  mono : MonoS g
  run : PSs X ss (tDS X.pm T E g)
structure S1 (st : Stmt) (g : Ws) : Prop where
  mono : MonoS g
  run : PS X st (tDS X.pm T E g)
end
theorem weakS {X : Cx} {st : Stmt} {t u : TS} (h : PS X st t) (w : ∀ D σ H, u D σ H → t D σ H) : PS X st u := ⟨fun pins s σ H D I q => h.run pins s σ H D I (w _ _ _ q)⟩
theorem weakSs {X : Cx} {st : List Stmt} {t u : TS} (h : PSs X st t) (w : ∀ D σ H, u D σ H → t D σ H) : PSs X st u := ⟨fun pins s σ H D I q => h.run pins s σ H D I (w _ _ _ q)⟩
theorem Fr.or {S S' : Addr → Prop} {H0 H : Hp} (f : Fr S H0) (e : Gr H0 H) (h : ∀ a, S' a → S a ∨ NoT H a) : Fr S' H0 := fun a s => (h a s).elim (f a) fun n => n.back e
section
variable {X : Cx} {T : List (Addr × Str)} {E : XK}
def wNil : Ws := fun env k => k.nx env
theorem sv_nil : Sv X T E [] wNil := ⟨fun _ _ _ l => l.nx _, weakSs pss_nil fun D σ H ⟨H0, o, S, env, k, A, f, g, d, q⟩ => d.nx _ _ _ _ _ A f g q⟩
def wSeq (g1 g2 : Ws) : Ws := fun env k => g1 env { k with nx := fun e => g2 e k }
theorem sv_cons {st : Stmt} {rest : List Stmt} {g1 g2 : Ws} (h1 : S1 X T E st g1) (h2 : Sv X T E rest g2) : Sv X T E (st :: rest) (wSeq g1 g2) :=
  ⟨fun env k k' l q => h1.mono env { k with nx := fun e => g2 e k } { k' with nx := fun e => g2 e k' } ⟨fun e q => h2.mono _ _ _ l q, l.rt, l.bk, l.ct, l.er⟩ q, weakSs (pss_cons h1.run h2.run) fun D σ H ⟨H0, o, S, env, k, A, f, g, d, q⟩ =>
    ⟨H0, o, S, env, { k with nx := fun e => g2 e k }, A, f, g, ⟨fun o S env σ H A f g q => ⟨H0, o, S, env, k, A, f, g, d, q⟩, d.bk, d.ct, d.rt, d.er⟩, q⟩⟩
theorem sv_one {st : Stmt} {g : Ws} (h : S1 X T E st g) : Sv X T E [st] g := ⟨h.mono, pss_one h.run⟩
/-- what comes behind is never come to -/
theorem sv_last {st : Stmt} {rest : List Stmt} {g1 : Ws} (h1 : S1 X T E st g1) : Sv X T E (st :: rest) (fun env k => g1 env { k with nx := fun _ => False }) :=
  ⟨fun env k k' l q => h1.mono env { k with nx := fun _ => False } { k' with nx := fun _ => False } ⟨fun e q => q, l.rt, l.bk, l.ct, l.er⟩ q, weakSs (pss_cons h1.run pss_never) fun D σ H ⟨H0, o, S, env, k, A, f, g, d, q⟩ =>
    ⟨H0, o, S, env, { k with nx := fun _ => False }, A, f, g, ⟨fun o S env σ H A f g (q : False) => q.elim, d.bk, d.ct, d.rt, d.er⟩, q⟩⟩
theorem s_pass {pos : Pos} : S1 X T E (.Pass pos) wNil := ⟨fun _ _ _ l => l.nx _, weakS ps_pass fun D σ H ⟨H0, o, S, env, k, A, f, g, d, q⟩ => d.nx _ _ _ _ _ A f g q⟩
theorem s_break {pos : Pos} : S1 X T E (.Break pos) (fun env k => k.bk env) := ⟨fun _ _ _ l => l.bk _, weakS ps_break fun D σ H ⟨H0, o, S, env, k, A, f, g, d, q⟩ => d.bk _ _ _ _ _ A f g q⟩
theorem s_cont {pos : Pos} : S1 X T E (.Continue pos) (fun env k => k.ct env) := ⟨fun _ _ _ l => l.ct _, weakS ps_continue fun D σ H ⟨H0, o, S, env, k, A, f, g, d, q⟩ => d.ct _ _ _ _ _ A f g q⟩
/-- name = e; m: a list just made is held by the name alone -/
def wSet (m : Bool) (i : Nat) (fe : Env → Wd) : Ws := fun env k => fe env (fun r => bindE m i r env k.nx) k.er
theorem s_set (m : Bool) {i : Nat} {x : Str} {e : Expr} {fe : Env → Wd} {pos pos' : Pos} (hN : X.N.Nodup) (hi : X.N[i]? = some x) (hx : Loc X.env.scope x) (he : Ev X T E e fe) (hs : swapsWith e (some (.Name x pos')) pos.line X.env = pure false := by rfl) (hf : X.fn x = true ∨ X.env.scope.names.lookup x = some .local := by first | exact .inl rfl | exact .inr rfl | assumption) :
    S1 X T E (.Assign [.Name x pos'] e pos) (wSet m i fe) :=
  ⟨fun env k k' l q => he.mono env _ _ _ _ (fun r => bindE_mono l.nx) l.er q, weakS (ps_set hN hi hx he.run hs hf) fun D σ H ⟨H0, o, S, env, k, A, f, g, d, q⟩ =>
    ⟨o, S, env, A, g.tb, he.mono env _ _ _ _ (fun r q v H' g' h => by
      obtain ⟨o', S', env', A', h', q⟩ := A.bind g'.gr h q
      exact d.nx _ _ _ _ _ A' (f.or g.gr h') (g.trans g') q) (d.erK g) q⟩⟩
theorem R'.gr {M : Pm} {o : Nat → Option Addr} {S : Addr → Prop} {Hs H H' : Hp} {v : V} (e : Gr H H') : ∀ {r : En}, R' M o S Hs H r v → R' M o S Hs H' r v
  | .d x, h => R.gr (M := M) (o := o) (S := S) (H := H) (r := .d x) e h
  | .pen, h => R.gr (M := M) (o := o) (S := S) (H := H) (r := .pen) e h
  | .fn x, h => R.gr (M := M) (o := o) (S := S) (H := H) (r := .fn x) e h
  | .fns x, h => R.gr (M := M) (o := o) (S := S) (H := H) (r := .fns x) e h
  | .own i x, h => R.gr (M := M) (o := o) (S := S) (H := H) (r := .own i x) e h
  | .ob x y, h => R.gr (M := M) (o := o) (S := S) (H := H) (r := .ob x y) e h
  | .new ds, ⟨a, xs, h1, h2, h3, h4⟩ => ⟨a, xs, h1, h2, e _ _ h3 (fun _ z => nomatch z), DtAll.gr (hide_gr e) h4⟩
def scalD : PyData → Bool
  | .none | .bool _ | .int _ | .str _ => true
  | _ => false
theorem dt_scal {K : PySem.W.Frag} {G G' : Hp} {v : V} : ∀ {x : PyData}, scalD x = true → Dt K G x v → Dt K G' x v
  | .none, _, h | .bool _, _, h | .int _, _, h | .str _, _, h => by unfold Dt at h ⊢; exact h
  | .list _, c, _ | .tuple _, c, _ | .dict _, c, _ => by cases c
def notOwn : En → Prop
  | .own _ _ => False
  | .new _ => False
  | _ => True
theorem notOwn.ne {r : En} (h : notOwn r) (j : Nat) (ds : List PyData) : r ≠ .own j ds := fun z => by subst z; exact h
/-- x, y = e, e' -/
def parE (m : Bool) (i j : Nat) (r s : En) (env : Env) (Q : Env → Prop) : Prop := if m = true then match r, s with
    | .new ds, .d x => scalD x = true ∧ Q ((env.set i (some (.own i ds))).set j (some (.d x)))
    | _, _ => False
  else notOwn r.flat ∧ notOwn s.flat ∧ Q ((env.set i (some r.flat)).set j (some s.flat))
theorem parE_mono {m : Bool} {i j : Nat} {r s : En} {env : Env} {Q Q' : Env → Prop} (h : ∀ e, Q e → Q' e) (q : parE m i j r s env Q) : parE m i j r s env Q' := by
  unfold parE at q ⊢
  split
  · rename_i z
    rw [if_pos z] at q
    split at q
    · exact ⟨q.1, h _ q.2⟩
    · exact q.elim
  · rename_i z
    rw [if_neg z] at q
    exact ⟨q.1, q.2.1, h _ q.2.2⟩
theorem Ag.par {M : Pm} {o : Nat → Option Addr} {S : Addr → Prop} {env : Env} {σ : L2.St} {H H' : Hp} (A : Ag M o S env σ H) (e : Gr H H') {m : Bool} {i j : Nat} {v u : V} {Q : Env → Prop} {r s : En} (h1 : R' M o S H H' r v) (h2 : R' M o S H H' s u) (q : parE m i j r s env Q) :
    ∃ o' S' env', Ag M o' S' env' ((σ.set i (some v)).set j (some u)) H' ∧ (∀ a, S' a → S a ∨ NoT H a) ∧ Q env' := by
  unfold parE at q
  split at q
  · split at q
    · rename_i ds x
      obtain ⟨a, xs, rfl, n, ha, hd⟩ := h1
      have B := A.take (i := i) e n ha hd
      have C := B.put (fun _ _ h _ => h) (i := j) (r := .d x) (v := u) (dt_scal q.1 h2) (fun _ _ z => nomatch z)
      exact ⟨_, _, _, C, fun b hb => hb.imp id fun z => by rw [z]; exact n, q.2⟩
    · exact q.elim
  · have f1 := A.flat h1
    have f2 := A.flat h2
    have B := A.put (i := i) e f1 q.1.ne
    have C := B.put (fun _ _ h _ => h) (i := j) (R.gx (o' := fun j => if j = i then none else o j) (fun _ _ q _ => q) (fun _ _ _ _ q => q) (fun l ds z => absurd z (q.2.1.ne l ds)) f2) q.2.1.ne
    exact ⟨_, _, _, C, fun _ => .inl, q.2.2⟩
def wPar (m : Bool) (i j : Nat) (fa fb : Env → Wd) : Ws := fun env k => fa env (fun r => fb env (fun s => parE m i j r s env k.nx) k.er) k.er
theorem s_par (m : Bool) {i j : Nat} {x y : Str} {a b : Expr} {fa fb : Env → Wd} {px py pt : Pos} {kt k2 pt2} {pos : Pos} (hc : X.calm = true) (hN : X.N.Nodup) (hi : X.N[i]? = some x) (hj : X.N[j]? = some y) (hij : i ≠ j)
    (hx : X.env.scope.names.lookup x = some .local) (hy : X.env.scope.names.lookup y = some .local) (ha : Ev X T E a fa) (hb : Ev X T E b fb)
    (hw : swappedStores [.Tuple [.Name x px, .Name y py] kt pt] (.Tuple [a, b] k2 pt2) X.env = pure (some [x, y]))
    (hs : swapsWithSole [.Tuple [.Name x px, .Name y py] kt pt] (.Tuple [a, b] k2 pt2) pos.line X.env = pure false := by rfl)
    (h1 : starEach (a :: [b]) X.env = (false, eval a X.env) :: starEach [b] X.env := by rfl) (h2 : starEach (b :: []) X.env = (false, eval b X.env) :: starEach [] X.env := by rfl) :
    S1 X T E (.Assign [.Tuple [.Name x px, .Name y py] kt pt] (.Tuple [a, b] k2 pt2) pos) (wPar m i j fa fb) :=
  ⟨fun env k k' l q => ha.mono env _ _ _ _ (fun r => hb.mono env _ _ _ _ (fun s => parE_mono l.nx) l.er) l.er q, weakS (ps_par hc hN hi hj hij hx hy (pa_cons ha.run (pa_cons hb.run pa_nil h2) h1) hw hs) fun D σ H ⟨H0, o, S, env, k, A, f, g, d, q⟩ =>
    ⟨o, S, env, A, g.tb, ha.mono env _ _ _ _ (fun r q v H1 g1 r1 => ⟨o, S, env, A.gr g1.gr, g1.tb, hb.mono env _ _ _ _ (fun s q u H2 g2 r2 => ⟨v, u, rfl, by
      obtain ⟨o', S', env', A', h', q⟩ := A.par (g1.trans g2).gr (r1.gr g2.gr) (r2.back g1.gr) q
      exact d.nx _ _ _ _ _ A' (f.or g.gr h') ((g.trans g1).trans g2) q⟩) (erK_gx g1) q⟩) (d.erK g) (ha.mono env _ _ _ _ (fun r q => hb.mono env _ _ _ _ (fun s q => q) (d.erK g) q) (fun _ z => z) q)⟩⟩
/-- name op= e -/
structure Op3 (M : Pm) (r : TIp) (w : W2) : Prop where
  o : Op2 M r w
def wAug (i : Nat) (w : W2) (fe : Env → Wd) : Ws := fun env k => match env[i]? with
  | some (some a) => fe env (fun b => w a b.flat fun r => bindE false i r env k.nx) k.er
  | _ => False
theorem s_aug {i : Nat} {x : Str} {e : Expr} {fe : Env → Wd} {op : Operator} {ti : TIp} {w : W2} {pos pos' : Pos} (hN : X.N.Nodup) (hi : X.N[i]? = some x) (hx : Loc X.env.scope x) (ho : PIp X op ti) (O : Op2 X.pm ti w) (he : Ev X T E e fe) (hf : X.fn x = true ∨ X.env.scope.names.lookup x = some .local := by first | exact .inl rfl | exact .inr rfl | assumption) :
    S1 X T E (.AugAssign (.Name x pos') op e pos) (wAug i w fe) :=
  ⟨fun env k k' l q => by
    unfold wAug at q ⊢
    split at q
    · exact he.mono env _ _ _ _ (fun b => O.mono _ _ _ _ fun r => bindE_mono l.nx) l.er q
    · exact q, weakS (ps_aug hN hi hx he.run ho hf) fun D σ H ⟨H0, o, S, env, k, A, f, g, d, q⟩ => by
    unfold wAug at q
    split at q
    · rename_i a ha
      obtain ⟨u, h1, h2⟩ := A.at_ _ _ ha
      refine ⟨u, h1, o, S, env, A, g.tb, he.mono env _ _ _ _ (fun b q v H1 g1 r1 => ?_) (d.erK g) q⟩
      have A1 := A.gr g1.gr
      refine O.run T o S env σ H1 _ _ u v _ A1 g1.tb (h2.gr g1.gr) (A.flat r1) (O.mono _ _ _ _ (fun r q v' H2 g2 r2 => ?_) q)
      obtain ⟨o', S', env', A', h', q⟩ := A1.bind g2.gr r2 q
      exact d.nx _ _ _ _ _ A' (f.or (g.trans g1).gr h') ((g.trans g1).trans g2) q
    · exact q.elim⟩
def wDrop (fe : Env → Wd) : Ws := fun env k => fe env (fun _ => k.nx env) k.er
theorem s_expr {e : Expr} {fe : Env → Wd} {pos : Pos} (he : Ev X T E e fe) (hs : swapsWith e none pos.line X.env = pure false := by rfl) : S1 X T E (.Expr e pos) (wDrop fe) :=
  ⟨fun env k k' l q => he.mono env _ _ _ _ (fun r => l.nx _) l.er q, weakS (ps_expr he.run hs) fun D σ H ⟨H0, o, S, env, k, A, f, g, d, q⟩ =>
    ⟨o, S, env, A, g.tb, he.mono env _ _ _ _ (fun r q v H' g' h => d.nx _ _ _ _ _ (A.gr g'.gr) f (g.trans g') q) (d.erK g) q⟩⟩
def wRet (fe : Env → Wd) : Ws := fun env k => fe env (fun r => k.rt r.flat.thaw) k.er
theorem s_ret {e : Expr} {fe : Env → Wd} {pos : Pos} (he : Ev X T E e fe) : S1 X T E (.Return (some e) pos) (wRet fe) :=
  ⟨fun env k k' l q => he.mono env _ _ _ _ (fun r => l.rt _) l.er q, weakS (ps_ret he.run) fun D σ H ⟨H0, o, S, env, k, A, f, g, d, q⟩ =>
    ⟨o, S, env, A, g.tb, he.mono env _ _ _ _ (fun r q v H' g' h => d.rt _ _ _ (g.trans g') (A.flat h).thaw q) (d.erK g) q⟩⟩
theorem s_retN {pos : Pos} : S1 X T E (.Return none pos) (fun env k => k.rt (.d .none)) :=
  ⟨fun env k k' l q => l.rt _ q, weakS ps_retN fun D σ H ⟨H0, o, S, env, k, A, f, g, d, q⟩ => d.rt (.d .none) .non H g (dt_none (K := X.pm.K) (H := hide (fun _ => False) H)) q⟩
def wIf (fc : Env → Wb) (g1 g2 : Ws) : Ws := fun env k => fc env (fun c => if c = true then g1 env k else g2 env k) k.er
theorem s_if {c : Expr} {a b : List Stmt} {fc : Env → Wb} {g1 g2 : Ws} {pos : Pos} (hc : Tv X T E c fc) (ha : Sv X T E a g1) (hb : Sv X T E b g2) : S1 X T E (.If c a b pos) (wIf fc g1 g2) :=
  ⟨fun env k k' l q => hc.mono env _ _ _ _ (fun c q => by
    by_cases z : c = true
    · rw [if_pos z] at q ⊢; exact ha.mono _ _ _ l q
    · rw [if_neg z] at q ⊢; exact hb.mono _ _ _ l q) l.er q, weakS (ps_if hc.run ha.run hb.run) fun D σ H ⟨H0, o, S, env, k, A, f, g, d, q⟩ =>
    ⟨o, S, env, A, g.tb, hc.mono env _ _ _ _ (fun c q H' g' => by
      by_cases z : c = true
      · rw [if_pos z] at q ⊢; exact ⟨H0, o, S, env, k, A.gr g'.gr, f, g.trans g', d, q⟩
      · rw [if_neg z] at q ⊢; exact ⟨H0, o, S, env, k, A.gr g'.gr, f, g.trans g', d, q⟩) (d.erK g) q⟩⟩
/-- while, by a count of turns -/
def whN (fc : Env → Wb) (gb : Ws) : Nat → Ws
  | 0 => fun _ _ => False
  | n + 1 => fun env k => fc env (fun c => if c = true then gb env { k with nx := fun e => whN fc gb n e k, ct := fun e => whN fc gb n e k, bk := k.nx } else k.nx env) k.er
theorem whN_mono {fc : Env → Wb} {gb : Ws} (hc : Mono fc) (hb : MonoS gb) : ∀ n, MonoS (whN fc gb n)
  | 0 => fun _ _ _ _ q => q
  | n + 1 => fun env k k' l q => hc env _ _ _ _ (fun c q => by
    by_cases z : c = true
    · rw [if_pos z] at q ⊢
      exact hb env { k with nx := fun e => whN fc gb n e k, ct := fun e => whN fc gb n e k, bk := k.nx } { k' with nx := fun e => whN fc gb n e k', ct := fun e => whN fc gb n e k', bk := k'.nx } ⟨fun e => whN_mono hc hb n e k k' l, l.rt, l.nx, fun e => whN_mono hc hb n e k k' l, l.er⟩ q
    · rw [if_neg z] at q ⊢; exact l.nx _ q) l.er q
def wWhile (fc : Env → Wb) (gb : Ws) : Ws := fun env k => ∃ n, whN fc gb n env k
theorem s_while {c : Expr} {body : List Stmt} {fc : Env → Wb} {gb : Ws} {pos : Pos} (hp : PassesOwn (model X.prog X.w) X.A X.env X.xe) (hc : Tv X T E c fc) (hb : Sv X T E body gb) : S1 X T E (.While c body [] pos) (wWhile fc gb) :=
  ⟨fun env k k' l ⟨n, q⟩ => ⟨n, whN_mono hc.mono hb.mono n _ _ _ l q⟩, weakS (ps_while hp hc.run hb.run) fun D σ H ⟨H0, o, S, env, k, A, f, g, d, n, q⟩ => by
    refine ⟨fun m σ H => ∃ o S env, Ag X.pm o S env σ H ∧ Fr S H0 ∧ Gx T H0 H ∧ whN fc gb m env k, ⟨n, o, S, env, A, f, g, q⟩, ?_⟩
    rintro m σ H ⟨o, S, env, A, f, g, q⟩
    cases m with
    | zero => exact q.elim
    | succ m =>
      refine ⟨o, S, env, A, g.tb, hc.mono env _ _ _ _ (fun c q H' g' => ?_) (d.erK g) q⟩
      cases c with
      | false =>
        rw [if_neg Bool.false_ne_true] at q ⊢
        exact d.nx _ _ _ _ _ (A.gr g'.gr) f (g.trans g') q
      | true =>
        rw [if_pos rfl] at q ⊢
        exact ⟨fun σ H => ∃ o S env, Ag X.pm o S env σ H ∧ Fr S H0 ∧ Gx T H0 H ∧ whN fc gb m env k, fun σ' H' w => ⟨m, Nat.lt_succ_self _, w⟩, H0, o, S, env, { k with nx := fun e => whN fc gb m e k, ct := fun e => whN fc gb m e k, bk := k.nx }, A.gr g'.gr, f, g.trans g',
          ⟨fun o S env σ H A f g q => ⟨o, S, env, A, f, g, q⟩, d.nx, fun o S env σ H A f g q => ⟨o, S, env, A, f, g, q⟩, d.rt, d.er⟩, q⟩⟩
end
end PD
/-! the data layer: calls, defs -/
namespace PD
open PySem PySem.Spec PyProof.Rows L2 Fp LamX

/-! ### a call that does not see some lists -/
open Classical in
noncomputable def joinH (S : Addr → Prop) (H G : Hp) : Hp := fun b => if S b then H b else G b
section
variable {P : Program} {w : World} {S : Addr → Prop} {H G G' : Hp} {h h' : Heap} {fs : List Addr}
theorem join_pos {b : Addr} (c : S b) : joinH S H G b = H b := if_pos c
theorem join_neg {b : Addr} (c : ¬ S b) : joinH S H G b = G b := if_neg c
theorem hide_hok (x : HOk P w H h) (hl : ∀ a, S a → ∃ xs, H a = some (.lst xs)) : HOk P w (hide S H) h := fun b u e => by
  obtain ⟨n, e⟩ := hide_some e
  refine (x b u e).stay (fun c v _ q => q) (fun c q => ?_) fun c xs q => ?_
  · rw [hide_neg fun z => by obtain ⟨ys, z⟩ := hl c z; rw [q] at z; cases z]; exact q
  · rw [hide_neg fun z => by obtain ⟨ys, z⟩ := hl c z; rw [q] at z; cases z]; exact q
/-- what is known behind -/
structure JK (S : Addr → Prop) (H G' : Hp) (h h' : Heap) : Prop where
  keep : ∀ b o, S b → h.get? b = some o → h'.get? b = some o
  free : ∀ b, S b → G' b = none
theorem join_hok (x0 : HOk P w H h) (x : HOk P w G' h') (hl : ∀ a, S a → ∃ xs, H a = some (.lst xs)) (j : JK S H G' h h') : HOk P w (joinH S H G') h' := fun b u e => by
  by_cases c : S b
  · rw [join_pos c] at e
    obtain ⟨xs, l⟩ := hl b c
    rw [l] at e
    cases e
    obtain ⟨z, its, n, r, ho⟩ := (show ObjOk P w H h b (.lst xs) from x0 b _ l)
    exact ⟨z, its, n, r, j.keep b _ c ho⟩
  · rw [join_neg c] at e
    refine (x b u e).stay (fun c v _ q => q) (fun d q => ?_) fun d xs q => ?_
    · rw [join_neg fun z => by rw [j.free d z] at q; cases q]; exact q
    · rw [join_neg fun z => by rw [j.free d z] at q; cases q]; exact q
end
section
variable {X : Cx} {k : Nat} {f C : Addr} {fd : FuncData} {ps : List Str} {sp : Sp} {E : XK} {x : Str} {p pos : Pos} {e : Expr} {es : List Expr} {t : TA}
theorem run_hide {S : Addr → Prop} {pins : List (Addr × Obj)} {σ : L2.St} {H : Hp} {s : Shared} {Q : VK} {us : List Value} {vs : List V} (F : FnG X.prog X.w X.K X.mg X.base (L2.CX X.prog X.w) k f fd ps sp) (hr : RoomG k X.A) (hb : Binds X.K fd ps []) (hx : PassesAt (L2.CX X.prog X.w) X σ E)
    (hl : ∀ a, S a → ∃ xs, H a = some (.lst xs))
    (I : Inv X pins σ H s) (r : Vals vs us) (h : sp vs (hide S H) (fun v G => (∀ a, S a → G a = none) → Q v (joinH S H G)) (fun cls d G => (∀ a, S a → G a = none) → E cls d (joinH S H G))) : wpAny (model X.prog X.w) X.A (call (.ref f) us) (EP X pins σ Q) X.xe s := by
  have hlen : us.length = ps.length := by rw [← r.length]; exact F.len _ _ _ _ h
  have b := hb s us I.kIn (by rw [List.append_nil]; exact hlen)
  rw [List.append_nil] at b
  have e0 := I.env0
  have fr : ∀ b ∈ frs X.stack, ¬ S b := fun b hb z => by
    obtain ⟨xs, z⟩ := hl b z
    rw [e0.frf b hb] at z; cases z
  have e1 : Env0 X.prog X.w X.K X.mg X.base X.A X.stack s (hide S H) :=
    ⟨e0.frames, e0.mod, fun b o eb => ⟨(e0.bs b o eb).1, by
      cases q : hide S H b with
      | none => rfl
      | some u =>
        have z := (e0.bs b o eb).2
        rw [(hide_some q).2] at z; cases z⟩, e0.bsz, e0.funs, fun b hb => by rw [hide_neg (fr b hb)]; exact e0.frf b hb, hide_hok e0.hok hl, e0.bare⟩
  have hn : ∀ b, H b = none → hide S H b = none := fun b n => by
    cases q : hide S H b with
    | none => rfl
    | some u => rw [(hide_some q).2] at n; cases n
  have there : ∀ b, S b → ∃ o, s.heap.get? b = some o := fun b c => by
    obtain ⟨xs, l⟩ := hl b c
    obtain ⟨_, its, n, _, ho⟩ := (show ObjOk X.prog X.w H s.heap b (.lst xs) from e0.hok b _ l)
    exact ⟨_, ho⟩
  refine wpAny_call (codeAny_mono (F.run X.A X.stack s (hide S H) ⟨us, []⟩ us vs _ _ hr e1 b r h) fun r2 s' hq => ?_)
  cases r2 with
  | error e =>
    refine hx pins H s e s' I ?_
    obtain ⟨a, B, G, cls, d, eu, fl, hok, ub, na, os, ag, hE⟩ := hq
    have kp : ∀ b o, S b → s.heap.get? b = some o → B.get? b = some o := fun b o c eb => ub.keep b o eb (hide_pos c) (fun z => fr b z c)
    have fre : ∀ b, S b → G b = none := fun b c => by
      obtain ⟨o, ho⟩ := there b c
      exact ub.free b o ho (hide_pos c)
    have ns : ¬ S a := fun c => by
      obtain ⟨o, ho⟩ := there a c
      have z := kp a o c ho
      rw [fl.2.1] at z; cases z
    refine ⟨a, B, joinH S H G, cls, d, eu, fl, join_hok e0.hok hok hl ⟨kp, fre⟩, ⟨fun b o eb n => ub.keep b o eb (hn b n), ub.slot, fun b o eb n => ?_, ub.there, fun b xs eb => ?_, fun b o xs eb => ?_, fun b qs eb => ?_⟩, by rw [join_neg ns]; exact na, os, ag, hE fre⟩
    · by_cases c : S b
      · rw [join_pos c]; exact n
      · rw [join_neg c]; exact ub.free b o eb (hn b n)
    · have c : ¬ S b := fun z => by obtain ⟨ys, z⟩ := hl b z; rw [eb] at z; cases z
      rw [join_neg c]; exact ub.tups b xs (by rw [hide_neg c]; exact eb)
    · have c : ¬ S b := fun z => by obtain ⟨ys, z⟩ := hl b z; rw [eb] at z; cases z
      rw [join_neg c]; exact ub.frzs b o xs (by rw [hide_neg c]; exact eb)
    · have c : ¬ S b := fun z => by obtain ⟨ys, z⟩ := hl b z; rw [eb] at z; cases z
      rw [join_neg c]; exact ub.tbls b qs (by rw [hide_neg c]; exact eb)
  | ok fl =>
    cases fl with
    | next => exact False.elim hq
    | brk => exact False.elim hq
    | cont => exact False.elim hq
    | ret u =>
      obtain ⟨v, G, os, bare, un, hok, rv, qv⟩ := hq
      have kp : ∀ b o, S b → s.heap.get? b = some o → s'.heap.get? b = some o := fun b o c eb => un.keep b o eb (hide_pos c) (fun z => fr b z c) (by simp)
      have fre : ∀ b, S b → G b = none := fun b c => by
        obtain ⟨o, ho⟩ := there b c
        exact un.free b o ho (hide_pos c) (by simp)
      refine I.after ⟨v, joinH S H G, os, bare, ⟨fun b o eb n => un.keep b o eb (hn b n), fun b o eb n => un.slot b o eb (hn b n), fun b o eb n nx => ?_, un.there, fun b xs eb => ?_, fun b o xs eb => ?_, fun b qs eb => ?_⟩, join_hok e0.hok hok hl ⟨kp, fre⟩, rv, qv fre⟩
      · by_cases c : S b
        · rw [join_pos c]; exact n
        · rw [join_neg c]; exact un.free b o eb (hn b n) nx
      · have c : ¬ S b := fun z => by obtain ⟨ys, z⟩ := hl b z; rw [eb] at z; cases z
        rw [join_neg c]; exact un.tups b xs (by rw [hide_neg c]; exact eb)
      · have c : ¬ S b := fun z => by obtain ⟨ys, z⟩ := hl b z; rw [eb] at z; cases z
        rw [join_neg c]; exact un.frzs b o xs (by rw [hide_neg c]; exact eb)
      · have c : ¬ S b := fun z => by obtain ⟨ys, z⟩ := hl b z; rw [eb] at z; cases z
        rw [join_neg c]; exact un.tbls b qs (by rw [hide_neg c]; exact eb)
/-- a call; S may be left out of its sight -/
def tCallH (sp : Sp) (E : XK) (t : TA) : TE := fun σ H Q => t σ H fun vs H1 => ∃ S : Addr → Prop, (∀ a, S a → ∃ xs, H1 a = some (.lst xs)) ∧ sp vs (hide S H1) (fun v G => (∀ a, S a → G a = none) → Q v (joinH S H1 G)) (fun cls d G => (∀ a, S a → G a = none) → E cls d (joinH S H1 G))
theorem pe_callH (h : PrG X.prog X.w X.K X.mg X.base x k ps sp) (hr : RoomG k X.A) (hg : Gl X x) (hx : ∀ σ, PassesAt (L2.CX X.prog X.w) X σ E)
    (ha : PA X (e :: es) t) (hdb : (x == ("__debug__" : Str)) = false := by decide) (he : starEach (e :: es) X.env = (false, eval e X.env) :: starEach es X.env := by rfl) (hpl : (backTo pos (starEach es X.env)).any (·.1) = false := by rfl) :
    PE X (.Call (.Name x p) (e :: es) [] pos) (tCallH sp E t) := by
  obtain ⟨f, fd, hm, hk, hb, F⟩ := h.ex
  refine ⟨fun pins s σ H Q I q => ?_⟩
  refine wpAny_Call_Name_kw (ld_glob I hg hm ?_ hdb)
  refine PySem.W.callWith_K (h₀ := X.base) I.ok.mod.kin hk (thn (ha.run pos pins s σ H _ I q) fun us s1 ⟨vs, H1, I1, r, S, hl, q⟩ => ⟨I1.kIn, ?_⟩) he hpl
  exact run_hide F hr hb (hx σ) hl I1 r q
theorem pe_callH0 (h : PrG X.prog X.w X.K X.mg X.base x k ps sp) (hr : RoomG k X.A) (hg : Gl X x) (hx : ∀ σ, PassesAt (L2.CX X.prog X.w) X σ E)
    (hdb : (x == ("__debug__" : Str)) = false := by decide) : PE X (.Call (.Name x p) [] [] pos) (tCallH sp E tNil) := by
  obtain ⟨f, fd, hm, hk, hb, F⟩ := h.ex
  refine ⟨fun pins s σ H Q I q => ?_⟩
  refine wpAny_Call_Name_kw (ld_glob I hg hm ?_ hdb)
  obtain ⟨S, hl, q⟩ := q
  exact PySem.W.callWith_K0 I.kIn hk (run_hide (us := []) F hr hb (hx σ) hl I .nil q)
end

/-! ### promises by data -/
abbrev noO : Nat → Option Addr := fun _ => none
abbrev noS : Addr → Prop := fun _ => False
abbrev Df1 := List En → Wd
def spD (M : Pm) (T : List (Addr × Str)) (f : Df1) : Sp := fun vs H Q E => Tabs T H ∧ ∃ rs, Paired (R M noO noS H) rs vs ∧ f rs (fun r => ∀ v H', Gx T H H' → R M noO noS H' r v → Q v H') (erK M T E noS H)
def MonoF (f : Df1) : Prop := ∀ rs (Q Q' : En → Prop) (Er Er' : Flt → Prop), (∀ r, Q r → Q' r) → (∀ x, Er x → Er' x) → f rs Q Er → f rs Q' Er'
/-- a def keeps a promise by data -/
structure Pd (M : Pm) (base : Heap) (T : List (Addr × Str)) (x : Str) (k : Nat) (ps : List Str) (f : Df1) : Prop where
  mono : MonoF f
  pr : PrG M.P M.w M.K M.mg base x k ps (spD M T f)
/-- plain values are held by no slot -/
theorem R.plain {M : Pm} {o : Nat → Option Addr} {S : Addr → Prop} {H : Hp} : ∀ {r : En} {v : V}, notOwn r → R M o S H r v → R M noO noS (hide S H) r v
  | .d x, _, _, q => by
    show Dt _ _ _ _
    rw [hide_nil]; exact q
  | .pen, _, _, ⟨p, h1, h2⟩ => ⟨p, h1, by rw [hide_nil]; exact h2⟩
  | .fn f, _, _, q => q
  | .fns fs, _, _, ⟨a, xs, h1, h2, h3⟩ => ⟨a, xs, h1, by rw [hide_nil]; exact h2, h3⟩
  | .own _ _, _, n, _ => n.elim
  | .new _, _, n, _ => n.elim
  | .ob c fs, _, _, q => by
    show ObR _ _ _ _ _
    rw [hide_nil]; exact q
theorem tabs_hide {T : List (Addr × Str)} {S : Addr → Prop} {H : Hp} (t : Tabs T H) (hl : ∀ a, S a → ∃ xs, H a = some (.lst xs)) : Tabs T (hide S H) := fun p hp => by
  obtain ⟨ps, h1, h2, h3⟩ := t p hp
  have ns : ∀ {b u}, H b = some u → (∀ xs, u ≠ .lst xs) → ¬ S b := fun e n c => by
    obtain ⟨xs, z⟩ := hl _ c
    rw [e] at z; cases z
    exact n _ rfl
  refine ⟨ps, by rw [hide_neg (ns h1 fun _ z => nomatch z)]; exact h1, h2, fun pos cv hc => ?_⟩
  obtain ⟨c, e1, e2⟩ := h3 pos cv hc
  exact ⟨c, e1, by rw [hide_neg (ns e2 fun _ z => by have z' : HO.ext _ = HO.lst _ := z; cases z')]; exact e2⟩
theorem tabs_join {T : List (Addr × Str)} {S : Addr → Prop} {H G : Hp} (t : Tabs T G) (hf : ∀ a u, S a → G a ≠ some u) : Tabs T (joinH S H G) := fun p hp => by
  obtain ⟨ps, h1, h2, h3⟩ := t p hp
  refine ⟨ps, by rw [join_neg fun z => hf _ _ z h1]; exact h1, h2, fun pos cv hc => ?_⟩
  obtain ⟨c, e1, e2⟩ := h3 pos cv hc
  exact ⟨c, e1, by rw [join_neg fun z => hf _ _ z e2]; exact e2⟩
/-! ### calls of such -/
section
variable {M : Pm} {T : List (Addr × Str)} {S : Addr → Prop} {H G : Hp}
theorem join_same (hf : ∀ a, S a → G a = none) : Same G (joinH S H G) := fun b u e => by
  rw [join_neg fun z => by rw [hf b z] at e; cases e]; exact e
theorem join_hide (hf : ∀ a, S a → G a = none) : hide S (joinH S H G) = G := by
  funext b
  by_cases c : S b
  · rw [hide_pos c, hf b c]
  · rw [hide_neg c, join_neg c]
theorem join_gx (g : Gx T (hide S H) G) (hf : ∀ a, S a → G a = none) : Gx T H (joinH S H G) := ⟨fun b u e n => by
  by_cases c : S b
  · rw [join_pos c]; exact e
  · rw [join_neg c]; exact g.gr b u (by rw [hide_neg c]; exact e) n, tabs_join g.tb fun a u c z => by rw [hf a c] at z; cases z⟩
theorem R.join {o : Nat → Option Addr} (hf : ∀ a, S a → G a = none) : ∀ {r : En} {v : V}, R M noO noS G r v → R M o S (joinH S H G) r v
  | .d x, _, q => by
    have q : Dt M.K (hide noS G) x _ := q
    show Dt M.K (hide S (joinH S H G)) x _
    rw [join_hide hf]; rw [hide_nil] at q; exact q
  | .pen, _, ⟨p, h1, h2⟩ => ⟨p, h1, by rw [join_hide hf]; rw [hide_nil] at h2; exact h2⟩
  | .fn f, _, q => q
  | .fns fs, _, ⟨a, xs, h1, h2, h3⟩ => ⟨a, xs, h1, by rw [join_hide hf]; rw [hide_nil] at h2; exact h2, h3⟩
  | .own i ds, _, ⟨a, xs, h1, h2, _⟩ => by cases h2
  | .new _, _, q => q.elim
  | .ob c fs, _, q => by
    have q : ObR M.K (hide noS G) c fs _ := q
    show ObR M.K (hide S (joinH S H G)) c fs _
    rw [join_hide hf]; rw [hide_nil] at q; exact q
end
def allPlain : List En → Prop
  | [] => True
  | r :: rs => notOwn r ∧ allPlain rs
theorem R.plains {M : Pm} {o : Nat → Option Addr} {S : Addr → Prop} {H : Hp} : ∀ {rs : List En} {vs : List V}, allPlain rs → Paired (R M o S H) rs vs → Paired (R M noO noS (hide S H)) rs vs
  | _, _, _, .nil => .nil
  | _, _, n, .cons h t => .cons (R.plain n.1 h) (R.plains n.2 t)
def eCall (f : Df1) (fa : Env → Wl) : Env → Wd := fun env Q Er => fa env (fun rs => allPlain rs ∧ f rs Q Er) Er
section
variable {X : Cx} {T : List (Addr × Str)} {E : XK} {k : Nat} {ps : List Str} {f : Df1} {x : Str} {p pos : Pos} {e : Expr} {es : List Expr} {fa : Env → Wl}
theorem call_D (hf : MonoF f) (ha : Mono fa) {σ : L2.St} {H : Hp} {Q : VK} (h : tD X.pm T E (eCall f fa) σ H Q) : tCallH (spD X.pm T f) E (tDA X.pm T E fa) σ H Q := by
  obtain ⟨o, S, env, A, t, q⟩ := h
  refine ⟨o, S, env, A, t, ha env _ _ _ _ (fun rs q vs H1 g1 r1 => ?_) (fun _ z => z) q⟩
  have A1 := A.gr g1.gr
  refine ⟨S, A1.lst, tabs_hide g1.tb A1.lst, rs, R.plains q.1 r1, hf rs _ _ _ _ (fun r q v G g2 r2 hf => ?_) (fun x q d G g2 r2 hf => ?_) q.2⟩
  · exact q v _ (g1.trans (join_gx g2 hf)) (.of (R.join hf r2))
  · exact q d _ (g1.trans (join_gx g2 hf)) (by rw [join_hide hf]; rw [hide_nil] at r2; exact r2)
theorem ev_call (h : Pd X.pm X.base T x k ps f) (hr : RoomG k X.A) (hg : Gl X x) (hx : ∀ σ, PassesAt (L2.CX X.prog X.w) X σ E) (ha : Av X T E (e :: es) fa)
    (hdb : (x == ("__debug__" : Str)) = false := by decide) (he : starEach (e :: es) X.env = (false, eval e X.env) :: starEach es X.env := by rfl) (hpl : (backTo pos (starEach es X.env)).any (·.1) = false := by rfl) :
    Ev X T E (.Call (.Name x p) (e :: es) [] pos) (eCall f fa) :=
  ⟨fun env Q Q' Er Er' hq he q => ha.mono env _ _ _ _ (fun rs q => ⟨q.1, h.mono rs _ _ _ _ hq he q.2⟩) he q, weakE (pe_callH h.pr hr hg hx ha.run hdb he hpl) fun σ H Q q => call_D h.mono ha.mono q⟩
theorem ev_call0 (h : Pd X.pm X.base T x k ps f) (hr : RoomG k X.A) (hg : Gl X x) (hx : ∀ σ, PassesAt (L2.CX X.prog X.w) X σ E) (hdb : (x == ("__debug__" : Str)) = false := by decide) :
    Ev X T E (.Call (.Name x p) [] [] pos) (fun _ => f []) :=
  ⟨fun env Q Q' Er Er' hq he q => h.mono [] _ _ _ _ hq he q, weakE (pe_callH0 h.pr hr hg hx hdb) fun σ H Q ⟨o, S, env, A, t, q⟩ => by
    refine ⟨S, A.lst, tabs_hide t A.lst, [], .nil, h.mono [] _ _ _ _ (fun r q v G g2 r2 hf => ?_) (fun x q d G g2 r2 hf => ?_) q⟩
    · exact q v _ (join_gx g2 hf) (.of (R.join hf r2))
    · exact q d _ (join_gx g2 hf) (by rw [join_hide hf]; rw [hide_nil] at r2; exact r2)⟩
end

/-! ### defs -/
def startE (N : List Str) (rs : List En) : Env := rs.map some ++ List.replicate (N.length - rs.length) none
theorem paired_len {α β : Type} {F : α → β → Prop} : ∀ {xs : List α} {ys : List β}, Paired F xs ys → xs.length = ys.length
  | _, _, .nil => rfl
  | _, _, .cons _ t => by simp [paired_len t]
theorem paired_get {α β : Type} {F : α → β → Prop} : ∀ {xs : List α} {ys : List β} {i : Nat} {x : α}, Paired F xs ys → xs[i]? = some x → ∃ y, ys[i]? = some y ∧ F x y
  | _, _, i, _, .nil, e => by simp at e
  | _, _, 0, _, .cons h _, e => by
    simp at e; subst e
    exact ⟨_, rfl, h⟩
  | _, _, i + 1, _, .cons _ t, e => by
    obtain ⟨y, h1, h2⟩ := paired_get t (by simpa using e)
    exact ⟨y, by simpa using h1, h2⟩
theorem start_ag {M : Pm} {N : List Str} {rs : List En} {vs : List V} {H : Hp} (h : Paired (R M noO noS H) rs vs) : Ag M noO noS (startE N rs) (L2.start N vs) H := by
  have hl := paired_len h
  refine ⟨by unfold startE L2.start; simp [hl], fun i r e => ?_, fun i j ds e => ?_, fun i j a z => (nomatch z), fun i a z => (nomatch z), fun a z => False.elim z⟩
  · unfold startE at e
    by_cases hi : i < rs.length
    · rw [List.getElem?_append_left (by simpa using hi), List.getElem?_map] at e
      cases q : rs[i]? with
      | none => rw [q] at e; cases e
      | some r' =>
        rw [q] at e
        cases e
        obtain ⟨v, h1, h2⟩ := paired_get h q
        refine ⟨v, ?_, h2⟩
        unfold L2.start
        rw [List.getElem?_append_left (by simp; omega), List.getElem?_map, h1]
        rfl
    · rw [List.getElem?_append_right (by simp; omega), List.getElem?_replicate] at e
      split at e <;> cases e
  · unfold startE at e
    by_cases hi : i < rs.length
    · rw [List.getElem?_append_left (by simpa using hi), List.getElem?_map] at e
      cases q : rs[i]? with
      | none => rw [q] at e; cases e
      | some r' =>
        rw [q] at e
        cases e
        obtain ⟨v, h1, a, xs, h2, h3, _⟩ := paired_get h q
        cases h3
    · rw [List.getElem?_append_right (by simp; omega), List.getElem?_replicate] at e
      split at e <;> cases e
section
variable {P : Program} {w : World} {K : PySem.W.Frag} {mg : Str → Option Value} {base : Heap} {x qual : Str} {params : Arguments} {body : List Stmt} {scope : Scope} {dvs : List V} {kws : List (Str × V)} {f : Addr} {fd : FuncData} {CX : CXT} {N ps : List Str} {k : Nat} {T : List (Addr × Str)} {df : Df1}
/-- what follows a def's body -/
def endK (Q : En → Prop) (Er : Flt → Prop) : Ks := ⟨fun _ => Q (.d .none), Q, fun _ => False, fun _ => False, Er⟩
theorem okD (F : FunD K x qual params body scope dvs kws f fd) (S : FnScope N ps scope) (hlen : ∀ rs Q Er, df rs Q Er → rs.length = ps.length)
    (hbody : ∀ (cdv : Value) (A : Around) (outer : List PySem.Env) (s : Shared) (H : Hp) (E : XK), RoomG k (A.deeper (envOfC qual scope s.heap.objs.size f cdv)) →
      ∃ g, Sv (cxOf CX P w K mg base N qual scope f cdv A outer s H E) T E body g ∧ ∀ rs Q Er, df rs Q Er → g (startE N rs) (endK Q Er)) : FnG P w K mg base CX (k + 1) f fd ps (spD ⟨P, w, K, mg⟩ T df) := by
  refine okG F S (fun vs H Q E h => ?_) (fun cdv A outer s H vs Q E hr h => ?_)
  · obtain ⟨_, rs, h1, h2⟩ := h
    rw [← paired_len h1]
    exact hlen _ _ _ h2
  · obtain ⟨g, hg, hf⟩ := hbody cdv A outer s H E hr
    obtain ⟨t, rs, h1, h2⟩ := h
    refine ⟨_, hg.run, H, noO, noS, startE N rs, endK (fun r => ∀ v H', Gx T H H' → R ⟨P, w, K, mg⟩ noO noS H' r v → Q v H') (erK ⟨P, w, K, mg⟩ T E noS H), start_ag h1, fun _ z => z.elim, Gx.refl t, ⟨fun o S env σ H' A' f' g' q => ?_, fun _ _ _ _ _ _ _ _ q => False.elim q, fun _ _ _ _ _ _ _ _ q => False.elim q, fun r v H' g' h q => q v H' g' h, fun x d H' g' h q => q d H' g' (by rw [hide_nil]; exact h)⟩, hf rs _ _ h2⟩
    exact q .non H' g' (dt_none (K := K) (H := hide noS H'))
end
end PD
/-! the data layer: operators, displays, built-ins -/
namespace PD
open PySem PySem.Spec PyProof.Rows L2 Fp LamX

section
variable {M : Pm} {T : List (Addr × Str)} {o : Nat → Option Addr} {S : Addr → Prop} {env : Env} {σ : L2.St} {H : Hp} {p : Addr} {xs : List V} {ds : List PyData}
theorem newTup (A : Ag M o S env σ H) (hp : H p = none) (hd : DtAll M.K (hide S H) ds xs) : R' M o S H (upd H p (.tup xs)) (.d (.tuple ds)) (.ref p) := by
  show Dt _ _ _ _
  have ns := A.fresh (NoT.of hp)
  rw [hide_new ns]
  exact dt_new (by rw [hide_neg ns]; exact hp) hd
theorem newLst (A : Ag M o S env σ H) (hp : H p = none) (hd : DtAll M.K (hide S H) ds xs) : R' M o S H (upd H p (.lst xs)) (.new ds) (.ref p) := by
  refine ⟨p, xs, rfl, NoT.of hp, upd_same, ?_⟩
  rw [hide_own (.inr rfl)]
  exact DtAll.gr (hide_or (NoT.of hp)) hd
theorem Gx.new {u : HO} (t : Tabs T H) (hp : H p = none) : Gx T H (upd H p u) := Gx.of t (same_new hp)
theorem sqt_hide {a : Addr} {K : PySem.W.Frag} (h : SqT K (hide S H) a xs) : SqT K H a xs := sqt_mono hide_sub h
theorem sql_hide {a : Addr} {K : PySem.W.Frag} (h : SqL K (hide S H) a xs) : SqL K H a xs := sql_mono hide_sub h
end

section
variable {M : Pm} {o : Nat → Option Addr} {S : Addr → Prop} {H : Hp} {v : V}
theorem R.int {i : Int} (h : R M o S H (.d (.int i)) v) : v = .int i := dt_int_inv (K := M.K) (H := hide S H) h
theorem R.str {i : Str} (h : R M o S H (.d (.str i)) v) : v = .str i := dt_str_inv (K := M.K) (H := hide S H) h
theorem R.non (h : R M o S H (.d .none) v) : v = .non := dt_none_inv (K := M.K) (H := hide S H) h
theorem R.tup {ds : List PyData} (h : R M o S H (.d (.tuple ds)) v) : ∃ a xs, v = .ref a ∧ SqT M.K (hide S H) a xs ∧ DtAll M.K (hide S H) ds xs := dt_tup_inv (K := M.K) (H := hide S H) h
theorem R.lst {ds : List PyData} (h : R M o S H (.d (.list ds)) v) : ∃ a xs, v = .ref a ∧ SqL M.K (hide S H) a xs ∧ DtAll M.K (hide S H) ds xs := dt_lst_inv (K := M.K) (H := hide S H) h
theorem mInt {Hs : Hp} {i : Int} : R' M o S Hs H (.d (.int i)) (.int i) := dt_int (K := M.K) (H := hide S H)
theorem mStr {Hs : Hp} {i : Str} : R' M o S Hs H (.d (.str i)) (.str i) := dt_str (K := M.K) (H := hide S H)
theorem mBl {Hs : Hp} {b : Bool} : R' M o S Hs H (.d (.bool b)) (.bl b) := dt_bool (K := M.K) (H := hide S H)
theorem mNon {Hs : Hp} : R' M o S Hs H (.d .none) .non := dt_none (K := M.K) (H := hide S H)
end

/-! ### ints -/
def wI (C : Int → Int → Prop) (g : Int → Int → PyData) : W2 := fun x y Q => match x, y with
  | .d (.int i), .d (.int j) => C i j ∧ Q (.d (g i j))
  | _, _ => False
theorem wI_mono {C : Int → Int → Prop} {g : Int → Int → PyData} (x y : En) (Q Q' : En → Prop) (h : ∀ r, Q r → Q' r) (q : wI C g x y Q) : wI C g x y Q' := by
  unfold wI at q ⊢
  split at q
  · exact ⟨q.1, h _ q.2⟩
  · exact q.elim
/-- an operator on ints -/
theorem op2_int {M : Pm} {r : R2} {C : Int → Int → Prop} {g : Int → Int → PyData} {gv : Int → Int → V} (hg : ∀ i j, CV (g i j) (gv i j)) (hr : ∀ i j H Q, C i j → Q (gv i j) H → r (.int i) (.int j) H Q) : Op2 M r (wI C g) :=
  ⟨wI_mono, fun T o S env σ H x y u v Q A t rx ry q => by
    unfold wI at q
    split at q
    · obtain rfl := R.int rx
      obtain rfl := R.int ry
      exact hr _ _ _ _ q.1 (q.2 _ H (Gx.refl t) ((hg _ _).dt (K := M.K) (G := hide S H)))
    · exact q.elim⟩
abbrev cT : Int → Int → Prop := fun _ _ => True
theorem o_sub {M : Pm} : Op2 M (rI0 fun i j => .int (i - j)) (wI cT fun i j => .int (i - j)) := op2_int (gv := fun i j => .int (i - j)) (fun _ _ => rfl) fun i j H Q _ q => ⟨i, j, rfl, rfl, q⟩
theorem o_lt {M : Pm} : Op2 M (rI0 fun i j => .bl (decide (i < j))) (wI cT fun i j => .bool (decide (i < j))) := op2_int (gv := fun i j => .bl (decide (i < j))) (fun _ _ => rfl) fun i j H Q _ q => ⟨i, j, rfl, rfl, q⟩
theorem o_le {M : Pm} : Op2 M (rI0 fun i j => .bl (decide (i ≤ j))) (wI cT fun i j => .bool (decide (i ≤ j))) := op2_int (gv := fun i j => .bl (decide (i ≤ j))) (fun _ _ => rfl) fun i j H Q _ q => ⟨i, j, rfl, rfl, q⟩
theorem o_gt {M : Pm} : Op2 M (rI0 fun i j => .bl (decide (j < i))) (wI cT fun i j => .bool (decide (j < i))) := op2_int (gv := fun i j => .bl (decide (j < i))) (fun _ _ => rfl) fun i j H Q _ q => ⟨i, j, rfl, rfl, q⟩
theorem o_ge {M : Pm} : Op2 M (rI0 fun i j => .bl (decide (j ≤ i))) (wI cT fun i j => .bool (decide (j ≤ i))) := op2_int (gv := fun i j => .bl (decide (j ≤ i))) (fun _ _ => rfl) fun i j H Q _ q => ⟨i, j, rfl, rfl, q⟩
/-- a divisor other than 0: small, or above 0 and not of more than 9000 bits -/
def dvOk (_ j : Int) : Prop := (j ≠ 0 ∧ j.natAbs < 1073741824) ∨ (0 < j ∧ j.natAbs.log2 < 9000)
theorem o_fdiv {M : Pm} : Op2 M rFdivA (wI dvOk fun i j => .int (i.fdiv j)) := op2_int (gv := fun i j => .int (i.fdiv j)) (fun _ _ => rfl) fun i j H Q c q => by
  rcases c with c | c
  · exact .inr (.inr ⟨i, j, rfl, rfl, c, q⟩)
  · refine .inr (.inl ⟨i, j, rfl, rfl, c, ?_⟩)
    have e : i.fdiv j = i / j := Int.fdiv_eq_ediv_of_nonneg _ (Int.le_of_lt c.1)
    show Q (.int (i / j)) H
    rw [← e]; exact q
theorem o_mod {M : Pm} : Op2 M (rI (fun _ j => 0 < j) fun i j => .int (i % j)) (wI (fun _ j => 0 < j) fun i j => .int (i % j)) := op2_int (gv := fun i j => .int (i % j)) (fun _ _ => rfl) fun i j H Q c q => ⟨i, j, rfl, rfl, c, q⟩
theorem o_pow {M : Pm} : Op2 M (rI CPow fun i j => .int (i ^ j.toNat)) (wI CPow fun i j => .int (i ^ j.toNat)) := op2_int (gv := fun i j => .int (i ^ j.toNat)) (fun _ _ => rfl) fun i j H Q c q => ⟨i, j, rfl, rfl, c, q⟩
theorem o_neg {M : Pm} : Op1 M (rU fun i => .int (-i)) (fun x Q => match x with | .d (.int i) => Q (.d (.int (-i))) | _ => False) :=
  ⟨fun x Q Q' h q => by
    split at q
    · exact h _ q
    · exact q.elim, fun T o S env σ H x u Q A t rx q => by
    split at q
    · obtain rfl := R.int rx
      exact ⟨_, rfl, q _ H (Gx.refl t) mInt⟩
    · exact q.elim⟩

/-! ### + -/
def rCatX (K : PySem.W.Frag) : R2 := fun x y H Q => ∃ l b xs zs, x = .ref l ∧ y = .ref b ∧ SqL K H l xs ∧ SqL K H b zs ∧ xs.length + zs.length ≤ sizeLine ∧ ∀ p, H p = none → Q (.ref p) (upd H p (.lst (xs ++ zs)))
theorem op_catX {X : Cx} : OpR X (binaryOp .Add) (rCatX X.K) := by
  intro pins s σ H x y v u Q I rx ry h
  obtain ⟨l, b, xs, zs, rfl, rfl, hH, hB, hz, q⟩ := h
  cases rx
  cases ry
  obtain ⟨its, r, hl, _⟩ := I.list hH
  obtain ⟨its2, r2, hb, _⟩ := I.list hB
  have l1 := r.length
  have l2 := r2.length
  obtain ⟨⟨cls, dd, data, sl⟩, ho, hc, n, hd⟩ := hl.isList
  obtain ⟨⟨cls2, dd2, data2, sl2⟩, ho2, hc2, n2, hd2⟩ := hb.isList
  simp only at hc hd hc2 hd2
  subst hc hd hc2 hd2
  have e : its.toArray ++ its2.toArray = (its ++ its2).toArray := by simp
  refine concat_meets ⟨_, ho, rfl⟩ ⟨_, ho2, rfl⟩ noFill_list_add seq_list_add PySem.F.slot_list_add PySem.F.entry_list_add (PySem.F.args_list_add_2 _ _) (list_addW l b its.toArray its2.toArray n n2 dd dd2 sl sl2 (by simp only [List.size_toArray]; omega)) ⟨ho, ho2, ?_⟩
  rw [e]
  exact ⟨.ref _, _, I.lnew (t' := s.toks) (r.append r2) (by rw [List.length_append]; omega), rfl, q _ I.fresh⟩
def rAddX (K : PySem.W.Frag) : R2 := fun x y H Q => rAddP K x y H Q ∨ rCatX K x y H Q
theorem opAddX {X : Cx} : OpR X (binaryOp .Add) (rAddX X.K) := opAdd.or op_catX
def wAdd : W2 := fun x y Q => match x, y with
  | .d (.int i), .d (.int j) => Q (.d (.int (i + j)))
  | .d (.str a), .d (.str b) => a.length + b.length ≤ sizeLine ∧ Q (.d (.str (a ++ b)))
  | .d (.tuple a), .d (.tuple b) => a.length + b.length ≤ sizeLine ∧ Q (.d (.tuple (a ++ b)))
  | .d (.list a), .d (.list b) => a.length + b.length ≤ sizeLine ∧ Q (.new (a ++ b))
  | .own _ a, .d (.list b) => a.length + b.length ≤ sizeLine ∧ Q (.new (a ++ b))
  | _, _ => False
theorem o_add {M : Pm} : Op2 M (rAddX M.K) wAdd := ⟨fun x y Q Q' h q => by
    unfold wAdd at q ⊢
    split at q
    · exact h _ q
    · exact ⟨q.1, h _ q.2⟩
    · exact ⟨q.1, h _ q.2⟩
    · exact ⟨q.1, h _ q.2⟩
    · exact ⟨q.1, h _ q.2⟩
    · exact q.elim, fun T o S env σ H x y u v Q A t rx ry q => by
    unfold wAdd at q
    split at q
    · obtain rfl := R.int rx
      obtain rfl := R.int ry
      exact .inl (.inl ⟨_, _, rfl, rfl, q _ H (Gx.refl t) mInt⟩)
    · obtain rfl := R.str rx
      obtain rfl := R.str ry
      exact .inl (.inr (.inr (.inr ⟨_, _, rfl, rfl, q.1, q.2 _ H (Gx.refl t) mStr⟩)))
    · obtain ⟨a, xs, rfl, sa, da⟩ := R.tup rx
      obtain ⟨b, ys, rfl, sb, db⟩ := R.tup ry
      have la := dtAll_len da
      have lb := dtAll_len db
      have all := dtAll_append da db
      refine .inl (.inr (.inr (.inl ⟨a, b, xs, ys, rfl, rfl, sqt_hide sa, sqt_hide sb, by omega, fun e => ?_, fun _ e => ?_, fun _ _ p hp => ?_⟩)))
      · subst e
        exact q.2 _ H (Gx.refl t) (dt_tup (K := M.K) (H := hide S H) sb all)
      · subst e
        refine q.2 _ H (Gx.refl t) (dt_tup (K := M.K) (H := hide S H) (by rw [List.append_nil]; exact sa) all)
      · exact q.2 _ _ (Gx.new t hp) (newTup A hp all)
    · obtain ⟨a, xs, rfl, sa, da⟩ := R.lst rx
      obtain ⟨b, ys, rfl, sb, db⟩ := R.lst ry
      have la := dtAll_len da
      have lb := dtAll_len db
      exact .inr ⟨a, b, xs, ys, rfl, rfl, sql_hide sa, sql_hide sb, by omega, fun p hp => q.2 _ _ (Gx.new t hp) (newLst A hp (dtAll_append da db))⟩
    · obtain ⟨a, xs, rfl, _, ha, da⟩ := rx
      obtain ⟨b, ys, rfl, sb, db⟩ := R.lst ry
      have la := dtAll_len da
      have lb := dtAll_len db
      exact .inr ⟨a, b, xs, ys, rfl, rfl, .inl (.inl ha), sql_hide sb, by omega, fun p hp => q.2 _ _ (Gx.new t hp) (newLst A hp (dtAll_append da db))⟩
    · exact q.elim⟩

/-! ### * -/
def wMul : W2 := fun x y Q => match x, y with
  | .d (.int i), .d (.int j) => CMulW i j ∧ Q (.d (.int (i * j)))
  | _, _ => False
theorem o_mul {M : Pm} : Op2 M (rMulP M.K) wMul := ⟨fun x y Q Q' h q => by
    unfold wMul at q ⊢
    split at q
    · exact ⟨q.1, h _ q.2⟩
    · exact q.elim, fun T o S env σ H x y u v Q A t rx ry q => by
    unfold wMul at q
    split at q
    · obtain rfl := R.int rx
      obtain rfl := R.int ry
      exact .inr (.inl ⟨_, _, rfl, rfl, q.1, q.2 _ H (Gx.refl t) mInt⟩)
    · exact q.elim⟩

/-! ### == -/
/-- scalars that == takes whatever their size -/
def scalP : PyData → PyData → Bool
  | .none, .none => true | .none, .int _ => true | .int _, .none => true | .none, .bool _ => true | .bool _, .none => true | .none, .str _ => true | .str _, .none => true
  | .int _, .int _ => true | .bool _, .bool _ => true | .str _, .str _ => true
  | .int _, .str _ => true | .str _, .int _ => true | .bool _, .str _ => true | .str _, .bool _ => true
  | _, _ => false
/-- what == takes -/
def eqC (a b : PyData) : Bool := scalP a b || (EqOk a && EqOk b)
theorem scalP_ok {K : PySem.W.Frag} {G : Hp} {a b : PyData} {u v : V} (h : scalP a b = true) (ha : Dt K G a u) (hb : Dt K G b v) : scal u v = true ∧ decide (u = v) = PyData.eqv a b := by
  cases a <;> cases b <;> first | (cases h; done) | skip
  all_goals (unfold Dt at ha hb; subst ha hb; refine ⟨rfl, ?_⟩; rw [Bool.eq_iff_iff]; simp [PyData.eqv])
def wEq : W2 := fun x y Q => match x, y with
  | .d a, .d b => eqC a b = true ∧ Q (.d (.bool (PyData.eqv a b)))
  | .own _ a, .d (.list b) => (EqOk (.list a) && EqOk (.list b)) = true ∧ Q (.d (.bool (PyData.eqv (.list a) (.list b))))
  | _, _ => False
def wNe : W2 := fun x y Q => match x, y with
  | .d a, .d b => eqC a b = true ∧ Q (.d (.bool (!PyData.eqv a b)))
  | .own _ a, .d (.list b) => (EqOk (.list a) && EqOk (.list b)) = true ∧ Q (.d (.bool (!PyData.eqv (.list a) (.list b))))
  | _, _ => False
theorem own_dt {M : Pm} {o : Nat → Option Addr} {S : Addr → Prop} {H : Hp} {i : Nat} {ds : List PyData} {v : V} (h : R M o S H (.own i ds) v) : Dt M.K H (.list ds) v := by
  obtain ⟨a, xs, rfl, _, ha, da⟩ := h
  exact dt_lst (.inl (.inl ha)) (da.mono hide_sub)
theorem o_eq {M : Pm} : Op2 M (rEqA M.K) wEq := ⟨fun x y Q Q' h q => by
    unfold wEq at q ⊢
    split at q
    · exact ⟨q.1, h _ q.2⟩
    · exact ⟨q.1, h _ q.2⟩
    · exact q.elim, fun T o S env σ H x y u v Q A t rx ry q => by
    unfold wEq at q
    split at q
    · rename_i a b
      obtain ⟨c, q⟩ := q
      have q := q (.bl (PyData.eqv a b)) H (Gx.refl t) mBl
      unfold eqC at c
      by_cases z : scalP a b = true
      · obtain ⟨h1, h2⟩ := scalP_ok z rx ry
        exact .inl ⟨h1, by rw [h2]; exact q⟩
      · simp only [z, Bool.false_or, Bool.and_eq_true] at c
        have rx : Dt M.K (hide S H) a u := rx
        have ry : Dt M.K (hide S H) b v := ry
        exact .inr ⟨a, b, rx.mono hide_sub, ry.mono hide_sub, c.1, c.2, q⟩
    · rename_i i a b
      obtain ⟨c, q⟩ := q
      have q := q (.bl (PyData.eqv (.list a) (.list b))) H (Gx.refl t) mBl
      simp only [Bool.and_eq_true] at c
      have ry : Dt M.K (hide S H) (.list b) v := ry
      exact .inr ⟨_, _, own_dt rx, ry.mono hide_sub, c.1, c.2, q⟩
    · exact q.elim⟩
theorem o_ne {M : Pm} : Op2 M (rNeA M.K) wNe := ⟨fun x y Q Q' h q => by
    unfold wNe at q ⊢
    split at q
    · exact ⟨q.1, h _ q.2⟩
    · exact ⟨q.1, h _ q.2⟩
    · exact q.elim, fun T o S env σ H x y u v Q A t rx ry q => by
    unfold wNe at q
    split at q
    · rename_i a b
      obtain ⟨c, q⟩ := q
      have q := q (.bl (!PyData.eqv a b)) H (Gx.refl t) mBl
      unfold eqC at c
      by_cases z : scalP a b = true
      · obtain ⟨h1, h2⟩ := scalP_ok z rx ry
        exact .inl ⟨h1, by rw [h2]; exact q⟩
      · simp only [z, Bool.false_or, Bool.and_eq_true] at c
        have rx : Dt M.K (hide S H) a u := rx
        have ry : Dt M.K (hide S H) b v := ry
        exact .inr ⟨a, b, rx.mono hide_sub, ry.mono hide_sub, c.1, c.2, q⟩
    · rename_i i a b
      obtain ⟨c, q⟩ := q
      have q := q (.bl (!PyData.eqv (.list a) (.list b))) H (Gx.refl t) mBl
      simp only [Bool.and_eq_true] at c
      have ry : Dt M.K (hide S H) (.list b) v := ry
      exact .inr ⟨_, _, own_dt rx, ry.mono hide_sub, c.1, c.2, q⟩
    · exact q.elim⟩

/-! ### displays -/
/-- the data of values -/
def allD (rs : List En) (Q : List PyData → Prop) : Prop := match rs with
  | [] => Q []
  | .d x :: r => allD r fun xs => Q (x :: xs)
  | _ => False
theorem allD_mono : ∀ {rs : List En} {Q Q' : List PyData → Prop}, (∀ r, Q r → Q' r) → allD rs Q → allD rs Q'
  | [], _, _, h, q => h _ q
  | .d x :: r, _, _, h, q => by
    unfold allD at q ⊢
    exact allD_mono (fun xs => h _) q
  | .pen :: _, _, _, _, q | .fn _ :: _, _, _, _, q | .fns _ :: _, _, _, _, q | .own _ _ :: _, _, _, _, q | .new _ :: _, _, _, _, q | .ob _ _ :: _, _, _, _, q => q
theorem allD_dt {M : Pm} {o : Nat → Option Addr} {S : Addr → Prop} {H : Hp} : ∀ {rs : List En} {vs : List V} {Q : List PyData → Prop}, Paired (R M o S H) rs vs → allD rs Q → ∃ ds, DtAll M.K (hide S H) ds vs ∧ Q ds ∧ ds.length = vs.length
  | _, _, _, .nil, q => ⟨[], dtAll_nil, q, rfl⟩
  | .d x :: r, _, _, .cons h t, q => by
    unfold allD at q
    obtain ⟨ds, h1, h2, h3⟩ := allD_dt t q
    exact ⟨x :: ds, dtAll_cons h h1, h2, by simp [h3]⟩
  | .pen :: _, _, _, .cons _ _, q | .fn _ :: _, _, _, .cons _ _, q | .fns _ :: _, _, _, .cons _ _, q | .own _ _ :: _, _, _, .cons _ _, q | .new _ :: _, _, _, .cons _ _, q | .ob _ _ :: _, _, _, .cons _ _, q => q.elim
def eTup (fa : Env → Wl) : Env → Wd := fun env Q Er => fa env (fun rs => allD rs fun ds => ds.length ≤ sizeLine ∧ Q (.d (.tuple ds))) Er
def eLst (fa : Env → Wl) : Env → Wd := fun env Q Er => fa env (fun rs => allD rs fun ds => ds.length ≤ sizeLine ∧ Q (.new ds)) Er
section
variable {X : Cx} {T : List (Addr × Str)} {E : XK} {es : List Expr} {fa : Env → Wl} {pos : Pos}
theorem ev_tup {x1} (ha : Av X T E es fa) : Ev X T E (.Tuple es x1 pos) (eTup fa) :=
  ⟨fun env Q Q' Er Er' hq he q => ha.mono env _ _ _ _ (fun rs => allD_mono fun ds q => ⟨q.1, hq _ q.2⟩) he q, weakE (pe_tup ha.run) fun σ H Q ⟨o, S, env, A, t, q⟩ =>
    ⟨o, S, env, A, t, ha.mono env _ _ _ _ (fun rs q vs H1 g1 r1 => by
      obtain ⟨ds, h1, ⟨h2, q⟩, h3⟩ := allD_dt r1 q
      exact ⟨by omega, fun p hp => q _ _ (g1.trans (Gx.new g1.tb hp)) ((newTup (A.gr g1.gr) hp h1).back g1.gr)⟩) (fun _ z => z) q⟩⟩
theorem ev_lst (ha : Av X T E es fa) : Ev X T E (.List es pos) (eLst fa) :=
  ⟨fun env Q Q' Er Er' hq he q => ha.mono env _ _ _ _ (fun rs => allD_mono fun ds q => ⟨q.1, hq _ q.2⟩) he q, weakE (pe_lst ha.run) fun σ H Q ⟨o, S, env, A, t, q⟩ =>
    ⟨o, S, env, A, t, ha.mono env _ _ _ _ (fun rs q vs H1 g1 r1 => by
      obtain ⟨ds, h1, ⟨h2, q⟩, h3⟩ := allD_dt r1 q
      exact ⟨by omega, fun p hp => q _ _ (g1.trans (Gx.new g1.tb hp)) ((newLst (A.gr g1.gr) hp h1).back g1.gr)⟩) (fun _ z => z) q⟩⟩
end

/-! ### x[i] -/
def wIx : W2 := fun x y Q => match x, y with
  | .d (.list ds), .d (.int i) => ∃ d, atI ds i = some d ∧ Q (.d d)
  | .d (.tuple ds), .d (.int i) => ∃ d, atI ds i = some d ∧ Q (.d d)
  | .own _ ds, .d (.int i) => ∃ d, atI ds i = some d ∧ Q (.d d)
  | .d (.str z), .d (.int i) => z.length ≤ sizeLine ∧ ∃ c, atI z.cps.toList i = some c ∧ Q (.d (.str ⟨#[c]⟩))
  | _, _ => False
theorem atI_dt {K : PySem.W.Frag} {G : Hp} {ds : List PyData} {xs : List V} {i : Int} {d : PyData} (h : DtAll K G ds xs) (e : atI ds i = some d) : ∃ v, atI xs i = some v ∧ Dt K G d v := by
  have hl := dtAll_len h
  unfold atI at e ⊢
  rw [← hl]
  cases q : ixN ds.length i with
  | none => rw [q] at e; cases e
  | some j =>
    rw [q] at e
    obtain ⟨v, h1, h2⟩ := dtAll_getD h (show ds[j]? = some d from e)
    exact ⟨v, h1, h2⟩
theorem o_ix {M : Pm} : Op2 M (rIx M.K) wIx := ⟨fun x y Q Q' h q => by
    unfold wIx at q ⊢
    split at q
    · obtain ⟨d, e, q⟩ := q; exact ⟨d, e, h _ q⟩
    · obtain ⟨d, e, q⟩ := q; exact ⟨d, e, h _ q⟩
    · obtain ⟨d, e, q⟩ := q; exact ⟨d, e, h _ q⟩
    · obtain ⟨l, d, e, q⟩ := q; exact ⟨l, d, e, h _ q⟩
    · exact q.elim, fun T o S env σ H x y u v Q A t rx ry q => by
    unfold wIx at q
    split at q
    · obtain ⟨d, e, q⟩ := q
      obtain ⟨a, xs, rfl, sa, da⟩ := R.lst rx
      obtain rfl := R.int ry
      obtain ⟨w, e1, hw⟩ := atI_dt da e
      exact .inl ⟨a, xs, _, w, rfl, rfl, sql_hide sa, e1, q w H (Gx.refl t) hw⟩
    · obtain ⟨d, e, q⟩ := q
      obtain ⟨a, xs, rfl, sa, da⟩ := R.tup rx
      obtain rfl := R.int ry
      obtain ⟨w, e1, hw⟩ := atI_dt da e
      exact .inr (.inl ⟨a, xs, _, w, rfl, rfl, sqt_hide sa, e1, q w H (Gx.refl t) hw⟩)
    · obtain ⟨d, e, q⟩ := q
      obtain ⟨a, xs, rfl, _, ha, da⟩ := rx
      obtain rfl := R.int ry
      obtain ⟨w, e1, hw⟩ := atI_dt da e
      exact .inl ⟨a, xs, _, w, rfl, rfl, .inl (.inl ha), e1, q w H (Gx.refl t) hw⟩
    · obtain ⟨l, c, e, q⟩ := q
      obtain rfl := R.str rx
      obtain rfl := R.int ry
      exact .inr (.inr ⟨_, _, c, rfl, rfl, l, e, q _ H (Gx.refl t) mStr⟩)
    · exact q.elim⟩
end PD
/-! the data layer: loops, faults, calls of values -/
namespace PD
open PySem PySem.Spec PyProof.Rows L2 Fp LamX

/-! ### _law_fault(lambda: e) -/
/-- what is told of an error, by data -/
def toldD (x : Flt) : PyData := .tuple (match x.k with
  | 0 => [.str "number", x.a, .str x.b.shown]
  | 1 => [.str "row", x.a, .str x.b.shown]
  | 2 => [.str "table", x.a]
  | 3 => [.str "poly", x.a]
  | 4 => [.str "paper", x.a]
  | 5 => [.str "badname", .str x.a.shown]
  | 6 => [.str "text", x.a, x.b]
  | 7 => [.str "place", x.a, .str x.b.shown]
  | 8 => [.str "noname", .str x.a.shown]
  | 9 => [.str "taken", .str x.a.shown]
  | 10 => [.str "unlike", x.a]
  | 11 => [.str "notthere", x.a]
  | 12 => [.str "many", x.a, x.b, x.c]
  | 13 => [.str "kept", x.a, x.b]
  | 14 => [.str "undo"]
  | _ => [.str "redo"])
def fltOk (x : Flt) : Prop := (need1 x.k = true → Sd x.a) ∧ (need2 x.k = true → Sd x.b)
theorem told_dt {K : PySem.W.Frag} {H : Hp} {x : Flt} {v1 v2 v3 : V} (hk : x.k < 16) (h1 : Dt K H x.a v1) (h2 : Dt K H x.b v2) (h3 : Dt K H x.c v3) {t : Addr} (ht : H t = some (.tup (told v1 v2 v3 x.a.shown x.b.shown x.k))) : Dt K H (toldD x) (.ref t) := by
  obtain ⟨k, a, b, c⟩ := x
  refine dt_tup (.inl (.inl ht)) ?_
  match k, hk with
  | 0, _ | 1, _ | 7, _ => exact dtAll_cons dt_str (dtAll_cons h1 (dtAll_cons dt_str dtAll_nil))
  | 2, _ | 3, _ | 4, _ | 10, _ | 11, _ => exact dtAll_cons dt_str (dtAll_cons h1 dtAll_nil)
  | 5, _ | 8, _ | 9, _ => exact dtAll_cons dt_str (dtAll_cons dt_str dtAll_nil)
  | 6, _ | 13, _ => exact dtAll_cons dt_str (dtAll_cons h1 (dtAll_cons h2 dtAll_nil))
  | 12, _ => exact dtAll_cons dt_str (dtAll_cons h1 (dtAll_cons h2 (dtAll_cons h3 dtAll_nil)))
  | 14, _ | 15, _ => exact dtAll_cons dt_str dtAll_nil
  | k + 16, h => exact absurd (show k + 16 < 16 from h) (by omega)
def wFault (g : Env → Wd) : Env → Wd := fun env Q Er => g env (fun _ => Q (.d .none)) (fun x => fltOk x ∧ Q (.d (toldD x)))
theorem fault_D {M : Pm} {T : List (Addr × Str)} {E0 : XK} {g : Env → Wd} (mg : Mono g) {σ : L2.St} {H : Hp} {Q : VK} (h : tD M T E0 (wFault g) σ H Q) : tLam T (TTF M.K) (fun E => tD M T E g) σ H Q := by
  obtain ⟨o, S, env, A, t, q⟩ := h
  refine ⟨t, fun H1 e1 t1 => ?_⟩
  have g1 : Gx T H H1 := ⟨e1, t1⟩
  refine ⟨o, S, env, A.gr e1, t1, mg env _ _ _ _ (fun r q v H2 g2 _ => q .non H2 (g1.trans g2) mNon) (fun x q d H2 g2 hF => ?_) q⟩
  obtain ⟨hk, v1, v2, v3, hd, h1, h2, h3⟩ := hF
  have A2 := (A.gr e1).gr g2.gr
  have hs : ∀ {H' : Hp}, Same (hide S H') H' := hide_sub
  refine ⟨x.k, v1, v2, v3, x.a, x.b, hk, rfl, hd.imp id (fun ⟨dd, e, h⟩ => ⟨dd, e, hs _ _ h⟩), ⟨fun z => ⟨h1.mono hs, q.1.1 z⟩, fun z => ⟨h2.mono hs, q.1.2 z⟩⟩, fun t H3 s3 ht => ?_⟩
  refine q.2 _ H3 ((g1.trans g2).trans (Gx.of g2.tb s3)) ?_
  have s4 : Gr (hide S H2) (hide S H3) := hide_gr (Gr.of s3)
  have nt : ¬ S t := fun z => by
    obtain ⟨xs, e⟩ := A2.lst t z
    rw [s3 _ _ e] at ht
    cases ht
  show Dt M.K (hide S H3) (toldD x) (.ref t)
  exact told_dt hk (Dt.gr s4 h1) (Dt.gr s4 h2) (Dt.gr s4 h3) (by rw [hide_neg nt]; exact ht)
section
variable {X : Cx} {T : List (Addr × Str)} {E : XK}
/-- f(lambda: body), f as _law_fault -/
theorem ev_fault {x a : Str} {g c P : Addr} {k : Nat} {pg : Arguments} {bg : List Stmt} {sg : Scope} {dV kV doc pm cdv ct oc : Value} {an od : Option Addr} {osl : Array (Option Value)} {Ng : List Str}
    {params : Arguments} {body : Expr} {scope : Scope} {f : Env → Wd} {p lpos pos : Pos} (hm : X.mg x = some (.ref g)) (hk : PySem.W.keepIn X.K (.ref g) = true)
    (lk : X.K.lookup g = some ⟨oc, od, .func (PySem.W.fnOf x x pg bg sg dV kV doc pm an cdv ct), osl⟩) (hcg : PySem.W.codeIn X.K cdv x = true) (hb : L2.Binds X.K (PySem.W.fnOf x x pg bg sg dV kV doc pm an cdv ct) [a] []) (Sg : FnScope Ng [a] sg) (hNg : Ng[0]? = some a) (hva : Vis sg a)
    (hG : Makes X Ng x sg g cdv bg a (X.env.qual ++ "<lambda>") (TTF X.K))
    (TB : TabB X.base X.mg c P) (hcode : X.env.code = .ref c) (hmT : (P, X.env.qual ++ "<lambda>") ∈ T) (hu : ∀ p ∈ T, p.1 = P → p.2 = X.env.qual ++ "<lambda>") (hr : RoomG (k + 2) X.A)
    (hg : Gl X x) (L : LamS X.env.scope scope) (hdef : defaultsOf params X.env = ([], []))
    (hbind : ∀ (q : Str) (cl : List (Str × Addr)) (pm cv ctv : Value), bindArgs (PySem.W.kla_fn "<lambda>" q params body scope cl pm cv ctv) ⟨[], []⟩ = pure [])
    (hbody : ∀ (A : Around) (outer : List PySem.Env) (s : Shared) (H : Hp) (E : XK) (f' c' : Addr), RoomG k (A.deeper (lamEnv X scope s.heap.objs.size f' c')) → Ev (lamCx X A outer s H E scope f' c') T E body f)
    (hdb : (x == ("__debug__" : Str)) = false := by decide) (hd : (a == ("__debug__" : Str)) = false := by decide) (hcd : (a == ("__classdict__" : Str)) = false := by decide) :
    Ev X T E (.Call (.Name x p) [.Lambda params body scope lpos] [] pos) (wFault f) :=
  have mono : Mono f := (hbody X.A [] X.s_0 (fun _ => none) E g g ((hr.deeper _).mono (Nat.le_succ k))).mono
  ⟨fun env Q Q' Er Er' hq he q => mono env _ _ _ _ (fun r q => hq _ q) (fun x q => ⟨q.1, hq _ q.2⟩) q,
   weakE (pe_lam (k := k) (t := fun E => tD X.pm T E f) hg hm hk lk hcg hb Sg hNg hva hG TB hcode hmT hu hr L hdef hbind (fun A outer s H E f' c' hr' => (hbody A outer s H E f' c' hr').run) hdb hd hcd) fun σ H Q q => fault_D mono q⟩
end
end PD
/-! the data layer: loops, targets, calls of values, built-ins -/
namespace PD
open PySem PySem.Spec PyProof.Rows L2 Fp LamX

/-! ### a call of a value -/
section
variable {X : Cx} {T : List (Addr × Str)} {E : XK} {k i : Nat} {ps : List Str} {f : Df1} {fs : List Str} {x : Str} {p pos : Pos} {e : Expr} {es : List Expr} {fa : Env → Wl}
theorem pe_callVH {sp : Sp} {t : TA} (h : ∀ g ∈ fs, PrG X.prog X.w X.K X.mg X.base g k ps sp) (hr : RoomG k X.A) (hx : ∀ σ, PassesAt (L2.CX X.prog X.w) X σ E) (ha : PA X (e :: es) t) (hN : X.N[i]? = some x) (hv : Vis X.env.scope x)
    (hdb : (x == ("__debug__" : Str)) = false) (hcd : (x == ("__classdict__" : Str)) = false) (he : starEach (e :: es) X.env = (false, eval e X.env) :: starEach es X.env) (hpl : (backTo pos (starEach es X.env)).any (·.1) = false) :
    PE X (.Call (.Name x p) (e :: es) [] pos) (fun σ H Q => (∃ g a, g ∈ fs ∧ σ[i]? = some (some (.ref a)) ∧ X.mg g = some (.ref a)) ∧ tCallH sp E t σ H Q) := by
  refine ⟨fun pins s σ H Q I q => ?_⟩
  obtain ⟨⟨g, a, hg, hs, hm2⟩, q⟩ := q
  obtain ⟨a', fd, hm, hk, hb, F⟩ := (h g hg).ex
  have ea : a' = a := by
    have e := hm.symm.trans hm2
    injection e with e
    injection e
  subst ea
  refine wpAny_Call_Name_kw (thn ((pe_var (pos := p) hN hv hdb hcd).run pins s σ H (fun v H1 => v = .ref a' ∧ H1 = H) I ⟨.ref a', hs, rfl, rfl⟩) fun u s1 ⟨v, H1, I1, r1, ev, eH⟩ => ?_)
  subst ev
  subst eH
  obtain rfl : u = Value.ref a' := r1
  refine PySem.W.callWith_K (h₀ := X.base) I.ok.mod.kin hk (thn (ha.run pos pins s1 σ H1 _ I1 q) fun us s1 ⟨vs, H1, I1, r, S, hl, q⟩ => ⟨I1.kIn, ?_⟩) he hpl
  exact run_hide F hr hb (hx σ) hl I1 r q
/-- the value in slot i is one of the defs fs, all of which keep the promise f -/
def eCallV (i : Nat) (fs : List Str) (f : Df1) (fa : Env → Wl) : Env → Wd := fun env Q Er => (∃ g, env[i]? = some (some (.fn g)) ∧ g ∈ fs) ∧ fa env (fun rs => allPlain rs ∧ f rs Q Er) Er
theorem ev_callV (hf : ∀ g ∈ fs, Pd X.pm X.base T g k ps f) (hne : fs ≠ []) (hr : RoomG k X.A) (hx : ∀ σ, PassesAt (L2.CX X.prog X.w) X σ E) (ha : Av X T E (e :: es) fa) (hN : X.N[i]? = some x := by rfl) (hv : Vis X.env.scope x := by first | exact Or.inl rfl | exact Or.inr (Or.inl rfl) | exact Or.inr (Or.inr rfl))
    (hdb : (x == ("__debug__" : Str)) = false := by decide) (hcd : (x == ("__classdict__" : Str)) = false := by decide) (he : starEach (e :: es) X.env = (false, eval e X.env) :: starEach es X.env := by rfl) (hpl : (backTo pos (starEach es X.env)).any (·.1) = false := by rfl) :
    Ev X T E (.Call (.Name x p) (e :: es) [] pos) (eCallV i fs f fa) := by
  obtain ⟨g0, hg0⟩ := List.exists_mem_of_ne_nil fs hne
  refine ⟨fun env Q Q' Er Er' hq he q => ⟨q.1, ha.mono env _ _ _ _ (fun rs q => ⟨q.1, (hf _ hg0).mono rs _ _ _ _ hq he q.2⟩) he q.2⟩, weakE (pe_callVH (fun g hg => (hf g hg).pr) hr hx ha.run hN hv hdb hcd he hpl) fun σ H Q q => ?_⟩
  obtain ⟨o, S, env, A, t, ⟨g, eg, hg⟩, q⟩ := q
  obtain ⟨v, hv1, a, rfl, hv2⟩ := A.at_ _ _ eg
  exact ⟨⟨g, a, hg, hv1, hv2⟩, call_D (hf _ hg0).mono ha.mono ⟨o, S, env, A, t, q⟩⟩
end

/-! ### what a loop walks over -/
section
variable {X : Cx}
def iAny (K : PySem.W.Frag) (tl : TE) : TI := fun σ H R => tl σ H fun x H1 => (∃ a, x = .ref a ∧ (∃ xs, SqL K H1 a xs) ∧ R (Itl K a) H1) ∨ (∃ a, x = .ref a ∧ (∃ xs, SqT K H1 a xs) ∧ R (Itt K a) H1) ∨ ∃ z, x = .str z ∧ R (Its z) H1
theorem pi_any {tg l : Expr} {tl : TE} (hl : PE X l tl) : PI X tg l (iAny X.K tl) := by
  refine ⟨fun pins s σ H R I h => ?_⟩
  refine thn (hl.run pins s σ H _ I h) fun v s1 ⟨x, H1, I1, r1, q1⟩ => ?_
  rcases q1 with ⟨a, e, ⟨xs, hq⟩, q⟩ | ⟨a, e, ⟨xs, hq⟩, q⟩ | ⟨z, ez, q⟩
  · subst e
    cases r1
    obtain ⟨its, rv, p, hz⟩ := I1.list hq
    refine wpAny_pyIter_list p.isList ?_
    refine ⟨s1.heap.objs.size, [s1.heap.objs.size], _, _, H1, rfl, I1.kept (t' := s1.toks) fun b o e => Heap.get?_push_of_some _ e, turn_list a _, ⟨_, Heap.get?_push_size _ rfl, rfl, rfl⟩, fun b hb => ?_, q⟩
    have e : b = s1.heap.objs.size := by simpa using hb
    subst e
    exact I1.fpOk (Nat.le_refl _) (I1.hok.fresh (Nat.le_refl _))
  · subst e
    cases r1
    obtain ⟨its, rv, p, hz⟩ := I1.tuple hq
    refine wpAny_pyIter_tuple (show s1.heap.IsTuple a its.toArray from p) ?_
    refine ⟨s1.heap.objs.size, [s1.heap.objs.size], _, _, H1, rfl, I1.kept (t' := s1.toks) fun b o e => Heap.get?_push_of_some _ e, turn_tuple a _, ⟨_, Heap.get?_push_size _ rfl, rfl, rfl⟩, fun b hb => ?_, q⟩
    have e : b = s1.heap.objs.size := by simpa using hb
    subst e
    exact I1.fpOk (Nat.le_refl _) (I1.hok.fresh (Nat.le_refl _))
  · subst ez
    obtain ⟨t, rfl⟩ := r1
    cases ha : z.cps.all (· < 128)
    · exact wpAny_pyIter_wide ha (pi_one (tk := s1.toks) I1 _ (turn_str _ z t "str_iterator" (.inr rfl)) ⟨_, Heap.get?_push_size _ rfl, rfl, rfl⟩ q)
    · exact wpAny_pyIter_ascii ha (pi_one (tk := s1.toks) I1 _ (turn_str _ z t "str_ascii_iterator" (.inl rfl)) ⟨_, Heap.get?_push_size _ rfl, rfl, rfl⟩ q)
theorem weakI {tg e : Expr} {t u : TI} (h : PI X tg e t) (w : ∀ σ H R, u σ H R → t σ H R) : PI X tg e u := ⟨fun pins s σ H R I q => h.run pins s σ H R I (w _ _ _ q)⟩
end
/-- the walk gives the items, whatever grew since H1 -/
def WalkD (M : Pm) (S : Addr → Prop) (H1 : Hp) (J : It) (items : List En) : Prop := ∃ (G : Hp → Prop) (Y : Nat → Hp → V → Hp → Prop), Walk J items.length G Y ∧
  ∀ (o : Nat → Option Addr) (S' : Addr → Prop) (env : Env) (σ : L2.St) (H : Hp), Ag M o S' env σ H → Gr (hide S H1) (hide S' H) → G H ∧ ∀ i r v H', items[i]? = some r → Y i H v H' → Same H H' ∧ R M o S' H' r v
def tIt (M : Pm) (T : List (Addr × Str)) (E : XK) (f : Env → Wl) : TI := fun σ H R => ∃ o S env, Ag M o S env σ H ∧ Tabs T H ∧ f env (fun items => ∀ J H1, Gx T H H1 → WalkD M S H1 J items → R J H1) (erK M T E S H)
structure Iv (X : Cx) (T : List (Addr × Str)) (E : XK) (tg e : Expr) (f : Env → Wl) : Prop where
  mono : Mono f
  run : PI X tg e (tIt X.pm T E f)
/-- the items of a value -/
def itemsE (r : En) (Q : List En → Prop) : Prop := match r with
  | .d (.list ds) => Q (ds.map .d)
  | .new ds => Q (ds.map .d)
  | .d (.tuple ds) => Q (ds.map .d)
  | .d (.str z) => Q (z.cps.toList.map fun c => .d (.str ⟨#[c]⟩))
  | .fns fs => Q (fs.map .fn)
  | _ => False
theorem itemsE_mono {r : En} {Q Q' : List En → Prop} (h : ∀ e, Q e → Q' e) (q : itemsE r Q) : itemsE r Q' := by
  unfold itemsE at q ⊢
  split at q <;> first | exact h _ q | exact q
theorem sqL_hide {K : PySem.W.Frag} {S S' : Addr → Prop} {H1 H : Hp} {a : Addr} {xs : List V} (g : Gr (hide S H1) (hide S' H)) (h : SqL K (hide S H1) a xs) : SqL K H a xs := sql_mono hide_sub (sql_gr g h)
theorem sqT_hide {K : PySem.W.Frag} {S S' : Addr → Prop} {H1 H : Hp} {a : Addr} {xs : List V} (g : Gr (hide S H1) (hide S' H)) (h : SqT K (hide S H1) a xs) : SqT K H a xs := sqt_mono hide_sub (sqt_gr g h)
theorem walk_d {M : Pm} {S : Addr → Prop} {H1 : Hp} {J : It} {ds : List PyData} {xs : List V} {G : Hp → Prop} (w : Walk J xs.length G (YAt xs)) (hG : ∀ (S' : Addr → Prop) H, Gr (hide S H1) (hide S' H) → G H) (hd : DtAll M.K (hide S H1) ds xs) : WalkD M S H1 J (ds.map .d) := by
  have hl := dtAll_len hd
  refine ⟨G, YAt xs, by rw [List.length_map, hl]; exact w, fun o S' env σ H A g => ⟨hG S' H g, fun i r v H' hi hy => ?_⟩⟩
  obtain ⟨rfl, hv⟩ := hy
  refine ⟨Same.refl _, ?_⟩
  rw [List.getElem?_map] at hi
  cases q : ds[i]? with
  | none => rw [q] at hi; cases hi
  | some d =>
    rw [q] at hi
    cases hi
    obtain ⟨v', h1, h2⟩ := dtAll_getD hd q
    rw [hv] at h1
    cases h1
    exact Dt.gr g h2
section
variable {X : Cx} {T : List (Addr × Str)} {E : XK} {tg e : Expr}
def iSeqE (fe : Env → Wd) : Env → Wl := fun env Q Er => fe env (fun r => itemsE r Q) Er
theorem iv_seq {fe : Env → Wd} (he : Ev X T E e fe) : Iv X T E tg e (iSeqE fe) :=
  ⟨fun env Q Q' Er Er' h hr q => he.mono env _ _ _ _ (fun r => itemsE_mono h) hr q, weakI (pi_any he.run) fun σ H Rr ⟨o, S, env, A, t, q⟩ =>
    ⟨o, S, env, A, t, he.mono env _ _ _ _ (fun r q v H1 g1 r1 => by
      have f1 := A.flat r1
      cases r with
      | d x => cases x with
        | list ds =>
          obtain ⟨a, xs, rfl, h1, h2⟩ := R.lst (M := X.pm) (o := o) (S := S) r1
          exact .inl ⟨a, rfl, ⟨xs, sql_hide h1⟩, q _ _ g1 (walk_d walk_list (fun S' H g => sqL_hide g h1) h2)⟩
        | tuple ds =>
          obtain ⟨a, xs, rfl, h1, h2⟩ := R.tup (M := X.pm) (o := o) (S := S) r1
          exact .inr (.inl ⟨a, rfl, ⟨xs, sqt_hide h1⟩, q _ _ g1 (walk_d walk_tup (fun S' H g => sqT_hide g h1) h2)⟩)
        | str z =>
          obtain rfl := R.str (M := X.pm) (o := o) (S := S) (H := H1) r1
          refine .inr (.inr ⟨z, rfl, q _ _ g1 ⟨_, _, by rw [List.length_map, Array.length_toList]; exact walk_str, fun o' S' env' σ' H' A' g => ⟨trivial, fun i r v H2 hi hy => ?_⟩⟩⟩)
          obtain ⟨rfl, c, hc, rfl⟩ := hy
          refine ⟨Same.refl _, ?_⟩
          rw [List.getElem?_map, Array.getElem?_toList, hc] at hi
          cases hi
          exact dt_str (K := X.pm.K) (H := hide S' H2)
        | _ => exact q.elim
      | new ds =>
        obtain ⟨a, xs, rfl, h1, h2⟩ := R.lst (M := X.pm) (o := o) (S := S) f1
        exact .inl ⟨a, rfl, ⟨xs, sql_hide h1⟩, q _ _ g1 (walk_d walk_list (fun S' H g => sqL_hide g h1) h2)⟩
      | fns fs =>
        obtain ⟨a, xs, rfl, h1, h2⟩ := f1
        have hl := paired_len h2
        refine .inr (.inl ⟨a, rfl, ⟨xs, sqt_hide h1⟩, q _ _ g1 ⟨_, _, by rw [List.length_map, hl]; exact walk_tup, fun o' S' env' σ' H' A' g => ⟨sqT_hide g h1, fun i r v H2 hi hy => ?_⟩⟩⟩)
        obtain ⟨rfl, hc⟩ := hy
        refine ⟨Same.refl _, ?_⟩
        rw [List.getElem?_map] at hi
        cases q : fs[i]? with
        | none => rw [q] at hi; cases hi
        | some x =>
          rw [q] at hi
          cases hi
          obtain ⟨v', e1, e2⟩ := paired_get h2 q
          rw [hc] at e1
          cases e1
          exact e2
      | _ => exact q.elim) (fun _ z => z) q⟩⟩
/-- ints from lo on -/
def rngE (lo : Int) (n : Nat) : List En := (List.range n).map fun (i : Nat) => .d (.int (lo + (i : Int)))
theorem walk_rng {M : Pm} {S : Addr → Prop} {H1 : Hp} {lo : Int} {n : Nat} : WalkD M S H1 (Itr lo n) (rngE lo n) := by
  refine ⟨_, _, by rw [rngE, List.length_map, List.length_range]; exact walk_range, fun o' S' env' σ' H' A' g => ⟨trivial, fun i r v H2 hi hy => ?_⟩⟩
  obtain ⟨rfl, rfl⟩ := hy
  refine ⟨Same.refl _, ?_⟩
  rw [rngE, List.getElem?_map] at hi
  by_cases z : i < n
  · rw [List.getElem?_range z] at hi
    cases hi
    exact dt_int (K := M.K) (H := hide S' H2)
  · rw [List.getElem?_eq_none (by simpa using z)] at hi
    cases hi
def rng1 (rs : List En) (Q : List En → Prop) : Prop := match rs with
  | [.d (.int j)] => (-(2 ^ 62) ≤ j ∧ j < 2 ^ 62) ∧ Q (rngE 0 j.toNat)
  | _ => False
def rng2 (rs : List En) (Q : List En → Prop) : Prop := match rs with
  | [.d (.int i), .d (.int j)] => (-(2 ^ 62) ≤ i ∧ i < 2 ^ 62 ∧ -(2 ^ 62) ≤ j ∧ j < 2 ^ 62) ∧ Q (rngE i (j - i).toNat)
  | _ => False
theorem vals_ints1 {M : Pm} {o : Nat → Option Addr} {S : Addr → Prop} {H : Hp} {i : Int} {vs : List V} (h : Paired (R M o S H) [.d (.int i)] vs) : vs = [.int i] := by
  match vs, h with
  | [_], .cons h1 .nil => rw [R.int h1]
theorem vals_ints2 {M : Pm} {o : Nat → Option Addr} {S : Addr → Prop} {H : Hp} {i j : Int} {vs : List V} (h : Paired (R M o S H) [.d (.int i), .d (.int j)] vs) : vs = [.int i, .int j] := by
  match vs, h with
  | [_, _], .cons h1 (.cons h2 .nil) => rw [R.int h1, R.int h2]
theorem iv_range1 {a : Expr} {fa : Env → Wl} {p pos : Pos} (hg : Gl X "range") (hm : X.mg "range" = none) (ha : Av X T E [a] fa) (hs : starEach [a] X.env = [(false, eval a X.env)] := by rfl) :
    Iv X T E tg (.Call (.Name "range" p) [a] [] pos) (fun env Q Er => fa env (fun rs => rng1 rs Q) Er) :=
  ⟨fun env Q Q' Er Er' h hr q => ha.mono env _ _ _ _ (fun rs q => by
      unfold rng1 at q ⊢
      split at q
      · exact ⟨q.1, h _ q.2⟩
      · exact q) hr q, weakI (pi_range1 hg hm ha.run hs) fun σ H R ⟨o, S, env, A, t, q⟩ => ⟨o, S, env, A, t, ha.mono env _ _ _ _ (fun rs q vs H1 g1 r1 => by
      unfold rng1 at q
      split at q
      · obtain rfl := vals_ints1 r1
        exact ⟨_, rfl, q.1.1, q.1.2, q.2 _ _ g1 walk_rng⟩
      · exact q.elim) (fun _ z => z) q⟩⟩
theorem iv_range2 {a b : Expr} {fa : Env → Wl} {p pos : Pos} (hg : Gl X "range") (hm : X.mg "range" = none) (ha : Av X T E [a, b] fa) (hs : starEach [a, b] X.env = [(false, eval a X.env), (false, eval b X.env)] := by rfl) (hs2 : starEach [b] X.env = [(false, eval b X.env)] := by rfl) :
    Iv X T E tg (.Call (.Name "range" p) [a, b] [] pos) (fun env Q Er => fa env (fun rs => rng2 rs Q) Er) :=
  ⟨fun env Q Q' Er Er' h hr q => ha.mono env _ _ _ _ (fun rs q => by
      unfold rng2 at q ⊢
      split at q
      · exact ⟨q.1, h _ q.2⟩
      · exact q) hr q, weakI (pi_range2 hg hm ha.run hs hs2) fun σ H R ⟨o, S, env, A, t, q⟩ => ⟨o, S, env, A, t, ha.mono env _ _ _ _ (fun rs q vs H1 g1 r1 => by
      unfold rng2 at q
      split at q
      · obtain rfl := vals_ints2 r1
        exact ⟨_, _, rfl, q.1, q.2 _ _ g1 walk_rng⟩
      · exact q.elim) (fun _ z => z) q⟩⟩
end

/-! ### targets -/
abbrev WG := En → Env → (Env → Prop) → Prop
def tDG (M : Pm) (b : WG) : TG := fun v σ H Q => ∃ o S env r, Ag M o S env σ H ∧ R M o S H r v ∧ b r env (fun env' => ∀ o' σ', Ag M o' S env' σ' H → Q σ' H)
structure Gv (X : Cx) (tg : Expr) (b : WG) : Prop where
  mono : ∀ r env (Q Q' : Env → Prop), (∀ e, Q e → Q' e) → b r env Q → b r env Q'
  run : PG X tg (tDG X.pm b)
theorem weakG {X : Cx} {tg : Expr} {t u : TG} (h : PG X tg t) (w : ∀ v σ H Q, u v σ H Q → t v σ H Q) : PG X tg u := ⟨fun pins s σ H v x Q I r q => h.run pins s σ H v x Q I r (w _ _ _ _ q)⟩
section
variable {X : Cx} {T : List (Addr × Str)} {E : XK}
def gN (i : Nat) : WG := fun r env Q => notOwn r ∧ Q (env.set i (some r))
theorem gv_name {i : Nat} {x : Str} {pos : Pos} (hN : X.N.Nodup) (hi : X.N[i]? = some x) (hx : Loc X.env.scope x) (hf : X.fn x = true ∨ X.env.scope.names.lookup x = some .local := by first | exact .inl rfl | exact .inr rfl | assumption) : Gv X (.Name x pos) (gN i) :=
  ⟨fun r env Q Q' h q => ⟨q.1, h _ q.2⟩, weakG (pg_name hN hi hx hf) fun v σ H Q ⟨o, S, env, r, A, h, q⟩ => q.2 _ _ (A.put (fun _ _ z _ => z) h q.1.ne)⟩
def bAll : List WG → List PyData → Env → (Env → Prop) → Prop
  | [], [], env, Q => Q env
  | b :: bs, d :: ds, env, Q => b (.d d) env fun env' => bAll bs ds env' Q
  | _, _, _, _ => False
def gT (bs : List WG) : WG := fun r env Q => match r with
  | .d (.tuple ds) => ds.length = bs.length ∧ bAll bs ds env Q
  | _ => False
def tDGs (M : Pm) (bs : List WG) : TGs := fun vs σ H Q => ∃ o S env ds, Ag M o S env σ H ∧ DtAll M.K (hide S H) ds vs ∧ bAll bs ds env (fun env' => ∀ o' σ', Ag M o' S env' σ' H → Q σ' H)
structure Gvs (X : Cx) (ts : List Expr) (bs : List WG) : Prop where
  mono : ∀ ds env (Q Q' : Env → Prop), (∀ e, Q e → Q' e) → bAll bs ds env Q → bAll bs ds env Q'
  run : PGs X ts (tDGs X.pm bs)
  len : ts.length = bs.length
theorem weakGs {X : Cx} {ts : List Expr} {t u : TGs} (h : PGs X ts t) (w : ∀ v σ H Q, u v σ H Q → t v σ H Q) : PGs X ts u := ⟨fun pins s σ H v x Q I r q => h.run pins s σ H v x Q I r (w _ _ _ _ q)⟩
theorem gvs_nil : Gvs X [] [] := ⟨fun ds env Q Q' h q => by
    cases ds with
    | nil => exact h _ q
    | cons _ _ => exact q, weakGs pgs_nil fun vs σ H Q ⟨o, S, env, ds, A, h, q⟩ => by
    cases ds with
    | nil =>
      unfold DtAll at h
      subst h
      exact ⟨rfl, q _ _ A⟩
    | cons _ _ => exact q.elim, rfl⟩
theorem gvs_cons {e : Expr} {es : List Expr} {b : WG} {bs : List WG} (h1 : Gv X e b) (h2 : Gvs X es bs) (hs : (assignEach (e :: es) X.env).map (·.2) = assign e X.env :: (assignEach es X.env).map (·.2) := by rfl) : Gvs X (e :: es) (b :: bs) :=
  ⟨fun ds env Q Q' h q => by
    cases ds with
    | nil => exact q
    | cons d ds => exact h1.mono _ _ _ _ (fun e' => h2.mono _ _ _ _ h) q, weakGs (pgs_cons h1.run h2.run hs) fun vs σ H Q ⟨o, S, env, ds, A, h, q⟩ => by
    cases ds with
    | nil => exact q.elim
    | cons d ds =>
      unfold DtAll at h
      obtain ⟨x, r, rfl, hx, hr⟩ := h
      exact ⟨x, r, rfl, o, S, env, .d d, A, hx, h1.mono _ _ _ _ (fun env' q o' σ' A' => ⟨o', S, env', ds, A', hr, q⟩) q⟩, by simp [h2.len]⟩
theorem gv_tup {es : List Expr} {k : Nat} {bs : List WG} {pos : Pos} (hc : X.calm = true) (h : Gvs X es bs) (hn : (assignEach es X.env).length = bs.length := by rfl) (hst : (assignEach es X.env).findIdx? (·.1) = none := by rfl) : Gv X (.Tuple es k pos) (gT bs) :=
  ⟨fun r env Q Q' hq q => by
    unfold gT at q ⊢
    split at q
    · exact ⟨q.1, h.mono _ _ _ _ hq q.2⟩
    · exact q, weakG (pg_tup hc h.run hn hst) fun v σ H Q ⟨o, S, env, r, A, hR, q⟩ => by
    unfold gT at q
    split at q
    · obtain ⟨a, xs, rfl, h1, h2⟩ := R.tup hR
      exact ⟨a, xs, rfl, sqt_hide h1, by rw [← dtAll_len h2]; exact q.1, o, S, env, _, A, h2, q.2⟩
    · exact q.elim⟩
/-- target = e, the target no plain name -/
def wAsg (fe : Env → Wd) (b : WG) : Ws := fun env k => fe env (fun r => b r.flat env k.nx) k.er
theorem s_asg {tg e : Expr} {fe : Env → Wd} {b : WG} {pos : Pos} (he : Ev X T E e fe) (hg : Gv X tg b) (hs : swapsWithSole [tg] e pos.line X.env = pure false := by rfl) (hw : swappedStores [tg] e X.env = pure none := by rfl)
    (h1 : (assignEach [tg] X.env).map (·.2) = [assign tg X.env] := by rfl) : S1 X T E (.Assign [tg] e pos) (wAsg fe b) :=
  ⟨fun env k k' l q => he.mono env _ _ _ _ (fun r => hg.mono _ _ _ _ l.nx) l.er q, weakS (ps_asg he.run hg.run hs hw h1) fun D σ H ⟨H0, o, S, env, k, A, f, g, d, q⟩ =>
    ⟨o, S, env, A, g.tb, he.mono env _ _ _ _ (fun r q v H' g' h => ⟨o, S, env, r.flat, A.gr g'.gr, A.flat h, hg.mono _ _ _ _ (fun env' q o' σ' A' => d.nx _ _ _ _ _ A' f (g.trans g') q) q⟩) (d.erK g) q⟩⟩

/-! ### for -/
def forL (b : WG) (gb : Ws) : List En → Ws
  | [] => fun env k => k.nx env
  | r :: rs => fun env k => b r env (fun env' => gb env' { k with nx := fun e => forL b gb rs e k, ct := fun e => forL b gb rs e k, bk := k.nx })
theorem forL_mono {b : WG} {gb : Ws} (hb : ∀ r env (Q Q' : Env → Prop), (∀ e, Q e → Q' e) → b r env Q → b r env Q') (hg : MonoS gb) : ∀ rs, MonoS (forL b gb rs)
  | [] => fun _ _ _ l q => l.nx _ q
  | r :: rs => fun env k k' l q => hb _ _ _ _ (fun e q => hg e { k with nx := fun e => forL b gb rs e k, ct := fun e => forL b gb rs e k, bk := k.nx } { k' with nx := fun e => forL b gb rs e k', ct := fun e => forL b gb rs e k', bk := k'.nx } ⟨fun e => forL_mono hb hg rs e k k' l, l.rt, l.nx, fun e => forL_mono hb hg rs e k k' l, l.er⟩ q) q
def wFor (fi : Env → Wl) (b : WG) (gb : Ws) : Ws := fun env k => fi env (fun rs => forL b gb rs env k) k.er
theorem rebase {T : List (Addr × Str)} {S S' : Addr → Prop} {H0 H1 H' : Hp} (f : Fr S H0) (g : Gx T H0 H1) (f' : Fr S' (hide S H1)) (g' : Gx T (hide S H1) H') : Fr S' H0 ∧ Gx T H0 H' := by
  refine ⟨fun a s => ?_, fun a u h n => ?_, g'.tb⟩
  · by_cases z : S a
    · exact f a z
    · refine NoT.back g.gr fun u h => f' a s u (by rw [hide_neg z]; exact h)
  · have z : ¬ S a := fun z => by
      obtain ⟨ps, e⟩ := f a z u h
      exact n ps e
    exact g'.gr a u (by rw [hide_neg z]; exact g.gr a u h n) n
theorem grS {T : List (Addr × Str)} {S S' : Addr → Prop} {H1 H' : Hp} (f' : Fr S' (hide S H1)) (g' : Gx T (hide S H1) H') : Gr (hide S H1) (hide S' H') := fun a u h n => by
  have z : ¬ S' a := fun z => by
    obtain ⟨ps, e⟩ := f' a z u h
    exact n ps e
  rw [hide_neg z]
  exact g'.gr a u h n
theorem s_for {tg iter : Expr} {body : List Stmt} {fi : Env → Wl} {b : WG} {gb : Ws} {pos : Pos} (hp : PassesOwn (model X.prog X.w) X.A X.env X.xe) (hc : X.calm = true) (hi : Iv X T E tg iter fi) (hg : Gv X tg b) (hb : Sv X T E body gb)
    (hs : ∀ x, foldedSetIterable iter X.env x = pure x := by intro _; rfl) : S1 X T E (.For tg iter body [] pos) (wFor fi b gb) :=
  ⟨fun env k k' l q => hi.mono env _ _ _ _ (fun rs => forL_mono hg.mono hb.mono rs env k k' l) l.er q, weakS (ps_for hp hc hi.run hg.run hb.run hs) fun D σ H ⟨H0, o, S, env, k, A, f, g, d, q⟩ => by
    refine ⟨o, S, env, A, g.tb, hi.mono env _ _ _ _ (fun rs q J H1 g1 w => ?_) (d.erK g) q⟩
    obtain ⟨G, Y, wk, wd⟩ := w
    have t1 := g1.tb
    have g01 := g.trans g1
    refine for_it wk (fun i σ' H' => ∃ o' S' env', Ag X.pm o' S' env' σ' H' ∧ Fr S' (hide S H1) ∧ Gx T (hide S H1) H' ∧ forL b gb (rs.drop i) env' k) ⟨o, S, env, A.gr g1.gr, fun a s u h => absurd s (hide_some h).1, ⟨Gr.of hide_sub, t1⟩, q⟩
      (fun i σ' H' _ ⟨o', S', env', A', f', g', _⟩ => (wd o' S' env' σ' H' A' (grS f' g')).1) (fun i x σ' H' H2 hi ⟨o', S', env', A', f', g', q'⟩ hy => ?_) (fun σ' H' ⟨o', S', env', A', f', g', q'⟩ => ?_)
    · rw [List.drop_eq_getElem_cons hi] at q'
      obtain ⟨sm, hR⟩ := (wd o' S' env' σ' H' A' (grS f' g')).2 i rs[i] x H2 (List.getElem?_eq_getElem hi) hy
      have g2 : Gx T (hide S H1) H2 := g'.trans (Gx.of g'.tb sm)
      refine ⟨o', S', env', rs[i], A'.gr (Gr.of sm), hR, hg.mono _ _ _ _ (fun env2 q2 o2 σ2 A2 => ?_) q'⟩
      exact ⟨hide S H1, o2, S', env2, { k with nx := fun e => forL b gb (rs.drop (i + 1)) e k, ct := fun e => forL b gb (rs.drop (i + 1)) e k, bk := k.nx }, A2, f', g2,
        ⟨fun o S env σ H A f g q => ⟨o, S, env, A, f, g, q⟩, fun o3 S3 env3 σ3 H3 A3 f3 g3 q3 => d.nx _ _ _ _ _ A3 (rebase f g01 f3 g3).1 (rebase f g01 f3 g3).2 q3, fun o S env σ H A f g q => ⟨o, S, env, A, f, g, q⟩,
          fun r v H3 g3 => d.rt r v H3 (rebase f g01 f' g3).2, fun x dd H3 g3 => d.er x dd H3 (rebase f g01 f' g3).2⟩, q2⟩
    · rw [List.drop_length] at q'
      exact d.nx _ _ _ _ _ A' (rebase f g01 f' g').1 (rebase f g01 f' g').2 q'⟩
end
end PD
/-! the data layer: built-ins, the pen, promises told otherwise -/
namespace PD
open PySem PySem.Spec PyProof.Rows L2 Fp LamX

/-! ### built-ins -/
abbrev WL := List En → (En → Prop) → Prop
structure OpL (M : Pm) (r : List V → Hp → VK → Prop) (w : WL) : Prop where
  mono : ∀ rs (Q Q' : En → Prop), (∀ r, Q r → Q' r) → w rs Q → w rs Q'
  run : ∀ (T : List (Addr × Str)) o S env σ H rs vs (Q : VK), Ag M o S env σ H → Tabs T H → Paired (R M o S H) rs vs → w rs (fun z => ∀ v' H', Gx T H H' → R' M o S H H' z v' → Q v' H') → r vs H Q
def eB (w : WL) (fa : Env → Wl) : Env → Wd := fun env Q Er => fa env (fun rs => w rs Q) Er
section
variable {X : Cx} {T : List (Addr × Str)} {E : XK} {x : Str} {p pos : Pos} {e : Expr} {es : List Expr} {fa : Env → Wl} {id Ty : String} {r : List V → Hp → VK → Prop} {w : WL}
theorem eB_D (O : OpL X.pm r w) (ha : Mono fa) {σ : L2.St} {H : Hp} {Q : VK} (h : tD X.pm T E (eB w fa) σ H Q) : tCB r (tDA X.pm T E fa) σ H Q := by
  obtain ⟨o, S, env, A, t, q⟩ := h
  exact ⟨o, S, env, A, t, ha env _ _ _ _ (fun rs q vs H1 g1 r1 => O.run T o S env σ H1 rs vs Q (A.gr g1.gr) g1.tb r1 (O.mono _ _ _ (fun z q v' H' g3 r3 => q v' H' (g1.trans g3) (r3.back g1.gr)) q)) (fun _ z => z) q⟩
theorem eB_mono (O : OpL X.pm r w) (ha : Mono fa) : Mono (eB w fa) := fun env Q Q' Er Er' h he q => ha env _ _ _ _ (fun rs => O.mono _ _ _ h) he q
theorem ev_callB (hc : CallR X (.builtin id) r) (O : OpL X.pm r w) (hg : Gl X x) (hm : X.mg x = none) (hv : bootBuiltins x = some (.builtin id)) (ha : Av X T E (e :: es) fa) (hn : x ≠ "__name__" := by decide) (hdb : (x == ("__debug__" : Str)) = false := by decide)
    (he : starEach (e :: es) X.env = (false, eval e X.env) :: starEach es X.env := by rfl) (hpl : (backTo pos (starEach es X.env)).any (·.1) = false := by rfl) : Ev X T E (.Call (.Name x p) (e :: es) [] pos) (eB w fa) :=
  ⟨eB_mono O ha.mono, weakE (pe_callB hc hg hm hv ha.run hn hdb he hpl) fun σ H Q q => eB_D O ha.mono q⟩
theorem ev_callTy (hc : CallR X (.type Ty) r) (O : OpL X.pm r w) (hg : Gl X x) (hm : X.mg x = none) (hv : bootBuiltins x = some (.type Ty)) (ha : Av X T E (e :: es) fa) (hn : x ≠ "__name__" := by decide) (hdb : (x == ("__debug__" : Str)) = false := by decide)
    (he : starEach (e :: es) X.env = (false, eval e X.env) :: starEach es X.env := by rfl) (hpl : (backTo pos (starEach es X.env)).any (·.1) = false := by rfl) : Ev X T E (.Call (.Name x p) (e :: es) [] pos) (eB w fa) :=
  ⟨eB_mono O ha.mono, weakE (pe_callTy hc hg hm hv ha.run hn hdb he hpl) fun σ H Q q => eB_D O ha.mono q⟩
end
theorem one_of {M : Pm} {o : Nat → Option Addr} {S : Addr → Prop} {H : Hp} {r : En} {vs : List V} (h : Paired (R M o S H) [r] vs) : ∃ v, vs = [v] ∧ R M o S H r v := by
  match vs, h with
  | [v], .cons h1 .nil => exact ⟨v, rfl, h1⟩
theorem two_of {M : Pm} {o : Nat → Option Addr} {S : Addr → Prop} {H : Hp} {r q : En} {vs : List V} (h : Paired (R M o S H) [r, q] vs) : ∃ v u, vs = [v, u] ∧ R M o S H r v ∧ R M o S H q u := by
  match vs, h with
  | [v, u], .cons h1 (.cons h2 .nil) => exact ⟨v, u, rfl, h1, h2⟩
theorem three_of {M : Pm} {o : Nat → Option Addr} {S : Addr → Prop} {H : Hp} {r q t : En} {vs : List V} (h : Paired (R M o S H) [r, q, t] vs) : ∃ v u x, vs = [v, u, x] ∧ R M o S H r v ∧ R M o S H q u ∧ R M o S H t x := by
  match vs, h with
  | [v, u, x], .cons h1 (.cons h2 (.cons h3 .nil)) => exact ⟨v, u, x, rfl, h1, h2, h3⟩
def bLen : WL := fun rs Q => match rs with
  | [.d (.list ds)] => Q (.d (.int (ds.length : Nat)))
  | [.d (.tuple ds)] => Q (.d (.int (ds.length : Nat)))
  | [.own _ ds] => Q (.d (.int (ds.length : Nat)))
  | [.d (.str z)] => z.length ≤ sizeLine ∧ Q (.d (.int (z.length : Nat)))
  | _ => False
theorem b_len {M : Pm} : OpL M (fun xs H Q => ∃ x n, xs = [x] ∧ LenV M.K x H n ∧ Q (.int n) H) bLen :=
  ⟨fun rs Q Q' h q => by
    unfold bLen at q ⊢
    split at q <;> first | exact h _ q | exact ⟨q.1, h _ q.2⟩ | exact q, fun T o S env σ H rs vs Q A t hp q => by
    unfold bLen at q
    split at q
    · obtain ⟨v, rfl, hv⟩ := one_of hp
      obtain ⟨a, xs, rfl, h1, h2⟩ := R.lst hv
      exact ⟨_, _, rfl, .inl ⟨xs, sql_hide h1, (dtAll_len h2)⟩, q _ H (Gx.refl t) mInt⟩
    · obtain ⟨v, rfl, hv⟩ := one_of hp
      obtain ⟨a, xs, rfl, h1, h2⟩ := R.tup hv
      exact ⟨_, _, rfl, .inr ⟨xs, sqt_hide h1, (dtAll_len h2)⟩, q _ H (Gx.refl t) mInt⟩
    · obtain ⟨v, rfl, a, xs, rfl, _, h1, h2⟩ := one_of hp
      exact ⟨_, _, rfl, .inl ⟨xs, .inl (.inl h1), (dtAll_len h2)⟩, q _ H (Gx.refl t) mInt⟩
    · obtain ⟨v, rfl, hv⟩ := one_of hp
      obtain rfl := R.str hv
      exact ⟨_, _, rfl, ⟨q.1, rfl⟩, q.2 _ H (Gx.refl t) mInt⟩
    · exact q.elim⟩
def bList : WL := fun rs Q => match rs with
  | [.d (.list ds)] => Q (.new ds)
  | [.d (.tuple ds)] => Q (.new ds)
  | [.own _ ds] => Q (.new ds)
  | _ => False
theorem b_list {M : Pm} : OpL M (fun xs H Q => ∃ p ys, xs = [.ref p] ∧ (SqL M.K H p ys ∨ SqT M.K H p ys) ∧ ∀ l, H l = none → Q (.ref l) (upd H l (.lst ys))) bList :=
  ⟨fun rs Q Q' h q => by
    unfold bList at q ⊢
    split at q <;> first | exact h _ q | exact q, fun T o S env σ H rs vs Q A t hp q => by
    unfold bList at q
    split at q
    · obtain ⟨v, rfl, hv⟩ := one_of hp
      obtain ⟨a, xs, rfl, h1, h2⟩ := R.lst hv
      exact ⟨_, _, rfl, .inl (sql_hide h1), fun l hl => q _ _ (Gx.new t hl) (newLst A hl h2)⟩
    · obtain ⟨v, rfl, hv⟩ := one_of hp
      obtain ⟨a, xs, rfl, h1, h2⟩ := R.tup hv
      exact ⟨_, _, rfl, .inr (sqt_hide h1), fun l hl => q _ _ (Gx.new t hl) (newLst A hl h2)⟩
    · obtain ⟨v, rfl, a, xs, rfl, _, h1, h2⟩ := one_of hp
      exact ⟨_, _, rfl, .inl (.inl (.inl h1)), fun l hl => q _ _ (Gx.new t hl) (newLst A hl h2)⟩
    · exact q.elim⟩
def bTuple : WL := fun rs Q => match rs with
  | [.d (.list ds)] => Q (.d (.tuple ds))
  | [.d (.tuple ds)] => Q (.d (.tuple ds))
  | [.own _ ds] => Q (.d (.tuple ds))
  | _ => False
theorem b_tuple {M : Pm} : OpL M (fun xs H Q => ∃ p ys, xs = [.ref p] ∧ ((SqL M.K H p ys ∧ ∀ l, H l = none → Q (.ref l) (upd H l (.tup ys))) ∨ (SqT M.K H p ys ∧ Q (.ref p) H))) bTuple :=
  ⟨fun rs Q Q' h q => by
    unfold bTuple at q ⊢
    split at q <;> first | exact h _ q | exact q, fun T o S env σ H rs vs Q A t hp q => by
    unfold bTuple at q
    split at q
    · obtain ⟨v, rfl, hv⟩ := one_of hp
      obtain ⟨a, xs, rfl, h1, h2⟩ := R.lst hv
      exact ⟨_, _, rfl, .inl ⟨sql_hide h1, fun l hl => q _ _ (Gx.new t hl) (newTup A hl h2)⟩⟩
    · obtain ⟨v, rfl, hv⟩ := one_of hp
      obtain ⟨a, xs, rfl, h1, h2⟩ := R.tup hv
      exact ⟨_, _, rfl, .inr ⟨sqt_hide h1, q _ H (Gx.refl t) (dt_tup (K := M.K) (H := hide S H) h1 h2)⟩⟩
    · obtain ⟨v, rfl, a, xs, rfl, _, h1, h2⟩ := one_of hp
      exact ⟨_, _, rfl, .inl ⟨.inl (.inl h1), fun l hl => q _ _ (Gx.new t hl) (newTup A hl h2)⟩⟩
    · exact q.elim⟩
def bRepr : WL := fun rs Q => match rs with
  | [.d x] => (x.showable = true ∧ x.depth ≤ 100 ∧ x.shown.length ≤ sizeLine) ∧ Q (.d (.str x.shown))
  | _ => False
theorem b_repr {M : Pm} : OpL M (rRepr M.K) bRepr :=
  ⟨fun rs Q Q' h q => by
    unfold bRepr at q ⊢
    split at q <;> first | exact ⟨q.1, h _ q.2⟩ | exact q, fun T o S env σ H rs vs Q A t hp q => by
    unfold bRepr at q
    split at q
    · rename_i x
      obtain ⟨v, rfl, hv⟩ := one_of hp
      have hv : Dt M.K (hide S H) x v := hv
      exact ⟨v, x, rfl, hv.mono hide_sub, q.1.1, q.1.2.1, q.1.2.2, q.2 _ H (Gx.refl t) mStr⟩
    · exact q.elim⟩

/-! ### is -/
def rIsX : R2 := fun x y H Q => (y = .non ∧ Q (.bl (decide (x = .non))) H) ∨ rIsB x y H Q ∨ ∃ i b, x = .int i ∧ y = .bl b ∧ Q (.bl false) H
theorem opIsX {X : Cx} : OpR X (compareOp .Is) rIsX := by
  refine opIs.or (op_isBl.or ?_)
  intro pins s σ H x y v u Q I rx ry h
  obtain ⟨i, b, rfl, rfl, q⟩ := h
  obtain ⟨t, rfl⟩ := (show ∃ t, v = Value.int i t from rx)
  obtain rfl := (show u = Value.bool b from ry)
  exact wpAny_is_other rfl (fun z => nomatch z) ⟨.bl false, H, I, rfl, q⟩
def rNotX : R2 := fun x y H Q => (y = .non ∧ Q (.bl (!decide (x = .non))) H) ∨ rNotB x y H Q ∨ ∃ i b, x = .int i ∧ y = .bl b ∧ Q (.bl true) H
theorem opNotX {X : Cx} : OpR X (compareOp .IsNot) rNotX := by
  refine opIsNot.or (op_notBl.or ?_)
  intro pins s σ H x y v u Q I rx ry h
  obtain ⟨i, b, rfl, rfl, q⟩ := h
  obtain ⟨t, rfl⟩ := (show ∃ t, v = Value.int i t from rx)
  obtain rfl := (show u = Value.bool b from ry)
  exact wpAny_isNot_other rfl (fun z => nomatch z) ⟨.bl true, H, I, rfl, q⟩
def isNone : PyData → Bool
  | .none => true
  | _ => false
theorem isNone_v {K : PySem.W.Frag} {G : Hp} {x : PyData} {v : V} (h : Dt K G x v) : decide (v = .non) = isNone x := by
  cases x with
  | none => rw [dt_none_inv h]; rfl
  | bool b => rw [dt_bool_inv h]; rfl
  | int b => rw [dt_int_inv h]; rfl
  | str b => rw [dt_str_inv h]; rfl
  | list b => obtain ⟨a, _, rfl, _⟩ := dt_lst_inv h; rfl
  | tuple b => obtain ⟨a, _, rfl, _⟩ := dt_tup_inv h; rfl
  | dict b =>
    unfold Dt at h
    obtain ⟨a, _, rfl, _⟩ := h
    rfl
def wIs (neg : Bool) : W2 := fun x y Q => match x, y with
  | .d x, .d .none => Q (.d (.bool (isNone x != neg)))
  | .d (.bool a), .d (.bool b) => Q (.d (.bool (decide (a = b) != neg)))
  | .d (.int _), .d (.bool _) => Q (.d (.bool neg))
  | .own _ _, .d .none => Q (.d (.bool neg))
  | _, _ => False
theorem wIs_mono {n : Bool} (x y : En) (Q Q' : En → Prop) (h : ∀ r, Q r → Q' r) (q : wIs n x y Q) : wIs n x y Q' := by
  unfold wIs at q ⊢
  split at q <;> first | exact h _ q | exact q
theorem o_is {M : Pm} : Op2 M rIsX (wIs false) := ⟨wIs_mono, fun T o S env σ H x y u v Q A t rx ry q => by
    unfold wIs at q
    split at q
    · obtain rfl := R.non ry
      refine .inl ⟨rfl, ?_⟩
      rw [isNone_v (K := M.K) (G := hide S H) rx]
      have q := q (.bl (isNone _)) H (Gx.refl t) (by simp only [Bool.bne_false]; exact mBl)
      exact q
    · obtain rfl := R.bool rx
      obtain rfl := R.bool ry
      exact .inr (.inl ⟨_, _, rfl, rfl, q _ H (Gx.refl t) (by simp only [Bool.bne_false]; exact mBl)⟩)
    · obtain rfl := R.int rx
      obtain rfl := R.bool ry
      exact .inr (.inr ⟨_, _, rfl, rfl, q _ H (Gx.refl t) mBl⟩)
    · obtain ⟨a, xs, rfl, _⟩ := rx
      obtain rfl := R.non ry
      exact .inl ⟨rfl, q _ H (Gx.refl t) mBl⟩
    · exact q.elim⟩
theorem o_isNot {M : Pm} : Op2 M rNotX (wIs true) := ⟨wIs_mono, fun T o S env σ H x y u v Q A t rx ry q => by
    unfold wIs at q
    split at q
    · obtain rfl := R.non ry
      refine .inl ⟨rfl, ?_⟩
      rw [isNone_v (K := M.K) (G := hide S H) rx]
      have q := q (.bl (!isNone _)) H (Gx.refl t) (by simp only [Bool.bne_true]; exact mBl)
      exact q
    · obtain rfl := R.bool rx
      obtain rfl := R.bool ry
      exact .inr (.inl ⟨_, _, rfl, rfl, q _ H (Gx.refl t) (by simp only [Bool.bne_true]; exact mBl)⟩)
    · obtain rfl := R.int rx
      obtain rfl := R.bool ry
      exact .inr (.inr ⟨_, _, rfl, rfl, q _ H (Gx.refl t) mBl⟩)
    · obtain ⟨a, xs, rfl, _⟩ := rx
      obtain rfl := R.non ry
      exact .inl ⟨rfl, q _ H (Gx.refl t) mBl⟩
    · exact q.elim⟩

/-! ### a tuple of defs; {} -/
def allF (rs : List En) (Q : List Str → Prop) : Prop := match rs with
  | [] => Q []
  | .fn f :: r => allF r fun fs => Q (f :: fs)
  | _ => False
theorem allF_mono : ∀ {rs : List En} {Q Q' : List Str → Prop}, (∀ r, Q r → Q' r) → allF rs Q → allF rs Q'
  | [], _, _, h, q => h _ q
  | .fn f :: r, _, _, h, q => by
    unfold allF at q ⊢
    exact allF_mono (fun xs => h _) q
  | .pen :: _, _, _, _, q | .d _ :: _, _, _, _, q | .fns _ :: _, _, _, _, q | .own _ _ :: _, _, _, _, q | .new _ :: _, _, _, _, q | .ob _ _ :: _, _, _, _, q => q
theorem allF_fs {M : Pm} {o : Nat → Option Addr} {S : Addr → Prop} {H : Hp} : ∀ {rs : List En} {vs : List V} {Q : List Str → Prop}, Paired (R M o S H) rs vs → allF rs Q → ∃ fs, Paired (fun f x => ∃ b, x = V.ref b ∧ M.mg f = some (.ref b)) fs vs ∧ Q fs ∧ fs.length = vs.length
  | _, _, _, .nil, q => ⟨[], .nil, q, rfl⟩
  | .fn f :: r, _, _, .cons h t, q => by
    unfold allF at q
    obtain ⟨fs, h1, h2, h3⟩ := allF_fs t q
    exact ⟨f :: fs, .cons h h1, h2, by simp [h3]⟩
  | .pen :: _, _, _, .cons _ _, q | .d _ :: _, _, _, .cons _ _, q | .fns _ :: _, _, _, .cons _ _, q | .own _ _ :: _, _, _, .cons _ _, q | .new _ :: _, _, _, .cons _ _, q | .ob _ _ :: _, _, _, .cons _ _, q => q.elim
def eTupF (fa : Env → Wl) : Env → Wd := fun env Q Er => fa env (fun rs => allF rs fun fs => fs.length ≤ sizeLine ∧ Q (.fns fs)) Er
section
variable {X : Cx} {T : List (Addr × Str)} {E : XK} {es : List Expr} {fa : Env → Wl} {pos : Pos}
theorem ev_tupF {x1} (ha : Av X T E es fa) : Ev X T E (.Tuple es x1 pos) (eTupF fa) :=
  ⟨fun env Q Q' Er Er' hq he q => ha.mono env _ _ _ _ (fun rs => allF_mono fun ds q => ⟨q.1, hq _ q.2⟩) he q, weakE (pe_tup ha.run) fun σ H Q ⟨o, S, env, A, t, q⟩ =>
    ⟨o, S, env, A, t, ha.mono env _ _ _ _ (fun rs q vs H1 g1 r1 => by
      obtain ⟨fs, h1, ⟨h2, q⟩, h3⟩ := allF_fs r1 q
      refine ⟨by omega, fun p hp => q _ _ (g1.trans (Gx.new g1.tb hp)) ?_⟩
      have ns := (A.gr g1.gr).fresh (NoT.of hp)
      exact ⟨p, vs, rfl, .inl (.inl (by rw [hide_neg ns, upd_same])), h1⟩) (fun _ z => z) q⟩⟩
end

/-! ### promises told otherwise -/
theorem R.dt {M : Pm} {H : Hp} {d : PyData} {v : V} (h : R M noO noS H (.d d) v) : Dt M.K H d v := by
  have h : Dt M.K (hide noS H) d v := h
  rw [hide_nil] at h
  exact h
theorem R.ofDt {M : Pm} {H : Hp} {d : PyData} {v : V} (h : Dt M.K H d v) : R M noO noS H (.d d) v := by
  show Dt M.K (hide noS H) d v
  rw [hide_nil]
  exact h
theorem R.penS {M : Pm} {H : Hp} {v : V} (h : R M noO noS H .pen v) : ∃ p, v = .ref p ∧ Pen M.P M.w H p := by
  obtain ⟨p, e, h⟩ := h
  rw [hide_nil] at h
  exact ⟨p, e, h⟩
theorem dts {M : Pm} {H : Hp} : ∀ {ds : List PyData} {vs : List V}, Paired (R M noO noS H) (ds.map .d) vs → DtAll M.K H ds vs
  | [], _, .nil => dtAll_nil
  | _ :: _, _, .cons h t => dtAll_cons (R.dt h) (dts t)
theorem Gx.same {T : List (Addr × Str)} {H H' : Hp} (t : Tabs T H) (s : Same H H') : Gx T H H' := Gx.of t s
section
variable {P : Program} {w : World} {K : PySem.W.Frag} {mg : Str → Option Value} {base : Heap} {T : List (Addr × Str)} {x : Str} {k : Nat} {ps : List Str} {sp : Sp} {f : Df1}
theorem pd_of (h : PrG P w K mg base x k ps sp) (mono : MonoF f) (hs : ∀ vs H Q E, spD ⟨P, w, K, mg⟩ T f vs H Q E → sp vs H Q E) : Pd ⟨P, w, K, mg⟩ base T x k ps f :=
  ⟨mono, h.map fun _ _ F => F.imp hs⟩
def dfDt (R : List PyData → PyData → Prop) : Df1 := fun rs Q _ => ∃ ds d, rs = ds.map .d ∧ R ds d ∧ Q (.d d)
theorem pd_dt {n : Nat} {Rd : List PyData → PyData → Prop} (h : PrG P w K mg base x k ps (spDt K n Rd)) (hl : ∀ ds d, Rd ds d → ds.length = n) : Pd ⟨P, w, K, mg⟩ base T x k ps (dfDt Rd) :=
  pd_of h (fun rs Q Q' Er Er' hq he ⟨ds, d, e, hr, q⟩ => ⟨ds, d, e, hr, hq _ q⟩) fun vs H Q E ⟨t, rs, hp, ds, d, e, hr, q⟩ => by
    subst e
    have hd := dts hp
    exact ⟨by rw [← dtAll_len hd]; exact hl ds d hr, ds, d, hd, hr, fun v H' s hv => q v H' (Gx.of t s) (R.ofDt (M := ⟨P, w, K, mg⟩) hv)⟩
def dfDraw : Df1 := fun rs Q _ => ∃ many : Int, rs = [.pen, .d (.int many)] ∧ 1 ≤ many ∧ many < 1000000000 ∧ ∀ r, 0 ≤ r → r < many → Q (.d (.int r))
theorem pd_draw (h : PrG P w K mg base x k ps (spDraw P w)) : Pd ⟨P, w, K, mg⟩ base T x k ps dfDraw :=
  pd_of h (fun rs Q Q' Er Er' hq he ⟨m, e, h1, h2, q⟩ => ⟨m, e, h1, h2, fun r a b => hq _ (q r a b)⟩) fun vs H Q E ⟨t, rs, hp, m, e, h1, h2, q⟩ => by
    subst e
    obtain ⟨v, u, rfl, a, b⟩ := two_of hp
    obtain ⟨p, rfl, hp2⟩ := R.penS a
    obtain rfl := R.int b
    exact ⟨p, m, rfl, hp2, h1, h2, fun r a b => q r a b _ H (Gx.refl t) (R.ofDt (M := ⟨P, w, K, mg⟩) dt_int)⟩
def dfPick : Df1 := fun rs Q _ => ∃ ds, (rs = [.pen, .d (.list ds)] ∨ rs = [.pen, .d (.tuple ds)]) ∧ ds ≠ [] ∧ ds.length < 1000 ∧ ∀ d, d ∈ ds → Q (.d d)
end
end PD
/-! the data layer: _law_fault as a def that stands there; defs with lambdas -/
namespace PD
open PySem PySem.Spec PyProof.Rows L2 Fp LamX
/-- the code object at c has a table, and all names told for it are q -/
structure TabQ (base : Heap) (mg : Str → Option Value) (T : List (Addr × Str)) (c : Addr) (q : Str) : Prop where
  ex : ∃ Pt, TabB base mg c Pt ∧ (Pt, q) ∈ T ∧ ∀ p ∈ T, p.1 = Pt → p.2 = q
section
variable {X : Cx} {T : List (Addr × Str)} {E : XK}
theorem ev_faultD {st : Stmt} {x a : Str} {c : Addr} {k : Nat} {Ng : List Str} {params : Arguments} {body : Expr} {scope : Scope} {f : Env → Wd} {p lpos pos : Pos} (D : Df X.K X.mg x st)
    (hbB : ∀ (kV doc pm : Value) (an : Option Addr) (cdv ct : Value) (us : List Value), us.length = [a].length → bindArgs (PySem.W.fnOf x x (defArgs st) (defBody st) (defScope st) .none kV doc pm an cdv ct) ⟨us, []⟩ = pure ([a].zip us))
    (Sg : FnScope Ng [a] (defScope st)) (hNg : Ng[0]? = some a) (hva : Vis (defScope st) a)
    (hG : ∀ g cdv, Makes X Ng x (defScope st) g cdv (defBody st) a (X.env.qual ++ "<lambda>") (TTF X.K))
    (TQ : TabQ X.base X.mg T c (X.env.qual ++ "<lambda>")) (hcode : X.env.code = .ref c) (hr : RoomG (k + 2) X.A)
    (hg : Gl X x) (L : LamS X.env.scope scope) (hdef : defaultsOf params X.env = ([], []))
    (hbind : ∀ (q : Str) (cl : List (Str × Addr)) (pm cv ctv : Value), bindArgs (PySem.W.kla_fn "<lambda>" q params body scope cl pm cv ctv) ⟨[], []⟩ = pure [])
    (hbody : ∀ (A : Around) (outer : List PySem.Env) (s : Shared) (H : Hp) (E : XK) (f' c' : Addr), RoomG k (A.deeper (lamEnv X scope s.heap.objs.size f' c')) → Ev (lamCx X A outer s H E scope f' c') T E body f)
    (hdb : (x == ("__debug__" : Str)) = false := by decide) (hd : (a == ("__debug__" : Str)) = false := by decide) (hcd : (a == ("__classdict__" : Str)) = false := by decide) :
    Ev X T E (.Call (.Name x p) [.Lambda params body scope lpos] [] pos) (wFault f) := by
  obtain ⟨g, fd, F, hm⟩ := D.ex
  obtain ⟨Pt, TB, hmT, hu⟩ := TQ.ex
  have hb := F.bindsN hbB
  have kp := F.kp
  obtain ⟨oc, od, dV, kV, doc, pm, an, cdv, ct, osl, rfl, lk, hcd', _, _⟩ := F.ex
  exact ev_fault hm kp lk hcd' hb Sg hNg hva (hG g cdv) TB hcode hmT hu hr hg L hdef hbind hbody hdb hd hcd
end
section
variable {P : Program} {w : World} {K : PySem.W.Frag} {mg : Str → Option Value} {base : Heap} {x qual : Str} {params : Arguments} {body : List Stmt} {scope : Scope} {dvs : List V} {kws : List (Str × V)} {fd : FuncData} {CX : CXT} {N ps : List Str} {k : Nat} {T : List (Addr × Str)} {df : Df1} {p : Str × Option Str}
/-- a def whose code object is known -/
theorem okDK (F : FunD K x qual params body scope dvs kws (He.fAd K p) fd) (S : FnScope N ps scope) (hlen : ∀ rs Q Er, df rs Q Er → rs.length = ps.length)
    (hbody : ∀ (A : Around) (outer : List PySem.Env) (s : Shared) (H : Hp) (E : XK), RoomG k (A.deeper (envOfC qual scope s.heap.objs.size (He.fAd K p) (.ref (He.codeOf K p)))) →
      ∃ g, Sv (cxOf CX P w K mg base N qual scope (He.fAd K p) (.ref (He.codeOf K p)) A outer s H E) T E body g ∧ ∀ rs Q Er, df rs Q Er → g (startE N rs) (endK Q Er)) : FnG P w K mg base CX (k + 1) (He.fAd K p) fd ps (spD ⟨P, w, K, mg⟩ T df) := by
  refine okK F S (fun vs H Q E h => ?_) (fun A outer s H vs Q E hr h => ?_)
  · obtain ⟨_, rs, h1, h2⟩ := h
    rw [← paired_len h1]
    exact hlen _ _ _ h2
  · obtain ⟨g, hg, hf⟩ := hbody A outer s H E hr
    obtain ⟨t, rs, h1, h2⟩ := h
    refine ⟨_, hg.run, H, noO, noS, startE N rs, endK (fun r => ∀ v H', Gx T H H' → R ⟨P, w, K, mg⟩ noO noS H' r v → Q v H') (erK ⟨P, w, K, mg⟩ T E noS H), start_ag h1, fun _ z => z.elim, Gx.refl t, ⟨fun o S env σ H' A' f' g' q => ?_, fun _ _ _ _ _ _ _ _ q => False.elim q, fun _ _ _ _ _ _ _ _ q => False.elim q, fun r v H' g' h q => q v H' g' h, fun x d H' g' h q => q d H' g' (by rw [hide_nil]; exact h)⟩, hf rs _ _ h2⟩
    exact q .non H' g' (dt_none (K := K) (H := hide noS H'))
end
end PD
/-! the data layer: what is read off at once -/
namespace PD
open PySem PySem.Spec PyProof.Rows L2 Fp LamX
section
variable {x y : PyData} {ds es : List PyData} {i j : Nat} {f : Str} {fs : List Str} {Q : En → Prop} {Qb : Bool → Prop} {Qe : Env → Prop} {Ql : List En → Prop} {Qd : List PyData → Prop} {Qf : List Str → Prop} {env : Env} {r s : En} {rs : List En} {b c m : Bool} {a n : Int} {C : Int → Int → Prop} {g : Int → Int → PyData}
theorem flat_d : En.flat (.d x) = .d x := rfl
theorem flat_new : En.flat (.new ds) = .d (.list ds) := rfl
theorem flat_fn : En.flat (.fn f) = .fn f := rfl
theorem flat_fns : En.flat (.fns fs) = .fns fs := rfl
theorem flat_pen : En.flat .pen = .pen := rfl
theorem flat_own : En.flat (.own i ds) = .own i ds := rfl
theorem thaw_d : En.thaw (.d x) = .d x := rfl
theorem thaw_own : En.thaw (.own i ds) = .d (.list ds) := rfl
theorem notOwn_d : notOwn (.d x) = True := rfl
theorem notOwn_pen : notOwn .pen = True := rfl
theorem notOwn_fn : notOwn (.fn f) = True := rfl
theorem notOwn_fns : notOwn (.fns fs) = True := rfl
theorem notOwn_own : notOwn (.own i ds) = False := rfl
theorem plain_nil : allPlain [] = True := rfl
theorem plain_cons : allPlain (r :: rs) = (notOwn r ∧ allPlain rs) := rfl
theorem tru_b : tru (.d (.bool b)) Qb = Qb b := rfl
theorem bind_d : bindE m i (.d x) env Qe = Qe (env.set i (some (.d x))) := rfl
theorem bind_pen : bindE m i .pen env Qe = Qe (env.set i (some .pen)) := rfl
theorem bind_fn : bindE m i (.fn f) env Qe = Qe (env.set i (some (.fn f))) := rfl
theorem bind_fns : bindE m i (.fns fs) env Qe = Qe (env.set i (some (.fns fs))) := rfl
theorem bind_newT : bindE true i (.new ds) env Qe = Qe (env.set i (some (.own i ds))) := rfl
theorem bind_newF : bindE false i (.new ds) env Qe = Qe (env.set i (some (.d (.list ds)))) := rfl
theorem par_F : parE false i j r s env Qe = (notOwn r.flat ∧ notOwn s.flat ∧ Qe ((env.set i (some r.flat)).set j (some s.flat))) := rfl
theorem par_T : parE true i j (.new ds) (.d x) env Qe = (scalD x = true ∧ Qe ((env.set i (some (.own i ds))).set j (some (.d x)))) := rfl
theorem eN_ : eN i env Q Er = (match env[i]? with | some (some r) => Q r | _ => False) := rfl
theorem allD_nil : allD [] Qd = Qd [] := rfl
theorem allD_cons : allD (.d x :: rs) Qd = allD rs (fun xs => Qd (x :: xs)) := rfl
theorem allF_nil : allF [] Qf = Qf [] := rfl
theorem allF_cons : allF (.fn f :: rs) Qf = allF rs (fun xs => Qf (f :: xs)) := rfl
theorem gN_ : gN i r env Qe = (notOwn r ∧ Qe (env.set i (some r))) := rfl
theorem gT_ {bs : List WG} : gT bs (.d (.tuple ds)) env Qe = (ds.length = bs.length ∧ bAll bs ds env Qe) := rfl
theorem bAll_nil : bAll [] [] env Qe = Qe env := rfl
theorem bAll_cons {b : WG} {bs : List WG} : bAll (b :: bs) (x :: ds) env Qe = b (.d x) env (fun e => bAll bs ds e Qe) := rfl
theorem wI_ : wI C g (.d (.int a)) (.d (.int n)) Q = (C a n ∧ Q (.d (g a n))) := rfl
theorem wAdd_i : wAdd (.d (.int a)) (.d (.int n)) Q = Q (.d (.int (a + n))) := rfl
theorem wAdd_s {u v : Str} : wAdd (.d (.str u)) (.d (.str v)) Q = (u.length + v.length ≤ sizeLine ∧ Q (.d (.str (u ++ v)))) := rfl
theorem wAdd_t : wAdd (.d (.tuple ds)) (.d (.tuple es)) Q = (ds.length + es.length ≤ sizeLine ∧ Q (.d (.tuple (ds ++ es)))) := rfl
theorem wAdd_l : wAdd (.d (.list ds)) (.d (.list es)) Q = (ds.length + es.length ≤ sizeLine ∧ Q (.new (ds ++ es))) := rfl
theorem wMul_i : wMul (.d (.int a)) (.d (.int n)) Q = (CMulW a n ∧ Q (.d (.int (a * n)))) := rfl
theorem wEq_ : wEq (.d x) (.d y) Q = (eqC x y = true ∧ Q (.d (.bool (PyData.eqv x y)))) := rfl
theorem wNe_ : wNe (.d x) (.d y) Q = (eqC x y = true ∧ Q (.d (.bool (!PyData.eqv x y)))) := rfl
theorem wIs_n : wIs b (.d x) (.d .none) Q = Q (.d (.bool (isNone x != b))) := rfl
theorem wIs_b {b1 b2 : Bool} : wIs b (.d (.bool b1)) (.d (.bool b2)) Q = Q (.d (.bool (decide (b1 = b2) != b))) := rfl
theorem wIs_i : wIs b (.d (.int a)) (.d (.bool c)) Q = Q (.d (.bool b)) := rfl
theorem items_l : itemsE (.d (.list ds)) Ql = Ql (ds.map .d) := rfl
theorem items_n : itemsE (.new ds) Ql = Ql (ds.map .d) := rfl
theorem items_t : itemsE (.d (.tuple ds)) Ql = Ql (ds.map .d) := rfl
theorem items_f : itemsE (.fns fs) Ql = Ql (fs.map .fn) := rfl
theorem items_s {z : Str} : itemsE (.d (.str z)) Ql = Ql (z.cps.toList.map fun c => .d (.str ⟨#[c]⟩)) := rfl
theorem rng1_ : rng1 [.d (.int a)] Ql = ((-(2 ^ 62) ≤ a ∧ a < 2 ^ 62) ∧ Ql (rngE 0 a.toNat)) := rfl
theorem rng2_ : rng2 [.d (.int a), .d (.int n)] Ql = ((-(2 ^ 62) ≤ a ∧ a < 2 ^ 62 ∧ -(2 ^ 62) ≤ n ∧ n < 2 ^ 62) ∧ Ql (rngE a (n - a).toNat)) := rfl
theorem len_l : bLen [.d (.list ds)] Q = Q (.d (.int (ds.length : Nat))) := rfl
theorem len_t : bLen [.d (.tuple ds)] Q = Q (.d (.int (ds.length : Nat))) := rfl
theorem len_o : bLen [.own i ds] Q = Q (.d (.int (ds.length : Nat))) := rfl
theorem len_s {z : Str} : bLen [.d (.str z)] Q = (z.length ≤ sizeLine ∧ Q (.d (.int (z.length : Nat)))) := rfl
theorem list_l : bList [.d (.list ds)] Q = Q (.new ds) := rfl
theorem list_t : bList [.d (.tuple ds)] Q = Q (.new ds) := rfl
theorem list_o : bList [.own i ds] Q = Q (.new ds) := rfl
theorem tup_l : bTuple [.d (.list ds)] Q = Q (.d (.tuple ds)) := rfl
theorem tup_t : bTuple [.d (.tuple ds)] Q = Q (.d (.tuple ds)) := rfl
theorem tup_o : bTuple [.own i ds] Q = Q (.d (.tuple ds)) := rfl
theorem repr_ : bRepr [.d x] Q = ((x.showable = true ∧ x.depth ≤ 100 ∧ x.shown.length ≤ sizeLine) ∧ Q (.d (.str x.shown))) := rfl
/-- a promise of the shape of data is used -/
theorem use_dt {Rd : List PyData → PyData → Prop} {Er : Flt → Prop} (d : PyData) (e : rs = ds.map .d) (h : Rd ds d) (q : Q (.d d)) : dfDt Rd rs Q Er := ⟨ds, d, e, h, q⟩
end
theorem forL_inv {b : WG} {gb : Ws} (Inv : Env → Prop) {k : Ks} : ∀ {rs : List En} {env : Env}, (∀ r ∈ rs, ∀ env k', Inv env → (∀ e, Inv e → k'.nx e) → (∀ e, Inv e → k'.ct e) → k'.bk = k.nx → k'.rt = k.rt → k'.er = k.er → b r env (fun e => gb e k')) → (∀ e, Inv e → k.nx e) → Inv env → forL b gb rs env k
  | [], env, _, h2, h3 => h2 env h3
  | r :: rs, env, h1, h2, h3 => h1 r List.mem_cons_self env { k with nx := fun e => forL b gb rs e k, ct := fun e => forL b gb rs e k, bk := k.nx } h3 (fun e he => forL_inv Inv (fun r hr => h1 r (List.mem_cons_of_mem _ hr)) h2 he) (fun e he => forL_inv Inv (fun r hr => h1 r (List.mem_cons_of_mem _ hr)) h2 he) rfl rfl rfl
theorem rngE_mem {lo : Int} {n : Nat} {r : En} (h : r ∈ rngE lo n) : ∃ i : Nat, i < n ∧ r = .d (.int (lo + i)) := by
  unfold rngE at h
  rw [List.mem_map] at h
  obtain ⟨i, hi, rfl⟩ := h
  exact ⟨i, by simpa using hi, rfl⟩
theorem ints_dt {K : PySem.W.Frag} {G : Hp} : ∀ {ns : List Int} {xs : List V}, DtAll K G (ns.map .int) xs → xs = ns.map V.int
  | [], xs, h => by unfold DtAll at h; exact h
  | n :: ns, xs, h => by
    unfold DtAll at h
    obtain ⟨x, r, rfl, h1, h2⟩ := h
    rw [dt_int_inv h1, ints_dt h2]
    rfl
theorem dt_ints {K : PySem.W.Frag} {G : Hp} : ∀ {ns : List Int}, DtAll K G (ns.map .int) (ns.map V.int)
  | [] => dtAll_nil
  | _ :: _ => dtAll_cons dt_int dt_ints
def dfMkPen : Df1 := fun rs Q _ => ∃ ns : List Int, rs = [.d (.list (ns.map .int))] ∧ Q .pen
theorem pd_pen {P : Program} {w : World} {K : PySem.W.Frag} {mg : Str → Option Value} {base : Heap} {T : List (Addr × Str)} {x : Str} {k : Nat} {ps : List Str} (h : PrG P w K mg base x k ps (spPen P w K)) : Pd ⟨P, w, K, mg⟩ base T x k ps dfMkPen :=
  pd_of h (fun rs Q Q' Er Er' hq he ⟨ns, e, q⟩ => ⟨ns, e, hq _ q⟩) fun vs H Q E ⟨t, rs, hp, ns, e, q⟩ => by
    subst e
    obtain ⟨v, rfl, ra⟩ := one_of hp
    obtain ⟨a, xs, rfl, hs, hd⟩ := dt_lst_inv (R.dt ra)
    obtain rfl := ints_dt hd
    exact ⟨a, ns, rfl, hs, fun p H' s hp => q _ H' (Gx.of t s) ⟨p, rfl, by rw [hide_nil]; exact hp⟩⟩
end PD
namespace L02
open PySem PySem.Spec PyProof.Rows L2 Fp
section
variable {X : Cx}
abbrev s_law_fault : Stmt := top 67
theorem sc_law_fault : FnScope ["call", "found", "e"] ["call"] (defScope s_law_fault) := ⟨rfl, rfl, rfl, by decide +kernel, rfl, by decide +kernel, by decide +kernel⟩

open LamX in
theorem fault_makes {q : Str} {g : Addr} {cdg : Value} (A : Errs X.prog X.w X.K X.mg X.base) (g_isinstance : X.mg "isinstance" = none) (g_ValueError : X.mg "ValueError" = none) (g_len : X.mg "len" = none) (p__law_kinds : PrC X.prog X.w X.K X.mg X.base "_law_kinds" 2 ["e"] (spKinds X.K X.base 0 16)) (hr : RoomG 4 X.A) :
    Makes X ["call", "found", "e"] "_law_fault" (defScope s_law_fault) g cdg (defBody s_law_fault) "call" q (TTF X.K) := by
  intro f c' s H Q tl act hc h
  have nd := sc_law_fault.nd
  have hrd : RoomG 3 (X.A.deeper (envOfC "_law_fault" (defScope s_law_fault) s.heap.objs.size g cdg)) := hr.deeper _
  refine ⟨_, pss_cons (ps_set (X := (cxOf C8.CX0 X.prog X.w X.K X.mg X.base ["call", "found", "e"] "_law_fault" (defScope s_law_fault) g cdg X.A X.stack s H C8.E0).nox) (i := 1) nd rfl (.inl rfl) pe_non)
    (pss_cons (ps_try_as (X := (cxOf C8.CX0 X.prog X.w X.K X.mg X.base ["call", "found", "e"] "_law_fault" (defScope s_law_fault) g cdg X.A X.stack s H C8.E0).nox) (c := .ref (He.ga X.K "FieldError")) (i := 2)
      (tb := fun W D σ H => ∃ (E : XK) (R : VK), (σ[0]? = some (some (.ref f)) ∧ H c' = some (CodeO c' q) ∧ (∀ cls d H', E cls d H' → W cls d σ H') ∧ tl E H R) ∧ ∀ v H1, R v H1 → D.nx σ H1)
      rfl rfl nd rfl rfl ⟨rfl, by decide, .inl A.c_FieldError.g⟩ LamX.takes0 (fun W pn xe tk _ => ?_)
      (fun a oe cls d pn hz hf => (pss_cons (ps_set (i := 1) nd rfl (.inl rfl) (pe_callPZZ X.base rfl hz hf List.mem_cons_self p__law_kinds ((hrd.c.mono (by decide)).mark _) (by rfl) (pa_cons (pv 2) pa_nil)))
        (pss_one (ps_set (i := 1) nd rfl (.inl rfl) (pe_ifExp (PW.pt (pw_and (pt_cmpR op_eq (pe_callB (call_lenK X.K rfl) (by rfl) g_len (by rfl) (pa_cons (pv 1) pa_nil)) pe_int (nomark _)) (pw_and1 (pt_val (pe_callB (call_isE2 hz hf) (by rfl) g_isinstance (by rfl) (pa_cons (pv 2) (pa_cons (pe_bltn (by rfl) g_ValueError rfl relTy) pa_nil)))))))
          (pe_ix (ix_listK X.K rfl) (pv 1) pe_int (fun _ _ => rfl)) (pe_tup (pa_cons pe_str (pa_cons (pe_callB (call_lenK X.K rfl) (by rfl) g_len (by rfl) (pa_cons (pv 1) pa_nil)) pa_nil)))))))))
    (pss_one (ps_ret (pv 1)))), ?_⟩
  · refine ⟨fun pins s' σ H' D I ⟨E, R, h1, h2⟩ => ?_⟩
    exact (pss_one (ps_expr (PE.up (act pn xe W E _ _ tk)))).run pins s' σ H' D I ⟨R, h1, h2⟩
  · refine ⟨EFault X.K Q, fun _ H' => Q .non H', ⟨rfl, hc, fun cls d H' hE => ?_, h⟩, fun v H1 hq => ⟨_, rfl, hq⟩⟩
    obtain ⟨k, v1, v2, v3, d1, d2, hk, rfl, hd, hf, q2⟩ := hE
    refine ⟨true, A.te k hk, fun _ a ha => ?_, fun z => nomatch z⟩
    refine ⟨_, rfl, fun na oe hz hfd H1 s1 he => ⟨a, k, v1, v2, v3, d1, d2, hk, rfl, ⟨oe, d, he, hz, hfd, ?_⟩, hf.mono s1, fun l t H2 s2 l0 hl ht H3 lost => ?_⟩⟩
    · exact hd.imp id fun ⟨dd, e1, e2⟩ => ⟨dd, e1, s1 _ _ e2⟩
    · rw [if_pos ⟨Nat.zero_le _, hk⟩] at hl
      have hl3 := lost.keep hl (fun _ _ z => nomatch z)
      refine ⟨_, rfl, l, _, rfl, .inl (.inl (.inl hl3)), rfl, _, rfl, ite_ye (by simp) ?_⟩
      refine ⟨_, rfl, _, _, _, _, rfl, rfl, (A.c k hk).X, ?_, fun u r => r, (A.c k hk).ve, _, rfl, ite_ye rfl ?_⟩
      · rcases hd with ⟨e1, _⟩ | ⟨dd, e1, e2⟩
        · exact .inl e1
        · exact .inr ⟨dd, _, e1, lost.keep (s2 _ _ (s1 _ _ e2)) (fun _ _ z => nomatch z)⟩
      · refine ⟨_, rfl, l, _, 0, .ref t, rfl, rfl, .inl (.inl hl3), atI_nat (j := 0) rfl, ?_⟩
        exact ⟨_, rfl, q2 t H3 (lost.same (s1.trans s2) ha) (lost.keep (ht (Nat.zero_le _) hk) (fun _ _ z => nomatch z))⟩
end
end L02
namespace L02
open PySem PySem.Spec PyProof.Rows L2 Fp
section
variable {P : Program} {w : World} {K : PySem.W.Frag} {mg : Str → Option Value} {base : Heap} {f : Addr} {fd : FuncData}
abbrev sis_integer : Stmt := top 20
theorem scis_integer : FnScope ["value"] ["value"] (defScope sis_integer) := ⟨rfl, rfl, rfl, by decide +kernel, rfl, by decide +kernel, by decide +kernel⟩

theorem ok_is_integer (F : FnP K "is_integer" sis_integer f fd) (g_int : mg "int" = none) (g_bool : mg "bool" = none) (g_isinstance : mg "isinstance" = none) :
    FnG P w K mg base (L2.CX P w) 1 f fd ["value"] (spDt K 1 fun ds d => ∃ e, ds = [e] ∧ d = .bool (isI e)) := by
  refine okG F scis_integer (fun vs H Q E h => h.1) (fun cdv B outer s H vs Q E hr h => ?_)
  have nd := scis_integer.nd
  refine ⟨_, (pss_one (ps_ret (pe_and (pe_callB call_isD (by rfl) g_isinstance (by rfl) (pa_cons (pv 0) (pa_cons (pe_bltn (by rfl) g_int rfl relTy) pa_nil))) (pe_one (pe_not (pe_callB call_isD (by rfl) g_isinstance (by rfl) (pa_cons (pv 0) (pa_cons (pe_bltn (by rfl) g_bool rfl relTy) pa_nil)))))))), ?_⟩
  obtain ⟨hl, ds, d, hd, ⟨e, rfl, rfl⟩, q⟩ := h
  match vs, hl with
  | [v], _ =>
  obtain ⟨e', ee, hv⟩ := dtAll_one hd
  obtain rfl : e = e' := by injection ee
  refine ⟨_, rfl, v, "int", e, rfl, hv, by simp, _, rfl, ?_⟩
  have fin := q (.bl (isI e)) H (Same.refl H) dt_bool
  cases e with
  | int i => exact ⟨_, rfl, v, "bool", _, rfl, hv, by simp, _, rfl, fin⟩
  | bool b => exact ⟨_, rfl, v, "bool", _, rfl, hv, by simp, _, rfl, fin⟩
  | none => exact fin
  | str x => exact fin
  | list xs => exact fin
  | tuple xs => exact fin
  | dict kvs => exact fin
abbrev spair : Stmt := top 22
theorem scpair : FnScope ["number"] ["number"] (defScope spair) := ⟨rfl, rfl, rfl, by decide +kernel, rfl, by decide +kernel, by decide +kernel⟩

theorem ok_pair (F : FnP K "pair" spair f fd) (g_int : mg "int" = none) (g_isinstance : mg "isinstance" = none) :
    FnG P w K mg base (L2.CX P w) 1 f fd ["number"] (spDt K 1 fun ds d => ∃ e t b, ds = [e] ∧ Rt e t b ∧ d = .tuple [.int t, .int b]) := by
  refine okG F scpair (fun vs H Q E h => h.1) (fun cdv B outer s H vs Q E hr h => ?_)
  have nd := scpair.nd
  refine ⟨_, (pss_one (ps_ret (pe_ifExp (pt_val (pe_callB call_isD (by rfl) g_isinstance (by rfl) (pa_cons (pv 0) (pa_cons (pe_bltn (by rfl) g_int rfl relTy) pa_nil)))) (pe_tup (pa_cons (pv 0) (pa_cons pe_int pa_nil))) (pv 0)))), ?_⟩
  obtain ⟨hl, ds, d, hd, ⟨e, t, b, rfl, r, rfl⟩, q⟩ := h
  match vs, hl with
  | [v], _ =>
  obtain ⟨e', ee, hv⟩ := dtAll_one hd
  obtain rfl : e = e' := by injection ee
  refine ⟨_, rfl, v, "int", e, rfl, hv, by simp, _, rfl, ?_⟩
  rcases r.cases with ⟨rfl, rfl⟩ | ⟨rfl, h1⟩
  · obtain rfl := dt_int_inv hv
    exact ⟨_, rfl, by show (2 : Nat) ≤ sizeLine; decide, fun p hp => q _ _ (same_new hp) (dt_new hp (dtAll2 dt_int dt_int))⟩
  · exact ⟨_, rfl, q v H (Same.refl H) hv⟩
abbrev sin_lowest : Stmt := top 23
theorem scin_lowest : FnScope ["top", "bottom", "by"] ["top", "bottom"] (defScope sin_lowest) := ⟨rfl, rfl, rfl, by decide +kernel, rfl, by decide +kernel, by decide +kernel⟩

theorem fdiv_of {t b : Int} {X : Cx} {H : Hp} {Q : VK} (h : LowOk t b) {x : Int} (hx : gcdI t b ∣ x) (q : Q (.int (x / gcdI t b)) H) : rFdivA (.int x) (.int (gcdI t b)) H Q := by
  obtain ⟨hb, h1, h2⟩ := h
  have g0 := gcdI_ne (t := t) hb
  rcases Int.lt_trichotomy b 0 with z | z | z
  · refine .inr (.inr ⟨_, _, rfl, rfl, ⟨g0, by rw [gcdI_abs]; exact h2 z⟩, ?_⟩)
    dsimp only
    rw [Int.fdiv_eq_ediv_of_dvd hx]; exact q
  · exact absurd z hb
  · refine .inr (.inl ⟨_, _, rfl, rfl, ⟨?_, by rw [gcdI_abs]; exact h1⟩, q⟩)
    unfold gcdI
    rw [if_pos z]
    have : 0 < Nat.gcd t.natAbs b.natAbs := Nat.gcd_pos_of_pos_right _ (by omega)
    omega
theorem ok_in_lowest (F : FnP K "in_lowest" sin_lowest f fd) (g_gcd : mg "gcd" = some (.builtin "math.gcd")) :
    FnG P w K mg base (L2.CX P w) 1 f fd ["top", "bottom"] (spDt K 2 fun ds d => ∃ t b, ds = [.int t, .int b] ∧ LowOk t b ∧ d = numD (low t b)) := by
  refine okG F scin_lowest (fun vs H Q E h => h.1) (fun cdv B outer s H vs Q E hr h => ?_)
  have nd := scin_lowest.nd
  refine ⟨_, (pss_cons (ps_set (i := 2) nd rfl (.inl rfl) (pe_ifExp (pt_cmpR op_gt (pv 1) pe_int (nomark _)) (pe_callBfun cr_gcd (by rfl) g_gcd (pa_cons (pv 0) (pa_cons (pv 1) pa_nil))) (pe_un un_neg (pe_callBfun cr_gcd (by rfl) g_gcd (pa_cons (pv 0) (pa_cons (pv 1) pa_nil))))))
  (pss_one (ps_ret (pe_ifExp (pt_cmpR (opEqA hr) (pv 1) (pv 2) (nomark _)) (pe_op opFdivA (pv 0) (pv 2)) (pe_tup (pa_cons (pe_op opFdivA (pv 0) (pv 2)) (pa_cons (pe_op opFdivA (pv 1) (pv 2)) pa_nil))))))), ?_⟩
  obtain ⟨hl, ds, d, hd, ⟨t, b, rfl, ho, rfl⟩, q⟩ := h
  match vs, hl with
  | [v, u], _ =>
  obtain ⟨e1, e2, ee, hv, hu⟩ := dtAll_two hd
  injection ee with ee1 ee2
  injection ee2 with ee2 _
  subst ee1 ee2
  obtain rfl := dt_int_inv hv
  obtain rfl := dt_int_inv hu
  refine seq_rest (fun σ H' => H' = H ∧ σ = [some (.int t), some (.int b), some (.int (gcdI t b))]) ?_ fun rest => ?_
  · rintro σ H' ⟨rfl, rfl⟩
    refine ⟨_, rfl, _, rfl, .inl ⟨rfl, _, rfl, iteB (fun hb => ?_) fun hb => ?_⟩⟩
    · refine ⟨_, rfl, _, rfl, fdiv_of (X := (cxOf (L2.CX P w) P w K mg base ["top", "bottom", "by"] "in_lowest" (defScope sin_lowest) f cdv B outer s H' E)) ho (gcdI_dvd_l t b) ?_⟩
      have e : (low t b).2 = 1 := (low_one ho.1).mp (V.int.inj (of_decide_eq_true hb))
      refine q _ _ (Same.refl _) ?_
      unfold numD
      rw [if_pos e]
      exact dt_int
    · refine ⟨_, rfl, _, rfl, fdiv_of (X := (cxOf (L2.CX P w) P w K mg base ["top", "bottom", "by"] "in_lowest" (defScope sin_lowest) f cdv B outer s H' E)) ho (gcdI_dvd_l t b) ?_⟩
      refine ⟨_, rfl, _, rfl, fdiv_of (X := (cxOf (L2.CX P w) P w K mg base ["top", "bottom", "by"] "in_lowest" (defScope sin_lowest) f cdv B outer s H' E)) ho (gcdI_dvd_r t b) ?_⟩
      refine ⟨by show (2 : Nat) ≤ sizeLine; decide, fun p hp => q _ _ (same_new hp) ?_⟩
      have e : ¬ (low t b).2 = 1 := fun z => by
        exact absurd (congrArg V.int ((low_one ho.1).mpr z)) (of_decide_eq_false hb)
      unfold numD
      rw [if_neg e]
      exact dt_new hp (dtAll2 dt_int dt_int)
  · refine ⟨_, rfl, _, _, rfl, rfl, _, rfl, iteB (fun hb => ?_) fun hb => ?_⟩
    · refine ⟨_, rfl, _, rfl, _, _, rfl, ?_⟩
      have e : gcdI t b = ((Nat.gcd t.natAbs b.natAbs : Nat) : Int) := if_pos (by simpa using hb)
      rw [← e]
      exact rest _ _ ⟨rfl, rfl⟩
    · refine ⟨_, rfl, _, rfl, _, _, rfl, _, rfl, ?_⟩
      have e : gcdI t b = -((Nat.gcd t.natAbs b.natAbs : Nat) : Int) := if_neg (by simpa using hb)
      dsimp only
      rw [← e]
      exact rest _ _ ⟨rfl, rfl⟩
end
end L02
namespace L02
open PySem PySem.Spec PyProof.Rows L2 Fp
section
variable {P : Program} {w : World} {K : PySem.W.Frag} {mg : Str → Option Value} {base : Heap} {f : Addr} {fd : FuncData}
abbrev RIsInt : List PyData → PyData → Prop := fun ds d => ∃ e, ds = [e] ∧ d = .bool (isI e)
abbrev RPair : List PyData → PyData → Prop := fun ds d => ∃ e t b, ds = [e] ∧ Rt e t b ∧ d = .tuple [.int t, .int b]
abbrev RLow : List PyData → PyData → Prop := fun ds d => ∃ t b, ds = [.int t, .int b] ∧ LowOk t b ∧ d = numD (low t b)
theorem isI_pair {x y : PyData} (h : isI x = false ∨ isI y = false) : isRatioD (.tuple [x, y]) = false := by
  cases x <;> cases y <;> simp [isI] at h <;> rfl
theorem ratio_len {ds : List PyData} (h : ds.length ≠ 2) : isRatioD (.tuple ds) = false := by
  match ds, h with
  | [], _ => rfl
  | [_], _ => unfold isRatioD; split <;> simp_all
  | [_, _], h => exact absurd rfl h
  | _ :: _ :: _ :: _, _ => unfold isRatioD; split <;> simp_all
abbrev sis_ratio : Stmt := top 21
theorem scis_ratio : FnScope ["value"] ["value"] (defScope sis_ratio) := ⟨rfl, rfl, rfl, by decide +kernel, rfl, by decide +kernel, by decide +kernel⟩

theorem ok_is_ratio (F : FnP K "is_ratio" sis_ratio f fd) (g_tuple : mg "tuple" = none) (g_isinstance : mg "isinstance" = none) (g_len : mg "len" = none) (g_gcd : mg "gcd" = some (.builtin "math.gcd")) (p_is_integer : PrG P w K mg base "is_integer" 1 ["value"] (spDt K 1 RIsInt)) :
    FnG P w K mg base (L2.CX P w) 2 f fd ["value"] (spDt K 1 fun ds d => ∃ e, ds = [e] ∧ d = .bool (isRatioD e)) := by
  refine okG F scis_ratio (fun vs H Q E h => h.1) (fun cdv B outer s H vs Q E hr h => ?_)
  have nd := scis_ratio.nd
  refine ⟨_, (pss_cons (ps_if (pt_not (pt_val (pe_callB call_isD (by rfl) g_isinstance (by rfl) (pa_cons (pv 0) (pa_cons (pe_bltn (by rfl) g_tuple rfl relTy) pa_nil))))) (pss_one (ps_ret (pe_callP p_is_integer (hr.mono (by decide)) (by rfl) (fun σ => passAt (takes_of rfl rfl rfl rfl) σ) (pa_cons (pv 0) pa_nil)))) pss_nil)
  (pss_cons (ps_if (PW.pt (pw_or (pt_cmpR (opNeA hr) (pe_callB call_len_seq (by rfl) g_len (by rfl) (pa_cons (pv 0) pa_nil)) pe_int (nomark _)) (pw_or (pt_not (pt_val (pe_callP p_is_integer (hr.mono (by decide)) (by rfl) (fun σ => passAt (takes_of rfl rfl rfl rfl) σ) (pa_cons (pe_ix ix_seq (pv 0) pe_int (fun _ _ => rfl)) pa_nil)))) (pw_or1 (pt_not (pt_val (pe_callP p_is_integer (hr.mono (by decide)) (by rfl) (fun σ => passAt (takes_of rfl rfl rfl rfl) σ) (pa_cons (pe_ix ix_seq (pv 0) pe_int (fun _ _ => rfl)) pa_nil)))))))) (pss_one (ps_ret pe_bl)) pss_nil)
  (pss_one (ps_ret (pe_and (pe_cmpR op_gt (pe_ix ix_seq (pv 0) pe_int (fun _ _ => rfl)) pe_int (nomark _)) (pe_one (pe_cmpR (opEqA hr) (pe_callBfun cr_gcd (by rfl) g_gcd (pa_cons (pe_ix ix_seq (pv 0) pe_int (fun _ _ => rfl)) (pa_cons (pe_ix ix_seq (pv 0) pe_int (fun _ _ => rfl)) pa_nil))) pe_int (nomark _)))))))), ?_⟩
  obtain ⟨hl, ds, d, hd, ⟨e, rfl, rfl⟩, q⟩ := h
  match vs, hl with
  | [v], _ =>
  obtain ⟨e', ee, hv⟩ := dtAll_one hd
  obtain rfl : e = e' := by injection ee
  refine ⟨_, rfl, v, "tuple", e, rfl, hv, by simp, _, rfl, ?_⟩
  have nt : isTy e "tuple" = false → isRatioD e = isI e := fun h => by cases e <;> first | rfl | (simp [isTy, tyName] at h)
  refine iteB (fun hb => ?_) fun hb => ?_
  · have hb' : isTy e "tuple" = false := by simpa using hb
    refine ⟨_, rfl, rfl, [e], _, dtAll1 hv, ⟨e, rfl, rfl⟩, fun v' H' sm hv' => ?_⟩
    obtain rfl := dt_bool_inv hv'
    rw [← nt hb']
    exact q _ _ sm dt_bool
  · have hb' : isTy e "tuple" = true := by simpa using hb
    obtain ⟨xs, rfl⟩ : ∃ xs, e = .tuple xs := by cases e <;> first | exact ⟨_, rfl⟩ | (simp [isTy, tyName] at hb')
    obtain ⟨a, vs, rfl, hs, hds⟩ := dt_tup_inv hv
    have hlen := dtAll_len hds
    refine ⟨_, rfl, a, vs, rfl, .inr hs, .inl ⟨rfl, _, rfl, iteB (fun hc => ?_) fun hc => ?_⟩⟩
    · have hne : vs.length ≠ 2 := by
        intro z; rw [z] at hc; simp at hc
      have := q (.bl false) H (Same.refl H) (by rw [ratio_len (by rw [hlen]; exact hne)]; exact dt_bool)
      exact this
    · have h2 : vs.length = 2 := by
        by_cases z : vs.length = 2
        · exact z
        · have : ¬ V.int (vs.length : Int) = V.int 2 := fun e => z (by injection e with e; omega)
          simp [this] at hc
      rw [h2] at hlen
      match xs, hlen, vs, h2, hds, hs, q, hv with
      | [x, y], _, [u, t], _, hds, hs, q, hv =>
      obtain ⟨x', y', exy, hu, ht⟩ := dtAll_two hds
      injection exy with ex ey
      injection ey with ey _
      subst ex ey
      refine ⟨_, rfl, .inr (.inl ⟨a, _, 0, u, rfl, rfl, hs, atI_nat (j := 0) rfl, ?_⟩)⟩
      refine ⟨rfl, [x], _, dtAll1 hu, ⟨x, rfl, rfl⟩, fun v1 H1 s1 hv1 => ?_⟩
      obtain rfl := dt_bool_inv hv1
      refine ⟨_, rfl, iteB (fun hi => ?_) fun hi => ?_⟩
      · have hi' : isI x = false := by simpa using hi
        exact q (.bl false) H1 s1 (by rw [isI_pair (.inl hi')]; exact dt_bool)
      · have hi' : isI x = true := by simpa using hi
        have hs1 := sqt_mono s1 hs
        refine ⟨_, rfl, .inr (.inl ⟨a, _, 1, t, rfl, rfl, hs1, atI_nat (j := 1) rfl, ?_⟩)⟩
        refine ⟨rfl, [y], _, dtAll1 (ht.mono s1), ⟨y, rfl, rfl⟩, fun v2 H2 s2 hv2 => ?_⟩
        obtain rfl := dt_bool_inv hv2
        refine ⟨_, rfl, ?_⟩
        have hs2 := sqt_mono s2 hs1
        have s12 := s1.trans s2
        cases hj : isI y with
        | false =>
          exact q (.bl false) H2 s12 (by rw [isI_pair (.inr hj)]; exact dt_bool)
        | true =>
          obtain ⟨ti, rfl⟩ : ∃ i, x = .int i := by cases x <;> first | exact ⟨_, rfl⟩ | (simp [isI] at hi')
          obtain ⟨bi, rfl⟩ : ∃ i, y = .int i := by cases y <;> first | exact ⟨_, rfl⟩ | (simp [isI] at hj)
          obtain rfl := dt_int_inv hu
          obtain rfl := dt_int_inv ht
          refine ⟨_, rfl, .inr (.inl ⟨a, _, 1, _, rfl, rfl, hs2, atI_nat (j := 1) rfl, ?_⟩)⟩
          refine ⟨_, _, rfl, rfl, _, rfl, iteB (fun h1 => ?_) fun h1 => ?_⟩
          · refine ⟨_, rfl, .inr (.inl ⟨a, _, 0, _, rfl, rfl, hs2, atI_nat (j := 0) rfl, ?_⟩)⟩
            refine ⟨_, rfl, .inr (.inl ⟨a, _, 1, _, rfl, rfl, hs2, atI_nat (j := 1) rfl, ?_⟩)⟩
            refine ⟨_, _, rfl, .inl ⟨rfl, ?_⟩⟩
            refine q _ H2 s12 ?_
            have h1' : 1 < bi := by simpa using h1
            have : isRatioD (.tuple [.int ti, .int bi]) = decide (V.int ((Nat.gcd ti.natAbs bi.natAbs : Nat) : Int) = V.int 1) := by
              simp only [isRatioD, h1', decide_true, Bool.true_and]
              rw [Bool.eq_iff_iff]
              simp only [decide_eq_true_eq, V.int.injEq]
              omega
            rw [this]
            exact dt_bool
          · refine q _ H2 s12 ?_
            have h1' : ¬ 1 < bi := by simpa using h1
            have : isRatioD (.tuple [.int ti, .int bi]) = false := by simp [isRatioD, h1']
            rw [this]
            exact dt_bool
abbrev ssign_of : Stmt := top 35
theorem scsign_of : FnScope ["number", "top"] ["number"] (defScope ssign_of) := ⟨rfl, rfl, rfl, by decide +kernel, rfl, by decide +kernel, by decide +kernel⟩

theorem ok_sign_of (F : FnP K "sign_of" ssign_of f fd) (g_int : mg "int" = none) (g_isinstance : mg "isinstance" = none) :
    FnG P w K mg base (L2.CX P w) 1 f fd ["number"] (spDt K 1 fun ds d => ∃ e t b, ds = [e] ∧ Rt e t b ∧ d = .int t.sign) := by
  refine okG F scsign_of (fun vs H Q E h => h.1) (fun cdv B outer s H vs Q E hr h => ?_)
  have nd := scsign_of.nd
  refine ⟨_, (pss_cons (ps_set (i := 1) nd rfl (.inl rfl) (pe_ifExp (pt_val (pe_callB call_isD (by rfl) g_isinstance (by rfl) (pa_cons (pv 0) (pa_cons (pe_bltn (by rfl) g_int rfl relTy) pa_nil)))) (pv 0) (pe_ix ix_seq (pv 0) pe_int (fun _ _ => rfl))))
  (pss_one (ps_ret (pe_ifExp (pt_cmpR op_gt (pv 1) pe_int (nomark _)) pe_int (pe_ifExp (pt_cmpR op_lt (pv 1) pe_int (nomark _)) (pe_un un_neg pe_int) pe_int))))), ?_⟩
  obtain ⟨hl, ds, d, hd, ⟨e, t, b, rfl, r, rfl⟩, q⟩ := h
  match vs, hl with
  | [v], _ =>
  obtain ⟨e', ee, hv⟩ := dtAll_one hd
  obtain rfl : e = e' := by injection ee
  refine seq_rest (fun σ H' => H' = H ∧ σ = [some v, some (.int t)]) ?_ fun rest => ?_
  · rintro σ H' ⟨rfl, rfl⟩
    refine ⟨_, rfl, _, _, rfl, rfl, _, rfl, iteB (fun h1 => ?_) fun h1 => ?_⟩
    · have h1' : 0 < t := by simpa using h1
      rw [Int.sign_eq_one_of_pos h1'] at q
      exact q _ _ (Same.refl _) dt_int
    · have h1' : ¬ 0 < t := by simpa using h1
      refine ⟨_, rfl, _, _, rfl, rfl, _, rfl, iteB (fun h2 => ?_) fun h2 => ?_⟩
      · have h2' : t < 0 := by simpa using h2
        rw [Int.sign_eq_neg_one_of_neg h2'] at q
        exact ⟨_, rfl, q _ _ (Same.refl _) dt_int⟩
      · have h2' : ¬ t < 0 := by simpa using h2
        obtain rfl : t = 0 := by omega
        exact q _ _ (Same.refl _) dt_int
  · refine ⟨_, rfl, v, "int", e, rfl, hv, by simp, _, rfl, ?_⟩
    rcases r.cases with ⟨rfl, rfl⟩ | ⟨rfl, h1⟩
    · obtain rfl := dt_int_inv hv
      exact ⟨_, rfl, rest _ _ ⟨rfl, rfl⟩⟩
    · obtain ⟨a, x, y, rfl, hs, hx, hy⟩ := dt_pair_inv hv
      obtain rfl := dt_int_inv hx
      exact ⟨_, rfl, .inr (.inl ⟨a, _, 0, _, rfl, rfl, hs, atI_nat (j := 0) rfl, rest _ _ ⟨rfl, rfl⟩⟩)⟩
abbrev sopposite : Stmt := top 29
theorem scopposite : FnScope ["number"] ["number"] (defScope sopposite) := ⟨rfl, rfl, rfl, by decide +kernel, rfl, by decide +kernel, by decide +kernel⟩

theorem ok_opposite (F : FnP K "opposite" sopposite f fd) (g_int : mg "int" = none) (g_isinstance : mg "isinstance" = none) :
    FnG P w K mg base (L2.CX P w) 1 f fd ["number"] (spDt K 1 fun ds d => ∃ e t b, ds = [e] ∧ Rt e t b ∧ d = numD (-t, b)) := by
  refine okG F scopposite (fun vs H Q E h => h.1) (fun cdv B outer s H vs Q E hr h => ?_)
  have nd := scopposite.nd
  refine ⟨_, (pss_one (ps_ret (pe_ifExp (pt_val (pe_callB call_isD (by rfl) g_isinstance (by rfl) (pa_cons (pv 0) (pa_cons (pe_bltn (by rfl) g_int rfl relTy) pa_nil)))) (pe_un un_neg (pv 0)) (pe_tup (pa_cons (pe_un un_neg (pe_ix ix_seq (pv 0) pe_int (fun _ _ => rfl))) (pa_cons (pe_ix ix_seq (pv 0) pe_int (fun _ _ => rfl)) pa_nil)))))), ?_⟩
  obtain ⟨hl, ds, d, hd, ⟨e, t, b, rfl, r, rfl⟩, q⟩ := h
  match vs, hl with
  | [v], _ =>
  obtain ⟨e', ee, hv⟩ := dtAll_one hd
  obtain rfl : e = e' := by injection ee
  refine ⟨_, rfl, v, "int", e, rfl, hv, by simp, _, rfl, ?_⟩
  rcases r.cases with ⟨rfl, rfl⟩ | ⟨rfl, h1⟩
  · obtain rfl := dt_int_inv hv
    exact ⟨_, rfl, _, rfl, q _ _ (Same.refl _) dt_int⟩
  · obtain ⟨a, x, y, rfl, hs, hx, hy⟩ := dt_pair_inv hv
    obtain rfl := dt_int_inv hx
    obtain rfl := dt_int_inv hy
    refine ⟨_, rfl, .inr (.inl ⟨a, _, 0, _, rfl, rfl, hs, atI_nat (j := 0) rfl, _, rfl, ?_⟩)⟩
    refine ⟨_, rfl, .inr (.inl ⟨a, _, 1, _, rfl, rfl, hs, atI_nat (j := 1) rfl, ?_⟩)⟩
    refine ⟨by show (2 : Nat) ≤ sizeLine; decide, fun p hp => q _ _ (same_new hp) ?_⟩
    have : numD (-t, b) = .tuple [.int (-t), .int b] := by unfold numD; rw [if_neg (by show ¬ b = 1; omega)]
    rw [this]
    exact dt_new hp (dtAll2 dt_int dt_int)
end
end L02
namespace L02
open PySem PySem.Spec PyProof.Rows L2 Fp
section
variable {P : Program} {w : World} {K : PySem.W.Frag} {mg : Str → Option Value} {base : Heap} {f : Addr} {fd : FuncData}
/-- two ratios in, one out -/
abbrev RBin (op : Int × Int → Int × Int → Int × Int) (ok : Int × Int → Int × Int → Prop) : List PyData → PyData → Prop := fun ds d => ∃ d1 t1 b1 d2 t2 b2, ds = [d1, d2] ∧ Rt d1 t1 b1 ∧ Rt d2 t2 b2 ∧ Sz t1 b1 ∧ Sz t2 b2 ∧ ok (t1, b1) (t2, b2) ∧ d = numD (op (t1, b1) (t2, b2))
abbrev anyP : Int × Int → Int × Int → Prop := fun _ _ => True
theorem den_pos {b1 b2 : Int} (h1 : 0 < b1) (h2 : 0 < b2) : 0 < b1 * b2 := Int.mul_pos h1 h2
theorem den_ok {t b1 b2 : Int} (h1 : 0 < b1) (h2 : 0 < b2) (s1 : b1.natAbs < 2 ^ 2000) (s2 : b2.natAbs < 2 ^ 2000) : LowOk t (b1 * b2) :=
  lowOk_pos (den_pos h1 h2) (Nat.lt_trans (mul_lt s1 s2 (c := 4000)) (Nat.pow_lt_pow_right (by decide) (by decide)))
theorem isTy_int {d : PyData} {t b : Int} (r : Rt d t b) : isTy d "int" = decide (b = 1) := by
  rcases r.cases with ⟨rfl, rfl⟩ | ⟨rfl, h⟩
  · rfl
  · have : ¬ b = 1 := by omega
    simp [isTy, tyName, this]
abbrev sadded : Stmt := top 27
theorem scadded : FnScope ["one", "other", "top", "bottom", "high", "low"] ["one", "other"] (defScope sadded) := ⟨rfl, rfl, rfl, by decide +kernel, rfl, by decide +kernel, by decide +kernel⟩

theorem ok_added (F : FnP K "added" sadded f fd) (g_int : mg "int" = none) (g_isinstance : mg "isinstance" = none) (p_pair : PrG P w K mg base "pair" 1 ["number"] (spDt K 1 RPair)) (p_in_lowest : PrG P w K mg base "in_lowest" 1 ["top", "bottom"] (spDt K 2 RLow)) :
    FnG P w K mg base (L2.CX P w) 2 f fd ["one", "other"] (spDt K 2 (RBin addN anyP)) := by
  refine okG F scadded (fun vs H Q E h => h.1) (fun cdv B outer s H vs Q E hr h => ?_)
  have nd := scadded.nd
  refine ⟨_, (pss_cons (ps_if (PW.pt (pw_and (pt_val (pe_callB call_isD (by rfl) g_isinstance (by rfl) (pa_cons (pv 0) (pa_cons (pe_bltn (by rfl) g_int rfl relTy) pa_nil)))) (pw_and1 (pt_val (pe_callB call_isD (by rfl) g_isinstance (by rfl) (pa_cons (pv 1) (pa_cons (pe_bltn (by rfl) g_int rfl relTy) pa_nil))))))) (pss_one (ps_ret (pe_op opAdd (pv 0) (pv 1)))) pss_nil)
  (pss_cons (ps_asg (pe_tup (pa_cons (pe_callP p_pair (hr.mono (by decide)) (by rfl) (fun σ => passAt (takes_of rfl rfl rfl rfl) σ) (pa_cons (pv 0) pa_nil)) (pa_cons (pe_callP p_pair (hr.mono (by decide)) (by rfl) (fun σ => passAt (takes_of rfl rfl rfl rfl) σ) (pa_cons (pv 1) pa_nil)) pa_nil))) (pg_tup rfl (pgs_cons (pg_tup rfl (pgs_cons (pg_name (i := 2) nd rfl (.inl rfl)) (pgs_cons (pg_name (i := 3) nd rfl (.inl rfl)) pgs_nil))) (pgs_cons (pg_tup rfl (pgs_cons (pg_name (i := 4) nd rfl (.inl rfl)) (pgs_cons (pg_name (i := 5) nd rfl (.inl rfl)) pgs_nil))) pgs_nil))))
  (pss_one (ps_ret (pe_callP p_in_lowest (hr.mono (by decide)) (by rfl) (fun σ => passAt (takes_of rfl rfl rfl rfl) σ) (pa_cons (pe_op opAdd (pe_op opMul (pv 2) (pv 5)) (pe_op opMul (pv 4) (pv 3))) (pa_cons (pe_op opMul (pv 3) (pv 5)) pa_nil))))))), ?_⟩
  obtain ⟨hl, ds, d, hd, ⟨d1, t1, b1, d2, t2, b2, rfl, r1, r2, z1, z2, _, rfl⟩, q⟩ := h
  match vs, hl with
  | [v, u], _ =>
  obtain ⟨e1, e2, ee, hv, hu⟩ := dtAll_two hd
  injection ee with ee1 ee2
  injection ee2 with ee2 _
  subst ee1 ee2
  have rest : ∀ σ : L2.St, σ[0]? = some (some v) → σ[1]? = some (some u) → σ.length = 6 → True := fun _ _ _ _ => trivial
  refine seq_rest (fun σ H' => H' = H ∧ σ = [some v, some u, none, none, none, none]) ?_ fun rest => ?_
  · rintro σ H' ⟨rfl, rfl⟩
    refine ⟨_, rfl, rfl, [d1], _, dtAll1 hv, ⟨d1, t1, b1, rfl, r1, rfl⟩, fun p1 H1 s1 hp1 => ?_⟩
    refine ⟨_, rfl, rfl, [d2], _, dtAll1 (hu.mono s1), ⟨d2, t2, b2, rfl, r2, rfl⟩, fun p2 H2 s2 hp2 => ?_⟩
    refine ⟨by show (2 : Nat) ≤ sizeLine; decide, fun p hp => ?_⟩
    obtain ⟨a1, x1, y1, rfl, hs1, hx1, hy1⟩ := dt_pair_inv (hp1.mono (s2.trans (same_new (o := .tup [p1, p2]) hp)))
    obtain ⟨a2, x2, y2, rfl, hs2, hx2, hy2⟩ := dt_pair_inv (hp2.mono (same_new (o := .tup [V.ref a1, p2]) hp))
    obtain rfl := dt_int_inv hx1
    obtain rfl := dt_int_inv hy1
    obtain rfl := dt_int_inv hx2
    obtain rfl := dt_int_inv hy2
    refine ⟨p, _, rfl, .inl (.inl upd_same), rfl, ?_⟩
    refine ⟨_, _, rfl, ⟨a1, _, rfl, hs1, rfl, ?_⟩⟩
    refine ⟨_, _, rfl, _, _, rfl, rfl, ?_⟩
    refine ⟨_, _, rfl, ⟨a2, _, rfl, hs2, rfl, ?_⟩⟩
    refine ⟨_, _, rfl, _, _, rfl, rfl, rfl, ?_⟩
    refine ⟨_, rfl, _, rfl, .inr (.inl ⟨_, _, rfl, rfl, mulW z1.t z2.b, ?_⟩)⟩
    refine ⟨_, rfl, _, rfl, .inr (.inl ⟨_, _, rfl, rfl, mulW z2.t z1.b, ?_⟩)⟩
    refine .inl ⟨_, _, rfl, rfl, ?_⟩
    refine ⟨_, rfl, _, rfl, .inr (.inl ⟨_, _, rfl, rfl, mulW z1.b z2.b, ?_⟩)⟩
    refine ⟨rfl, _, _, dtAll2 dt_int dt_int, ⟨_, _, rfl, den_ok r1.b0 r2.b0 z1.b z2.b, rfl⟩, fun v' H' sm hv' => ?_⟩
    exact q v' H' ((s1.trans s2).trans ((same_new hp).trans sm)) hv'
  · have fin : (b1 = 1 ∧ b2 = 1) → ∃ i j, v = .int i ∧ u = .int j ∧ i = t1 ∧ j = t2 := fun ⟨h1, h2⟩ => by
      rcases r1.cases with ⟨rfl, _⟩ | ⟨_, z⟩
      · rcases r2.cases with ⟨rfl, _⟩ | ⟨_, z⟩
        · exact ⟨_, _, dt_int_inv hv, dt_int_inv hu, rfl, rfl⟩
        · omega
      · omega
    refine ⟨_, rfl, v, "int", _, rfl, hv, by simp, _, rfl, ?_⟩
    rw [isTy_int r1]
    refine iteB (fun h1 => ?_) fun h1 => rest _ _ ⟨rfl, rfl⟩
    refine ⟨_, rfl, u, "int", _, rfl, hu, by simp, _, rfl, ?_⟩
    rw [isTy_int r2]
    refine iteB (fun h2 => ?_) fun h2 => rest _ _ ⟨rfl, rfl⟩
    have h1' : b1 = 1 := by simpa using h1
    have h2' : b2 = 1 := by simpa using h2
    obtain ⟨i, j, rfl, rfl, rfl, rfl⟩ := fin ⟨h1', h2'⟩
    refine ⟨_, rfl, _, rfl, .inl ⟨_, _, rfl, rfl, q _ _ (Same.refl _) ?_⟩⟩
    subst h1' h2'
    have e : numD (addN (i, 1) (j, 1)) = .int (i + j) := by
      unfold addN
      simp only [Int.mul_one]
      rw [low_ints, numD_int]
    rw [e]; exact dt_int
abbrev smultiplied : Stmt := top 31
theorem scmultiplied : FnScope ["one", "other", "top", "bottom", "high", "low"] ["one", "other"] (defScope smultiplied) := ⟨rfl, rfl, rfl, by decide +kernel, rfl, by decide +kernel, by decide +kernel⟩

theorem ok_multiplied (F : FnP K "multiplied" smultiplied f fd) (g_int : mg "int" = none) (g_isinstance : mg "isinstance" = none) (p_pair : PrG P w K mg base "pair" 1 ["number"] (spDt K 1 RPair)) (p_in_lowest : PrG P w K mg base "in_lowest" 1 ["top", "bottom"] (spDt K 2 RLow)) :
    FnG P w K mg base (L2.CX P w) 2 f fd ["one", "other"] (spDt K 2 (RBin mulN anyP)) := by
  refine okG F scmultiplied (fun vs H Q E h => h.1) (fun cdv B outer s H vs Q E hr h => ?_)
  have nd := scmultiplied.nd
  refine ⟨_, (pss_cons (ps_if (PW.pt (pw_and (pt_val (pe_callB call_isD (by rfl) g_isinstance (by rfl) (pa_cons (pv 0) (pa_cons (pe_bltn (by rfl) g_int rfl relTy) pa_nil)))) (pw_and1 (pt_val (pe_callB call_isD (by rfl) g_isinstance (by rfl) (pa_cons (pv 1) (pa_cons (pe_bltn (by rfl) g_int rfl relTy) pa_nil))))))) (pss_one (ps_ret (pe_op opMul (pv 0) (pv 1)))) pss_nil)
  (pss_cons (ps_asg (pe_tup (pa_cons (pe_callP p_pair (hr.mono (by decide)) (by rfl) (fun σ => passAt (takes_of rfl rfl rfl rfl) σ) (pa_cons (pv 0) pa_nil)) (pa_cons (pe_callP p_pair (hr.mono (by decide)) (by rfl) (fun σ => passAt (takes_of rfl rfl rfl rfl) σ) (pa_cons (pv 1) pa_nil)) pa_nil))) (pg_tup rfl (pgs_cons (pg_tup rfl (pgs_cons (pg_name (i := 2) nd rfl (.inl rfl)) (pgs_cons (pg_name (i := 3) nd rfl (.inl rfl)) pgs_nil))) (pgs_cons (pg_tup rfl (pgs_cons (pg_name (i := 4) nd rfl (.inl rfl)) (pgs_cons (pg_name (i := 5) nd rfl (.inl rfl)) pgs_nil))) pgs_nil))))
  (pss_one (ps_ret (pe_callP p_in_lowest (hr.mono (by decide)) (by rfl) (fun σ => passAt (takes_of rfl rfl rfl rfl) σ) (pa_cons (pe_op opMul (pv 2) (pv 4)) (pa_cons (pe_op opMul (pv 3) (pv 5)) pa_nil))))))), ?_⟩
  obtain ⟨hl, ds, d, hd, ⟨d1, t1, b1, d2, t2, b2, rfl, r1, r2, z1, z2, _, rfl⟩, q⟩ := h
  match vs, hl with
  | [v, u], _ =>
  obtain ⟨e1, e2, ee, hv, hu⟩ := dtAll_two hd
  injection ee with ee1 ee2
  injection ee2 with ee2 _
  subst ee1 ee2
  refine seq_rest (fun σ H' => H' = H ∧ σ = [some v, some u, none, none, none, none]) ?_ fun rest => ?_
  · rintro σ H' ⟨rfl, rfl⟩
    refine ⟨_, rfl, rfl, [d1], _, dtAll1 hv, ⟨d1, t1, b1, rfl, r1, rfl⟩, fun p1 H1 s1 hp1 => ?_⟩
    refine ⟨_, rfl, rfl, [d2], _, dtAll1 (hu.mono s1), ⟨d2, t2, b2, rfl, r2, rfl⟩, fun p2 H2 s2 hp2 => ?_⟩
    refine ⟨by show (2 : Nat) ≤ sizeLine; decide, fun p hp => ?_⟩
    obtain ⟨a1, x1, y1, rfl, hs1, hx1, hy1⟩ := dt_pair_inv (hp1.mono (s2.trans (same_new (o := .tup [p1, p2]) hp)))
    obtain ⟨a2, x2, y2, rfl, hs2, hx2, hy2⟩ := dt_pair_inv (hp2.mono (same_new (o := .tup [V.ref a1, p2]) hp))
    obtain rfl := dt_int_inv hx1
    obtain rfl := dt_int_inv hy1
    obtain rfl := dt_int_inv hx2
    obtain rfl := dt_int_inv hy2
    refine ⟨p, _, rfl, .inl (.inl upd_same), rfl, ?_⟩
    refine ⟨_, _, rfl, ⟨a1, _, rfl, hs1, rfl, ?_⟩⟩
    refine ⟨_, _, rfl, _, _, rfl, rfl, ?_⟩
    refine ⟨_, _, rfl, ⟨a2, _, rfl, hs2, rfl, ?_⟩⟩
    refine ⟨_, _, rfl, _, _, rfl, rfl, rfl, ?_⟩
    refine ⟨_, rfl, _, rfl, .inr (.inl ⟨_, _, rfl, rfl, mulW z1.t z2.t, ?_⟩)⟩
    refine ⟨_, rfl, _, rfl, .inr (.inl ⟨_, _, rfl, rfl, mulW z1.b z2.b, ?_⟩)⟩
    refine ⟨rfl, _, _, dtAll2 dt_int dt_int, ⟨_, _, rfl, den_ok r1.b0 r2.b0 z1.b z2.b, rfl⟩, fun v' H' sm hv' => ?_⟩
    exact q v' H' ((s1.trans s2).trans ((same_new hp).trans sm)) hv'
  · have fin : (b1 = 1 ∧ b2 = 1) → ∃ i j, v = .int i ∧ u = .int j ∧ i = t1 ∧ j = t2 := fun ⟨h1, h2⟩ => by
      rcases r1.cases with ⟨rfl, _⟩ | ⟨_, z⟩
      · rcases r2.cases with ⟨rfl, _⟩ | ⟨_, z⟩
        · exact ⟨_, _, dt_int_inv hv, dt_int_inv hu, rfl, rfl⟩
        · omega
      · omega
    refine ⟨_, rfl, v, "int", _, rfl, hv, by simp, _, rfl, ?_⟩
    rw [isTy_int r1]
    refine iteB (fun h1 => ?_) fun h1 => rest _ _ ⟨rfl, rfl⟩
    refine ⟨_, rfl, u, "int", _, rfl, hu, by simp, _, rfl, ?_⟩
    rw [isTy_int r2]
    refine iteB (fun h2 => ?_) fun h2 => rest _ _ ⟨rfl, rfl⟩
    have h1' : b1 = 1 := by simpa using h1
    have h2' : b2 = 1 := by simpa using h2
    obtain ⟨i, j, rfl, rfl, rfl, rfl⟩ := fin ⟨h1', h2'⟩
    refine ⟨_, rfl, _, rfl, .inr (.inl ⟨_, _, rfl, rfl, mulW z1.t z2.t, q _ _ (Same.refl _) ?_⟩)⟩
    subst h1' h2'
    have e : numD (mulN (i, 1) (j, 1)) = .int (i * j) := by
      unfold mulN
      simp only [Int.mul_one]
      rw [low_ints, numD_int]
    rw [e]; exact dt_int
abbrev sdivided : Stmt := top 33
theorem scdivided : FnScope ["one", "other", "top", "bottom", "high", "low"] ["one", "other"] (defScope sdivided) := ⟨rfl, rfl, rfl, by decide +kernel, rfl, by decide +kernel, by decide +kernel⟩

theorem ok_divided (F : FnP K "divided" sdivided f fd) (p_pair : PrG P w K mg base "pair" 1 ["number"] (spDt K 1 RPair)) (p_in_lowest : PrG P w K mg base "in_lowest" 1 ["top", "bottom"] (spDt K 2 RLow)) :
    FnG P w K mg base (L2.CX P w) 2 f fd ["one", "other"] (spDt K 2 (RBin divN fun a b => LowOk (a.1 * b.2) (a.2 * b.1))) := by
  refine okG F scdivided (fun vs H Q E h => h.1) (fun cdv B outer s H vs Q E hr h => ?_)
  have nd := scdivided.nd
  refine ⟨_, (pss_cons (ps_asg (pe_tup (pa_cons (pe_callP p_pair (hr.mono (by decide)) (by rfl) (fun σ => passAt (takes_of rfl rfl rfl rfl) σ) (pa_cons (pv 0) pa_nil)) (pa_cons (pe_callP p_pair (hr.mono (by decide)) (by rfl) (fun σ => passAt (takes_of rfl rfl rfl rfl) σ) (pa_cons (pv 1) pa_nil)) pa_nil))) (pg_tup rfl (pgs_cons (pg_tup rfl (pgs_cons (pg_name (i := 2) nd rfl (.inl rfl)) (pgs_cons (pg_name (i := 3) nd rfl (.inl rfl)) pgs_nil))) (pgs_cons (pg_tup rfl (pgs_cons (pg_name (i := 4) nd rfl (.inl rfl)) (pgs_cons (pg_name (i := 5) nd rfl (.inl rfl)) pgs_nil))) pgs_nil))))
  (pss_one (ps_ret (pe_callP p_in_lowest (hr.mono (by decide)) (by rfl) (fun σ => passAt (takes_of rfl rfl rfl rfl) σ) (pa_cons (pe_op opMul (pv 2) (pv 5)) (pa_cons (pe_op opMul (pv 3) (pv 4)) pa_nil)))))), ?_⟩
  obtain ⟨hl, ds, d, hd, ⟨d1, t1, b1, d2, t2, b2, rfl, r1, r2, z1, z2, ho, rfl⟩, q⟩ := h
  match vs, hl with
  | [v, u], _ =>
  obtain ⟨e1, e2, ee, hv, hu⟩ := dtAll_two hd
  injection ee with ee1 ee2
  injection ee2 with ee2 _
  subst ee1 ee2
  refine ⟨_, rfl, rfl, [d1], _, dtAll1 hv, ⟨d1, t1, b1, rfl, r1, rfl⟩, fun p1 H1 s1 hp1 => ?_⟩
  refine ⟨_, rfl, rfl, [d2], _, dtAll1 (hu.mono s1), ⟨d2, t2, b2, rfl, r2, rfl⟩, fun p2 H2 s2 hp2 => ?_⟩
  refine ⟨by show (2 : Nat) ≤ sizeLine; decide, fun p hp => ?_⟩
  obtain ⟨a1, x1, y1, rfl, hs1, hx1, hy1⟩ := dt_pair_inv (hp1.mono (s2.trans (same_new (o := .tup [p1, p2]) hp)))
  obtain ⟨a2, x2, y2, rfl, hs2, hx2, hy2⟩ := dt_pair_inv (hp2.mono (same_new (o := .tup [V.ref a1, p2]) hp))
  obtain rfl := dt_int_inv hx1
  obtain rfl := dt_int_inv hy1
  obtain rfl := dt_int_inv hx2
  obtain rfl := dt_int_inv hy2
  refine ⟨p, _, rfl, .inl (.inl upd_same), rfl, ?_⟩
  refine ⟨_, _, rfl, ⟨a1, _, rfl, hs1, rfl, ?_⟩⟩
  refine ⟨_, _, rfl, _, _, rfl, rfl, ?_⟩
  refine ⟨_, _, rfl, ⟨a2, _, rfl, hs2, rfl, ?_⟩⟩
  refine ⟨_, _, rfl, _, _, rfl, rfl, rfl, ?_⟩
  refine ⟨_, rfl, _, rfl, .inr (.inl ⟨_, _, rfl, rfl, mulW z1.t z2.b, ?_⟩)⟩
  refine ⟨_, rfl, _, rfl, .inr (.inl ⟨_, _, rfl, rfl, mulW z1.b z2.t, ?_⟩)⟩
  refine ⟨rfl, _, _, dtAll2 dt_int dt_int, ⟨_, _, rfl, ho, rfl⟩, fun v' H' sm hv' => ?_⟩
  exact q v' H' ((s1.trans s2).trans ((same_new hp).trans sm)) hv'
abbrev sis_below : Stmt := top 37
theorem scis_below : FnScope ["one", "other", "top", "bottom", "high", "low"] ["one", "other"] (defScope sis_below) := ⟨rfl, rfl, rfl, by decide +kernel, rfl, by decide +kernel, by decide +kernel⟩

theorem ok_is_below (F : FnP K "is_below" sis_below f fd) (p_pair : PrG P w K mg base "pair" 1 ["number"] (spDt K 1 RPair)) :
    FnG P w K mg base (L2.CX P w) 2 f fd ["one", "other"] (spDt K 2 fun ds d => ∃ d1 t1 b1 d2 t2 b2, ds = [d1, d2] ∧ Rt d1 t1 b1 ∧ Rt d2 t2 b2 ∧ Sz t1 b1 ∧ Sz t2 b2 ∧ d = .bool (decide (t1 * b2 < t2 * b1))) := by
  refine okG F scis_below (fun vs H Q E h => h.1) (fun cdv B outer s H vs Q E hr h => ?_)
  have nd := scis_below.nd
  refine ⟨_, (pss_cons (ps_asg (pe_tup (pa_cons (pe_callP p_pair (hr.mono (by decide)) (by rfl) (fun σ => passAt (takes_of rfl rfl rfl rfl) σ) (pa_cons (pv 0) pa_nil)) (pa_cons (pe_callP p_pair (hr.mono (by decide)) (by rfl) (fun σ => passAt (takes_of rfl rfl rfl rfl) σ) (pa_cons (pv 1) pa_nil)) pa_nil))) (pg_tup rfl (pgs_cons (pg_tup rfl (pgs_cons (pg_name (i := 2) nd rfl (.inl rfl)) (pgs_cons (pg_name (i := 3) nd rfl (.inl rfl)) pgs_nil))) (pgs_cons (pg_tup rfl (pgs_cons (pg_name (i := 4) nd rfl (.inl rfl)) (pgs_cons (pg_name (i := 5) nd rfl (.inl rfl)) pgs_nil))) pgs_nil))))
  (pss_one (ps_ret (pe_cmpR op_lt (pe_op opMul (pv 2) (pv 5)) (pe_op opMul (pv 4) (pv 3)) (nomark _))))), ?_⟩
  obtain ⟨hl, ds, d, hd, ⟨d1, t1, b1, d2, t2, b2, rfl, r1, r2, z1, z2, rfl⟩, q⟩ := h
  match vs, hl with
  | [v, u], _ =>
  obtain ⟨e1, e2, ee, hv, hu⟩ := dtAll_two hd
  injection ee with ee1 ee2
  injection ee2 with ee2 _
  subst ee1 ee2
  refine ⟨_, rfl, rfl, [d1], _, dtAll1 hv, ⟨d1, t1, b1, rfl, r1, rfl⟩, fun p1 H1 s1 hp1 => ?_⟩
  refine ⟨_, rfl, rfl, [d2], _, dtAll1 (hu.mono s1), ⟨d2, t2, b2, rfl, r2, rfl⟩, fun p2 H2 s2 hp2 => ?_⟩
  refine ⟨by show (2 : Nat) ≤ sizeLine; decide, fun p hp => ?_⟩
  obtain ⟨a1, x1, y1, rfl, hs1, hx1, hy1⟩ := dt_pair_inv (hp1.mono (s2.trans (same_new (o := .tup [p1, p2]) hp)))
  obtain ⟨a2, x2, y2, rfl, hs2, hx2, hy2⟩ := dt_pair_inv (hp2.mono (same_new (o := .tup [V.ref a1, p2]) hp))
  obtain rfl := dt_int_inv hx1
  obtain rfl := dt_int_inv hy1
  obtain rfl := dt_int_inv hx2
  obtain rfl := dt_int_inv hy2
  refine ⟨p, _, rfl, .inl (.inl upd_same), rfl, ?_⟩
  refine ⟨_, _, rfl, ⟨a1, _, rfl, hs1, rfl, ?_⟩⟩
  refine ⟨_, _, rfl, _, _, rfl, rfl, ?_⟩
  refine ⟨_, _, rfl, ⟨a2, _, rfl, hs2, rfl, ?_⟩⟩
  refine ⟨_, _, rfl, _, _, rfl, rfl, rfl, ?_⟩
  refine ⟨_, rfl, _, rfl, .inr (.inl ⟨_, _, rfl, rfl, mulW z1.t z2.b, ?_⟩)⟩
  refine ⟨_, rfl, _, rfl, .inr (.inl ⟨_, _, rfl, rfl, mulW z2.t z1.b, ?_⟩)⟩
  exact ⟨_, _, rfl, rfl, q _ _ ((s1.trans s2).trans (same_new hp)) dt_bool⟩
end
end L02
namespace L02
open PySem PySem.Spec PyProof.Rows L2 Fp
section
variable {P : Program} {w : World} {K : PySem.W.Frag} {mg : Str → Option Value} {base : Heap} {f : Addr} {fd : FuncData}
abbrev RIsR : List PyData → PyData → Prop := fun ds d => ∃ e, ds = [e] ∧ d = .bool (isRatioD e)
/-- the errors of two ratios, in their order -/
def ErrTwo (K : PySem.W.Frag) (H : Hp) (E : XK) (d1 d2 : PyData) (v u : V) (ok : Prop) : Prop := (isRatioD d1 = false → ErrN K H E "one" v) ∧ (isRatioD d1 = true → isRatioD d2 = false → ErrN K H E "other" u) ∧ (isRatioD d1 = true → isRatioD d2 = true → ok)
theorem ErrN.mono {H H' : Hp} {E : XK} {what : Str} {v : V} (h : ErrN K H E what v) (s : Same H H') : ErrN K H' E what v := fun d H2 s2 n e => h d H2 (s.trans s2) (s.free n) e
abbrev sneed_ratios : Stmt := top 25
theorem scneed_ratios : FnScope ["one", "other"] ["one", "other"] (defScope sneed_ratios) := ⟨rfl, rfl, rfl, by decide +kernel, rfl, by decide +kernel, by decide +kernel⟩

def spNeed (K : PySem.W.Frag) : Sp := fun vs H Q E => ∃ v u d1 d2, vs = [v, u] ∧ Dt K H d1 v ∧ Dt K H d2 u ∧ ErrTwo K H E d1 d2 v u (∀ H', Same H H' → Q .non H')
theorem ok_need_ratios (F : FnP K "need_ratios" sneed_ratios f fd) (A : Errs P w K mg base) (p_is_ratio : PrG P w K mg base "is_ratio" 2 ["value"] (spDt K 1 RIsR)) :
    FnG P w K mg base (L2.CX P w) 3 f fd ["one", "other"] (spNeed K) := by
  refine okG F scneed_ratios (fun vs H Q E h => ?_) (fun cdv B outer s H vs Q E hr h => ?_)
  · obtain ⟨v, u, d1, d2, rfl, _⟩ := h
    rfl
  have nd := scneed_ratios.nd
  have e_BadNumber : ErrI P w K mg base "BadNumber" _ _ := A.e 0 (by decide)
  refine ⟨_, (pss_cons (ps_if (pt_not (pt_val (pe_callP p_is_ratio (hr.mono (by decide)) (by rfl) (fun σ => passAt (takes_of rfl rfl rfl rfl) σ) (pa_cons (pv 0) pa_nil)))) (pss_one (ps_raise rfl (takes_of rfl rfl rfl rfl) (mk_err e_BadNumber (by decide) (hr.mono (by decide)) (by rfl) (pa_cons pe_str (pa_cons (pv 0) pa_nil))))) pss_nil)
  (pss_one (ps_if (pt_not (pt_val (pe_callP p_is_ratio (hr.mono (by decide)) (by rfl) (fun σ => passAt (takes_of rfl rfl rfl rfl) σ) (pa_cons (pv 1) pa_nil)))) (pss_one (ps_raise rfl (takes_of rfl rfl rfl rfl) (mk_err e_BadNumber (by decide) (hr.mono (by decide)) (by rfl) (pa_cons pe_str (pa_cons (pv 1) pa_nil))))) pss_nil))), ?_⟩
  obtain ⟨v, u, d1, d2, rfl, hv, hu, h1, h2, h3⟩ := h
  refine ⟨_, rfl, rfl, [d1], _, dtAll1 hv, ⟨d1, rfl, rfl⟩, fun p1 H1 s1 hp1 => ?_⟩
  obtain rfl := dt_bool_inv hp1
  refine ⟨_, rfl, iteB (fun hb => ?_) fun hb => ?_⟩
  · have hb' : isRatioD d1 = false := by simpa using hb
    refine ⟨_, rfl, rfl, fun d H3 s3 n e => ?_⟩
    exact h1 hb' d H3 (s1.trans s3) (s1.free n) e
  · have hb' : isRatioD d1 = true := by simpa using hb
    refine ⟨_, rfl, rfl, [d2], _, dtAll1 (hu.mono s1), ⟨d2, rfl, rfl⟩, fun p2 H2 s2 hp2 => ?_⟩
    obtain rfl := dt_bool_inv hp2
    refine ⟨_, rfl, iteB (fun hc => ?_) fun hc => ?_⟩
    · have hc' : isRatioD d2 = false := by simpa using hc
      refine ⟨_, rfl, rfl, fun d H3 s3 n e => ?_⟩
      exact h2 hb' hc' d H3 ((s1.trans s2).trans s3) ((s1.trans s2).free n) e
    · have hc' : isRatioD d2 = true := by simpa using hc
      exact h3 hb' hc' H2 (s1.trans s2)
/-- what the four ways of reckoning do -/
def spReck (K : PySem.W.Frag) (ok : Hp → (PyData → Hp → Prop) → XK → V → Int × Int → Int × Int → Prop) : Sp := fun vs H Q E => ∃ v u d1 d2, vs = [v, u] ∧ Dt K H d1 v ∧ Dt K H d2 u ∧ ErrTwo K H E d1 d2 v u (∃ t1 b1 t2 b2, Rt d1 t1 b1 ∧ Rt d2 t2 b2 ∧ Sz t1 b1 ∧ Sz t2 b2 ∧
  ok H (fun d H' => ∀ v, Dt K H' d v → Q v H') E u (t1, b1) (t2, b2))
abbrev okOp (op : Int × Int → Int × Int → Int × Int) : Hp → (PyData → Hp → Prop) → XK → V → Int × Int → Int × Int → Prop := fun H R _ _ a b => ∀ H', Same H H' → R (numD (op a b)) H'
abbrev splus : Stmt := top 26
theorem scplus : FnScope ["one", "other"] ["one", "other"] (defScope splus) := ⟨rfl, rfl, rfl, by decide +kernel, rfl, by decide +kernel, by decide +kernel⟩

theorem ok_plus (F : FnP K "plus" splus f fd) (p_need_ratios : PrG P w K mg base "need_ratios" 3 ["one", "other"] (spNeed K)) (p_added : PrG P w K mg base "added" 2 ["one", "other"] (spDt K 2 (RBin addN anyP))) :
    FnG P w K mg base (L2.CX P w) 4 f fd ["one", "other"] (spReck K (okOp addN)) := by
  refine okG F scplus (fun vs H Q E h => ?_) (fun cdv B outer s H vs Q E hr h => ?_)
  · obtain ⟨v, u, d1, d2, rfl, _⟩ := h
    rfl
  have nd := scplus.nd
  refine ⟨_, (pss_cons (ps_expr (pe_callP p_need_ratios (hr.mono (by decide)) (by rfl) (fun σ => passAt (takes_of rfl rfl rfl rfl) σ) (pa_cons (pv 0) (pa_cons (pv 1) pa_nil))))
  (pss_one (ps_ret (pe_callP p_added (hr.mono (by decide)) (by rfl) (fun σ => passAt (takes_of rfl rfl rfl rfl) σ) (pa_cons (pv 0) (pa_cons (pv 1) pa_nil)))))), ?_⟩
  obtain ⟨v, u, d1, d2, rfl, hv, hu, h1, h2, h3⟩ := h
  refine ⟨_, rfl, _, rfl, v, u, d1, d2, rfl, hv, hu, h1, h2, fun a b H1 s1 => ?_⟩
  obtain ⟨t1, b1, t2, b2, r1, r2, z1, z2, q⟩ := h3 a b
  refine ⟨_, rfl, _, rfl, rfl, [d1, d2], _, dtAll2 (hv.mono s1) (hu.mono s1), ⟨d1, t1, b1, d2, t2, b2, rfl, r1, r2, z1, z2, trivial, rfl⟩, fun v' H' sm hv' => ?_⟩
  exact q H' (s1.trans sm) v' hv'
abbrev sminus : Stmt := top 28
theorem scminus : FnScope ["one", "other"] ["one", "other"] (defScope sminus) := ⟨rfl, rfl, rfl, by decide +kernel, rfl, by decide +kernel, by decide +kernel⟩

theorem ok_minus (F : FnP K "minus" sminus f fd) (p_need_ratios : PrG P w K mg base "need_ratios" 3 ["one", "other"] (spNeed K)) (p_added : PrG P w K mg base "added" 2 ["one", "other"] (spDt K 2 (RBin addN anyP))) (p_opposite : PrG P w K mg base "opposite" 1 ["number"] (spDt K 1 fun ds d => ∃ e t b, ds = [e] ∧ Rt e t b ∧ d = numD (-t, b))) :
    FnG P w K mg base (L2.CX P w) 4 f fd ["one", "other"] (spReck K (okOp fun a b => addN a (-b.1, b.2))) := by
  refine okG F scminus (fun vs H Q E h => ?_) (fun cdv B outer s H vs Q E hr h => ?_)
  · obtain ⟨v, u, d1, d2, rfl, _⟩ := h
    rfl
  have nd := scminus.nd
  refine ⟨_, (pss_cons (ps_expr (pe_callP p_need_ratios (hr.mono (by decide)) (by rfl) (fun σ => passAt (takes_of rfl rfl rfl rfl) σ) (pa_cons (pv 0) (pa_cons (pv 1) pa_nil))))
  (pss_one (ps_ret (pe_callP p_added (hr.mono (by decide)) (by rfl) (fun σ => passAt (takes_of rfl rfl rfl rfl) σ) (pa_cons (pv 0) (pa_cons (pe_callP p_opposite (hr.mono (by decide)) (by rfl) (fun σ => passAt (takes_of rfl rfl rfl rfl) σ) (pa_cons (pv 1) pa_nil)) pa_nil)))))), ?_⟩
  obtain ⟨v, u, d1, d2, rfl, hv, hu, h1, h2, h3⟩ := h
  refine ⟨_, rfl, _, rfl, v, u, d1, d2, rfl, hv, hu, h1, h2, fun a b H1 s1 => ?_⟩
  obtain ⟨t1, b1, t2, b2, r1, r2, z1, z2, q⟩ := h3 a b
  refine ⟨_, rfl, _, rfl, rfl, [d2], _, dtAll1 (hu.mono s1), ⟨d2, t2, b2, rfl, r2, rfl⟩, fun w' H2 s2 hw => ?_⟩
  have r3 : Rt (numD (-t2, b2)) (-t2) b2 := ⟨rfl, r2.b0, by rw [Int.natAbs_neg]; exact r2.g⟩
  refine ⟨rfl, [d1, _], _, dtAll2 ((hv.mono s1).mono s2) hw, ⟨d1, t1, b1, _, -t2, b2, rfl, r1, r3, z1, ⟨by rw [Int.natAbs_neg]; exact z2.t, z2.b⟩, trivial, rfl⟩, fun v' H' sm hv' => ?_⟩
  exact q H' ((s1.trans s2).trans sm) v' hv'
abbrev stimes : Stmt := top 30
theorem sctimes : FnScope ["one", "other"] ["one", "other"] (defScope stimes) := ⟨rfl, rfl, rfl, by decide +kernel, rfl, by decide +kernel, by decide +kernel⟩

theorem ok_times (F : FnP K "times" stimes f fd) (p_need_ratios : PrG P w K mg base "need_ratios" 3 ["one", "other"] (spNeed K)) (p_multiplied : PrG P w K mg base "multiplied" 2 ["one", "other"] (spDt K 2 (RBin mulN anyP))) :
    FnG P w K mg base (L2.CX P w) 4 f fd ["one", "other"] (spReck K (okOp mulN)) := by
  refine okG F sctimes (fun vs H Q E h => ?_) (fun cdv B outer s H vs Q E hr h => ?_)
  · obtain ⟨v, u, d1, d2, rfl, _⟩ := h
    rfl
  have nd := sctimes.nd
  refine ⟨_, (pss_cons (ps_expr (pe_callP p_need_ratios (hr.mono (by decide)) (by rfl) (fun σ => passAt (takes_of rfl rfl rfl rfl) σ) (pa_cons (pv 0) (pa_cons (pv 1) pa_nil))))
  (pss_one (ps_ret (pe_callP p_multiplied (hr.mono (by decide)) (by rfl) (fun σ => passAt (takes_of rfl rfl rfl rfl) σ) (pa_cons (pv 0) (pa_cons (pv 1) pa_nil)))))), ?_⟩
  obtain ⟨v, u, d1, d2, rfl, hv, hu, h1, h2, h3⟩ := h
  refine ⟨_, rfl, _, rfl, v, u, d1, d2, rfl, hv, hu, h1, h2, fun a b H1 s1 => ?_⟩
  obtain ⟨t1, b1, t2, b2, r1, r2, z1, z2, q⟩ := h3 a b
  refine ⟨_, rfl, _, rfl, rfl, [d1, d2], _, dtAll2 (hv.mono s1) (hu.mono s1), ⟨d1, t1, b1, d2, t2, b2, rfl, r1, r2, z1, z2, trivial, rfl⟩, fun v' H' sm hv' => ?_⟩
  exact q H' (s1.trans sm) v' hv'
abbrev sbelow : Stmt := top 36
theorem scbelow : FnScope ["one", "other"] ["one", "other"] (defScope sbelow) := ⟨rfl, rfl, rfl, by decide +kernel, rfl, by decide +kernel, by decide +kernel⟩

theorem ok_below (F : FnP K "below" sbelow f fd) (p_need_ratios : PrG P w K mg base "need_ratios" 3 ["one", "other"] (spNeed K)) (p_is_below : PrG P w K mg base "is_below" 2 ["one", "other"] (spDt K 2 fun ds d => ∃ d1 t1 b1 d2 t2 b2, ds = [d1, d2] ∧ Rt d1 t1 b1 ∧ Rt d2 t2 b2 ∧ Sz t1 b1 ∧ Sz t2 b2 ∧ d = .bool (decide (t1 * b2 < t2 * b1)))) :
    FnG P w K mg base (L2.CX P w) 4 f fd ["one", "other"] (spReck K fun H R _ _ a b => ∀ H', Same H H' → R (.bool (decide (a.1 * b.2 < b.1 * a.2))) H') := by
  refine okG F scbelow (fun vs H Q E h => ?_) (fun cdv B outer s H vs Q E hr h => ?_)
  · obtain ⟨v, u, d1, d2, rfl, _⟩ := h
    rfl
  have nd := scbelow.nd
  refine ⟨_, (pss_cons (ps_expr (pe_callP p_need_ratios (hr.mono (by decide)) (by rfl) (fun σ => passAt (takes_of rfl rfl rfl rfl) σ) (pa_cons (pv 0) (pa_cons (pv 1) pa_nil))))
  (pss_one (ps_ret (pe_callP p_is_below (hr.mono (by decide)) (by rfl) (fun σ => passAt (takes_of rfl rfl rfl rfl) σ) (pa_cons (pv 0) (pa_cons (pv 1) pa_nil)))))), ?_⟩
  obtain ⟨v, u, d1, d2, rfl, hv, hu, h1, h2, h3⟩ := h
  refine ⟨_, rfl, _, rfl, v, u, d1, d2, rfl, hv, hu, h1, h2, fun a b H1 s1 => ?_⟩
  obtain ⟨t1, b1, t2, b2, r1, r2, z1, z2, q⟩ := h3 a b
  refine ⟨_, rfl, _, rfl, rfl, [d1, d2], _, dtAll2 (hv.mono s1) (hu.mono s1), ⟨d1, t1, b1, d2, t2, b2, rfl, r1, r2, z1, z2, rfl⟩, fun v' H' sm hv' => ?_⟩
  exact q H' (s1.trans sm) v' hv'
abbrev sover : Stmt := top 32
theorem scover : FnScope ["one", "other"] ["one", "other"] (defScope sover) := ⟨rfl, rfl, rfl, by decide +kernel, rfl, by decide +kernel, by decide +kernel⟩

theorem eqOk_rt {d : PyData} {t b : Int} (r : Rt d t b) : EqOk d = true := by
  rcases r.cases with ⟨rfl, _⟩ | ⟨rfl, _⟩ <;> rfl
theorem eqv_zero {d : PyData} {t b : Int} (r : Rt d t b) : PyData.eqv d (.int 0) = decide (t = 0) := by
  rcases r.cases with ⟨rfl, _⟩ | ⟨rfl, h⟩
  · simp only [PyData.eqv]
    rfl
  · have : ¬ t = 0 := fun z => by
      have g := r.g
      rw [z] at g
      simp at g
      omega
    simp [PyData.eqv, this]
theorem ok_over (F : FnP K "over" sover f fd) (A : Errs P w K mg base) (p_need_ratios : PrG P w K mg base "need_ratios" 3 ["one", "other"] (spNeed K)) (p_divided : PrG P w K mg base "divided" 2 ["one", "other"] (spDt K 2 (RBin divN fun a b => LowOk (a.1 * b.2) (a.2 * b.1)))) :
    FnG P w K mg base (L2.CX P w) 4 f fd ["one", "other"] (spReck K fun H R E u a b => (b.1 = 0 → ErrN K H E "other" u) ∧ (b.1 ≠ 0 → LowOk (a.1 * b.2) (a.2 * b.1) ∧ ∀ H', Same H H' → R (numD (divN a b)) H')) := by
  refine okG F scover (fun vs H Q E h => ?_) (fun cdv B outer s H vs Q E hr h => ?_)
  · obtain ⟨v, u, d1, d2, rfl, _⟩ := h
    rfl
  have nd := scover.nd
  have e_BadNumber : ErrI P w K mg base "BadNumber" _ _ := A.e 0 (by decide)
  refine ⟨_, (pss_cons (ps_expr (pe_callP p_need_ratios (hr.mono (by decide)) (by rfl) (fun σ => passAt (takes_of rfl rfl rfl rfl) σ) (pa_cons (pv 0) (pa_cons (pv 1) pa_nil))))
  (pss_cons (ps_if (pt_cmpR (opEqA hr) (pv 1) pe_int (nomark _)) (pss_one (ps_raise rfl (takes_of rfl rfl rfl rfl) (mk_err e_BadNumber (by decide) (hr.mono (by decide)) (by rfl) (pa_cons pe_str (pa_cons (pv 1) pa_nil))))) pss_nil)
  (pss_one (ps_ret (pe_callP p_divided (hr.mono (by decide)) (by rfl) (fun σ => passAt (takes_of rfl rfl rfl rfl) σ) (pa_cons (pv 0) (pa_cons (pv 1) pa_nil))))))), ?_⟩
  obtain ⟨v, u, d1, d2, rfl, hv, hu, h1, h2, h3⟩ := h
  refine ⟨_, rfl, _, rfl, v, u, d1, d2, rfl, hv, hu, h1, h2, fun a b H1 s1 => ?_⟩
  obtain ⟨t1, b1, t2, b2, r1, r2, z1, z2, q0, q⟩ := h3 a b
  refine ⟨_, rfl, .inr ⟨d2, .int 0, hu.mono s1, dt_int, eqOk_rt r2, rfl, _, rfl, ?_⟩⟩
  rw [eqv_zero r2]
  refine iteB (fun hb => ?_) fun hb => ?_
  · have hb' : t2 = 0 := by simpa using hb
    refine ⟨_, rfl, rfl, fun d H3 s3 n e => ?_⟩
    exact q0 hb' d H3 (s1.trans s3) (s1.free n) e
  · have hb' : t2 ≠ 0 := by simpa using hb
    obtain ⟨ho, q⟩ := q hb'
    refine ⟨_, rfl, _, rfl, rfl, [d1, d2], _, dtAll2 (hv.mono s1) (hu.mono s1), ⟨d1, t1, b1, d2, t2, b2, rfl, r1, r2, z1, z2, ho, rfl⟩, fun v' H' sm hv' => ?_⟩
    exact q H' (s1.trans sm) v' hv'
abbrev ssign : Stmt := top 34
theorem scsign : FnScope ["one"] ["one"] (defScope ssign) := ⟨rfl, rfl, rfl, by decide +kernel, rfl, by decide +kernel, by decide +kernel⟩

def spSign (K : PySem.W.Frag) : Sp := fun vs H Q E => ∃ v d, vs = [v] ∧ Dt K H d v ∧ (isRatioD d = false → ErrN K H E "one" v) ∧ (isRatioD d = true → ∃ t b, Rt d t b ∧ ∀ H', Same H H' → Q (.int t.sign) H')
theorem ok_sign (F : FnP K "sign" ssign f fd) (A : Errs P w K mg base) (p_is_ratio : PrG P w K mg base "is_ratio" 2 ["value"] (spDt K 1 RIsR)) (p_sign_of : PrG P w K mg base "sign_of" 1 ["number"] (spDt K 1 fun ds d => ∃ e t b, ds = [e] ∧ Rt e t b ∧ d = .int t.sign)) :
    FnG P w K mg base (L2.CX P w) 3 f fd ["one"] (spSign K) := by
  refine okG F scsign (fun vs H Q E h => ?_) (fun cdv B outer s H vs Q E hr h => ?_)
  · obtain ⟨v, d, rfl, _⟩ := h
    rfl
  have nd := scsign.nd
  have e_BadNumber : ErrI P w K mg base "BadNumber" _ _ := A.e 0 (by decide)
  refine ⟨_, (pss_cons (ps_if (pt_not (pt_val (pe_callP p_is_ratio (hr.mono (by decide)) (by rfl) (fun σ => passAt (takes_of rfl rfl rfl rfl) σ) (pa_cons (pv 0) pa_nil)))) (pss_one (ps_raise rfl (takes_of rfl rfl rfl rfl) (mk_err e_BadNumber (by decide) (hr.mono (by decide)) (by rfl) (pa_cons pe_str (pa_cons (pv 0) pa_nil))))) pss_nil)
  (pss_one (ps_ret (pe_callP p_sign_of (hr.mono (by decide)) (by rfl) (fun σ => passAt (takes_of rfl rfl rfl rfl) σ) (pa_cons (pv 0) pa_nil))))), ?_⟩
  obtain ⟨v, d, rfl, hv, h1, h2⟩ := h
  refine ⟨_, rfl, rfl, [d], _, dtAll1 hv, ⟨d, rfl, rfl⟩, fun p1 H1 s1 hp1 => ?_⟩
  obtain rfl := dt_bool_inv hp1
  refine ⟨_, rfl, iteB (fun hb => ?_) fun hb => ?_⟩
  · have hb' : isRatioD d = false := by simpa using hb
    refine ⟨_, rfl, rfl, fun dd H3 s3 n e => ?_⟩
    exact h1 hb' dd H3 (s1.trans s3) (s1.free n) e
  · obtain ⟨t, b, r, q⟩ := h2 (by simpa using hb)
    refine ⟨_, rfl, rfl, [d], _, dtAll1 (hv.mono s1), ⟨d, t, b, rfl, r, rfl⟩, fun v' H' sm hv' => ?_⟩
    obtain rfl := dt_int_inv hv'
    exact q H' (s1.trans sm)
abbrev sratio : Stmt := top 24
theorem scratio : FnScope ["top", "bottom"] ["top", "bottom"] (defScope sratio) := ⟨rfl, rfl, rfl, by decide +kernel, rfl, by decide +kernel, by decide +kernel⟩

def spRatio (K : PySem.W.Frag) : Sp := fun vs H Q E => ∃ v u d1 d2, vs = [v, u] ∧ Dt K H d1 v ∧ Dt K H d2 u ∧ (isI d1 = false → ErrN K H E "top" v) ∧ (isI d1 = true → (isI d2 = false ∨ d2 = .int 0) → ErrN K H E "bottom" u) ∧
  (∀ t b, d1 = .int t → d2 = .int b → b ≠ 0 → LowOk t b ∧ ∀ v H', Same H H' → Dt K H' (numD (low t b)) v → Q v H')
theorem ok_ratio (F : FnP K "ratio" sratio f fd) (A : Errs P w K mg base) (p_is_integer : PrG P w K mg base "is_integer" 1 ["value"] (spDt K 1 RIsInt)) (p_in_lowest : PrG P w K mg base "in_lowest" 1 ["top", "bottom"] (spDt K 2 RLow)) :
    FnG P w K mg base (L2.CX P w) 3 f fd ["top", "bottom"] (spRatio K) := by
  refine okG F scratio (fun vs H Q E h => ?_) (fun cdv B outer s H vs Q E hr h => ?_)
  · obtain ⟨v, u, d1, d2, rfl, _⟩ := h
    rfl
  have nd := scratio.nd
  have e_BadNumber : ErrI P w K mg base "BadNumber" _ _ := A.e 0 (by decide)
  refine ⟨_, (pss_cons (ps_if (pt_not (pt_val (pe_callP p_is_integer (hr.mono (by decide)) (by rfl) (fun σ => passAt (takes_of rfl rfl rfl rfl) σ) (pa_cons (pv 0) pa_nil)))) (pss_one (ps_raise rfl (takes_of rfl rfl rfl rfl) (mk_err e_BadNumber (by decide) (hr.mono (by decide)) (by rfl) (pa_cons pe_str (pa_cons (pv 0) pa_nil))))) pss_nil)
  (pss_cons (ps_if (PW.pt (pw_or (pt_not (pt_val (pe_callP p_is_integer (hr.mono (by decide)) (by rfl) (fun σ => passAt (takes_of rfl rfl rfl rfl) σ) (pa_cons (pv 1) pa_nil)))) (pw_or1 (pt_cmpR (opEqA hr) (pv 1) pe_int (nomark _))))) (pss_one (ps_raise rfl (takes_of rfl rfl rfl rfl) (mk_err e_BadNumber (by decide) (hr.mono (by decide)) (by rfl) (pa_cons pe_str (pa_cons (pv 1) pa_nil))))) pss_nil)
  (pss_one (ps_ret (pe_callP p_in_lowest (hr.mono (by decide)) (by rfl) (fun σ => passAt (takes_of rfl rfl rfl rfl) σ) (pa_cons (pv 0) (pa_cons (pv 1) pa_nil))))))), ?_⟩
  obtain ⟨v, u, d1, d2, rfl, hv, hu, h1, h2, h3⟩ := h
  refine ⟨_, rfl, rfl, [d1], _, dtAll1 hv, ⟨d1, rfl, rfl⟩, fun p1 H1 s1 hp1 => ?_⟩
  obtain rfl := dt_bool_inv hp1
  refine ⟨_, rfl, iteB (fun hb => ?_) fun hb => ?_⟩
  · have hb' : isI d1 = false := by simpa using hb
    refine ⟨_, rfl, rfl, fun dd H3 s3 n e => ?_⟩
    exact h1 hb' dd H3 (s1.trans s3) (s1.free n) e
  · have hb' : isI d1 = true := by simpa using hb
    refine ⟨_, rfl, rfl, [d2], _, dtAll1 (hu.mono s1), ⟨d2, rfl, rfl⟩, fun p2 H2 s2 hp2 => ?_⟩
    obtain rfl := dt_bool_inv hp2
    refine ⟨_, rfl, iteB (fun hc => ?_) fun hc => ?_⟩
    · have hc' : isI d2 = false := by simpa using hc
      refine ⟨_, rfl, rfl, fun dd H3 s3 n e => ?_⟩
      exact h2 hb' (.inl hc') dd H3 ((s1.trans s2).trans s3) ((s1.trans s2).free n) e
    · have hc' : isI d2 = true := by simpa using hc
      obtain ⟨t, rfl⟩ : ∃ i, d1 = .int i := by cases d1 <;> first | exact ⟨_, rfl⟩ | (simp [isI] at hb')
      obtain ⟨b, rfl⟩ : ∃ i, d2 = .int i := by cases d2 <;> first | exact ⟨_, rfl⟩ | (simp [isI] at hc')
      obtain rfl := dt_int_inv hv
      obtain rfl := dt_int_inv hu
      refine ⟨_, rfl, .inl ⟨rfl, _, rfl, iteB (fun he => ?_) fun he => ?_⟩⟩
      · have he' : b = 0 := by simpa using he
        refine ⟨_, rfl, rfl, fun dd H3 s3 n e => ?_⟩
        exact h2 hb' (.inr (by rw [he'])) dd H3 ((s1.trans s2).trans s3) ((s1.trans s2).free n) e
      · have he' : b ≠ 0 := by simpa using he
        obtain ⟨ho, q⟩ := h3 t b rfl rfl he'
        refine ⟨_, rfl, _, rfl, rfl, _, _, dtAll2 dt_int dt_int, ⟨t, b, rfl, ho, rfl⟩, fun v' H' sm hv' => ?_⟩
        exact q v' H' ((s1.trans s2).trans sm) hv'
end
end L02
namespace L02
open PySem PySem.Spec PyProof.Rows L2 Fp RZ
/-- small ratios, one by one -/
structure RtAll (ds : List PyData) (rs : List (Int × Int)) : Prop where
  len : ds.length = rs.length
  at_ : ∀ (j : Nat) (d : PyData), ds[j]? = some d → ∃ r, rs[j]? = some r ∧ Rt d r.1 r.2 ∧ r.1.natAbs < 2 ^ 20 ∧ r.2.natAbs < 2 ^ 20
/-- the sum of the products so far, over one bottom -/
def dotT (rs qs : List (Int × Int)) : Nat → Int × Int
  | 0 => (0, 1)
  | j + 1 => ((dotT rs qs j).1 * ((rs.getD j (0, 1)).2 * (qs.getD j (0, 1)).2) + (rs.getD j (0, 1)).1 * (qs.getD j (0, 1)).1 * (dotT rs qs j).2, (dotT rs qs j).2 * ((rs.getD j (0, 1)).2 * (qs.getD j (0, 1)).2))
/-- what a loop holds behind j turns -/
structure DotI (rs qs : List (Int × Int)) (j : Nat) (t b : Int) : Prop where
  b0 : 0 < b
  B0 : 0 < (dotT rs qs j).2
  eq : t * (dotT rs qs j).2 = (dotT rs qs j).1 * b
  ht : t.natAbs < 2 ^ (41 * j + 1)
  hb : b.natAbs < 2 ^ (40 * j + 1)
theorem dotI0 (rs qs : List (Int × Int)) : DotI rs qs 0 0 1 := ⟨by decide, by show (0 : Int) < 1; decide, by rfl, by decide, by decide⟩
theorem pow_le {n a b : Nat} (h : n < 2 ^ a) (hab : a ≤ b) : n < 2 ^ b := Nat.lt_of_lt_of_le h (Nat.pow_le_pow_right (by decide) hab)
section
variable {rs qs : List (Int × Int)} {j : Nat} {t b h l u d : Int} (I : DotI rs qs j t b) (e1 : rs[j]? = some (h, l)) (e2 : qs[j]? = some (u, d)) (l0 : 0 < l) (d0 : 0 < d)
include e1 e2
theorem dotT_succ : dotT rs qs (j + 1) = ((dotT rs qs j).1 * (l * d) + h * u * (dotT rs qs j).2, (dotT rs qs j).2 * (l * d)) := by
  have h1 : rs.getD j (0, 1) = (h, l) := by rw [List.getD_eq_getElem?_getD, e1]; rfl
  have h2 : qs.getD j (0, 1) = (u, d) := by rw [List.getD_eq_getElem?_getD, e2]; rfl
  show ((dotT rs qs j).1 * ((rs.getD j (0, 1)).2 * (qs.getD j (0, 1)).2) + (rs.getD j (0, 1)).1 * (qs.getD j (0, 1)).1 * (dotT rs qs j).2, (dotT rs qs j).2 * ((rs.getD j (0, 1)).2 * (qs.getD j (0, 1)).2)) = _
  rw [h1, h2]
include I l0 d0
theorem DotI.skip (z : h = 0 ∨ u = 0) : DotI rs qs (j + 1) t b := by
  have e := dotT_succ e1 e2
  have hu : h * u = 0 := by rcases z with z | z <;> simp [z]
  refine ⟨I.b0, ?_, ?_, pow_le I.ht (by omega), pow_le I.hb (by omega)⟩
  · rw [e]; exact Int.mul_pos I.B0 (Int.mul_pos l0 d0)
  · rw [e, hu]
    show t * ((dotT rs qs j).2 * (l * d)) = ((dotT rs qs j).1 * (l * d) + 0 * (dotT rs qs j).2) * b
    rw [Int.zero_mul, Int.add_zero, ← Int.mul_assoc, I.eq, Int.mul_right_comm]
theorem DotI.same (hh : h.natAbs < 2 ^ 20) (hu : u.natAbs < 2 ^ 20) (z : l * d = b) : DotI rs qs (j + 1) (t + h * u) b := by
  have e := dotT_succ e1 e2
  refine ⟨I.b0, ?_, ?_, ?_, pow_le I.hb (by omega)⟩
  · rw [e]; exact Int.mul_pos I.B0 (Int.mul_pos l0 d0)
  · rw [e]
    show (t + h * u) * ((dotT rs qs j).2 * (l * d)) = ((dotT rs qs j).1 * (l * d) + h * u * (dotT rs qs j).2) * b
    rw [z, Int.add_mul, Int.add_mul, ← Int.mul_assoc, I.eq, ← Int.mul_assoc]
  · have := mul_lt hh hu (c := 40)
    exact pow_le (add_lt (pow_le I.ht (show 41 * j + 1 ≤ 41 * j + 41 by omega)) (pow_le this (show 40 ≤ 41 * j + 41 by omega)) (b := 41 * j + 42)) (by omega)
theorem DotI.more (hh : h.natAbs < 2 ^ 20) (hl : l.natAbs < 2 ^ 20) (hu : u.natAbs < 2 ^ 20) (hd : d.natAbs < 2 ^ 20) : DotI rs qs (j + 1) (t * (l * d) + h * u * b) (b * (l * d)) := by
  have e := dotT_succ e1 e2
  have hld := mul_lt hl hd (c := 40)
  have hhu := mul_lt hh hu (c := 40)
  refine ⟨Int.mul_pos I.b0 (Int.mul_pos l0 d0), ?_, ?_, ?_, ?_⟩
  · rw [e]; exact Int.mul_pos I.B0 (Int.mul_pos l0 d0)
  · rw [e]
    show (t * (l * d) + h * u * b) * ((dotT rs qs j).2 * (l * d)) = ((dotT rs qs j).1 * (l * d) + h * u * (dotT rs qs j).2) * (b * (l * d))
    rw [Int.add_mul, Int.add_mul]
    congr 1
    · calc t * (l * d) * ((dotT rs qs j).2 * (l * d)) = (t * (dotT rs qs j).2) * ((l * d) * (l * d)) := by
            generalize l * d = z; generalize (dotT rs qs j).2 = B; rw [Int.mul_assoc, Int.mul_assoc, Int.mul_left_comm z B]
        _ = ((dotT rs qs j).1 * b) * ((l * d) * (l * d)) := by rw [I.eq]
        _ = (dotT rs qs j).1 * (l * d) * (b * (l * d)) := by
            generalize l * d = z; rw [Int.mul_assoc, Int.mul_assoc, Int.mul_left_comm b z]
    · rw [Int.mul_assoc (h * u), Int.mul_assoc (h * u), Int.mul_left_comm b (dotT rs qs j).2]
  · have a1 := mul_lt I.ht hld (c := 41 * j + 41) (by omega)
    have a2 := mul_lt hhu I.hb (c := 40 * j + 41) (by omega)
    exact pow_le (add_lt a1 (pow_le a2 (by omega)) (b := 41 * j + 42)) (by omega)
  · exact pow_le (mul_lt I.hb hld (c := 40 * j + 41) (by omega)) (by omega)
end
/-- the sum, in its one form -/
def dotN (rs qs : List (Int × Int)) : Int × Int := low (dotT rs qs rs.length).1 (dotT rs qs rs.length).2
theorem DotI.done {rs qs : List (Int × Int)} {t b : Int} (I : DotI rs qs rs.length t b) : low t b = dotN rs qs := low_eq (by have := I.b0; omega) (by have := I.B0; omega) I.eq
theorem DotI.low {rs qs : List (Int × Int)} {j : Nat} {t b : Int} (I : DotI rs qs j t b) (hj : j ≤ 40) : LowOk t b := lowOk_pos I.b0 (pow_le I.hb (by omega))
theorem DotI.sz {rs qs : List (Int × Int)} {j : Nat} {t b : Int} (I : DotI rs qs j t b) (hj : j ≤ 40) : Sz t b := ⟨pow_le I.ht (by omega), pow_le I.hb (by omega)⟩
section
variable {P : Program} {w : World} {K : PySem.W.Frag} {mg : Str → Option Value} {base : Heap} {f : Addr} {fd : FuncData}
/-- two rows of ratios, the second one a tuple if the first one is -/
structure Rows2 (K : PySem.W.Frag) (H : Hp) (v u : V) (ds es : List PyData) (rs qs : List (Int × Int)) : Prop where
  r1 : RtAll ds rs
  r2 : RtAll es qs
  l : rs.length = qs.length
  m : rs.length ≤ 40
  at_ : ∃ a b xs ys, v = .ref a ∧ u = .ref b ∧ (SqL K H a xs ∨ SqT K H a xs) ∧ SqT K H b ys ∧ DtAll K H ds xs ∧ DtAll K H es ys
theorem eqZ {K : PySem.W.Frag} {H : Hp} {Q : VK} {d : PyData} {t b : Int} {v : V} (hv : Dt K H d v) (r : Rt d t b) (q : Q (.bl (decide (t = 0))) H) : rEqA K v (.int 0) H Q :=
  .inr ⟨d, .int 0, hv, dt_int, eqOk_rt r, rfl, by rw [eqv_zero r]; exact q⟩
/-- zip of the names at 0 and 1, whatever they are -/
theorem zipAny {K : PySem.W.Frag} {H : Hp} {σ : L2.St} {a b : Addr} {xs ys : List V} (h0 : σ[0]? = some (some (.ref a))) (h1 : σ[1]? = some (some (.ref b))) (hs : SqL K H a xs ∨ SqT K H a xs) (hb : SqT K H b ys) :
    ∃ (J : It) (G : Hp → Prop), Walk J (min xs.length ys.length) G (YPair (fun i => xs[i]?) (fun i => ys[i]?)) ∧ (∀ H', Same H H' → G H') ∧ ∀ R : It → Hp → Prop, R J H → (iZipA K (tCons (tVar 0) (tCons (tVar 1) tNil)) σ H R ∨ iZipM K (tCons (tVar 0) (tCons (tVar 1) tNil)) σ H R) := by
  rcases hs with hs | hs
  · exact ⟨ItzM K a b, _, walk_zipM rfl, fun H' s => ⟨sql_mono s hs, sqt_mono s hb⟩, fun R h => .inr ⟨_, h0, _, h1, a, b, xs, ys, rfl, hs, hb, h⟩⟩
  · exact ⟨ItzT K a b, _, walk_zipTT rfl, fun H' s => ⟨sqt_mono s hs, sqt_mono s hb⟩, fun R h => .inl ⟨_, h0, _, h1, a, b, xs, ys, rfl, .inr ⟨hs, hb, h⟩⟩⟩
abbrev ssummed : Stmt := top 39
theorem scsummed : FnScope ["row", "other", "top", "bottom", "one", "two", "low", "down", "high", "up"] ["row", "other"] (defScope ssummed) := ⟨rfl, rfl, rfl, by decide +kernel, rfl, by decide +kernel, by decide +kernel⟩

def spSummed (K : PySem.W.Frag) : Sp := fun vs H Q _ => ∃ v u ds es rs qs, vs = [v, u] ∧ Rows2 K H v u ds es rs qs ∧ ∀ v' H', Same H H' → Dt K H' (numD (dotN rs qs)) v' → Q v' H'
theorem ok_summed (F : FnP K "summed" ssummed f fd) (g_zip : mg "zip" = none) (p_pair : PrG P w K mg base "pair" 1 ["number"] (spDt K 1 RPair)) (p_in_lowest : PrG P w K mg base "in_lowest" 1 ["top", "bottom"] (spDt K 2 RLow)) :
    FnG P w K mg base (L2.CX P w) 2 f fd ["row", "other"] (spSummed K) := by
  refine okG F scsummed (fun vs H Q E h => ?_) (fun cdv B outer s H vs Q E hr h => ?_)
  · obtain ⟨v, u, _, _, _, _, rfl, _⟩ := h
    rfl
  have nd := scsummed.nd
  refine ⟨_, (pss_cons (ps_asg (pe_tup (pa_cons pe_int (pa_cons pe_int pa_nil))) (pg_tup rfl (pgs_cons (pg_name (i := 2) nd rfl (.inl rfl)) (pgs_cons (pg_name (i := 3) nd rfl (.inl rfl)) pgs_nil))))
  (pss_cons (ps_for (passes_of rfl) rfl (PI.or (pi_zipA (by rfl) g_zip (pa_cons (pv 0) (pa_cons (pv 1) pa_nil))) (pi_zipM (by rfl) g_zip (pa_cons (pv 0) (pa_cons (pv 1) pa_nil)))) (pg_tup rfl (pgs_cons (pg_name (i := 4) nd rfl (.inl rfl)) (pgs_cons (pg_name (i := 5) nd rfl (.inl rfl)) pgs_nil)))
   (pss_cons (ps_if (PW.pt (pw_or (pt_cmpR (opEqA hr) (pv 4) pe_int (nomark _)) (pw_or1 (pt_cmpR (opEqA hr) (pv 5) pe_int (nomark _))))) (pss_one ps_continue) pss_nil)
  (pss_cons (ps_asg (pe_tup (pa_cons (pe_callP p_pair (hr.mono (by decide)) (by rfl) (fun σ => passAt (takes_of rfl rfl rfl rfl) σ) (pa_cons (pv 4) pa_nil)) (pa_cons (pe_callP p_pair (hr.mono (by decide)) (by rfl) (fun σ => passAt (takes_of rfl rfl rfl rfl) σ) (pa_cons (pv 5) pa_nil)) pa_nil))) (pg_tup rfl (pgs_cons (pg_tup rfl (pgs_cons (pg_name (i := 8) nd rfl (.inl rfl)) (pgs_cons (pg_name (i := 6) nd rfl (.inl rfl)) pgs_nil))) (pgs_cons (pg_tup rfl (pgs_cons (pg_name (i := 9) nd rfl (.inl rfl)) (pgs_cons (pg_name (i := 7) nd rfl (.inl rfl)) pgs_nil))) pgs_nil))))
  (pss_cons (ps_set (i := 6) nd rfl (.inl rfl) (pe_op opMul (pv 6) (pv 7)))
  (pss_one (ps_if (pt_cmpR (opEqA hr) (pv 6) (pv 3) (nomark _)) (pss_one (ps_set (i := 2) nd rfl (.inl rfl) (pe_op opAdd (pv 2) (pe_op opMul (pv 8) (pv 9))))) (pss_cons (ps_set (i := 2) nd rfl (.inl rfl) (pe_op opAdd (pe_op opMul (pv 2) (pv 6)) (pe_op opMul (pe_op opMul (pv 8) (pv 9)) (pv 3))))
  (pss_one (ps_set (i := 3) nd rfl (.inl rfl) (pe_op opMul (pv 3) (pv 6)))))))))))
  (pss_one (ps_ret (pe_callP p_in_lowest (hr.mono (by decide)) (by rfl) (fun σ => passAt (takes_of rfl rfl rfl rfl) σ) (pa_cons (pv 2) (pa_cons (pv 3) pa_nil))))))), ?_⟩
  obtain ⟨v, u, ds, es, rs, qs, rfl, W, q⟩ := h
  obtain ⟨a, b, xs, ys, rfl, rfl, hs, hsb, hds, hes⟩ := W.at_
  have lx : xs.length = rs.length := (dtAll_len hds).symm.trans W.r1.len
  have ly : ys.length = rs.length := ((dtAll_len hes).symm.trans W.r2.len).trans W.l.symm
  refine ⟨by show (2 : Nat) ≤ sizeLine; decide, fun p hp => ?_⟩
  have sm0 := same_new (o := .tup [V.int 0, V.int 1]) hp
  refine ⟨p, _, rfl, .inl (.inl upd_same), rfl, _, _, rfl, _, _, rfl, rfl, ?_⟩
  obtain ⟨J, G, w, hG, hR⟩ := zipAny (K := K) (H := upd H p (.tup [V.int 0, V.int 1])) (σ := [some (.ref a), some (.ref b), some (.int 0), some (.int 1), none, none, none, none, none, none]) (a := a) (b := b) (xs := xs) (ys := ys) rfl rfl (hs.imp (sql_mono sm0) (sqt_mono sm0)) (sqt_mono sm0 hsb)
  rw [lx, ly, Nat.min_self] at w
  refine hR _ (for_it w (fun i σ H' => Same (upd H p (.tup [V.int 0, V.int 1])) H' ∧ ∃ t b' x4 x5 x6 x7 x8 x9, DotI rs qs i t b' ∧ σ = [some (.ref a), some (.ref b), some (.int t), some (.int b'), x4, x5, x6, x7, x8, x9]) ⟨Same.refl _, 0, 1, _, _, _, _, _, _, dotI0 rs qs, rfl⟩ (fun i σ H' _ p => hG H' p.1) ?_ ?_)
  · rintro i z σ H2 H3 hi ⟨s2, t, b', x4, x5, x6, x7, x8, x9, I, rfl⟩ ⟨T, x, y, rfl, hT, rfl, hx, hy⟩
    have s3 := same_new (o := .tup [x, y]) hT
    obtain ⟨d1, g1, hv⟩ := dtAll_get hds hx
    obtain ⟨d2, g2, hu⟩ := dtAll_get hes hy
    obtain ⟨⟨h, l⟩, e1, r1, b1, b2⟩ := W.r1.at_ i d1 g1
    obtain ⟨⟨u, d⟩, e2, r2, b3, b4⟩ := W.r2.at_ i d2 g2
    have hv3 := ((hv.mono sm0).mono s2).mono s3
    have hu3 := ((hu.mono sm0).mono s2).mono s3
    refine ⟨T, [x, y], rfl, .inl (.inl upd_same), rfl, _, _, rfl, _, _, rfl, rfl, ?_⟩
    refine ⟨_, rfl, eqZ hv3 r1 ⟨_, rfl, iteB (fun z => ?_) fun z => ?_⟩⟩
    · exact ⟨s2.trans s3, t, b', _, _, _, _, _, _, I.skip e1 e2 r1.b0 r2.b0 (.inl (by simpa using z)), rfl⟩
    refine ⟨_, rfl, eqZ hu3 r2 ⟨_, rfl, iteB (fun z2 => ?_) fun z2 => ?_⟩⟩
    · exact ⟨s2.trans s3, t, b', _, _, _, _, _, _, I.skip e1 e2 r1.b0 r2.b0 (.inr (by simpa using z2)), rfl⟩
    refine ⟨_, rfl, rfl, [d1], _, dtAll1 hv3, ⟨d1, h, l, rfl, r1, rfl⟩, fun p1 H4 s4 hp1 => ?_⟩
    refine ⟨_, rfl, rfl, [d2], _, dtAll1 (hu3.mono s4), ⟨d2, u, d, rfl, r2, rfl⟩, fun p2 H5 s5 hp2 => ?_⟩
    refine ⟨by show (2 : Nat) ≤ sizeLine; decide, fun pp hpp => ?_⟩
    have s6 := same_new (o := .tup [p1, p2]) hpp
    obtain ⟨a1, u1, w1, rfl, hs1, hu1, hw1⟩ := dt_pair_inv (hp1.mono (s5.trans s6))
    obtain ⟨a2, u2, w2, rfl, hs2, hu2, hw2⟩ := dt_pair_inv (hp2.mono (same_new (o := .tup [V.ref a1, p2]) hpp))
    obtain rfl := dt_int_inv hu1
    obtain rfl := dt_int_inv hw1
    obtain rfl := dt_int_inv hu2
    obtain rfl := dt_int_inv hw2
    refine ⟨pp, _, rfl, .inl (.inl upd_same), rfl, ?_⟩
    refine ⟨_, _, rfl, ⟨a1, _, rfl, hs1, rfl, ?_⟩⟩
    refine ⟨_, _, rfl, _, _, rfl, rfl, ?_⟩
    refine ⟨_, _, rfl, ⟨a2, _, rfl, hs2, rfl, ?_⟩⟩
    refine ⟨_, _, rfl, _, _, rfl, rfl, rfl, ?_⟩
    have sA := ((s2.trans s3).trans (s4.trans s5)).trans s6
    have hi40 : i ≤ 40 := Nat.le_trans (Nat.le_of_lt hi) W.m
    have S := I.sz hi40
    refine ⟨_, rfl, _, rfl, .inr (.inl ⟨_, _, rfl, rfl, mulW b2 b4, ?_⟩)⟩
    refine ⟨_, rfl, _, rfl, .inl ⟨rfl, _, rfl, iteB (fun e => ?_) fun e => ?_⟩⟩
    · have e' : l * d = b' := by simpa using e
      refine ⟨_, rfl, _, rfl, _, rfl, .inr (.inl ⟨_, _, rfl, rfl, mulW b1 b3, ?_⟩)⟩
      refine .inl ⟨_, _, rfl, rfl, ?_⟩
      exact ⟨sA, _, _, _, _, _, _, _, _, I.same e1 e2 r1.b0 r2.b0 b1 b3 e', rfl⟩
    · refine ⟨_, rfl, _, rfl, .inr (.inl ⟨_, _, rfl, rfl, mulW S.t (mul_lt b2 b4 (c := 40)), ?_⟩)⟩
      refine ⟨_, rfl, _, rfl, .inr (.inl ⟨_, _, rfl, rfl, mulW b1 b3, ?_⟩)⟩
      refine ⟨_, rfl, .inr (.inl ⟨_, _, rfl, rfl, mulW (mul_lt b1 b3 (c := 40)) S.b, ?_⟩)⟩
      refine .inl ⟨_, _, rfl, rfl, ?_⟩
      refine ⟨_, rfl, _, rfl, .inr (.inl ⟨_, _, rfl, rfl, mulW S.b (mul_lt b2 b4 (c := 40)), ?_⟩)⟩
      exact ⟨sA, _, _, _, _, _, _, _, _, I.more e1 e2 r1.b0 r2.b0 b1 b2 b3 b4, rfl⟩
  · rintro σ H2 ⟨s2, t, b', x4, x5, x6, x7, x8, x9, I, rfl⟩
    refine ⟨_, rfl, _, rfl, rfl, _, _, dtAll2 dt_int dt_int, ⟨t, b', rfl, I.low W.m, rfl⟩, fun v' H' sm hv' => ?_⟩
    rw [I.done] at hv'
    exact q v' H' ((sm0.trans s2).trans sm) hv'
end
end L02
namespace L02
open PySem PySem.Spec PyProof.Rows L2 Fp RZ
/-- a row of ratios -/
def rowOk (d : PyData) : Bool := match seqD d with
  | some ds => ds.all isRatioD
  | none => false
theorem rowOk_none {d : PyData} (h : seqD d = none) : rowOk d = false := by unfold rowOk; rw [h]
theorem rowOk_some {d : PyData} {ds : List PyData} (h : seqD d = some ds) : rowOk d = ds.all isRatioD := by unfold rowOk; rw [h]
section
variable {P : Program} {w : World} {K : PySem.W.Frag} {mg : Str → Option Value} {base : Heap} {f : Addr} {fd : FuncData}
theorem Rows2.mono {H H' : Hp} {v u : V} {ds es : List PyData} {rs qs : List (Int × Int)} (h : Rows2 K H v u ds es rs qs) (s : Same H H') : Rows2 K H' v u ds es rs qs := by
  obtain ⟨a, b, xs, ys, h1, h2, h3, h4, h5, h6⟩ := h.at_
  exact ⟨h.r1, h.r2, h.l, h.m, a, b, xs, ys, h1, h2, h3.imp (sql_mono s) (sqt_mono s), sqt_mono s h4, h5.mono s, h6.mono s⟩
abbrev sdot : Stmt := top 38
theorem scdot : FnScope ["row", "other", "one"] ["row", "other"] (defScope sdot) := ⟨rfl, rfl, rfl, by decide +kernel, rfl, by decide +kernel, by decide +kernel⟩

def spDot (K : PySem.W.Frag) : Sp := fun vs H Q E => ∃ v u d1 d2, vs = [v, u] ∧ Dt K H d1 v ∧ Dt K H d2 u ∧ (∀ ds, seqD d1 = some ds → ds.length < 1000) ∧ (∀ ds, seqD d2 = some ds → ds.length < 1000) ∧
  (rowOk d1 = false → ErrF K H E 1 (.str "row") v .non) ∧ (rowOk d1 = true → rowOk d2 = false → ErrF K H E 1 (.str "other") u .non) ∧
  (rowOk d1 = true → rowOk d2 = true → ∀ ds es, seqD d1 = some ds → seqD d2 = some es → (ds.length ≠ es.length → ErrF K H E 10 (.str "other") .non .non) ∧
    (ds.length = es.length → ∃ rs qs, Rows2 K H v u ds es rs qs ∧ ∀ v' H', Same H H' → Dt K H' (numD (dotN rs qs)) v' → Q v' H'))
theorem ok_dot (F : FnP K "dot" sdot f fd) (A : Errs P w K mg base) (g_isinstance : mg "isinstance" = none) (g_list : mg "list" = none) (g_tuple : mg "tuple" = none) (g_all : mg "all" = none) (g_len : mg "len" = none) (p_is_ratio : PrG P w K mg base "is_ratio" 2 ["value"] (spDt K 1 RIsR)) (p_summed : PrG P w K mg base "summed" 2 ["row", "other"] (spSummed K)) :
    FnG P w K mg base (L2.CX P w) 3 f fd ["row", "other"] (spDot K) := by
  refine okG F scdot (fun vs H Q E h => ?_) (fun cdv B outer s H vs Q E hr h => ?_)
  · obtain ⟨v, u, _, _, rfl, _⟩ := h
    rfl
  have nd := scdot.nd
  have e_BadRow : ErrI P w K mg base "BadRow" _ _ := A.e 1 (by decide)
  have e_Unlike : ErrI P w K mg base "Unlike" _ _ := A.e 10 (by decide)
  refine ⟨_, (pss_cons (ps_if (PW.pt (pw_or (pt_not (pt_val (pe_callB call_isLT (by rfl) g_isinstance (by rfl) (pa_cons (pv 0) (pa_cons (pe_tup (pa_cons (pe_bltn (by rfl) g_list rfl relTy) (pa_cons (pe_bltn (by rfl) g_tuple rfl relTy) pa_nil))) pa_nil))))) (pw_or1 (pt_not (pt_val (pe_callB (cr_all rfl) (by rfl) g_all (by rfl) (pa_cons (pe_lc (own := [("one", 2)]) (g := gName 2) (by rfl) nd (pi_seq (pv 0)) (blkOk_by (own := [("one", 2)]) (N := ["row", "other", "one"]) (sc := defScope sdot) (by decide +kernel)) (fun _ _ _ _ _ => pg_name (i := 2) nd rfl (.inl rfl)) (fun _ _ _ _ _ => pts_nil) (fun _ _ _ _ _ => (pe_callP p_is_ratio (hr.mono (by decide)) (by rfl) (fun σ => passN σ) (pa_cons (pv 2) pa_nil)))) pa_nil))))))) (pss_one (ps_raise rfl (takes_of rfl rfl rfl rfl) (mk_err e_BadRow (by decide) (hr.mono (by decide)) (by rfl) (pa_cons pe_str (pa_cons (pv 0) pa_nil))))) pss_nil)
  (pss_cons (ps_if (PW.pt (pw_or (pt_not (pt_val (pe_callB call_isLT (by rfl) g_isinstance (by rfl) (pa_cons (pv 1) (pa_cons (pe_tup (pa_cons (pe_bltn (by rfl) g_list rfl relTy) (pa_cons (pe_bltn (by rfl) g_tuple rfl relTy) pa_nil))) pa_nil))))) (pw_or1 (pt_not (pt_val (pe_callB (cr_all rfl) (by rfl) g_all (by rfl) (pa_cons (pe_lc (own := [("one", 2)]) (g := gName 2) (by rfl) nd (pi_seq (pv 1)) (blkOk_by (own := [("one", 2)]) (N := ["row", "other", "one"]) (sc := defScope sdot) (by decide +kernel)) (fun _ _ _ _ _ => pg_name (i := 2) nd rfl (.inl rfl)) (fun _ _ _ _ _ => pts_nil) (fun _ _ _ _ _ => (pe_callP p_is_ratio (hr.mono (by decide)) (by rfl) (fun σ => passN σ) (pa_cons (pv 2) pa_nil)))) pa_nil))))))) (pss_one (ps_raise rfl (takes_of rfl rfl rfl rfl) (mk_err e_BadRow (by decide) (hr.mono (by decide)) (by rfl) (pa_cons pe_str (pa_cons (pv 1) pa_nil))))) pss_nil)
  (pss_cons (ps_if (pt_cmpR (opNeA hr) (pe_callB call_len_seq (by rfl) g_len (by rfl) (pa_cons (pv 0) pa_nil)) (pe_callB call_len_seq (by rfl) g_len (by rfl) (pa_cons (pv 1) pa_nil)) (nomark _)) (pss_one (ps_raise rfl (takes_of rfl rfl rfl rfl) (mk_err e_Unlike (by decide) (hr.mono (by decide)) (by rfl) (pa_cons pe_str pa_nil)))) pss_nil)
  (pss_one (ps_ret (pe_callP p_summed (hr.mono (by decide)) (by rfl) (fun σ => passAt (takes_of rfl rfl rfl rfl) σ) (pa_cons (pv 0) (pa_cons (pv 1) pa_nil)))))))), ?_⟩
  obtain ⟨v, u, d1, d2, rfl, hv, hu, l1, l2, h1, h2, h3⟩ := h
  have sA : Same H H := Same.refl H
  refine ⟨_, rfl, by show (2 : Nat) ≤ sizeLine; decide, fun t1 ht1 => ⟨v, t1, d1, rfl, upd_same, hv.mono (sA.trans (same_new ht1)), ?_⟩⟩
  rw [seqD_ty]
  have sB := sA.trans (same_new (o := .tup [.ty "list", .ty "tuple"]) ht1)
  refine ⟨_, rfl, iteB (fun z => ?_) fun z => ?_⟩
  · have z' : seqD d1 = none := by cases e : seqD d1 <;> simp [e] at z ⊢
    refine ⟨_, rfl, rfl, fun dd H3 s3 n e => ?_⟩
    exact h1 (rowOk_none z') dd H3 (sB.trans s3) (sB.free n) e
  have z' : (seqD d1).isSome = true := by cases e : seqD d1 <;> simp [e] at z ⊢
  obtain ⟨ds, e1⟩ := Option.isSome_iff_exists.mp z'
  obtain ⟨a, xs, rfl, hs1, hds, hh1⟩ := dt_seq_inv hv e1
  have lx1 := dtAll_len hds
  have lc : ∀ (H1 : Hp) (σ : L2.St) (te : TE) (Q : VK), Same H H1 → (∀ (j : Nat) (x : V) (d : PyData) (H' : Hp) (Q : VK), ds[j]? = some d → Dt K H' d x → (∀ H4, Same H' H4 → Q (.bl (isRatioD d)) H4) → te ((wipe σ [2]).set 2 (some x)) H' Q) → (∀ D H4, Same H1 H4 → SqL K H4 D ((ds.map isRatioD).map V.bl) → Q (.ref D) H4) → σ[0]? = some (some (.ref a)) → tLc (iSeq K (tVar 0)) (gName 2) tYes te [2] σ H1 Q := fun H1 σ te Q s1 hte hq hi => by
    have go : ∀ (J : It) (G : Hp → Prop), Walk J xs.length G (YAt xs) → (∀ H', Same H1 H' → G H') → ∀ D, H1 D = none → _ := fun J G w hG D hD => lc_mapG (K := K) (te := te) (σ := σ) (Qd := Q (.ref D)) (i := 2) (fun j acc => acc = (ds.take j).map fun d => .bool (isRatioD d)) w hG hD (by rw [← lx1]; exact Nat.lt_of_lt_of_le (l1 _ e1) (by decide)) rfl
      (fun j x H H' acc Q hj sm hY hR q => by
        obtain ⟨rfl, hx⟩ := hY
        obtain ⟨d, hd, hv⟩ := dtAll_get hds hx
        refine hte j x d _ _ hd ((hv.mono s1).mono sm) fun H4 s4 => ?_
        refine q _ (.bool (isRatioD d)) H4 s4 dt_bool rfl ?_
        subst hR
        rw [List.take_succ, hd]
        simp)
      (fun H2 es vs sm hD2 hvs hR => hq D H2 sm (by
        rw [← lx1, List.take_length] at hR
        subst hR
        have := dtAll_bools (bs := ds.map isRatioD) (by rw [List.map_map]; exact hvs)
        rw [← this]
        exact .inl (.inl hD2)))
    rcases hs1 with hs | hs
    · exact .inl ⟨_, hi, a, rfl, ⟨xs, sql_mono s1 hs⟩, fun D hD => go _ _ walk_list (fun H' s => sql_mono s (sql_mono s1 hs)) D hD⟩
    · exact .inr ⟨_, hi, a, rfl, ⟨xs, sqt_mono s1 hs⟩, fun D hD => go _ _ walk_tup (fun H' s => sqt_mono s (sqt_mono s1 hs)) D hD⟩
  try unfold tNot tB tCB
  refine lc _ _ _ _ sB ?_ ?_ ?_
  · intro j x d H' Q hd hx q
    refine ⟨_, rfl, rfl, [d], _, dtAll1 hx, ⟨d, rfl, rfl⟩, fun v' H4 s4 hv' => ?_⟩
    obtain rfl := dt_bool_inv hv'
    exact q H4 s4
  rotate_left
  · rfl
  intro D H4 s4 hD
  refine ⟨D, ds.map isRatioD, rfl, hD, _, rfl, ?_⟩
  have sA := sB.trans s4
  have ev1 : (ds.map isRatioD).all id = rowOk d1 := by rw [rowOk_some e1, List.all_map]; rfl
  rw [ev1]
  refine iteB (fun z => ?_) fun z => ?_
  · have z' : rowOk d1 = false := by simpa using z
    refine ⟨_, rfl, rfl, fun dd H3 s3 n e => ?_⟩
    exact h1 z' dd H3 (sA.trans s3) (sA.free n) e
  have ok1 : rowOk d1 = true := by simpa using z
  refine ⟨_, rfl, by show (2 : Nat) ≤ sizeLine; decide, fun t2 ht2 => ⟨u, t2, d2, rfl, upd_same, hu.mono (sA.trans (same_new ht2)), ?_⟩⟩
  rw [seqD_ty]
  have sB := sA.trans (same_new (o := .tup [.ty "list", .ty "tuple"]) ht2)
  refine ⟨_, rfl, iteB (fun z => ?_) fun z => ?_⟩
  · have z' : seqD d2 = none := by cases e : seqD d2 <;> simp [e] at z ⊢
    refine ⟨_, rfl, rfl, fun dd H3 s3 n e => ?_⟩
    exact (h2 ok1) (rowOk_none z') dd H3 (sB.trans s3) (sB.free n) e
  have z' : (seqD d2).isSome = true := by cases e : seqD d2 <;> simp [e] at z ⊢
  obtain ⟨es, e2⟩ := Option.isSome_iff_exists.mp z'
  obtain ⟨b, ys, rfl, hs2, hes, hh2⟩ := dt_seq_inv hu e2
  have lx2 := dtAll_len hes
  have lc : ∀ (H1 : Hp) (σ : L2.St) (te : TE) (Q : VK), Same H H1 → (∀ (j : Nat) (x : V) (d : PyData) (H' : Hp) (Q : VK), es[j]? = some d → Dt K H' d x → (∀ H4, Same H' H4 → Q (.bl (isRatioD d)) H4) → te ((wipe σ [2]).set 2 (some x)) H' Q) → (∀ D H4, Same H1 H4 → SqL K H4 D ((es.map isRatioD).map V.bl) → Q (.ref D) H4) → σ[1]? = some (some (.ref b)) → tLc (iSeq K (tVar 1)) (gName 2) tYes te [2] σ H1 Q := fun H1 σ te Q s1 hte hq hi => by
    have go : ∀ (J : It) (G : Hp → Prop), Walk J ys.length G (YAt ys) → (∀ H', Same H1 H' → G H') → ∀ D, H1 D = none → _ := fun J G w hG D hD => lc_mapG (K := K) (te := te) (σ := σ) (Qd := Q (.ref D)) (i := 2) (fun j acc => acc = (es.take j).map fun d => .bool (isRatioD d)) w hG hD (by rw [← lx2]; exact Nat.lt_of_lt_of_le (l2 _ e2) (by decide)) rfl
      (fun j x H H' acc Q hj sm hY hR q => by
        obtain ⟨rfl, hx⟩ := hY
        obtain ⟨d, hd, hv⟩ := dtAll_get hes hx
        refine hte j x d _ _ hd ((hv.mono s1).mono sm) fun H4 s4 => ?_
        refine q _ (.bool (isRatioD d)) H4 s4 dt_bool rfl ?_
        subst hR
        rw [List.take_succ, hd]
        simp)
      (fun H2 es vs sm hD2 hvs hR => hq D H2 sm (by
        rw [← lx2, List.take_length] at hR
        subst hR
        have := dtAll_bools (bs := es.map isRatioD) (by rw [List.map_map]; exact hvs)
        rw [← this]
        exact .inl (.inl hD2)))
    rcases hs2 with hs | hs
    · exact .inl ⟨_, hi, b, rfl, ⟨ys, sql_mono s1 hs⟩, fun D hD => go _ _ walk_list (fun H' s => sql_mono s (sql_mono s1 hs)) D hD⟩
    · exact .inr ⟨_, hi, b, rfl, ⟨ys, sqt_mono s1 hs⟩, fun D hD => go _ _ walk_tup (fun H' s => sqt_mono s (sqt_mono s1 hs)) D hD⟩
  try unfold tNot tB tCB
  refine lc _ _ _ _ sB ?_ ?_ ?_
  · intro j x d H' Q hd hx q
    refine ⟨_, rfl, rfl, [d], _, dtAll1 hx, ⟨d, rfl, rfl⟩, fun v' H4 s4 hv' => ?_⟩
    obtain rfl := dt_bool_inv hv'
    exact q H4 s4
  rotate_left
  · rfl
  intro D H4 s4 hD
  refine ⟨D, es.map isRatioD, rfl, hD, _, rfl, ?_⟩
  have sA := sB.trans s4
  have ev2 : (es.map isRatioD).all id = rowOk d2 := by rw [rowOk_some e2, List.all_map]; rfl
  rw [ev2]
  refine iteB (fun z => ?_) fun z => ?_
  · have z' : rowOk d2 = false := by simpa using z
    refine ⟨_, rfl, rfl, fun dd H3 s3 n e => ?_⟩
    exact (h2 ok1) z' dd H3 (sA.trans s3) (sA.free n) e
  have ok2 : rowOk d2 = true := by simpa using z
  refine ⟨_, rfl, a, xs, rfl, hs1.imp (sql_mono sA) (sqt_mono sA), _, rfl, b, ys, rfl, hs2.imp (sql_mono sA) (sqt_mono sA), .inl ⟨rfl, _, rfl, iteB (fun z => ?_) fun z => ?_⟩⟩
  · have ne : ds.length ≠ es.length := fun e => by
      rw [← lx1, ← lx2, e] at z
      simp at z
    refine ⟨rfl, fun dd H3 s3 n e => ?_⟩
    exact (h3 ok1 ok2 ds es e1 e2).1 ne dd H3 (sA.trans s3) (sA.free n) e
  · have eq : ds.length = es.length := by
      rw [← lx1, ← lx2] at z
      by_cases q : ds.length = es.length
      · exact q
      · have : ¬ V.int (ds.length : Int) = V.int (es.length : Int) := fun e => q (by injection e with e; omega)
        simp [this] at z
    obtain ⟨rs, qs, W, q⟩ := (h3 ok1 ok2 ds es e1 e2).2 eq
    refine ⟨_, rfl, _, rfl, _, _, ds, es, rs, qs, rfl, W.mono sA, fun v' H' sm hv' => ?_⟩
    exact q v' H' (sA.trans sm) hv'
end
end L02
namespace L02
open PySem PySem.Spec PyProof.Rows L2 Fp RZ
/-- is of an int and a bool, of bools, of None -/
def rIsAll : R2 := fun x y H Q => (y = .non ∧ Q (.bl (decide (x = .non))) H) ∨ rIsB x y H Q ∨ ∃ i b, x = .int i ∧ y = .bl b ∧ Q (.bl false) H
theorem opIsAll {X : Cx} : OpR X (compareOp .Is) rIsAll := by
  refine opIs.or (op_isBl.or ?_)
  intro pins s σ H x y v u Q I rx ry h
  obtain ⟨i, b, rfl, rfl, q⟩ := h
  obtain ⟨t, rfl⟩ := (show ∃ t, v = Value.int i t from rx)
  obtain rfl := (show u = Value.bool b from ry)
  exact wpAny_is_other rfl (fun z => nomatch z) ⟨.bl false, H, I, rfl, q⟩
section
variable {P : Program} {w : World} {K : PySem.W.Frag} {mg : Str → Option Value} {base : Heap} {f : Addr} {fd : FuncData}
abbrev s_law_is_whole : Stmt := top 59
theorem sc_law_is_whole : FnScope ["value"] ["value"] (defScope s_law_is_whole) := ⟨rfl, rfl, rfl, by decide +kernel, rfl, by decide +kernel, by decide +kernel⟩

theorem ok__law_is_whole (F : FnP K "_law_is_whole" s_law_is_whole f fd) (g_int : mg "int" = none) (g_bool : mg "bool" = none) (g_isinstance : mg "isinstance" = none) :
    FnG P w K mg base (L2.CX P w) 1 f fd ["value"] (spDt K 1 fun ds d => ∃ e, ds = [e] ∧ d = .bool (isI e)) := by
  refine okG F sc_law_is_whole (fun vs H Q E h => h.1) (fun cdv B outer s H vs Q E hr h => ?_)
  have nd := sc_law_is_whole.nd
  refine ⟨_, (pss_one (ps_ret (pe_and (pe_callB call_isD (by rfl) g_isinstance (by rfl) (pa_cons (pv 0) (pa_cons (pe_bltn (by rfl) g_int rfl relTy) pa_nil))) (pe_one (pe_not (pe_callB call_isD (by rfl) g_isinstance (by rfl) (pa_cons (pv 0) (pa_cons (pe_bltn (by rfl) g_bool rfl relTy) pa_nil)))))))), ?_⟩
  obtain ⟨hl, ds, d, hd, ⟨e, rfl, rfl⟩, q⟩ := h
  match vs, hl with
  | [v], _ =>
  obtain ⟨e', ee, hv⟩ := dtAll_one hd
  obtain rfl : e = e' := by injection ee
  refine ⟨_, rfl, v, "int", e, rfl, hv, by simp, _, rfl, ?_⟩
  have fin := q (.bl (isI e)) H (Same.refl H) dt_bool
  cases e with
  | int i => exact ⟨_, rfl, v, "bool", _, rfl, hv, by simp, _, rfl, fin⟩
  | bool b => exact ⟨_, rfl, v, "bool", _, rfl, hv, by simp, _, rfl, fin⟩
  | none => exact fin
  | str x => exact fin
  | list xs => exact fin
  | tuple xs => exact fin
  | dict kvs => exact fin
abbrev s_law_pair : Stmt := top 48
theorem sc_law_pair : FnScope ["number"] ["number"] (defScope s_law_pair) := ⟨rfl, rfl, rfl, by decide +kernel, rfl, by decide +kernel, by decide +kernel⟩

theorem ok__law_pair (F : FnP K "_law_pair" s_law_pair f fd) (g_int : mg "int" = none) (g_isinstance : mg "isinstance" = none) :
    FnG P w K mg base (L2.CX P w) 1 f fd ["number"] (spDt K 1 fun ds d => ∃ e t b, ds = [e] ∧ Rt e t b ∧ d = .tuple [.int t, .int b]) := by
  refine okG F sc_law_pair (fun vs H Q E h => h.1) (fun cdv B outer s H vs Q E hr h => ?_)
  have nd := sc_law_pair.nd
  refine ⟨_, (pss_one (ps_ret (pe_ifExp (pt_val (pe_callB call_isD (by rfl) g_isinstance (by rfl) (pa_cons (pv 0) (pa_cons (pe_bltn (by rfl) g_int rfl relTy) pa_nil)))) (pe_tup (pa_cons (pv 0) (pa_cons pe_int pa_nil))) (pv 0)))), ?_⟩
  obtain ⟨hl, ds, d, hd, ⟨e, t, b, rfl, r, rfl⟩, q⟩ := h
  match vs, hl with
  | [v], _ =>
  obtain ⟨e', ee, hv⟩ := dtAll_one hd
  obtain rfl : e = e' := by injection ee
  refine ⟨_, rfl, v, "int", e, rfl, hv, by simp, _, rfl, ?_⟩
  rcases r.cases with ⟨rfl, rfl⟩ | ⟨rfl, h1⟩
  · obtain rfl := dt_int_inv hv
    exact ⟨_, rfl, by show (2 : Nat) ≤ sizeLine; decide, fun p hp => q _ _ (same_new hp) (dt_new hp (dtAll2 dt_int dt_int))⟩
  · exact ⟨_, rfl, q v H (Same.refl H) hv⟩
abbrev s_law_opposite : Stmt := top 50
theorem sc_law_opposite : FnScope ["number"] ["number"] (defScope s_law_opposite) := ⟨rfl, rfl, rfl, by decide +kernel, rfl, by decide +kernel, by decide +kernel⟩

theorem ok__law_opposite (F : FnP K "_law_opposite" s_law_opposite f fd) (g_int : mg "int" = none) (g_isinstance : mg "isinstance" = none) :
    FnG P w K mg base (L2.CX P w) 1 f fd ["number"] (spDt K 1 fun ds d => ∃ e t b, ds = [e] ∧ Rt e t b ∧ d = numD (-t, b)) := by
  refine okG F sc_law_opposite (fun vs H Q E h => h.1) (fun cdv B outer s H vs Q E hr h => ?_)
  have nd := sc_law_opposite.nd
  refine ⟨_, (pss_one (ps_ret (pe_ifExp (pt_val (pe_callB call_isD (by rfl) g_isinstance (by rfl) (pa_cons (pv 0) (pa_cons (pe_bltn (by rfl) g_int rfl relTy) pa_nil)))) (pe_un un_neg (pv 0)) (pe_tup (pa_cons (pe_un un_neg (pe_ix ix_seq (pv 0) pe_int (fun _ _ => rfl))) (pa_cons (pe_ix ix_seq (pv 0) pe_int (fun _ _ => rfl)) pa_nil)))))), ?_⟩
  obtain ⟨hl, ds, d, hd, ⟨e, t, b, rfl, r, rfl⟩, q⟩ := h
  match vs, hl with
  | [v], _ =>
  obtain ⟨e', ee, hv⟩ := dtAll_one hd
  obtain rfl : e = e' := by injection ee
  refine ⟨_, rfl, v, "int", e, rfl, hv, by simp, _, rfl, ?_⟩
  rcases r.cases with ⟨rfl, rfl⟩ | ⟨rfl, h1⟩
  · obtain rfl := dt_int_inv hv
    exact ⟨_, rfl, _, rfl, q _ _ (Same.refl _) dt_int⟩
  · obtain ⟨a, x, y, rfl, hs, hx, hy⟩ := dt_pair_inv hv
    obtain rfl := dt_int_inv hx
    obtain rfl := dt_int_inv hy
    refine ⟨_, rfl, .inr (.inl ⟨a, _, 0, _, rfl, rfl, hs, atI_nat (j := 0) rfl, _, rfl, ?_⟩)⟩
    refine ⟨_, rfl, .inr (.inl ⟨a, _, 1, _, rfl, rfl, hs, atI_nat (j := 1) rfl, ?_⟩)⟩
    refine ⟨by show (2 : Nat) ≤ sizeLine; decide, fun p hp => q _ _ (same_new hp) ?_⟩
    have : numD (-t, b) = .tuple [.int (-t), .int b] := by unfold numD; rw [if_neg (by show ¬ b = 1; omega)]
    rw [this]
    exact dt_new hp (dtAll2 dt_int dt_int)
abbrev s_law_is_list : Stmt := top 57
theorem sc_law_is_list : FnScope ["value"] ["value"] (defScope s_law_is_list) := ⟨rfl, rfl, rfl, by decide +kernel, rfl, by decide +kernel, by decide +kernel⟩

theorem ok__law_is_list (F : FnP K "_law_is_list" s_law_is_list f fd) (g_isinstance : mg "isinstance" = none) (g_list : mg "list" = none) (g_tuple : mg "tuple" = none) :
    FnG P w K mg base (L2.CX P w) 1 f fd ["value"] (spDt K 1 fun ds d => ∃ e, ds = [e] ∧ d = .bool (seqD e).isSome) := by
  refine okG F sc_law_is_list (fun vs H Q E h => h.1) (fun cdv B outer s H vs Q E hr h => ?_)
  have nd := sc_law_is_list.nd
  refine ⟨_, (pss_one (ps_ret (pe_callB call_isLT (by rfl) g_isinstance (by rfl) (pa_cons (pv 0) (pa_cons (pe_tup (pa_cons (pe_bltn (by rfl) g_list rfl relTy) (pa_cons (pe_bltn (by rfl) g_tuple rfl relTy) pa_nil))) pa_nil))))), ?_⟩
  obtain ⟨hl, ds, d, hd, ⟨e, rfl, rfl⟩, q⟩ := h
  match vs, hl with
  | [v], _ =>
  obtain ⟨e', ee, hv⟩ := dtAll_one hd
  obtain rfl : e = e' := by injection ee
  refine ⟨_, rfl, by show (2 : Nat) ≤ sizeLine; decide, fun t ht => ⟨v, t, e, rfl, upd_same, hv.mono (same_new ht), ?_⟩⟩
  rw [seqD_ty]
  exact q _ _ (same_new ht) dt_bool
abbrev s_law_divisor : Stmt := top 46
theorem sc_law_divisor : FnScope ["one", "other"] ["one", "other"] (defScope s_law_divisor) := ⟨rfl, rfl, rfl, by decide +kernel, rfl, by decide +kernel, by decide +kernel⟩

theorem natAbs_if (i : Int) : (if i < 0 then -i else i) = (i.natAbs : Int) := by split <;> omega
theorem ok__law_divisor (F : FnP K "_law_divisor" s_law_divisor f fd) (g_abs : mg "abs" = none) (g_int : mg "int" = none) :
    FnG P w K mg base (L2.CX P w) 1 f fd ["one", "other"] (spDt K 2 fun ds d => ∃ a b, ds = [.int a, .int b] ∧ d = .int (Nat.gcd a.natAbs b.natAbs : Nat)) := by
  refine okG F sc_law_divisor (fun vs H Q E h => h.1) (fun cdv B outer s H vs Q E hr h => ?_)
  have nd := sc_law_divisor.nd
  refine ⟨_, (pss_cons (ps_par (i := 0) (j := 1) rfl nd rfl rfl (by decide) rfl rfl (pa_cons (pe_callB call_abs (by rfl) g_abs (by rfl) (pa_cons (pv 0) pa_nil)) (pa_cons (pe_callB call_abs (by rfl) g_abs (by rfl) (pa_cons (pv 1) pa_nil)) pa_nil)) rfl)
  (pss_cons (ps_while (passes_of rfl) (pt_cmpR (opNeA hr) (pv 1) pe_int (nomark _)) (pss_one (ps_par (i := 0) (j := 1) rfl nd rfl rfl (by decide) rfl rfl (pa_cons (pv 1) (pa_cons (pe_op op_mod (pe_callTy call_int1 (by rfl) g_int (by rfl) (pa_cons (pv 0) pa_nil)) (pv 1)) pa_nil)) rfl)))
  (pss_one (ps_ret (pv 0))))), ?_⟩
  obtain ⟨hl, ds, d, hd, ⟨a, b, rfl, rfl⟩, q⟩ := h
  match vs, hl with
  | [v, u], _ =>
  obtain ⟨e1, e2, ee, hv, hu⟩ := dtAll_two hd
  injection ee with ee1 ee2
  injection ee2 with ee2 _
  subst ee1 ee2
  obtain rfl := dt_int_inv hv
  obtain rfl := dt_int_inv hu
  refine ⟨_, rfl, _, rfl, _, rfl, _, rfl, _, _, rfl, ?_⟩
  rw [natAbs_if, natAbs_if]
  refine ⟨fun m σ H' => H' = H ∧ ∃ x y : Nat, m = y ∧ Nat.gcd x y = Nat.gcd a.natAbs b.natAbs ∧ σ = [some (.int (x : Int)), some (.int (y : Int))], ⟨b.natAbs, rfl, a.natAbs, b.natAbs, rfl, rfl, rfl⟩, ?_⟩
  rintro y σ H' ⟨rfl, x, y', rfl, e, rfl⟩
  refine ⟨_, rfl, .inl ⟨rfl, _, rfl, iteB (fun z => ?_) fun z => ?_⟩⟩
  · have y0 : 0 < y := by
      have : ¬ (y : Int) = 0 := by simpa using z
      omega
    refine ⟨fun σ' H2 => H2 = H' ∧ ∃ x' y' : Nat, y' < y ∧ Nat.gcd x' y' = Nat.gcd a.natAbs b.natAbs ∧ σ' = [some (.int (x' : Int)), some (.int (y' : Int))], fun σ' H2 ⟨h1, x', y', h2, h3, h4⟩ => ⟨y', h2, h1, x', y', rfl, h3, h4⟩, ?_⟩
    refine ⟨_, rfl, _, rfl, .inl ⟨_, rfl, _, rfl, _, _, rfl, rfl, by omega, _, _, rfl, rfl, y, x % y, Nat.mod_lt _ y0, ?_, rfl⟩⟩
    rw [← e, Nat.gcd_comm y, ← Nat.gcd_rec, Nat.gcd_comm]
  · have y0 : y = 0 := by
      have : (y : Int) = 0 := by simpa using z
      omega
    subst y0
    refine ⟨_, rfl, q _ _ (Same.refl _) ?_⟩
    rw [← e, Nat.gcd_zero_right]
    exact dt_int
abbrev s_law_low : Stmt := top 47
theorem sc_law_low : FnScope ["top", "bottom", "by"] ["top", "bottom"] (defScope s_law_low) := ⟨rfl, rfl, rfl, by decide +kernel, rfl, by decide +kernel, by decide +kernel⟩

theorem ok__law_low (F : FnP K "_law_low" s_law_low f fd) (p__law_divisor : PrG P w K mg base "_law_divisor" 1 ["one", "other"] (spDt K 2 fun ds d => ∃ a b, ds = [.int a, .int b] ∧ d = .int (Nat.gcd a.natAbs b.natAbs : Nat))) :
    FnG P w K mg base (L2.CX P w) 2 f fd ["top", "bottom"] (spDt K 2 RLow) := by
  refine okG F sc_law_low (fun vs H Q E h => h.1) (fun cdv B outer s H vs Q E hr h => ?_)
  have nd := sc_law_low.nd
  refine ⟨_, (pss_cons (ps_set (i := 2) nd rfl (.inl rfl) (pe_callP p__law_divisor (hr.mono (by decide)) (by rfl) (fun σ => passAt (takes_of rfl rfl rfl rfl) σ) (pa_cons (pv 0) (pa_cons (pv 1) pa_nil))))
  (pss_cons (ps_if (pt_cmpR op_lt (pv 1) pe_int (nomark _)) (pss_one (ps_set (i := 2) nd rfl (.inl rfl) (pe_un un_neg (pv 2)))) pss_nil)
  (pss_one (ps_ret (pe_ifExp (pt_cmpR (opEqA hr) (pv 1) (pv 2) (nomark _)) (pe_op opFdivA (pv 0) (pv 2)) (pe_tup (pa_cons (pe_op opFdivA (pv 0) (pv 2)) (pa_cons (pe_op opFdivA (pv 1) (pv 2)) pa_nil)))))))), ?_⟩
  obtain ⟨hl, ds, d, hd, ⟨t, b, rfl, ho, rfl⟩, q⟩ := h
  match vs, hl with
  | [v, u], _ =>
  obtain ⟨e1, e2, ee, hv, hu⟩ := dtAll_two hd
  injection ee with ee1 ee2
  injection ee2 with ee2 _
  subst ee1 ee2
  obtain rfl := dt_int_inv hv
  obtain rfl := dt_int_inv hu
  refine ⟨_, rfl, _, rfl, rfl, _, _, dtAll2 dt_int dt_int, ⟨t, b, rfl, rfl⟩, fun v' H1 s1 hv' => ?_⟩
  obtain rfl := dt_int_inv hv'
  unfold gName
  dsimp only
  refine seq_rest (fun σ H' => H' = H1 ∧ σ = [some (.int t), some (.int b), some (.int (gcdI t b))]) ?_ fun rest => ?_
  · rintro σ H' ⟨rfl, rfl⟩
    refine ⟨_, rfl, _, rfl, .inl ⟨rfl, _, rfl, iteB (fun hb => ?_) fun hb => ?_⟩⟩
    · refine ⟨_, rfl, _, rfl, fdiv_of (X := (cxOf (L2.CX P w) P w K mg base ["top", "bottom", "by"] "in_lowest" (defScope sin_lowest) f cdv B outer s H' E)) ho (gcdI_dvd_l t b) ?_⟩
      have e : (low t b).2 = 1 := (low_one ho.1).mp (V.int.inj (of_decide_eq_true hb))
      refine q _ _ s1 ?_
      unfold numD
      rw [if_pos e]
      exact dt_int
    · refine ⟨_, rfl, _, rfl, fdiv_of (X := (cxOf (L2.CX P w) P w K mg base ["top", "bottom", "by"] "in_lowest" (defScope sin_lowest) f cdv B outer s H' E)) ho (gcdI_dvd_l t b) ?_⟩
      refine ⟨_, rfl, _, rfl, fdiv_of (X := (cxOf (L2.CX P w) P w K mg base ["top", "bottom", "by"] "in_lowest" (defScope sin_lowest) f cdv B outer s H' E)) ho (gcdI_dvd_r t b) ?_⟩
      refine ⟨by show (2 : Nat) ≤ sizeLine; decide, fun p hp => q _ _ (s1.trans (same_new hp)) ?_⟩
      have e : ¬ (low t b).2 = 1 := fun z => by
        exact absurd (congrArg V.int ((low_one ho.1).mpr z)) (of_decide_eq_false hb)
      unfold numD
      rw [if_neg e]
      exact dt_new hp (dtAll2 dt_int dt_int)
  · refine ⟨_, rfl, _, _, rfl, rfl, _, rfl, iteB (fun hb => ?_) fun hb => ?_⟩
    · have hb' : b < 0 := by simpa using hb
      refine ⟨_, rfl, _, rfl, ?_⟩
      have e : gcdI t b = -((Nat.gcd t.natAbs b.natAbs : Nat) : Int) := if_neg (by omega)
      dsimp only
      rw [← e]
      exact rest _ _ ⟨rfl, rfl⟩
    · have hb' : ¬ b < 0 := by simpa using hb
      have e : gcdI t b = ((Nat.gcd t.natAbs b.natAbs : Nat) : Int) := if_pos (by have := ho.1; omega)
      rw [← e]
      exact rest _ _ ⟨rfl, rfl⟩
abbrev s_law_plus : Stmt := top 49
theorem sc_law_plus : FnScope ["one", "other", "first", "second"] ["one", "other"] (defScope s_law_plus) := ⟨rfl, rfl, rfl, by decide +kernel, rfl, by decide +kernel, by decide +kernel⟩

theorem ok__law_plus (F : FnP K "_law_plus" s_law_plus f fd) (p__law_pair : PrG P w K mg base "_law_pair" 1 ["number"] (spDt K 1 RPair)) (p__law_low : PrG P w K mg base "_law_low" 2 ["top", "bottom"] (spDt K 2 RLow)) :
    FnG P w K mg base (L2.CX P w) 3 f fd ["one", "other"] (spDt K 2 (RBin addN anyP)) := by
  refine okG F sc_law_plus (fun vs H Q E h => h.1) (fun cdv B outer s H vs Q E hr h => ?_)
  have nd := sc_law_plus.nd
  refine ⟨_, (pss_cons (ps_par (i := 2) (j := 3) rfl nd rfl rfl (by decide) rfl rfl (pa_cons (pe_callP p__law_pair (hr.mono (by decide)) (by rfl) (fun σ => passAt (takes_of rfl rfl rfl rfl) σ) (pa_cons (pv 0) pa_nil)) (pa_cons (pe_callP p__law_pair (hr.mono (by decide)) (by rfl) (fun σ => passAt (takes_of rfl rfl rfl rfl) σ) (pa_cons (pv 1) pa_nil)) pa_nil)) rfl)
  (pss_one (ps_ret (pe_callP p__law_low (hr.mono (by decide)) (by rfl) (fun σ => passAt (takes_of rfl rfl rfl rfl) σ) (pa_cons (pe_op opAdd (pe_op opMul (pe_ix ix_seq (pv 2) pe_int (fun _ _ => rfl)) (pe_ix ix_seq (pv 3) pe_int (fun _ _ => rfl))) (pe_op opMul (pe_ix ix_seq (pv 3) pe_int (fun _ _ => rfl)) (pe_ix ix_seq (pv 2) pe_int (fun _ _ => rfl)))) (pa_cons (pe_op opMul (pe_ix ix_seq (pv 2) pe_int (fun _ _ => rfl)) (pe_ix ix_seq (pv 3) pe_int (fun _ _ => rfl))) pa_nil)))))), ?_⟩
  obtain ⟨hl, ds, d, hd, ⟨d1, t1, b1, d2, t2, b2, rfl, r1, r2, z1, z2, ho, rfl⟩, q⟩ := h
  match vs, hl with
  | [v, u], _ =>
  obtain ⟨e1, e2, ee, hv, hu⟩ := dtAll_two hd
  injection ee with ee1 ee2
  injection ee2 with ee2 _
  subst ee1 ee2
  refine ⟨_, rfl, rfl, [d1], _, dtAll1 hv, ⟨d1, t1, b1, rfl, r1, rfl⟩, fun p1 H1 s1 hp1 => ?_⟩
  refine ⟨_, rfl, rfl, [d2], _, dtAll1 (hu.mono s1), ⟨d2, t2, b2, rfl, r2, rfl⟩, fun p2 H2 s2 hp2 => ?_⟩
  obtain ⟨a1, x1, y1, rfl, hs1, hx1, hy1⟩ := dt_pair_inv (hp1.mono s2)
  obtain ⟨a2, x2, y2, rfl, hs2, hx2, hy2⟩ := dt_pair_inv hp2
  obtain rfl := dt_int_inv hx1
  obtain rfl := dt_int_inv hy1
  obtain rfl := dt_int_inv hx2
  obtain rfl := dt_int_inv hy2
  refine ⟨_, _, rfl, ?_⟩
  refine ⟨_, rfl, .inr (.inl ⟨a1, _, 0, _, rfl, rfl, hs1, atI_nat (j := 0) rfl, ?_⟩)⟩
  refine ⟨_, rfl, .inr (.inl ⟨a2, _, 1, _, rfl, rfl, hs2, atI_nat (j := 1) rfl, ?_⟩)⟩
  refine .inr (.inl ⟨_, _, rfl, rfl, mulW z1.t z2.b, ?_⟩)
  refine ⟨_, rfl, .inr (.inl ⟨a2, _, 0, _, rfl, rfl, hs2, atI_nat (j := 0) rfl, ?_⟩)⟩
  refine ⟨_, rfl, .inr (.inl ⟨a1, _, 1, _, rfl, rfl, hs1, atI_nat (j := 1) rfl, ?_⟩)⟩
  refine .inr (.inl ⟨_, _, rfl, rfl, mulW z2.t z1.b, ?_⟩)
  refine .inl ⟨_, _, rfl, rfl, ?_⟩
  refine ⟨_, rfl, .inr (.inl ⟨a1, _, 1, _, rfl, rfl, hs1, atI_nat (j := 1) rfl, ?_⟩)⟩
  refine ⟨_, rfl, .inr (.inl ⟨a2, _, 1, _, rfl, rfl, hs2, atI_nat (j := 1) rfl, ?_⟩)⟩
  refine .inr (.inl ⟨_, _, rfl, rfl, mulW z1.b z2.b, ?_⟩)
  refine ⟨rfl, _, _, dtAll2 dt_int dt_int, ⟨_, _, rfl, den_ok r1.b0 r2.b0 z1.b z2.b, rfl⟩, fun v' H' sm hv' => ?_⟩
  exact q v' H' ((s1.trans s2).trans sm) hv'
abbrev s_law_times : Stmt := top 52
theorem sc_law_times : FnScope ["one", "other", "first", "second"] ["one", "other"] (defScope s_law_times) := ⟨rfl, rfl, rfl, by decide +kernel, rfl, by decide +kernel, by decide +kernel⟩

theorem ok__law_times (F : FnP K "_law_times" s_law_times f fd) (p__law_pair : PrG P w K mg base "_law_pair" 1 ["number"] (spDt K 1 RPair)) (p__law_low : PrG P w K mg base "_law_low" 2 ["top", "bottom"] (spDt K 2 RLow)) :
    FnG P w K mg base (L2.CX P w) 3 f fd ["one", "other"] (spDt K 2 (RBin mulN anyP)) := by
  refine okG F sc_law_times (fun vs H Q E h => h.1) (fun cdv B outer s H vs Q E hr h => ?_)
  have nd := sc_law_times.nd
  refine ⟨_, (pss_cons (ps_par (i := 2) (j := 3) rfl nd rfl rfl (by decide) rfl rfl (pa_cons (pe_callP p__law_pair (hr.mono (by decide)) (by rfl) (fun σ => passAt (takes_of rfl rfl rfl rfl) σ) (pa_cons (pv 0) pa_nil)) (pa_cons (pe_callP p__law_pair (hr.mono (by decide)) (by rfl) (fun σ => passAt (takes_of rfl rfl rfl rfl) σ) (pa_cons (pv 1) pa_nil)) pa_nil)) rfl)
  (pss_one (ps_ret (pe_callP p__law_low (hr.mono (by decide)) (by rfl) (fun σ => passAt (takes_of rfl rfl rfl rfl) σ) (pa_cons (pe_op opMul (pe_ix ix_seq (pv 2) pe_int (fun _ _ => rfl)) (pe_ix ix_seq (pv 3) pe_int (fun _ _ => rfl))) (pa_cons (pe_op opMul (pe_ix ix_seq (pv 2) pe_int (fun _ _ => rfl)) (pe_ix ix_seq (pv 3) pe_int (fun _ _ => rfl))) pa_nil)))))), ?_⟩
  obtain ⟨hl, ds, d, hd, ⟨d1, t1, b1, d2, t2, b2, rfl, r1, r2, z1, z2, ho, rfl⟩, q⟩ := h
  match vs, hl with
  | [v, u], _ =>
  obtain ⟨e1, e2, ee, hv, hu⟩ := dtAll_two hd
  injection ee with ee1 ee2
  injection ee2 with ee2 _
  subst ee1 ee2
  refine ⟨_, rfl, rfl, [d1], _, dtAll1 hv, ⟨d1, t1, b1, rfl, r1, rfl⟩, fun p1 H1 s1 hp1 => ?_⟩
  refine ⟨_, rfl, rfl, [d2], _, dtAll1 (hu.mono s1), ⟨d2, t2, b2, rfl, r2, rfl⟩, fun p2 H2 s2 hp2 => ?_⟩
  obtain ⟨a1, x1, y1, rfl, hs1, hx1, hy1⟩ := dt_pair_inv (hp1.mono s2)
  obtain ⟨a2, x2, y2, rfl, hs2, hx2, hy2⟩ := dt_pair_inv hp2
  obtain rfl := dt_int_inv hx1
  obtain rfl := dt_int_inv hy1
  obtain rfl := dt_int_inv hx2
  obtain rfl := dt_int_inv hy2
  refine ⟨_, _, rfl, ?_⟩
  refine ⟨_, rfl, .inr (.inl ⟨a1, _, 0, _, rfl, rfl, hs1, atI_nat (j := 0) rfl, ?_⟩)⟩
  refine ⟨_, rfl, .inr (.inl ⟨a2, _, 0, _, rfl, rfl, hs2, atI_nat (j := 0) rfl, ?_⟩)⟩
  refine .inr (.inl ⟨_, _, rfl, rfl, mulW z1.t z2.t, ?_⟩)
  refine ⟨_, rfl, .inr (.inl ⟨a1, _, 1, _, rfl, rfl, hs1, atI_nat (j := 1) rfl, ?_⟩)⟩
  refine ⟨_, rfl, .inr (.inl ⟨a2, _, 1, _, rfl, rfl, hs2, atI_nat (j := 1) rfl, ?_⟩)⟩
  refine .inr (.inl ⟨_, _, rfl, rfl, mulW z1.b z2.b, ?_⟩)
  refine ⟨rfl, _, _, dtAll2 dt_int dt_int, ⟨_, _, rfl, den_ok r1.b0 r2.b0 z1.b z2.b, rfl⟩, fun v' H' sm hv' => ?_⟩
  exact q v' H' ((s1.trans s2).trans sm) hv'
abbrev s_law_over : Stmt := top 53
theorem sc_law_over : FnScope ["one", "other", "first", "second"] ["one", "other"] (defScope s_law_over) := ⟨rfl, rfl, rfl, by decide +kernel, rfl, by decide +kernel, by decide +kernel⟩

theorem ok__law_over (F : FnP K "_law_over" s_law_over f fd) (p__law_pair : PrG P w K mg base "_law_pair" 1 ["number"] (spDt K 1 RPair)) (p__law_low : PrG P w K mg base "_law_low" 2 ["top", "bottom"] (spDt K 2 RLow)) :
    FnG P w K mg base (L2.CX P w) 3 f fd ["one", "other"] (spDt K 2 (RBin divN fun a b => LowOk (a.1 * b.2) (a.2 * b.1))) := by
  refine okG F sc_law_over (fun vs H Q E h => h.1) (fun cdv B outer s H vs Q E hr h => ?_)
  have nd := sc_law_over.nd
  refine ⟨_, (pss_cons (ps_par (i := 2) (j := 3) rfl nd rfl rfl (by decide) rfl rfl (pa_cons (pe_callP p__law_pair (hr.mono (by decide)) (by rfl) (fun σ => passAt (takes_of rfl rfl rfl rfl) σ) (pa_cons (pv 0) pa_nil)) (pa_cons (pe_callP p__law_pair (hr.mono (by decide)) (by rfl) (fun σ => passAt (takes_of rfl rfl rfl rfl) σ) (pa_cons (pv 1) pa_nil)) pa_nil)) rfl)
  (pss_one (ps_ret (pe_callP p__law_low (hr.mono (by decide)) (by rfl) (fun σ => passAt (takes_of rfl rfl rfl rfl) σ) (pa_cons (pe_op opMul (pe_ix ix_seq (pv 2) pe_int (fun _ _ => rfl)) (pe_ix ix_seq (pv 3) pe_int (fun _ _ => rfl))) (pa_cons (pe_op opMul (pe_ix ix_seq (pv 2) pe_int (fun _ _ => rfl)) (pe_ix ix_seq (pv 3) pe_int (fun _ _ => rfl))) pa_nil)))))), ?_⟩
  obtain ⟨hl, ds, d, hd, ⟨d1, t1, b1, d2, t2, b2, rfl, r1, r2, z1, z2, ho, rfl⟩, q⟩ := h
  match vs, hl with
  | [v, u], _ =>
  obtain ⟨e1, e2, ee, hv, hu⟩ := dtAll_two hd
  injection ee with ee1 ee2
  injection ee2 with ee2 _
  subst ee1 ee2
  refine ⟨_, rfl, rfl, [d1], _, dtAll1 hv, ⟨d1, t1, b1, rfl, r1, rfl⟩, fun p1 H1 s1 hp1 => ?_⟩
  refine ⟨_, rfl, rfl, [d2], _, dtAll1 (hu.mono s1), ⟨d2, t2, b2, rfl, r2, rfl⟩, fun p2 H2 s2 hp2 => ?_⟩
  obtain ⟨a1, x1, y1, rfl, hs1, hx1, hy1⟩ := dt_pair_inv (hp1.mono s2)
  obtain ⟨a2, x2, y2, rfl, hs2, hx2, hy2⟩ := dt_pair_inv hp2
  obtain rfl := dt_int_inv hx1
  obtain rfl := dt_int_inv hy1
  obtain rfl := dt_int_inv hx2
  obtain rfl := dt_int_inv hy2
  refine ⟨_, _, rfl, ?_⟩
  refine ⟨_, rfl, .inr (.inl ⟨a1, _, 0, _, rfl, rfl, hs1, atI_nat (j := 0) rfl, ?_⟩)⟩
  refine ⟨_, rfl, .inr (.inl ⟨a2, _, 1, _, rfl, rfl, hs2, atI_nat (j := 1) rfl, ?_⟩)⟩
  refine .inr (.inl ⟨_, _, rfl, rfl, mulW z1.t z2.b, ?_⟩)
  refine ⟨_, rfl, .inr (.inl ⟨a1, _, 1, _, rfl, rfl, hs1, atI_nat (j := 1) rfl, ?_⟩)⟩
  refine ⟨_, rfl, .inr (.inl ⟨a2, _, 0, _, rfl, rfl, hs2, atI_nat (j := 0) rfl, ?_⟩)⟩
  refine .inr (.inl ⟨_, _, rfl, rfl, mulW z1.b z2.t, ?_⟩)
  refine ⟨rfl, _, _, dtAll2 dt_int dt_int, ⟨_, _, rfl, ho, rfl⟩, fun v' H' sm hv' => ?_⟩
  exact q v' H' ((s1.trans s2).trans sm) hv'
abbrev s_law_less : Stmt := top 55
theorem sc_law_less : FnScope ["one", "other", "first", "second"] ["one", "other"] (defScope s_law_less) := ⟨rfl, rfl, rfl, by decide +kernel, rfl, by decide +kernel, by decide +kernel⟩

theorem ok__law_less (F : FnP K "_law_less" s_law_less f fd) (p__law_pair : PrG P w K mg base "_law_pair" 1 ["number"] (spDt K 1 RPair)) :
    FnG P w K mg base (L2.CX P w) 2 f fd ["one", "other"] (spDt K 2 fun ds d => ∃ d1 t1 b1 d2 t2 b2, ds = [d1, d2] ∧ Rt d1 t1 b1 ∧ Rt d2 t2 b2 ∧ Sz t1 b1 ∧ Sz t2 b2 ∧ d = .bool (decide (t1 * b2 < t2 * b1))) := by
  refine okG F sc_law_less (fun vs H Q E h => h.1) (fun cdv B outer s H vs Q E hr h => ?_)
  have nd := sc_law_less.nd
  refine ⟨_, (pss_cons (ps_par (i := 2) (j := 3) rfl nd rfl rfl (by decide) rfl rfl (pa_cons (pe_callP p__law_pair (hr.mono (by decide)) (by rfl) (fun σ => passAt (takes_of rfl rfl rfl rfl) σ) (pa_cons (pv 0) pa_nil)) (pa_cons (pe_callP p__law_pair (hr.mono (by decide)) (by rfl) (fun σ => passAt (takes_of rfl rfl rfl rfl) σ) (pa_cons (pv 1) pa_nil)) pa_nil)) rfl)
  (pss_one (ps_ret (pe_cmpR op_lt (pe_op opMul (pe_ix ix_seq (pv 2) pe_int (fun _ _ => rfl)) (pe_ix ix_seq (pv 3) pe_int (fun _ _ => rfl))) (pe_op opMul (pe_ix ix_seq (pv 3) pe_int (fun _ _ => rfl)) (pe_ix ix_seq (pv 2) pe_int (fun _ _ => rfl))) (nomark _))))), ?_⟩
  obtain ⟨hl, ds, d, hd, ⟨d1, t1, b1, d2, t2, b2, rfl, r1, r2, z1, z2, rfl⟩, q⟩ := h
  match vs, hl with
  | [v, u], _ =>
  obtain ⟨e1, e2, ee, hv, hu⟩ := dtAll_two hd
  injection ee with ee1 ee2
  injection ee2 with ee2 _
  subst ee1 ee2
  refine ⟨_, rfl, rfl, [d1], _, dtAll1 hv, ⟨d1, t1, b1, rfl, r1, rfl⟩, fun p1 H1 s1 hp1 => ?_⟩
  refine ⟨_, rfl, rfl, [d2], _, dtAll1 (hu.mono s1), ⟨d2, t2, b2, rfl, r2, rfl⟩, fun p2 H2 s2 hp2 => ?_⟩
  obtain ⟨a1, x1, y1, rfl, hs1, hx1, hy1⟩ := dt_pair_inv (hp1.mono s2)
  obtain ⟨a2, x2, y2, rfl, hs2, hx2, hy2⟩ := dt_pair_inv hp2
  obtain rfl := dt_int_inv hx1
  obtain rfl := dt_int_inv hy1
  obtain rfl := dt_int_inv hx2
  obtain rfl := dt_int_inv hy2
  refine ⟨_, _, rfl, ?_⟩
  refine ⟨_, rfl, .inr (.inl ⟨a1, _, 0, _, rfl, rfl, hs1, atI_nat (j := 0) rfl, ?_⟩)⟩
  refine ⟨_, rfl, .inr (.inl ⟨a2, _, 1, _, rfl, rfl, hs2, atI_nat (j := 1) rfl, ?_⟩)⟩
  refine .inr (.inl ⟨_, _, rfl, rfl, mulW z1.t z2.b, ?_⟩)
  refine ⟨_, rfl, .inr (.inl ⟨a2, _, 0, _, rfl, rfl, hs2, atI_nat (j := 0) rfl, ?_⟩)⟩
  refine ⟨_, rfl, .inr (.inl ⟨a1, _, 1, _, rfl, rfl, hs1, atI_nat (j := 1) rfl, ?_⟩)⟩
  refine .inr (.inl ⟨_, _, rfl, rfl, mulW z2.t z1.b, ?_⟩)
  exact ⟨_, _, rfl, rfl, q _ _ (s1.trans s2) dt_bool⟩
abbrev s_law_minus : Stmt := top 51
theorem sc_law_minus : FnScope ["one", "other"] ["one", "other"] (defScope s_law_minus) := ⟨rfl, rfl, rfl, by decide +kernel, rfl, by decide +kernel, by decide +kernel⟩

theorem ok__law_minus (F : FnP K "_law_minus" s_law_minus f fd) (p__law_plus : PrG P w K mg base "_law_plus" 3 ["one", "other"] (spDt K 2 (RBin addN anyP))) (p__law_opposite : PrG P w K mg base "_law_opposite" 1 ["number"] (spDt K 1 fun ds d => ∃ e t b, ds = [e] ∧ Rt e t b ∧ d = numD (-t, b))) :
    FnG P w K mg base (L2.CX P w) 4 f fd ["one", "other"] (spDt K 2 (RBin (fun a b => addN a (-b.1, b.2)) anyP)) := by
  refine okG F sc_law_minus (fun vs H Q E h => h.1) (fun cdv B outer s H vs Q E hr h => ?_)
  have nd := sc_law_minus.nd
  refine ⟨_, (pss_one (ps_ret (pe_callP p__law_plus (hr.mono (by decide)) (by rfl) (fun σ => passAt (takes_of rfl rfl rfl rfl) σ) (pa_cons (pv 0) (pa_cons (pe_callP p__law_opposite (hr.mono (by decide)) (by rfl) (fun σ => passAt (takes_of rfl rfl rfl rfl) σ) (pa_cons (pv 1) pa_nil)) pa_nil))))), ?_⟩
  obtain ⟨hl, ds, d, hd, ⟨d1, t1, b1, d2, t2, b2, rfl, r1, r2, z1, z2, ho, rfl⟩, q⟩ := h
  match vs, hl with
  | [v, u], _ =>
  obtain ⟨e1, e2, ee, hv, hu⟩ := dtAll_two hd
  injection ee with ee1 ee2
  injection ee2 with ee2 _
  subst ee1 ee2
  refine ⟨_, rfl, _, rfl, rfl, [d2], _, dtAll1 hu, ⟨d2, t2, b2, rfl, r2, rfl⟩, fun w' H2 s2 hw => ?_⟩
  have r3 : Rt (numD (-t2, b2)) (-t2) b2 := ⟨rfl, r2.b0, by rw [Int.natAbs_neg]; exact r2.g⟩
  refine ⟨rfl, [d1, _], _, dtAll2 (hv.mono s2) hw, ⟨d1, t1, b1, _, -t2, b2, rfl, r1, r3, z1, ⟨by rw [Int.natAbs_neg]; exact z2.t, z2.b⟩, trivial, rfl⟩, fun v' H' sm hv' => ?_⟩
  exact q v' H' (s2.trans sm) hv'
abbrev s_law_sign : Stmt := top 54
theorem sc_law_sign : FnScope ["number", "top"] ["number"] (defScope s_law_sign) := ⟨rfl, rfl, rfl, by decide +kernel, rfl, by decide +kernel, by decide +kernel⟩

theorem ok__law_sign (F : FnP K "_law_sign" s_law_sign f fd) (g_int : mg "int" = none) (p__law_pair : PrG P w K mg base "_law_pair" 1 ["number"] (spDt K 1 RPair)) :
    FnG P w K mg base (L2.CX P w) 2 f fd ["number"] (spDt K 1 fun ds d => ∃ e t b, ds = [e] ∧ Rt e t b ∧ d = .int t.sign) := by
  refine okG F sc_law_sign (fun vs H Q E h => h.1) (fun cdv B outer s H vs Q E hr h => ?_)
  have nd := sc_law_sign.nd
  refine ⟨_, (pss_cons (ps_set (i := 1) nd rfl (.inl rfl) (pe_ix ix_seq (pe_callP p__law_pair (hr.mono (by decide)) (by rfl) (fun σ => passAt (takes_of rfl rfl rfl rfl) σ) (pa_cons (pv 0) pa_nil)) pe_int (fun _ _ => rfl)))
  (pss_one (ps_ret (pe_op op_sub (pe_callTy call_int1 (by rfl) g_int (by rfl) (pa_cons (pe_cmpR op_gt (pv 1) pe_int (nomark _)) pa_nil)) (pe_callTy call_int1 (by rfl) g_int (by rfl) (pa_cons (pe_cmpR op_lt (pv 1) pe_int (nomark _)) pa_nil)))))), ?_⟩
  obtain ⟨hl, ds, d, hd, ⟨e, t, b, rfl, r, rfl⟩, q⟩ := h
  match vs, hl with
  | [v], _ =>
  obtain ⟨e', ee, hv⟩ := dtAll_one hd
  obtain rfl : e = e' := by injection ee
  refine ⟨_, rfl, rfl, [e], _, dtAll1 hv, ⟨e, t, b, rfl, r, rfl⟩, fun p1 H1 s1 hp1 => ?_⟩
  obtain ⟨a1, x1, y1, rfl, hs1, hx1, hy1⟩ := dt_pair_inv hp1
  obtain rfl := dt_int_inv hx1
  refine .inr (.inl ⟨a1, _, 0, _, rfl, rfl, hs1, atI_nat (j := 0) rfl, ?_⟩)
  refine ⟨_, rfl, _, _, rfl, rfl, .inr ⟨_, rfl, ?_⟩⟩
  refine ⟨_, rfl, _, _, rfl, rfl, .inr ⟨_, rfl, _, _, rfl, rfl, ?_⟩⟩
  have e : (if decide (0 < t) = true then (1 : Int) else 0) - (if decide (t < 0) = true then 1 else 0) = t.sign := by
    rcases Int.lt_trichotomy t 0 with z | z | z
    · rw [Int.sign_eq_neg_one_of_neg z, if_neg (by simp; omega), if_pos (by simpa using z)]; rfl
    · subst z; rfl
    · rw [Int.sign_eq_one_of_pos z, if_pos (by simpa using z), if_neg (by simp; omega)]; rfl
  refine q _ _ s1 ?_
  rw [← e]
  exact dt_int
end
end L02
namespace L02
open PySem PySem.Spec PyProof.Rows L2 Fp RZ
section
variable {P : Program} {w : World} {K : PySem.W.Frag} {mg : Str → Option Value} {base : Heap} {f : Addr} {fd : FuncData}
abbrev s_law_is_ratio : Stmt := top 58
theorem sc_law_is_ratio : FnScope ["value"] ["value"] (defScope s_law_is_ratio) := ⟨rfl, rfl, rfl, by decide +kernel, rfl, by decide +kernel, by decide +kernel⟩

theorem ok__law_is_ratio (F : FnP K "_law_is_ratio" s_law_is_ratio f fd) (g_tuple : mg "tuple" = none) (g_isinstance : mg "isinstance" = none) (g_len : mg "len" = none) (p__law_is_whole : PrG P w K mg base "_law_is_whole" 1 ["value"] (spDt K 1 RIsInt)) (p__law_divisor : PrG P w K mg base "_law_divisor" 1 ["one", "other"] (spDt K 2 fun ds d => ∃ a b, ds = [.int a, .int b] ∧ d = .int (Nat.gcd a.natAbs b.natAbs : Nat))) :
    FnG P w K mg base (L2.CX P w) 2 f fd ["value"] (spDt K 1 RIsR) := by
  refine okG F sc_law_is_ratio (fun vs H Q E h => h.1) (fun cdv B outer s H vs Q E hr h => ?_)
  have nd := sc_law_is_ratio.nd
  refine ⟨_, (pss_cons (ps_if (pt_val (pe_callB call_isD (by rfl) g_isinstance (by rfl) (pa_cons (pv 0) (pa_cons (pe_bltn (by rfl) g_tuple rfl relTy) pa_nil)))) (pss_cons (ps_if (PW.pt (pw_or (pt_cmpR (opNeA hr) (pe_callB call_len_seq (by rfl) g_len (by rfl) (pa_cons (pv 0) pa_nil)) pe_int (nomark _)) (pw_or (pt_not (pt_val (pe_callP p__law_is_whole (hr.mono (by decide)) (by rfl) (fun σ => passAt (takes_of rfl rfl rfl rfl) σ) (pa_cons (pe_ix ix_seq (pv 0) pe_int (fun _ _ => rfl)) pa_nil)))) (pw_or1 (pt_not (pt_val (pe_callP p__law_is_whole (hr.mono (by decide)) (by rfl) (fun σ => passAt (takes_of rfl rfl rfl rfl) σ) (pa_cons (pe_ix ix_seq (pv 0) pe_int (fun _ _ => rfl)) pa_nil)))))))) (pss_one (ps_ret pe_bl)) pss_nil)
  (pss_one (ps_ret (pe_and (pe_cmpR op_gt (pe_ix ix_seq (pv 0) pe_int (fun _ _ => rfl)) pe_int (nomark _)) (pe_one (pe_cmpR (opEqA hr) (pe_callP p__law_divisor (hr.mono (by decide)) (by rfl) (fun σ => passAt (takes_of rfl rfl rfl rfl) σ) (pa_cons (pe_ix ix_seq (pv 0) pe_int (fun _ _ => rfl)) (pa_cons (pe_ix ix_seq (pv 0) pe_int (fun _ _ => rfl)) pa_nil))) pe_int (nomark _))))))) pss_nil)
  (pss_one (ps_ret (pe_callP p__law_is_whole (hr.mono (by decide)) (by rfl) (fun σ => passAt (takes_of rfl rfl rfl rfl) σ) (pa_cons (pv 0) pa_nil))))), ?_⟩
  obtain ⟨hl, ds, d, hd, ⟨e, rfl, rfl⟩, q⟩ := h
  match vs, hl with
  | [v], _ =>
  obtain ⟨e', ee, hv⟩ := dtAll_one hd
  obtain rfl : e = e' := by injection ee
  refine ⟨_, rfl, v, "tuple", e, rfl, hv, by simp, _, rfl, ?_⟩
  have nt : isTy e "tuple" = false → isRatioD e = isI e := fun h => by cases e <;> first | rfl | (simp [isTy, tyName] at h)
  refine iteB (fun hb => ?_) fun hb => ?_
  · have hb' : isTy e "tuple" = true := by simpa using hb
    obtain ⟨xs, rfl⟩ : ∃ xs, e = .tuple xs := by cases e <;> first | exact ⟨_, rfl⟩ | (simp [isTy, tyName] at hb')
    obtain ⟨a, vs, rfl, hs, hds⟩ := dt_tup_inv hv
    have hlen := dtAll_len hds
    refine ⟨_, rfl, a, vs, rfl, .inr hs, .inl ⟨rfl, _, rfl, iteB (fun hc => ?_) fun hc => ?_⟩⟩
    · have hne : vs.length ≠ 2 := by
        intro z; rw [z] at hc; simp at hc
      have := q (.bl false) H (Same.refl H) (by rw [ratio_len (by rw [hlen]; exact hne)]; exact dt_bool)
      exact this
    · have h2 : vs.length = 2 := by
        by_cases z : vs.length = 2
        · exact z
        · have : ¬ V.int (vs.length : Int) = V.int 2 := fun e => z (by injection e with e; omega)
          simp [this] at hc
      rw [h2] at hlen
      match xs, hlen, vs, h2, hds, hs, q, hv with
      | [x, y], _, [u, t], _, hds, hs, q, hv =>
      obtain ⟨x', y', exy, hu, ht⟩ := dtAll_two hds
      injection exy with ex ey
      injection ey with ey _
      subst ex ey
      refine ⟨_, rfl, .inr (.inl ⟨a, _, 0, u, rfl, rfl, hs, atI_nat (j := 0) rfl, ?_⟩)⟩
      refine ⟨rfl, [x], _, dtAll1 hu, ⟨x, rfl, rfl⟩, fun v1 H1 s1 hv1 => ?_⟩
      obtain rfl := dt_bool_inv hv1
      refine ⟨_, rfl, iteB (fun hi => ?_) fun hi => ?_⟩
      · have hi' : isI x = false := by simpa using hi
        exact q (.bl false) H1 s1 (by rw [isI_pair (.inl hi')]; exact dt_bool)
      · have hi' : isI x = true := by simpa using hi
        have hs1 := sqt_mono s1 hs
        refine ⟨_, rfl, .inr (.inl ⟨a, _, 1, t, rfl, rfl, hs1, atI_nat (j := 1) rfl, ?_⟩)⟩
        refine ⟨rfl, [y], _, dtAll1 (ht.mono s1), ⟨y, rfl, rfl⟩, fun v2 H2 s2 hv2 => ?_⟩
        obtain rfl := dt_bool_inv hv2
        refine ⟨_, rfl, ?_⟩
        have hs2 := sqt_mono s2 hs1
        have s12 := s1.trans s2
        cases hj : isI y with
        | false =>
          exact q (.bl false) H2 s12 (by rw [isI_pair (.inr hj)]; exact dt_bool)
        | true =>
          obtain ⟨ti, rfl⟩ : ∃ i, x = .int i := by cases x <;> first | exact ⟨_, rfl⟩ | (simp [isI] at hi')
          obtain ⟨bi, rfl⟩ : ∃ i, y = .int i := by cases y <;> first | exact ⟨_, rfl⟩ | (simp [isI] at hj)
          obtain rfl := dt_int_inv hu
          obtain rfl := dt_int_inv ht
          refine ⟨_, rfl, .inr (.inl ⟨a, _, 1, _, rfl, rfl, hs2, atI_nat (j := 1) rfl, ?_⟩)⟩
          refine ⟨_, _, rfl, rfl, _, rfl, iteB (fun h1 => ?_) fun h1 => ?_⟩
          · refine ⟨_, rfl, .inr (.inl ⟨a, _, 0, _, rfl, rfl, hs2, atI_nat (j := 0) rfl, ?_⟩)⟩
            refine ⟨_, rfl, .inr (.inl ⟨a, _, 1, _, rfl, rfl, hs2, atI_nat (j := 1) rfl, ?_⟩)⟩
            refine ⟨rfl, _, _, dtAll2 dt_int dt_int, ⟨ti, bi, rfl, rfl⟩, fun v3 H3 s3 hv3 => ?_⟩
            obtain rfl := dt_int_inv hv3
            refine .inl ⟨rfl, ?_⟩
            refine q _ H3 (s12.trans s3) ?_
            have h1' : 1 < bi := by simpa using h1
            have : isRatioD (.tuple [.int ti, .int bi]) = decide (V.int ((Nat.gcd ti.natAbs bi.natAbs : Nat) : Int) = V.int 1) := by
              simp only [isRatioD, h1', decide_true, Bool.true_and]
              rw [Bool.eq_iff_iff]
              simp only [decide_eq_true_eq, V.int.injEq]
              omega
            rw [this]
            exact dt_bool
          · refine q _ H2 s12 ?_
            have h1' : ¬ 1 < bi := by simpa using h1
            have : isRatioD (.tuple [.int ti, .int bi]) = false := by simp [isRatioD, h1']
            rw [this]
            exact dt_bool
  · have hb' : isTy e "tuple" = false := by simpa using hb
    refine ⟨_, rfl, rfl, [e], _, dtAll1 hv, ⟨e, rfl, rfl⟩, fun v' H' sm hv' => ?_⟩
    obtain rfl := dt_bool_inv hv'
    rw [← nt hb']
    exact q _ _ sm dt_bool
abbrev s_law_is_any_row : Stmt := top 60
theorem sc_law_is_any_row : FnScope ["value", "many", "one"] ["value", "many"] (defScope s_law_is_any_row) := ⟨rfl, rfl, rfl, by decide +kernel, rfl, by decide +kernel, by decide +kernel⟩

/-- as many of a list's turns pass a test as it has items that do -/
theorem filt_range (ds : List PyData) (p : PyData → Bool) : (((List.range ds.length).filter fun j => !(match ds[j]? with | some d => p d | none => true)).length = 0) ↔ ds.all p = true := by
  rw [List.length_eq_zero_iff, List.filter_eq_nil_iff, List.all_eq_true]
  constructor
  · intro h d hd
    obtain ⟨j, hj, e⟩ := List.getElem_of_mem hd
    have := h j (List.mem_range.mpr hj)
    rw [List.getElem?_eq_getElem hj, e] at this
    simpa using this
  · intro h j hj
    have hj' := List.mem_range.mp hj
    rw [List.getElem?_eq_getElem hj']
    simp [h _ (List.getElem_mem hj')]
theorem ok__law_is_any_row (F : FnP K "_law_is_any_row" s_law_is_any_row f fd) (g_len : mg "len" = none) (p__law_is_list : PrG P w K mg base "_law_is_list" 1 ["value"] (spDt K 1 fun ds d => ∃ e, ds = [e] ∧ d = .bool (seqD e).isSome)) (p__law_is_ratio : PrG P w K mg base "_law_is_ratio" 2 ["value"] (spDt K 1 RIsR)) :
    FnG P w K mg base (L2.CX P w) 3 f fd ["value", "many"] (spDt K 2 fun ds d => ∃ e es, ds = [e, .int es.length] ∧ seqD e = some es ∧ es.length < 1000 ∧ d = .bool (rowOk e)) := by
  refine okG F sc_law_is_any_row (fun vs H Q E h => h.1) (fun cdv B outer s H vs Q E hr h => ?_)
  have nd := sc_law_is_any_row.nd
  refine ⟨_, (pss_cons (ps_if (PW.pt (pw_or (pt_not (pt_val (pe_callP p__law_is_list (hr.mono (by decide)) (by rfl) (fun σ => passAt (takes_of rfl rfl rfl rfl) σ) (pa_cons (pv 0) pa_nil)))) (pw_or1 (pt_cmpR (opNeA hr) (pe_callB call_len_seq (by rfl) g_len (by rfl) (pa_cons (pv 0) pa_nil)) (pv 1) (nomark _))))) (pss_one (ps_ret pe_bl)) pss_nil)
  (pss_one (ps_ret (pe_cmpR (opEqB hr) (pe_lc (own := [("one", 2)]) (g := gName 2) (by rfl) nd (pi_seq (pv 0)) (blkOk_by (own := [("one", 2)]) (N := ["value", "many", "one"]) (sc := defScope s_law_is_any_row) (by decide +kernel)) (fun _ _ _ _ _ => pg_name (i := 2) nd rfl (.inl rfl)) (fun _ _ _ _ _ => pts_one (pt_not (pt_val (pe_callP p__law_is_ratio (hr.mono (by decide)) (by rfl) (fun σ => passN σ) (pa_cons (pv 2) pa_nil))))) (fun _ _ _ _ _ => (pv 2))) (pe_lst pa_nil) (nomark _))))), ?_⟩
  obtain ⟨hl, ds, d, hd, ⟨e, es, rfl, he, hlen, rfl⟩, q⟩ := h
  match vs, hl with
  | [v, u], _ =>
  obtain ⟨e1, e2, ee, hv, hu⟩ := dtAll_two hd
  injection ee with ee1 ee2
  injection ee2 with ee2 _
  subst ee1 ee2
  obtain rfl := dt_int_inv hu
  obtain ⟨a, xs, rfl, hs, hds, hh⟩ := dt_seq_inv hv he
  have lx := dtAll_len hds
  refine ⟨_, rfl, rfl, [e], _, dtAll1 hv, ⟨e, rfl, rfl⟩, fun p1 H1 s1 hp1 => ?_⟩
  obtain rfl := dt_bool_inv hp1
  rw [he]
  refine ⟨_, rfl, ite_no rfl ?_⟩
  refine ⟨_, rfl, a, xs, rfl, hs.imp (sql_mono s1) (sqt_mono s1), _, rfl, .inl ⟨rfl, _, rfl, iteB (fun z => ?_) fun z => ?_⟩⟩
  · rw [← lx] at z
    simp at z
  have go : ∀ (H2 : Hp) (σ : L2.St) (tt : TT) (te : TE) (Q : VK), Same H H2 → (∀ (x : V) (H : Hp) (Q : VK), (∀ y, Q y H) → te ((wipe σ [2]).set 2 (some x)) H Q) → (∀ (x : V) (d : PyData) (H' : Hp) (Q : Bool → Hp → Prop), Dt K H' d x → (∀ H3, Same H' H3 → Q (!isRatioD d) H3) → tt ((wipe σ [2]).set 2 (some x)) H' Q) → (∀ D H4 (ys : List V), Same H2 H4 → H4 D = some (.lst ys) → ys.isEmpty = rowOk e → Q (.ref D) H4) → σ[0]? = some (some (.ref a)) → tLc (iSeq K (tVar 0)) (gName 2) tt te [2] σ H2 Q := fun H2 σ tt te Q s2 hte htt hq hi => by
    have one : ∀ (J : It) (G : Hp → Prop), Walk J xs.length G (YAt xs) → (∀ H', Same H2 H' → G H') → ∀ D, H2 D = none → _ := fun J G w hG D hD => lc_filt (K := K) (tt := tt) (te := te) (σ := σ) (Qd := Q (.ref D)) (i := 2) (xs := xs) (fun j => !(match es[j]? with | some d => isRatioD d | none => true)) w hG hD (by rw [← lx]; exact Nat.lt_of_lt_of_le hlen (by decide))
      (fun j x H3 H' Q hj sm hY q => by
        obtain ⟨rfl, hx⟩ := hY
        obtain ⟨d, hd, hv⟩ := dtAll_get hds hx
        rw [hd] at q
        exact htt x d _ _ ((hv.mono s2).mono sm) q)
      hte
      (fun H3 vs sm hD3 hvs => hq D H3 vs sm hD3 (by
        rw [← lx] at hvs
        have k := filt_range es isRatioD
        rw [rowOk_some he, Bool.eq_iff_iff, ← k, ← hvs]
        cases vs <;> simp))
    rcases hs with hs | hs
    · exact .inl ⟨_, hi, a, rfl, ⟨xs, sql_mono s2 hs⟩, fun D hD => one _ _ walk_list (fun H' s => sql_mono s (sql_mono s2 hs)) D hD⟩
    · exact .inr ⟨_, hi, a, rfl, ⟨xs, sqt_mono s2 hs⟩, fun D hD => one _ _ walk_tup (fun H' s => sqt_mono s (sqt_mono s2 hs)) D hD⟩
  unfold tNext tRet tOp
  dsimp only
  refine go _ _ _ _ _ s1 ?_ ?_ ?_ ?_
  · intro x H Q hq
    exact ⟨_, rfl, hq x⟩
  · intro x d H' Q hx hq
    refine ⟨_, rfl, rfl, [d], _, dtAll1 hx, ⟨d, rfl, rfl⟩, fun v' H4 s4 hv' => ?_⟩
    obtain rfl := dt_bool_inv hv'
    exact ⟨_, rfl, hq H4 s4⟩
  rotate_left
  · rfl
  intro D H4 ys s4 hD hy
  refine ⟨by show (0 : Nat) ≤ sizeLine; decide, fun l hl => .inr ⟨D, l, ys, rfl, rfl, .inl (.inl (same_new hl _ _ hD)), .inl (.inl upd_same), ?_⟩⟩
  rw [hy]
  exact q _ _ ((s1.trans s4).trans (same_new hl)) dt_bool
end
end L02
namespace L02
open PySem PySem.Spec PyProof.Rows L2 Fp RZ
section
variable {P : Program} {w : World} {K : PySem.W.Frag} {mg : Str → Option Value} {base : Heap} {f : Addr} {fd : FuncData}
theorem ix_seqK {X : Cx} (K : PySem.W.Frag) (h : X.K = K) : IxR X (rIx K) := by subst h; exact ix_seq
abbrev s_law_is : Stmt := top 44
theorem sc_law_is : FnScope ["told", "due", "at"] ["told", "due"] (defScope s_law_is) := ⟨rfl, rfl, rfl, by decide +kernel, rfl, by decide +kernel, by decide +kernel⟩

abbrev RIs (hasInt : Prop) : List PyData → PyData → Prop := fun ds d => d = .bool true ∧ ((∃ i, ds = [.int i, .int i]) ∨ (hasInt ∧ ∃ i j, ds = [.tuple [.int i, .int j], .tuple [.int i, .int j]]))
theorem ok__law_is {k : Nat} {sp : Sp} {hasInt : Prop} (F : FnP K "_law_is" s_law_is f fd) (g_isinstance : mg "isinstance" = none) (g_tuple : mg "tuple" = none) (g_len : mg "len" = none) (g_range : mg "range" = none) (g_str : mg "str" = none) (g_int : mg "int" = none) (g_bool : mg "bool" = none)
    (p__law_is : PrG P w K mg base "_law_is" k ["told", "due"] sp) (hsp : hasInt → ∀ i H Q E, (∀ H', Same H H' → Q (.bl true) H') → sp [.int i, .int i] H Q E) :
    FnG P w K mg base (L2.CX P w) (k + 1) f fd ["told", "due"] (spDt K 2 (RIs hasInt)) := by
  refine okG F sc_law_is (fun vs H Q E h => h.1) (fun cdv B outer s H vs Q E hr h => ?_)
  have nd := sc_law_is.nd
  refine ⟨_, (pss_cons (ps_if (pt_val (pe_callB call_isD (by rfl) g_isinstance (by rfl) (pa_cons (pv 1) (pa_cons (pe_bltn (by rfl) g_tuple rfl relTy) pa_nil)))) (pss_cons (ps_if (PW.pt (pw_or (pt_not (pt_val (pe_callB call_isD (by rfl) g_isinstance (by rfl) (pa_cons (pv 0) (pa_cons (pe_bltn (by rfl) g_tuple rfl relTy) pa_nil))))) (pw_or1 (pt_cmpR (opNeA hr) (pe_callB call_len_seq (by rfl) g_len (by rfl) (pa_cons (pv 0) pa_nil)) (pe_callB call_len_seq (by rfl) g_len (by rfl) (pa_cons (pv 1) pa_nil)) (nomark _))))) (pss_one (ps_ret pe_bl)) pss_nil)
  (pss_one (ps_ret (pe_cmpR (opEqB hr) (pe_lc (own := [("at", 2)]) (g := gName 2) (by rfl) nd (pi_range1 (by rfl) g_range (pa_cons (pe_callB call_len_seq (by rfl) g_len (by rfl) (pa_cons (pv 1) pa_nil)) pa_nil)) (blkOk_by (own := [("at", 2)]) (N := ["told", "due", "at"]) (sc := defScope s_law_is) (by decide +kernel)) (fun _ _ _ _ _ => pg_name (i := 2) nd rfl (.inl rfl)) (fun _ _ _ _ _ => pts_one (pt_not (pt_val (pe_callP p__law_is hr (by rfl) (fun σ => passN σ) (pa_cons (pe_ix (ix_seqK K rfl) (pv 0) (pv 2) (fun _ _ => rfl)) (pa_cons (pe_ix (ix_seqK K rfl) (pv 1) (pv 2) (fun _ _ => rfl)) pa_nil)))))) (fun _ _ _ _ _ => (pv 2))) (pe_lst pa_nil) (nomark _))))) pss_nil)
  (pss_cons (ps_if (pt_cmpR opIsAll (pv 1) pe_non (nomark _)) (pss_one (ps_ret (pe_cmpR opIsAll (pv 0) pe_non (nomark _)))) pss_nil)
  (pss_cons (ps_if (pt_cmpR opIsAll (pv 1) pe_bl (nomark _)) (pss_one (ps_ret (pe_cmpR opIsAll (pv 0) pe_bl (nomark _)))) pss_nil)
  (pss_cons (ps_if (pt_cmpR opIsAll (pv 1) pe_bl (nomark _)) (pss_one (ps_ret (pe_cmpR opIsAll (pv 0) pe_bl (nomark _)))) pss_nil)
  (pss_cons (ps_if (pt_val (pe_callB call_isD (by rfl) g_isinstance (by rfl) (pa_cons (pv 1) (pa_cons (pe_bltn (by rfl) g_str rfl relTy) pa_nil)))) (pss_one (ps_ret (pe_and (pe_callB call_isD (by rfl) g_isinstance (by rfl) (pa_cons (pv 0) (pa_cons (pe_bltn (by rfl) g_str rfl relTy) pa_nil))) (pe_one (pe_cmpR (opEqB hr) (pv 0) (pv 1) (nomark _)))))) pss_nil)
  (pss_one (ps_ret (pe_and (pe_callB call_isD (by rfl) g_isinstance (by rfl) (pa_cons (pv 0) (pa_cons (pe_bltn (by rfl) g_int rfl relTy) pa_nil))) (pe_and (pe_not (pe_callB call_isD (by rfl) g_isinstance (by rfl) (pa_cons (pv 0) (pa_cons (pe_bltn (by rfl) g_bool rfl relTy) pa_nil)))) (pe_one (pe_cmpR (opEqB hr) (pv 0) (pv 1) (nomark _)))))))))))), ?_⟩
  obtain ⟨hl, ds, d, hd, ⟨rfl, hh⟩, q⟩ := h
  match vs, hl with
  | [v, u], _ =>
  obtain ⟨e1, e2, rfl, hv, hu⟩ := dtAll_two hd
  rcases hh with ⟨i, ee⟩ | ⟨hI, i, j, ee⟩
  · injection ee with ee1 ee2
    injection ee2 with ee2 _
    subst ee1 ee2
    obtain rfl := dt_int_inv hv
    obtain rfl := dt_int_inv hu
    refine ⟨_, rfl, _, "tuple", .int i, rfl, hu, by simp, _, rfl, ite_no rfl ?_⟩
    refine ⟨_, rfl, .inl ⟨rfl, _, rfl, ite_no (by simp) ?_⟩⟩
    refine ⟨_, rfl, .inr (.inr ⟨_, _, rfl, rfl, _, rfl, ite_no rfl ?_⟩)⟩
    refine ⟨_, rfl, .inr (.inr ⟨_, _, rfl, rfl, _, rfl, ite_no rfl ?_⟩)⟩
    refine ⟨_, rfl, _, "str", .int i, rfl, hu, by simp, _, rfl, ite_no rfl ?_⟩
    refine ⟨_, rfl, _, "int", .int i, rfl, hv, by simp, _, rfl, ?_⟩
    refine ⟨_, rfl, _, "bool", .int i, rfl, hv, by simp, _, rfl, _, rfl, ?_⟩
    refine ⟨_, rfl, _, rfl, .inl (.inl ⟨rfl, ?_⟩)⟩
    have : decide (V.int i = V.int i) = true := by simp
    rw [this]
    exact q _ _ (Same.refl H) dt_bool
  · injection ee with ee1 ee2
    injection ee2 with ee2 _
    subst ee1 ee2
    obtain ⟨a, x, y, rfl, hs, hx, hy⟩ := dt_pair_inv hv
    obtain ⟨b, x2, y2, rfl, hs2, hx2, hy2⟩ := dt_pair_inv hu
    obtain rfl := dt_int_inv hx
    obtain rfl := dt_int_inv hy
    obtain rfl := dt_int_inv hx2
    obtain rfl := dt_int_inv hy2
    refine ⟨_, rfl, _, "tuple", _, rfl, hu, by simp, _, rfl, ite_ye rfl ?_⟩
    refine ⟨_, rfl, _, "tuple", _, rfl, hv, by simp, _, rfl, ite_no rfl ?_⟩
    refine ⟨_, rfl, a, _, rfl, .inr hs, _, rfl, b, _, rfl, .inr hs2, .inl ⟨rfl, _, rfl, ite_no (by simp) ?_⟩⟩
    unfold tNext tRet tOp
    dsimp only
    refine ⟨_, rfl, b, _, rfl, .inr hs2, 2, rfl, by decide, by decide, fun D hD => ?_⟩
    refine lc_filt (K := K) (n := 2) (xs := []) (fun _ => false) walk_range (fun _ _ => trivial) hD (by decide) ?_ ?_ ?_
    · rintro j' x H2 H3 Q' hj sm ⟨rfl, rfl⟩ hq
      have hsA := sqt_mono sm hs
      have hsB := sqt_mono sm hs2
      dsimp only
      rw [Int.zero_add]
      obtain ⟨c, hc⟩ : ∃ c, [V.int i, V.int j][j']? = some (.int c) := by
        match j', hj with
        | 0, _ => exact ⟨_, rfl⟩
        | 1, _ => exact ⟨_, rfl⟩
      refine ⟨_, rfl, _, rfl, .inr (.inl ⟨a, _, _, _, rfl, rfl, hsA, atI_nat (j := j') hc, ?_⟩)⟩
      refine ⟨_, rfl, _, rfl, .inr (.inl ⟨b, _, _, _, rfl, rfl, hsB, atI_nat (j := j') hc, ?_⟩)⟩
      exact hsp hI c _ _ _ fun H' s' => ⟨_, rfl, hq H' s'⟩
    · intro x H Q hq
      exact ⟨_, rfl, hq x⟩
    · intro H4 vs sm hD4 hvs
      have e : vs = [] := List.eq_nil_of_length_eq_zero (by rw [hvs]; simp)
      subst e
      refine ⟨by show (0 : Nat) ≤ sizeLine; decide, fun l hl => .inr ⟨D, l, [], rfl, rfl, .inl (.inl (same_new hl _ _ hD4)), .inl (.inl upd_same), ?_⟩⟩
      exact q _ _ (sm.trans (same_new hl)) dt_bool
abbrev s_law_says : Stmt := top 45
theorem sc_law_says : FnScope ["told", "due"] ["told", "due"] (defScope s_law_says) := ⟨rfl, rfl, rfl, by decide +kernel, rfl, by decide +kernel, by decide +kernel⟩

abbrev RSays : List PyData → PyData → Prop := fun ds d => ∃ a b, ds = [.bool a, .bool b] ∧ d = .bool (decide (a = b))
theorem ok__law_says (F : FnP K "_law_says" s_law_says f fd) : FnG P w K mg base (L2.CX P w) 1 f fd ["told", "due"] (spDt K 2 RSays) := by
  refine okG F sc_law_says (fun vs H Q E h => h.1) (fun cdv B outer s H vs Q E hr h => ?_)
  have nd := sc_law_says.nd
  refine ⟨_, (pss_one (ps_ret (pe_ifExp (pt_val (pv 1)) (pe_cmpR opIsAll (pv 0) pe_bl (nomark _)) (pe_cmpR opIsAll (pv 0) pe_bl (nomark _))))), ?_⟩
  obtain ⟨hl, ds, d, hd, ⟨a, b, rfl, rfl⟩, q⟩ := h
  match vs, hl with
  | [v, u], _ =>
  obtain ⟨e1, e2, ee, hv, hu⟩ := dtAll_two hd
  injection ee with ee1 ee2
  injection ee2 with ee2 _
  subst ee1 ee2
  obtain rfl := dt_bool_inv hv
  obtain rfl := dt_bool_inv hu
  refine ⟨_, rfl, _, rfl, iteB (fun h => ?_) fun h => ?_⟩
  · subst h
    exact ⟨_, rfl, .inr (.inl ⟨a, true, rfl, rfl, q _ _ (Same.refl _) dt_bool⟩)⟩
  · subst h
    exact ⟨_, rfl, .inr (.inl ⟨a, false, rfl, rfl, q _ _ (Same.refl _) dt_bool⟩)⟩
abbrev s_law_dot : Stmt := top 56
theorem sc_law_dot : FnScope ["row", "other", "top", "bottom", "one", "two", "low", "first", "second"] ["row", "other"] (defScope s_law_dot) := ⟨rfl, rfl, rfl, by decide +kernel, rfl, by decide +kernel, by decide +kernel⟩

theorem ok__law_dot (F : FnP K "_law_dot" s_law_dot f fd) (g_zip : mg "zip" = none) (p__law_pair : PrG P w K mg base "_law_pair" 1 ["number"] (spDt K 1 RPair)) (p__law_low : PrG P w K mg base "_law_low" 2 ["top", "bottom"] (spDt K 2 RLow)) :
    FnG P w K mg base (L2.CX P w) 3 f fd ["row", "other"] (spSummed K) := by
  refine okG F sc_law_dot (fun vs H Q E h => ?_) (fun cdv B outer s H vs Q E hr h => ?_)
  · obtain ⟨v, u, _, _, _, _, rfl, _⟩ := h
    rfl
  have nd := sc_law_dot.nd
  refine ⟨_, (pss_cons (ps_asg (pe_tup (pa_cons pe_int (pa_cons pe_int pa_nil))) (pg_tup rfl (pgs_cons (pg_name (i := 2) nd rfl (.inl rfl)) (pgs_cons (pg_name (i := 3) nd rfl (.inl rfl)) pgs_nil))))
  (pss_cons (ps_for (passes_of rfl) rfl (PI.or (pi_zipA (by rfl) g_zip (pa_cons (pv 0) (pa_cons (pv 1) pa_nil))) (pi_zipM (by rfl) g_zip (pa_cons (pv 0) (pa_cons (pv 1) pa_nil)))) (pg_tup rfl (pgs_cons (pg_name (i := 4) nd rfl (.inl rfl)) (pgs_cons (pg_name (i := 5) nd rfl (.inl rfl)) pgs_nil)))
   (pss_cons (ps_par (i := 7) (j := 8) rfl nd rfl rfl (by decide) rfl rfl (pa_cons (pe_callP p__law_pair (hr.mono (by decide)) (by rfl) (fun σ => passAt (takes_of rfl rfl rfl rfl) σ) (pa_cons (pv 4) pa_nil)) (pa_cons (pe_callP p__law_pair (hr.mono (by decide)) (by rfl) (fun σ => passAt (takes_of rfl rfl rfl rfl) σ) (pa_cons (pv 5) pa_nil)) pa_nil)) rfl)
  (pss_cons (ps_set (i := 6) nd rfl (.inl rfl) (pe_op opMul (pe_ix ix_seq (pv 7) pe_int (fun _ _ => rfl)) (pe_ix ix_seq (pv 8) pe_int (fun _ _ => rfl))))
  (pss_one (ps_if (pt_cmpR (opEqA hr) (pv 6) (pv 3) (nomark _)) (pss_one (ps_set (i := 2) nd rfl (.inl rfl) (pe_op opAdd (pv 2) (pe_op opMul (pe_ix ix_seq (pv 7) pe_int (fun _ _ => rfl)) (pe_ix ix_seq (pv 8) pe_int (fun _ _ => rfl)))))) (pss_one (ps_par (i := 2) (j := 3) rfl nd rfl rfl (by decide) rfl rfl (pa_cons (pe_op opAdd (pe_op opMul (pv 2) (pv 6)) (pe_op opMul (pe_op opMul (pe_ix ix_seq (pv 7) pe_int (fun _ _ => rfl)) (pe_ix ix_seq (pv 8) pe_int (fun _ _ => rfl))) (pv 3))) (pa_cons (pe_op opMul (pv 3) (pv 6)) pa_nil)) rfl)))))))
  (pss_one (ps_ret (pe_callP p__law_low (hr.mono (by decide)) (by rfl) (fun σ => passAt (takes_of rfl rfl rfl rfl) σ) (pa_cons (pv 2) (pa_cons (pv 3) pa_nil))))))), ?_⟩
  obtain ⟨v, u, ds, es, rs, qs, rfl, W, q⟩ := h
  obtain ⟨a, b, xs, ys, rfl, rfl, hs, hsb, hds, hes⟩ := W.at_
  have lx : xs.length = rs.length := (dtAll_len hds).symm.trans W.r1.len
  have ly : ys.length = rs.length := ((dtAll_len hes).symm.trans W.r2.len).trans W.l.symm
  refine ⟨by show (2 : Nat) ≤ sizeLine; decide, fun p hp => ?_⟩
  have sm0 := same_new (o := .tup [V.int 0, V.int 1]) hp
  refine ⟨p, _, rfl, .inl (.inl upd_same), rfl, _, _, rfl, _, _, rfl, rfl, ?_⟩
  obtain ⟨J, G, w, hG, hR⟩ := zipAny (K := K) (H := upd H p (.tup [V.int 0, V.int 1])) (σ := [some (.ref a), some (.ref b), some (.int 0), some (.int 1), none, none, none, none, none]) (a := a) (b := b) (xs := xs) (ys := ys) rfl rfl (hs.imp (sql_mono sm0) (sqt_mono sm0)) (sqt_mono sm0 hsb)
  rw [lx, ly, Nat.min_self] at w
  refine hR _ (for_it w (fun i σ H' => Same (upd H p (.tup [V.int 0, V.int 1])) H' ∧ ∃ t b' x4 x5 x6 x7 x8, DotI rs qs i t b' ∧ σ = [some (.ref a), some (.ref b), some (.int t), some (.int b'), x4, x5, x6, x7, x8]) ⟨Same.refl _, 0, 1, _, _, _, _, _, dotI0 rs qs, rfl⟩ (fun i σ H' _ p => hG H' p.1) ?_ ?_)
  · rintro i z σ H2 H3 hi ⟨s2, t, b', x4, x5, x6, x7, x8, I, rfl⟩ ⟨T, x, y, rfl, hT, rfl, hx, hy⟩
    have s3 := same_new (o := .tup [x, y]) hT
    obtain ⟨d1, g1, hv⟩ := dtAll_get hds hx
    obtain ⟨d2, g2, hu⟩ := dtAll_get hes hy
    obtain ⟨⟨h, l⟩, e1, r1, b1, b2⟩ := W.r1.at_ i d1 g1
    obtain ⟨⟨u, d⟩, e2, r2, b3, b4⟩ := W.r2.at_ i d2 g2
    have hv3 := ((hv.mono sm0).mono s2).mono s3
    have hu3 := ((hu.mono sm0).mono s2).mono s3
    refine ⟨T, [x, y], rfl, .inl (.inl upd_same), rfl, _, _, rfl, _, _, rfl, rfl, ?_⟩
    refine ⟨_, rfl, rfl, [d1], _, dtAll1 hv3, ⟨d1, h, l, rfl, r1, rfl⟩, fun p1 H4 s4 hp1 => ?_⟩
    refine ⟨_, rfl, rfl, [d2], _, dtAll1 (hu3.mono s4), ⟨d2, u, d, rfl, r2, rfl⟩, fun p2 H5 s5 hp2 => ?_⟩
    obtain ⟨a1, u1, w1, rfl, hs1, hu1, hw1⟩ := dt_pair_inv (hp1.mono s5)
    obtain ⟨a2, u2, w2, rfl, hs2, hu2, hw2⟩ := dt_pair_inv hp2
    obtain rfl := dt_int_inv hu1
    obtain rfl := dt_int_inv hw1
    obtain rfl := dt_int_inv hu2
    obtain rfl := dt_int_inv hw2
    refine ⟨_, _, rfl, ?_⟩
    have sA := (s2.trans s3).trans (s4.trans s5)
    have hi40 : i ≤ 40 := Nat.le_trans (Nat.le_of_lt hi) W.m
    have S := I.sz hi40
    refine ⟨_, rfl, .inr (.inl ⟨a1, _, 1, _, rfl, rfl, hs1, atI_nat (j := 1) rfl, ?_⟩)⟩
    refine ⟨_, rfl, .inr (.inl ⟨a2, _, 1, _, rfl, rfl, hs2, atI_nat (j := 1) rfl, ?_⟩)⟩
    refine .inr (.inl ⟨_, _, rfl, rfl, mulW b2 b4, ?_⟩)
    refine ⟨_, rfl, _, rfl, .inl ⟨rfl, _, rfl, iteB (fun e => ?_) fun e => ?_⟩⟩
    · have e' : l * d = b' := by simpa using e
      refine ⟨_, rfl, _, rfl, .inr (.inl ⟨a1, _, 0, _, rfl, rfl, hs1, atI_nat (j := 0) rfl, ?_⟩)⟩
      refine ⟨_, rfl, .inr (.inl ⟨a2, _, 0, _, rfl, rfl, hs2, atI_nat (j := 0) rfl, ?_⟩)⟩
      refine .inr (.inl ⟨_, _, rfl, rfl, mulW b1 b3, ?_⟩)
      refine .inl ⟨_, _, rfl, rfl, ?_⟩
      exact ⟨sA, _, _, _, _, _, _, _, I.same e1 e2 r1.b0 r2.b0 b1 b3 e', rfl⟩
    · refine ⟨_, rfl, _, rfl, .inr (.inl ⟨_, _, rfl, rfl, mulW S.t (mul_lt b2 b4 (c := 40)), ?_⟩)⟩
      refine ⟨_, rfl, .inr (.inl ⟨a1, _, 0, _, rfl, rfl, hs1, atI_nat (j := 0) rfl, ?_⟩)⟩
      refine ⟨_, rfl, .inr (.inl ⟨a2, _, 0, _, rfl, rfl, hs2, atI_nat (j := 0) rfl, ?_⟩)⟩
      refine .inr (.inl ⟨_, _, rfl, rfl, mulW b1 b3, ?_⟩)
      refine ⟨_, rfl, .inr (.inl ⟨_, _, rfl, rfl, mulW (mul_lt b1 b3 (c := 40)) S.b, ?_⟩)⟩
      refine .inl ⟨_, _, rfl, rfl, ?_⟩
      refine ⟨_, rfl, _, rfl, .inr (.inl ⟨_, _, rfl, rfl, mulW S.b (mul_lt b2 b4 (c := 40)), ?_⟩)⟩
      refine ⟨_, _, rfl, ?_⟩
      exact ⟨sA, _, _, _, _, _, _, _, I.more e1 e2 r1.b0 r2.b0 b1 b2 b3 b4, rfl⟩
  · rintro σ H2 ⟨s2, t, b', x4, x5, x6, x7, x8, I, rfl⟩
    refine ⟨_, rfl, _, rfl, rfl, _, _, dtAll2 dt_int dt_int, ⟨t, b', rfl, I.low W.m, rfl⟩, fun v' H' sm hv' => ?_⟩
    rw [I.done] at hv'
    exact q v' H' ((sm0.trans s2).trans sm) hv'
end
end L02
namespace L02
open PySem PySem.Spec PyProof.Rows L2 Fp RZ
/-- a reduced ratio is no greater than what it was made of -/
theorem low_le {t b : Int} (h : b ≠ 0) : (low t b).1.natAbs ≤ t.natAbs ∧ (low t b).2.natAbs ≤ b.natAbs := by
  obtain ⟨e1, e2⟩ := low_mul (t := t) (b := b)
  have g0 := gcdI_ne (t := t) h
  have g1 : 1 ≤ (gcdI t b).natAbs := by omega
  constructor
  · have : (low t b).1.natAbs * (gcdI t b).natAbs = t.natAbs := by rw [← Int.natAbs_mul, e1]
    rw [← this]; exact Nat.le_mul_of_pos_right _ g1
  · have : (low t b).2.natAbs * (gcdI t b).natAbs = b.natAbs := by rw [← Int.natAbs_mul, e2]
    rw [← this]; exact Nat.le_mul_of_pos_right _ g1
/-- a drawn ratio -/
structure Drawn (size : Int) (t b : Int) : Prop where
  b0 : 0 < b
  g : Nat.gcd t.natAbs b.natAbs = 1
  sm : size ≤ 2 → t.natAbs < 1000 ∧ b.natAbs < 100
  lg : t.natAbs < 10 ^ 40 ∧ b.natAbs ≤ 10 ^ 39
theorem Drawn.rt {size t b : Int} (h : Drawn size t b) : Rt (numD (t, b)) t b := ⟨rfl, h.b0, h.g⟩
theorem drawn_low {size t b : Int} (hb : 0 < b) (hs : size ≤ 2 → t.natAbs < 1000 ∧ b.natAbs < 100) (hl : t.natAbs < 10 ^ 40 ∧ b.natAbs ≤ 10 ^ 39) : Drawn size (low t b).1 (low t b).2 := by
  have hb' : b ≠ 0 := by omega
  obtain ⟨l1, l2⟩ := low_le (t := t) hb'
  exact ⟨low_pos hb', low_cop hb', fun h => ⟨Nat.lt_of_le_of_lt l1 (hs h).1, Nat.lt_of_le_of_lt l2 (hs h).2⟩, Nat.lt_of_le_of_lt l1 hl.1, Nat.le_trans l2 hl.2⟩
section
variable {P : Program} {w : World} {K : PySem.W.Frag} {mg : Str → Option Value} {base : Heap} {f : Addr} {fd : FuncData}
abbrev s_law_wide : Stmt := top 62
theorem sc_law_wide : FnScope ["pen", "figures", "lap", "found", "top"] ["pen", "figures"] (defScope s_law_wide) := ⟨rfl, rfl, rfl, by decide +kernel, rfl, by decide +kernel, by decide +kernel⟩

def spWide (P : Program) (w : World) : Sp := fun vs H Q _ => ∃ (p : Addr) (fg : Int), vs = [.ref p, .int fg] ∧ Pen P w H p ∧ (fg = 40 ∨ fg = 39) ∧ ∀ r H', Same H H' → 0 ≤ r → r < 10 ^ fg.toNat → Q (.int r) H'
theorem ok__law_wide (F : FnP K "_law_wide" s_law_wide f fd) (g_range : mg "range" = none) (g_int : mg "int" = none) (p__law_draw : PrG P w K mg base "_law_draw" 1 ["pen", "many"] (spDraw P w)) :
    FnG P w K mg base (L2.CX P w) 2 f fd ["pen", "figures"] (spWide P w) := by
  refine okG F sc_law_wide (fun vs H Q E h => ?_) (fun cdv B outer s H vs Q E hr h => ?_)
  · obtain ⟨p, fg, rfl, _⟩ := h
    rfl
  have nd := sc_law_wide.nd
  refine ⟨_, (pss_cons (ps_asg (pe_tup (pa_cons pe_int (pa_cons pe_int pa_nil))) (pg_tup rfl (pgs_cons (pg_name (i := 3) nd rfl (.inl rfl)) (pgs_cons (pg_name (i := 4) nd rfl (.inl rfl)) pgs_nil))))
  (pss_cons (ps_for (passes_of rfl) rfl (pi_range1 (by rfl) g_range (pa_cons (pe_op opFdivA (pe_op opAdd (pv 1) pe_int) pe_int) pa_nil)) (pg_name (i := 2) nd rfl (.inl rfl))
   (pss_one (ps_set (i := 3) nd rfl (.inl rfl) (pe_op opAdd (pe_op opMul (pv 3) (pe_op op_pow pe_int pe_int)) (pe_callP p__law_draw (hr.mono (by decide)) (by rfl) (fun σ => passAt (takes_of rfl rfl rfl rfl) σ) (pa_cons (pv 0) (pa_cons (pe_op op_pow pe_int pe_int) pa_nil)))))))
  (pss_cons (ps_for (passes_of rfl) rfl (pi_range1 (by rfl) g_range (pa_cons (pv 1) pa_nil)) (pg_name (i := 2) nd rfl (.inl rfl))
   (pss_one (ps_set (i := 4) nd rfl (.inl rfl) (pe_op opMul (pv 4) pe_int))))
  (pss_one (ps_ret (pe_op op_mod (pe_callTy call_int1 (by rfl) g_int (by rfl) (pa_cons (pv 3) pa_nil)) (pv 4))))))), ?_⟩
  obtain ⟨p, fg, rfl, hp, hfg, q⟩ := h
  refine ⟨by show (2 : Nat) ≤ sizeLine; decide, fun T hT => ?_⟩
  have s0 := same_new (o := .tup [V.int 0, V.int 1]) hT
  refine ⟨T, _, rfl, .inl (.inl upd_same), rfl, _, _, rfl, _, _, rfl, rfl, ?_⟩
  have hfl : (fg + 5) / 6 = 6 + 1 := by rcases hfg with rfl | rfl <;> rfl
  refine ⟨_, rfl, .inl ⟨_, _, rfl, rfl, .inl ⟨_, _, rfl, rfl, ⟨by decide, by decide⟩, _, rfl, ?_⟩⟩⟩
  rw [hfl]
  refine ⟨by decide, by decide, ?_⟩
  refine for_range (n := 7) (fun _ σ H' => Same H H' ∧ Pen P w H' p ∧ ∃ v2 i, σ = [some (.ref p), some (.int fg), v2, some (.int i), some (.int 1)]) ⟨s0, hp.mono s0, _, _, rfl⟩ ?_ ?_
  · rintro i σ H2 hi ⟨s2, hp2, v2, j, rfl⟩
    refine ⟨_, rfl, _, _, rfl, rfl, ⟨by decide, by decide, by decide⟩, ?_⟩
    refine .inl ⟨_, _, rfl, rfl, .inr ⟨by decide, by decide⟩, ?_⟩
    refine ⟨_, rfl, _, _, rfl, rfl, ⟨by decide, by decide, by decide⟩, ?_⟩
    refine ⟨_, _, rfl, hp2, by decide, by decide, fun r r0 r1 => ?_⟩
    exact .inl ⟨_, _, rfl, rfl, s2, hp2, _, _, rfl⟩
  rintro σ H2 ⟨s2, hp2, v2, j, rfl⟩
  refine ⟨_, rfl, _, rfl, by rcases hfg with rfl | rfl <;> decide, by rcases hfg with rfl | rfl <;> decide, ?_⟩
  refine for_range (n := fg.toNat) (fun i σ H' => H' = H2 ∧ ∃ v2, σ = [some (.ref p), some (.int fg), v2, some (.int j), some (.int (10 ^ i : Nat))]) ⟨rfl, _, rfl⟩ ?_ ?_
  · rintro i σ H3 hi ⟨rfl, v2, rfl⟩
    refine ⟨_, rfl, .inl ⟨_, _, rfl, rfl, .inr ⟨by decide, by decide⟩, ?_⟩⟩
    refine ⟨rfl, some (V.int (0 + (i : Int))), ?_⟩
    have : ((10 ^ i : Nat) : Int) * 10 = ((10 ^ (i + 1) : Nat) : Int) := by rw [Nat.pow_succ]; omega
    show [_, _, _, _, some (V.int (((10 ^ i : Nat) : Int) * 10))] = _
    rw [this]
  · rintro σ H3 ⟨rfl, v2, rfl⟩
    have pos : (0 : Int) < ((10 ^ fg.toNat : Nat) : Int) := by
      have : 0 < 10 ^ fg.toNat := Nat.pow_pos (by decide)
      omega
    refine ⟨_, rfl, .inl ⟨_, rfl, _, rfl, _, _, rfl, rfl, pos, ?_⟩⟩
    refine q _ H3 s2 (Int.emod_nonneg _ (by omega)) ?_
    have e : ((10 ^ fg.toNat : Nat) : Int) = 10 ^ fg.toNat := by push_cast; rfl
    rw [← e]
    exact Int.emod_lt_of_pos _ pos
abbrev s_law_number : Stmt := top 61
theorem sc_law_number : FnScope ["pen", "size"] ["pen", "size"] (defScope s_law_number) := ⟨rfl, rfl, rfl, by decide +kernel, rfl, by decide +kernel, by decide +kernel⟩

def spNumber (P : Program) (w : World) (K : PySem.W.Frag) : Sp := fun vs H Q _ => ∃ (p : Addr) (sz : Int), vs = [.ref p, .int sz] ∧ Pen P w H p ∧ 0 ≤ sz ∧ sz ≤ 3 ∧ ∀ v H' t b, Same H H' → Drawn sz t b → Dt K H' (numD (t, b)) v → Q v H'
theorem ok__law_number (F : FnP K "_law_number" s_law_number f fd) (p__law_draw : PrG P w K mg base "_law_draw" 1 ["pen", "many"] (spDraw P w)) (p__law_wide : PrG P w K mg base "_law_wide" 2 ["pen", "figures"] (spWide P w)) (p__law_low : PrG P w K mg base "_law_low" 2 ["top", "bottom"] (spDt K 2 RLow)) :
    FnG P w K mg base (L2.CX P w) 3 f fd ["pen", "size"] (spNumber P w K) := by
  refine okG F sc_law_number (fun vs H Q E h => ?_) (fun cdv B outer s H vs Q E hr h => ?_)
  · obtain ⟨p, fg, rfl, _⟩ := h
    rfl
  have nd := sc_law_number.nd
  refine ⟨_, (pss_cons (ps_if (pt_cmpR (opEqA hr) (pv 1) pe_int (nomark _)) (pss_one (ps_ret (pe_op op_sub (pe_callP p__law_draw (hr.mono (by decide)) (by rfl) (fun σ => passAt (takes_of rfl rfl rfl rfl) σ) (pa_cons (pv 0) (pa_cons pe_int pa_nil))) pe_int))) pss_nil)
  (pss_cons (ps_if (pt_cmpR (opEqA hr) (pv 1) pe_int (nomark _)) (pss_one (ps_ret (pe_callP p__law_low (hr.mono (by decide)) (by rfl) (fun σ => passAt (takes_of rfl rfl rfl rfl) σ) (pa_cons (pe_op op_sub (pe_callP p__law_draw (hr.mono (by decide)) (by rfl) (fun σ => passAt (takes_of rfl rfl rfl rfl) σ) (pa_cons (pv 0) (pa_cons pe_int pa_nil))) pe_int) (pa_cons (pe_op opAdd pe_int (pe_callP p__law_draw (hr.mono (by decide)) (by rfl) (fun σ => passAt (takes_of rfl rfl rfl rfl) σ) (pa_cons (pv 0) (pa_cons pe_int pa_nil)))) pa_nil))))) pss_nil)
  (pss_cons (ps_if (pt_cmpR (opEqA hr) (pv 1) pe_int (nomark _)) (pss_one (ps_ret (pe_callP p__law_low (hr.mono (by decide)) (by rfl) (fun σ => passAt (takes_of rfl rfl rfl rfl) σ) (pa_cons (pe_op op_sub (pe_callP p__law_draw (hr.mono (by decide)) (by rfl) (fun σ => passAt (takes_of rfl rfl rfl rfl) σ) (pa_cons (pv 0) (pa_cons pe_int pa_nil))) pe_int) (pa_cons (pe_op opAdd pe_int (pe_callP p__law_draw (hr.mono (by decide)) (by rfl) (fun σ => passAt (takes_of rfl rfl rfl rfl) σ) (pa_cons (pv 0) (pa_cons pe_int pa_nil)))) pa_nil))))) pss_nil)
  (pss_one (ps_ret (pe_callP p__law_low (hr.mono (by decide)) (by rfl) (fun σ => passAt (takes_of rfl rfl rfl rfl) σ) (pa_cons (pe_op opMul (pe_op op_sub pe_int (pe_op opMul pe_int (pe_callP p__law_draw (hr.mono (by decide)) (by rfl) (fun σ => passAt (takes_of rfl rfl rfl rfl) σ) (pa_cons (pv 0) (pa_cons pe_int pa_nil))))) (pe_callP p__law_wide (hr.mono (by decide)) (by rfl) (fun σ => passAt (takes_of rfl rfl rfl rfl) σ) (pa_cons (pv 0) (pa_cons pe_int pa_nil)))) (pa_cons (pe_op opAdd pe_int (pe_callP p__law_wide (hr.mono (by decide)) (by rfl) (fun σ => passAt (takes_of rfl rfl rfl rfl) σ) (pa_cons (pv 0) (pa_cons pe_int pa_nil)))) pa_nil)))))))), ?_⟩
  obtain ⟨p, sz, rfl, hp, z0, z3, q⟩ := h
  have fin : ∀ (t b : Int) (H1 : Hp), Same H H1 → 0 < b → (sz ≤ 2 → t.natAbs < 1000 ∧ b.natAbs < 100) → (t.natAbs < 10 ^ 40 ∧ b.natAbs ≤ 10 ^ 39) → spDt K 2 RLow [.int t, .int b] H1 Q E := fun t b H1 s1 hb h1 h2 => by
    have hbig : b.natAbs < 2 ^ 8000 := Nat.lt_of_le_of_lt h2.2 (Nat.lt_trans (show 10 ^ 39 < 2 ^ 140 by decide) (Nat.pow_lt_pow_right (by decide) (by decide)))
    refine ⟨rfl, _, _, dtAll2 dt_int dt_int, ⟨t, b, rfl, lowOk_pos hb hbig, rfl⟩, fun v' H' sm hv' => ?_⟩
    exact q v' H' _ _ (s1.trans sm) (drawn_low hb h1 h2) hv'
  refine ⟨_, rfl, .inl ⟨rfl, _, rfl, iteB (fun e => ?_) fun e => ?_⟩⟩
  · refine ⟨_, rfl, _, _, rfl, hp, by decide, by decide, fun r r0 r1 => ?_⟩
    refine ⟨_, _, rfl, rfl, ?_⟩
    exact q _ H (r - 3) 1 (Same.refl H) ⟨by decide, by simp, fun _ => ⟨by omega, by decide⟩, by have : (10 : Nat) ^ 40 > 1000 := by decide
                                                                                                omega, by decide⟩ dt_int
  refine ⟨_, rfl, .inl ⟨rfl, _, rfl, iteB (fun e1 => ?_) fun e1 => ?_⟩⟩
  · refine ⟨_, rfl, _, _, rfl, hp, by decide, by decide, fun r r0 r1 => ?_⟩
    refine ⟨_, _, rfl, rfl, ?_⟩
    refine ⟨_, rfl, _, _, rfl, hp, by decide, by decide, fun m m0 m1 => ?_⟩
    refine .inl ⟨_, _, rfl, rfl, ?_⟩
    refine fin _ _ _ (Same.refl H) (by omega) (fun _ => ⟨by omega, by omega⟩) ?_
    have h1 : (10 : Nat) ^ 40 > 1000 := by decide
    have h2 : (10 : Nat) ^ 39 > 1000 := by decide
    constructor <;> omega
  refine ⟨_, rfl, .inl ⟨rfl, _, rfl, iteB (fun e2 => ?_) fun e2 => ?_⟩⟩
  · refine ⟨_, rfl, _, _, rfl, hp, by decide, by decide, fun r r0 r1 => ?_⟩
    refine ⟨_, _, rfl, rfl, ?_⟩
    refine ⟨_, rfl, _, _, rfl, hp, by decide, by decide, fun m m0 m1 => ?_⟩
    refine .inl ⟨_, _, rfl, rfl, ?_⟩
    refine fin _ _ _ (Same.refl H) (by omega) (fun _ => ⟨by omega, by omega⟩) ?_
    have h1 : (10 : Nat) ^ 40 > 1000 := by decide
    have h2 : (10 : Nat) ^ 39 > 1000 := by decide
    constructor <;> omega
  have sz3 : ¬ sz ≤ 2 := by
    have a0 : ¬ sz = 0 := by simpa using e
    have a1 : ¬ sz = 1 := by simpa using e1
    have a2 : ¬ sz = 2 := by simpa using e2
    omega
  refine ⟨_, rfl, _, _, rfl, hp, by decide, by decide, fun r r0 r1 => ?_⟩
  refine .inl ⟨_, _, rfl, rfl, .inl ⟨by decide, by decide⟩, ?_⟩
  refine ⟨_, _, rfl, rfl, ?_⟩
  refine ⟨_, rfl, _, _, rfl, hp, .inl rfl, fun x H1 s1 x0 x1 => ?_⟩
  refine .inl ⟨_, _, rfl, rfl, .inl ⟨by omega, by omega⟩, ?_⟩
  refine ⟨_, rfl, _, _, rfl, hp.mono s1, .inr rfl, fun y H2 s2 y0 y1 => ?_⟩
  refine .inl ⟨_, _, rfl, rfl, ?_⟩
  have x1' : x < ((10 ^ 40 : Nat) : Int) := x1
  have y1' : y < ((10 ^ 39 : Nat) : Int) := y1
  refine fin _ _ _ (s1.trans s2) (by omega) (fun z => absurd z sz3) ⟨?_, by omega⟩
  have : r = 0 ∨ r = 1 := by omega
  rcases this with rfl | rfl
  · show ((1 - 2 * 0) * x).natAbs < _
    have : (1 - 2 * 0) * x = x := by omega
    rw [this]; omega
  · show ((1 - 2 * 1) * x).natAbs < _
    have : (1 - 2 * 1) * x = -x := by omega
    rw [this]; omega
abbrev s_law_size : Stmt := top 63
theorem sc_law_size : FnScope ["pen"] ["pen"] (defScope s_law_size) := ⟨rfl, rfl, rfl, by decide +kernel, rfl, by decide +kernel, by decide +kernel⟩

def spSize (P : Program) (w : World) : Sp := fun vs H Q _ => ∃ (p : Addr), vs = [.ref p] ∧ Pen P w H p ∧ ∀ sz H', Same H H' → 0 ≤ sz → sz ≤ 2 → Q (.int sz) H'
theorem ok__law_size (F : FnP K "_law_size" s_law_size f fd) (p__law_pick : PrG P w K mg base "_law_pick" 2 ["pen", "some"] (spPick P w K)) :
    FnG P w K mg base (L2.CX P w) 3 f fd ["pen"] (spSize P w) := by
  refine okG F sc_law_size (fun vs H Q E h => ?_) (fun cdv B outer s H vs Q E hr h => ?_)
  · obtain ⟨p, rfl, _⟩ := h
    rfl
  have nd := sc_law_size.nd
  refine ⟨_, (pss_one (ps_ret (pe_callP p__law_pick (hr.mono (by decide)) (by rfl) (fun σ => passAt (takes_of rfl rfl rfl rfl) σ) (pa_cons (pv 0) (pa_cons (pe_lst (pa_cons pe_int (pa_cons pe_int (pa_cons pe_int (pa_cons pe_int (pa_cons pe_int (pa_cons pe_int pa_nil))))))) pa_nil))))), ?_⟩
  obtain ⟨p, rfl, hp, q⟩ := h
  refine ⟨_, rfl, by show (6 : Nat) ≤ sizeLine; decide, fun l hl => ?_⟩
  have s1 := same_new (o := .lst [V.int 0, V.int 0, V.int 0, V.int 1, V.int 1, V.int 2]) hl
  refine ⟨p, l, _, rfl, hp.mono s1, .inl (.inl (.inl upd_same)), by simp, by simp, fun v hv => ?_⟩
  have : v = .int 0 ∨ v = .int 1 ∨ v = .int 2 := by simpa using hv
  rcases this with rfl | rfl | rfl
  · exact q _ _ s1 (by decide) (by decide)
  · exact q _ _ s1 (by decide) (by decide)
  · exact q _ _ s1 (by decide) (by decide)
abbrev s_law_row : Stmt := top 64
theorem sc_law_row : FnScope ["pen", "many", "size", "at"] ["pen", "many", "size"] (defScope s_law_row) := ⟨rfl, rfl, rfl, by decide +kernel, rfl, by decide +kernel, by decide +kernel⟩

/-- a drawn row: small ratios -/
structure RowS (ds : List PyData) (rs : List (Int × Int)) : Prop where
  len : ds.length = rs.length
  at_ : ∀ (j : Nat) (d : PyData), ds[j]? = some d → ∃ r, rs[j]? = some r ∧ Rt d r.1 r.2 ∧ r.1.natAbs < 1000 ∧ r.2.natAbs < 100
theorem RowS.all {ds : List PyData} {rs : List (Int × Int)} (h : RowS ds rs) : RtAll ds rs := ⟨h.len, fun j d e => by
  obtain ⟨r, h1, h2, h3, h4⟩ := h.at_ j d e
  exact ⟨r, h1, h2, Nat.lt_trans h3 (by decide), Nat.lt_trans h4 (by decide)⟩⟩
theorem rowS_nil : RowS [] [] := ⟨rfl, fun j d e => by simp at e⟩
theorem RowS.snoc {ds : List PyData} {rs : List (Int × Int)} {d : PyData} {t b : Int} (h : RowS ds rs) (r : Rt d t b) (h1 : t.natAbs < 1000) (h2 : b.natAbs < 100) : RowS (ds ++ [d]) (rs ++ [(t, b)]) := ⟨by simp [h.len], fun j e he => by
  by_cases hj : j < ds.length
  · rw [List.getElem?_append_left hj] at he
    rw [List.getElem?_append_left (by rw [← h.len]; exact hj)]
    exact h.at_ j e he
  · rw [List.getElem?_append_right (by omega)] at he
    rw [List.getElem?_append_right (by rw [← h.len]; omega), ← h.len]
    have : j - ds.length = 0 := by
      by_cases z : j - ds.length = 0
      · exact z
      · have : [d][j - ds.length]? = none := by simp; omega
        rw [this] at he; cases he
    rw [this] at he ⊢
    cases he
    exact ⟨_, rfl, r, h1, h2⟩⟩
theorem noL_numD (n : Int × Int) : noL (numD n) = true := by unfold numD; split <;> rfl
def spRow (P : Program) (w : World) (K : PySem.W.Frag) : Sp := fun vs H Q _ => ∃ (p : Addr) (many sz : Int), vs = [.ref p, .int many, .int sz] ∧ Pen P w H p ∧ 0 ≤ many ∧ many ≤ 4 ∧ 0 ≤ sz ∧ sz ≤ 2 ∧ ∀ v H' ds rs, Same H H' → RowS ds rs → (ds.length : Int) = many → Dt K H' (.tuple ds) v → Q v H'
theorem ok__law_row (F : FnP K "_law_row" s_law_row f fd) (g_range : mg "range" = none) (g_tuple : mg "tuple" = none) (p__law_draw : PrG P w K mg base "_law_draw" 1 ["pen", "many"] (spDraw P w)) (p__law_number : PrG P w K mg base "_law_number" 3 ["pen", "size"] (spNumber P w K)) :
    FnG P w K mg base (L2.CX P w) 4 f fd ["pen", "many", "size"] (spRow P w K) := by
  refine okG F sc_law_row (fun vs H Q E h => ?_) (fun cdv B outer s H vs Q E hr h => ?_)
  · obtain ⟨p, _, _, rfl, _⟩ := h
    rfl
  have nd := sc_law_row.nd
  refine ⟨_, (pss_one (ps_ret (pe_callTy call_tuple_of (by rfl) g_tuple (by rfl) (pa_cons (pe_lc (own := [("at", 3)]) (g := gName 3) (by rfl) nd (pi_range1 (by rfl) g_range (pa_cons (pv 1) pa_nil)) (blkOk_by (own := [("at", 3)]) (N := ["pen", "many", "size", "at"]) (sc := defScope s_law_row) (by decide +kernel)) (fun _ _ _ _ _ => pg_name (i := 3) nd rfl (.inl rfl)) (fun _ _ _ _ _ => pts_nil) (fun _ _ _ _ _ => (pe_ifExp (pt_cmpR op_gt (pe_callP p__law_draw (hr.mono (by decide)) (by rfl) (fun σ => passN σ) (pa_cons (pv 0) (pa_cons pe_int pa_nil))) pe_int (nomark _)) (pe_callP p__law_number (hr.mono (by decide)) (by rfl) (fun σ => passN σ) (pa_cons (pv 0) (pa_cons (pv 2) pa_nil))) pe_int))) pa_nil)))), ?_⟩
  obtain ⟨p, many, sz, rfl, hp, m0, m4, z0, z2, q⟩ := h
  unfold tRet
  refine ⟨_, rfl, _, rfl, by omega, by omega, fun D hD => ?_⟩
  refine lc_mapG (K := K) (n := many.toNat) (fun j acc => ∃ rs, RowS acc rs ∧ acc.length = j) walk_range (fun _ _ => trivial) hD (Nat.lt_of_le_of_lt (show many.toNat ≤ 4 by omega) (by decide)) ⟨[], rowS_nil, rfl⟩ ?_ ?_
  · rintro j x H2 H3 acc Q' hj sm ⟨rfl, rfl⟩ ⟨rs, hR, hl⟩ hq
    have hp2 := hp.mono sm
    refine ⟨_, rfl, _, _, rfl, hp2, by decide, by decide, fun r r0 r1 => ?_⟩
    refine ⟨_, _, rfl, rfl, _, rfl, iteB (fun e => ?_) fun e => ?_⟩
    · refine ⟨_, rfl, _, rfl, _, _, rfl, hp2, z0, by omega, fun v H' t b s' dr hv => ?_⟩
      exact hq v _ H' s' hv (noL_numD _) ⟨_, hR.snoc dr.rt (dr.sm z2).1 (dr.sm z2).2, by simp [hl]⟩
    · exact hq _ (.int 0) H3 (Same.refl _) dt_int rfl ⟨_, hR.snoc (rt_int 0) (by decide) (by decide), by simp [hl]⟩
  · rintro H2 ds vs sm hD2 hvs ⟨rs, hR, hl⟩
    refine ⟨D, vs, rfl, .inl ⟨.inl (.inl hD2), fun l hl2 => ?_⟩⟩
    exact q _ _ ds rs (sm.trans (same_new hl2)) hR (by omega) (dt_new hl2 hvs)
end
end L02
namespace L02
open PySem PySem.Spec PyProof.Rows L2 Fp RZ
/-- values that are no ratios -/
def oddL : List PyData := [.none, .bool true, .bool false, .str "1", .str "", .tuple [.int 1, .int 1], .tuple [.int 2, .int 4], .tuple [.int 1, .int 0], .tuple [.int 1, .int (-2)], .list [.int 1, .int 2], .tuple [.int 1, .int 2, .int 3], .tuple [.bool true, .int 2], .tuple [], .tuple [.int 0, .int 3], .dict []]
theorem dtAll_mem {K : PySem.W.Frag} {H : Hp} {ds : List PyData} {vs : List V} {v : V} (h : DtAll K H ds vs) (hv : v ∈ vs) : ∃ d, d ∈ ds ∧ Dt K H d v := by
  obtain ⟨j, e⟩ := List.getElem?_of_mem hv
  obtain ⟨d, hd, h'⟩ := dtAll_get h e
  exact ⟨d, List.mem_of_getElem? hd, h'⟩
theorem dt_dict0 {K : PySem.W.Frag} {H : Hp} {a : Addr} (h : H a = some (.dK [])) : Dt K H (.dict []) (.ref a) := by
  unfold Dt
  exact ⟨a, [], rfl, h, by unfold DtKv; rfl⟩
section
variable {P : Program} {w : World} {K : PySem.W.Frag} {mg : Str → Option Value} {base : Heap} {f : Addr} {fd : FuncData}
abbrev s_law_odd : Stmt := top 65
theorem sc_law_odd : FnScope ["pen"] ["pen"] (defScope s_law_odd) := ⟨rfl, rfl, rfl, by decide +kernel, rfl, by decide +kernel, by decide +kernel⟩

def spOdd (P : Program) (w : World) (K : PySem.W.Frag) : Sp := fun vs H Q _ => ∃ (p : Addr), vs = [.ref p] ∧ Pen P w H p ∧ ∀ v H' d, Same H H' → d ∈ oddL → Dt K H' d v → Q v H'
theorem ok__law_odd (F : FnP K "_law_odd" s_law_odd f fd) (p__law_pick : PrG P w K mg base "_law_pick" 2 ["pen", "some"] (spPick P w K)) :
    FnG P w K mg base (L2.CX P w) 3 f fd ["pen"] (spOdd P w K) := by
  refine okG F sc_law_odd (fun vs H Q E h => ?_) (fun cdv B outer s H vs Q E hr h => ?_)
  · obtain ⟨p, rfl, _⟩ := h
    rfl
  have nd := sc_law_odd.nd
  refine ⟨_, (pss_one (ps_ret (pe_callP p__law_pick (hr.mono (by decide)) (by rfl) (fun σ => passAt (takes_of rfl rfl rfl rfl) σ) (pa_cons (pv 0) (pa_cons (pe_lst (pa_cons pe_non (pa_cons pe_bl (pa_cons pe_bl (pa_cons pe_str (pa_cons pe_str (pa_cons (pe_tup (pa_cons pe_int (pa_cons pe_int pa_nil))) (pa_cons (pe_tup (pa_cons pe_int (pa_cons pe_int pa_nil))) (pa_cons (pe_tup (pa_cons pe_int (pa_cons pe_int pa_nil))) (pa_cons (pe_tup (pa_cons pe_int (pa_cons (pe_un un_neg pe_int) pa_nil))) (pa_cons (pe_lst (pa_cons pe_int (pa_cons pe_int pa_nil))) (pa_cons (pe_tup (pa_cons pe_int (pa_cons pe_int (pa_cons pe_int pa_nil)))) (pa_cons (pe_tup (pa_cons pe_bl (pa_cons pe_int pa_nil))) (pa_cons (pe_tup pa_nil) (pa_cons (pe_tup (pa_cons pe_int (pa_cons pe_int pa_nil))) (pa_cons pe_dnewK pa_nil)))))))))))))))) pa_nil))))), ?_⟩
  obtain ⟨p, rfl, hp, q⟩ := h
  refine ⟨_, rfl, ?_⟩
  refine ⟨by show (2 : Nat) ≤ sizeLine; decide, fun a0 h0 => ?_⟩
  have s0 := same_new (o := .tup [V.int (1), V.int (1)]) h0
  have D0 : Dt K (upd (H) a0 (.tup [V.int (1), V.int (1)])) (.tuple [.int (1), .int (1)]) (.ref a0) := dt_new h0 (dtAll_cons dt_int (dtAll_cons dt_int dtAll_nil))
  refine ⟨by show (2 : Nat) ≤ sizeLine; decide, fun a1 h1 => ?_⟩
  have s1 := same_new (o := .tup [V.int (2), V.int (4)]) h1
  have D1 : Dt K (upd (upd (H) a0 (.tup [V.int (1), V.int (1)])) a1 (.tup [V.int (2), V.int (4)])) (.tuple [.int (2), .int (4)]) (.ref a1) := dt_new h1 (dtAll_cons dt_int (dtAll_cons dt_int dtAll_nil))
  refine ⟨by show (2 : Nat) ≤ sizeLine; decide, fun a2 h2 => ?_⟩
  have s2 := same_new (o := .tup [V.int (1), V.int (0)]) h2
  have D2 : Dt K (upd (upd (upd (H) a0 (.tup [V.int (1), V.int (1)])) a1 (.tup [V.int (2), V.int (4)])) a2 (.tup [V.int (1), V.int (0)])) (.tuple [.int (1), .int (0)]) (.ref a2) := dt_new h2 (dtAll_cons dt_int (dtAll_cons dt_int dtAll_nil))
  refine ⟨_, rfl, by show (2 : Nat) ≤ sizeLine; decide, fun a3 h3 => ?_⟩
  have s3 := same_new (o := .tup [V.int (1), V.int (-2)]) h3
  have D3 : Dt K (upd (upd (upd (upd (H) a0 (.tup [V.int (1), V.int (1)])) a1 (.tup [V.int (2), V.int (4)])) a2 (.tup [V.int (1), V.int (0)])) a3 (.tup [V.int (1), V.int (-2)])) (.tuple [.int (1), .int (-2)]) (.ref a3) := dt_new h3 (dtAll_cons dt_int (dtAll_cons dt_int dtAll_nil))
  refine ⟨by show (2 : Nat) ≤ sizeLine; decide, fun a4 h4 => ?_⟩
  have s4 := same_new (o := .lst [V.int (1), V.int (2)]) h4
  have D4 : Dt K (upd (upd (upd (upd (upd (H) a0 (.tup [V.int (1), V.int (1)])) a1 (.tup [V.int (2), V.int (4)])) a2 (.tup [V.int (1), V.int (0)])) a3 (.tup [V.int (1), V.int (-2)])) a4 (.lst [V.int (1), V.int (2)])) (.list [.int (1), .int (2)]) (.ref a4) := dt_newL h4 (dtAll_cons dt_int (dtAll_cons dt_int dtAll_nil))
  refine ⟨by show (3 : Nat) ≤ sizeLine; decide, fun a5 h5 => ?_⟩
  have s5 := same_new (o := .tup [V.int (1), V.int (2), V.int (3)]) h5
  have D5 : Dt K (upd (upd (upd (upd (upd (upd (H) a0 (.tup [V.int (1), V.int (1)])) a1 (.tup [V.int (2), V.int (4)])) a2 (.tup [V.int (1), V.int (0)])) a3 (.tup [V.int (1), V.int (-2)])) a4 (.lst [V.int (1), V.int (2)])) a5 (.tup [V.int (1), V.int (2), V.int (3)])) (.tuple [.int (1), .int (2), .int (3)]) (.ref a5) := dt_new h5 (dtAll_cons dt_int (dtAll_cons dt_int (dtAll_cons dt_int dtAll_nil)))
  refine ⟨by show (2 : Nat) ≤ sizeLine; decide, fun a6 h6 => ?_⟩
  have s6 := same_new (o := .tup [V.bl true, V.int (2)]) h6
  have D6 : Dt K (upd (upd (upd (upd (upd (upd (upd (H) a0 (.tup [V.int (1), V.int (1)])) a1 (.tup [V.int (2), V.int (4)])) a2 (.tup [V.int (1), V.int (0)])) a3 (.tup [V.int (1), V.int (-2)])) a4 (.lst [V.int (1), V.int (2)])) a5 (.tup [V.int (1), V.int (2), V.int (3)])) a6 (.tup [V.bl true, V.int (2)])) (.tuple [.bool true, .int (2)]) (.ref a6) := dt_new h6 (dtAll_cons dt_bool (dtAll_cons dt_int dtAll_nil))
  refine ⟨by show (0 : Nat) ≤ sizeLine; decide, fun a7 h7 => ?_⟩
  have s7 := same_new (o := .tup []) h7
  have D7 : Dt K (upd (upd (upd (upd (upd (upd (upd (upd (H) a0 (.tup [V.int (1), V.int (1)])) a1 (.tup [V.int (2), V.int (4)])) a2 (.tup [V.int (1), V.int (0)])) a3 (.tup [V.int (1), V.int (-2)])) a4 (.lst [V.int (1), V.int (2)])) a5 (.tup [V.int (1), V.int (2), V.int (3)])) a6 (.tup [V.bl true, V.int (2)])) a7 (.tup [])) (.tuple []) (.ref a7) := dt_new h7 dtAll_nil
  refine ⟨by show (2 : Nat) ≤ sizeLine; decide, fun a8 h8 => ?_⟩
  have s8 := same_new (o := .tup [V.int (0), V.int (3)]) h8
  have D8 : Dt K (upd (upd (upd (upd (upd (upd (upd (upd (upd (H) a0 (.tup [V.int (1), V.int (1)])) a1 (.tup [V.int (2), V.int (4)])) a2 (.tup [V.int (1), V.int (0)])) a3 (.tup [V.int (1), V.int (-2)])) a4 (.lst [V.int (1), V.int (2)])) a5 (.tup [V.int (1), V.int (2), V.int (3)])) a6 (.tup [V.bl true, V.int (2)])) a7 (.tup [])) a8 (.tup [V.int (0), V.int (3)])) (.tuple [.int (0), .int (3)]) (.ref a8) := dt_new h8 (dtAll_cons dt_int (dtAll_cons dt_int dtAll_nil))
  refine fun a9 h9 => ?_
  have s9 := same_new (o := .dK []) h9
  have D9 : Dt K (upd (upd (upd (upd (upd (upd (upd (upd (upd (upd (H) a0 (.tup [V.int (1), V.int (1)])) a1 (.tup [V.int (2), V.int (4)])) a2 (.tup [V.int (1), V.int (0)])) a3 (.tup [V.int (1), V.int (-2)])) a4 (.lst [V.int (1), V.int (2)])) a5 (.tup [V.int (1), V.int (2), V.int (3)])) a6 (.tup [V.bl true, V.int (2)])) a7 (.tup [])) a8 (.tup [V.int (0), V.int (3)])) a9 (.dK [])) (.dict []) (.ref a9) := dt_dict0 upd_same
  refine ⟨by show (15 : Nat) ≤ sizeLine; decide, fun l hl => ?_⟩
  have sL := same_new (o := .lst [V.non, .bl true, .bl false, .str "1", .str "", .ref a0, .ref a1, .ref a2, .ref a3, .ref a4, .ref a5, .ref a6, .ref a7, .ref a8, .ref a9]) hl
  have sA := (s0.trans (s1.trans (s2.trans (s3.trans (s4.trans (s5.trans (s6.trans (s7.trans (s8.trans (s9.trans sL))))))))))
  have all : DtAll K _ oddL [V.non, .bl true, .bl false, .str "1", .str "", .ref a0, .ref a1, .ref a2, .ref a3, .ref a4, .ref a5, .ref a6, .ref a7, .ref a8, .ref a9] := dtAll_cons dt_none (dtAll_cons dt_bool (dtAll_cons dt_bool (dtAll_cons dt_str (dtAll_cons dt_str (dtAll_cons (D0.mono (s1.trans (s2.trans (s3.trans (s4.trans (s5.trans (s6.trans (s7.trans (s8.trans (s9.trans sL)))))))))) (dtAll_cons (D1.mono (s2.trans (s3.trans (s4.trans (s5.trans (s6.trans (s7.trans (s8.trans (s9.trans sL))))))))) (dtAll_cons (D2.mono (s3.trans (s4.trans (s5.trans (s6.trans (s7.trans (s8.trans (s9.trans sL)))))))) (dtAll_cons (D3.mono (s4.trans (s5.trans (s6.trans (s7.trans (s8.trans (s9.trans sL))))))) (dtAll_cons (D4.mono (s5.trans (s6.trans (s7.trans (s8.trans (s9.trans sL)))))) (dtAll_cons (D5.mono (s6.trans (s7.trans (s8.trans (s9.trans sL))))) (dtAll_cons (D6.mono (s7.trans (s8.trans (s9.trans sL)))) (dtAll_cons (D7.mono (s8.trans (s9.trans sL))) (dtAll_cons (D8.mono (s9.trans sL)) (dtAll_cons (D9.mono sL) dtAll_nil))))))))))))))
  refine ⟨p, l, _, rfl, hp.mono sA, .inl (.inl (.inl upd_same)), by simp, by simp, fun v hv => ?_⟩
  obtain ⟨d, hd, hv⟩ := dtAll_mem all hv
  exact q v _ d sA hd hv
end
end L02
namespace L02
open PySem PySem.Spec PyProof.Rows L2 Fp RZ
theorem len_str (s : String) : (Str.ofString s).length = s.length := by
  have h := PyProof.Rows.signs_ofString s
  show (Str.ofString s).cps.size = _
  rw [← Array.length_toList, h, List.length_map]
  rfl
theorem neg_len (m : Nat) : (Str.ofString (toString (Int.negSucc m))).length = 1 + (Str.ofString (toString ((m + 1 : Nat) : Int))).length := by
  rw [len_str, len_str]
  show ("-" ++ Nat.repr (m + 1)).length = 1 + (Nat.repr (m + 1)).length
  rw [String.length_append]
  rfl
theorem gd_intA {i : Int} (h : i.natAbs < 10 ^ 41) : Gd 0 140 (.int i) := by
  cases i with
  | ofNat n => exact gd_int (by simp) (by have : n < 10 ^ 41 := h; show ((n : Nat) : Int) < ((10 ^ 41 : Nat) : Int); omega)
  | negSucc m =>
    have hm : m + 1 < 10 ^ 41 := h
    have hn : m + 1 < 2 ^ 137 := Nat.lt_trans hm (by decide)
    have hl : (m + 1).log2 < 137 := (Nat.log2_lt (by omega)).mpr hn
    refine ⟨?_, by simp [PyData.depth], ?_, ?_⟩
    · simp only [PyData.showable, decide_eq_true_eq]
      show (m + 1).log2 < 1920
      omega
    · simp only [PyData.leavesShort, PyData.shown]
      refine decide_eq_true ?_
      rw [neg_len]
      have := toString_length_le (v := ((m + 1 : Nat) : Int)) (k := 41) (by omega) (by decide) (by show ((m + 1 : Nat) : Int) < ((10 ^ 41 : Nat) : Int); omega)
      omega
    · simp only [PyData.weight]
      have e : (Int.negSucc m).natAbs.log2 = (m + 1).log2 := rfl
      split <;> omega
theorem Gd.pos {n W : Nat} {ds : List PyData} (h : ∀ d ∈ ds, Gd n W d) : GdAll n ((W + 1) * ds.length) ds := by
  induction ds with
  | nil => exact ⟨rfl, by simp [PyData.depthAll], rfl, by simp [PyData.weightAll]⟩
  | cons d r ih =>
    have g := gdAll_cons (h d List.mem_cons_self) (ih fun e he => h e (List.mem_cons_of_mem _ he))
    refine ⟨g.sh, by have := g.dp; omega, g.lf, Nat.le_trans g.wt ?_⟩
    rw [List.length_cons, Nat.mul_succ]
    omega
theorem gd_numD {t b : Int} (ht : t.natAbs < 10 ^ 41) (hb : b.natAbs < 10 ^ 41) : Gd 1 300 (numD (t, b)) := by
  unfold numD
  split
  · exact (gd_intA ht).mono (by decide) (by decide)
  · exact (Gd.tuple (gdAll_cons (gd_intA ht) (gdAll_cons (gd_intA hb) gdAll_nil))).mono (by decide) (by decide)
theorem txt_numD (n : Int × Int) : txtOk (numD n) = true := by unfold numD; split <;> rfl
theorem txtAll {ds : List PyData} (h : ∀ d ∈ ds, txtOk d = true) : txtOkAll ds = true := by
  induction ds with
  | nil => rfl
  | cons d r ih => simp only [txtOkAll, h d List.mem_cons_self, ih fun e he => h e (List.mem_cons_of_mem _ he), Bool.and_self]
/-- what can be shown, checked -/
def gdB (d : PyData) : Bool := d.showable && (decide (d.depth ≤ 3) && (d.leavesShort 42 && decide (d.weight ≤ 1000)))
theorem gdB_ok {d : PyData} (h : gdB d = true) : Gd 3 1000 d := by
  unfold gdB at h
  simp only [Bool.and_eq_true, decide_eq_true_eq] at h
  exact ⟨h.1, h.2.1, h.2.2.1, h.2.2.2⟩
/-- what is known of a value that the law may hand in wrongly -/
structure Val (d : PyData) : Prop where
  gd : Sd d
  tx : txtOk d = true
  ln : ∀ ds, seqD d = some ds → ds.length < 1000
theorem odd_all : (oddL.all fun d => gdB d && (txtOk d && !isRatioD d)) = true := by decide +kernel
theorem odd_val {d : PyData} (h : d ∈ oddL) : Val d ∧ isRatioD d = false := by
  have z := List.all_eq_true.mp odd_all d h
  simp only [Bool.and_eq_true, Bool.not_eq_true'] at z
  refine ⟨⟨(gdB_ok z.1).mono (by decide) (by decide), z.2.1, fun ds e => ?_⟩, z.2.2⟩
  have : (oddL.all fun d => match seqD d with | some ds => decide (ds.length < 1000) | none => true) = true := by decide +kernel
  have q := List.all_eq_true.mp this d h
  rw [e] at q
  simpa using q
theorem RowS.mem {ds : List PyData} {rs : List (Int × Int)} (h : RowS ds rs) {d : PyData} (hd : d ∈ ds) : ∃ t b, Rt d t b ∧ t.natAbs < 1000 ∧ b.natAbs < 100 := by
  obtain ⟨j, e⟩ := List.getElem?_of_mem hd
  obtain ⟨r, _, h2, h3, h4⟩ := h.at_ j d e
  exact ⟨r.1, r.2, h2, h3, h4⟩
theorem row_item {d : PyData} {t b : Int} (r : Rt d t b) (h1 : t.natAbs < 1000) (h2 : b.natAbs < 100) : Gd 1 300 d ∧ txtOk d = true ∧ isRatioD d = true := by
  refine ⟨?_, ?_, r.is⟩
  · rw [r.e]; exact gd_numD (Nat.lt_trans h1 (by decide)) (Nat.lt_trans h2 (by decide))
  · rw [r.e]; exact txt_numD _
/-- a row of values that can each be shown -/
theorem tuple_val {ds : List PyData} (h : ∀ d ∈ ds, Gd 3 1000 d ∧ txtOk d = true) (hl : ds.length ≤ 10) : Val (.tuple ds) := by
  refine ⟨?_, ?_, fun es e => by cases e; omega⟩
  · refine (Gd.tuple (Gd.pos fun d hd => (h d hd).1)).mono (by decide) ?_
    have : (1000 + 1) * ds.length ≤ 1001 * 10 := Nat.mul_le_mul_left _ hl
    omega
  · simp only [txtOk]
    exact txtAll fun d hd => (h d hd).2
theorem RowS.val {ds : List PyData} {rs : List (Int × Int)} (h : RowS ds rs) (hl : ds.length ≤ 10) : Val (.tuple ds) :=
  tuple_val (fun d hd => by
    obtain ⟨t, b, r, h1, h2⟩ := h.mem hd
    obtain ⟨g, x, _⟩ := row_item r h1 h2
    exact ⟨g.mono (by decide) (by decide), x⟩) hl
theorem RowS.ok {ds : List PyData} {rs : List (Int × Int)} (h : RowS ds rs) : rowOk (.tuple ds) = true := by
  rw [rowOk_some (ds := ds) rfl, List.all_eq_true]
  intro d hd
  obtain ⟨t, b, r, h1, h2⟩ := h.mem hd
  exact r.is
theorem RowS.take {ds : List PyData} {rs : List (Int × Int)} (h : RowS ds rs) (k : Nat) : RowS (ds.take k) (rs.take k) := ⟨by simp [h.len], fun j d e => by
  rw [List.getElem?_take] at e ⊢
  split at e
  · rename_i hj
    rw [if_pos hj]
    exact h.at_ j d e
  · cases e⟩
/-- a bent row -/
structure Bent (d : PyData) : Prop where
  val : Val d
  row : rowOk d = true → ∃ ds rs, d = .tuple ds ∧ RowS ds rs ∧ ds.length ≤ 5
theorem bent_row {ds : List PyData} {rs : List (Int × Int)} (h : RowS ds rs) (hl : ds.length ≤ 5) : Bent (.tuple ds) := ⟨h.val (by omega), fun _ => ⟨ds, rs, rfl, h, hl⟩⟩
theorem bent_odd {ds es : List PyData} {rs : List (Int × Int)} {o : PyData} (h : RowS ds rs) (hl : ds.length ≤ 4) (ho : o ∈ oddL) (k : Nat) (he : es = ds.take k ++ [o] ++ ds.drop (k + 1)) : Bent (.tuple es) := by
  obtain ⟨ov, onr⟩ := odd_val ho
  have mem : ∀ d ∈ es, d ∈ ds ∨ d = o := fun d hd => by
    rw [he] at hd
    rcases List.mem_append.mp hd with hd | hd
    · rcases List.mem_append.mp hd with hd | hd
      · exact .inl (List.mem_of_mem_take hd)
      · exact .inr (List.mem_singleton.mp hd)
    · exact .inl (List.mem_of_mem_drop hd)
  have ho' : gdB o = true := by
    have z := List.all_eq_true.mp odd_all o ho
    simp only [Bool.and_eq_true] at z
    exact z.1
  refine ⟨tuple_val (fun d hd => ?_) ?_, fun z => ?_⟩
  · rcases mem d hd with hd | rfl
    · obtain ⟨t, b, r, h1, h2⟩ := h.mem hd
      obtain ⟨g, x, _⟩ := row_item r h1 h2
      exact ⟨g.mono (by decide) (by decide), x⟩
    · exact ⟨gdB_ok ho', ov.tx⟩
  · rw [he]
    simp only [List.length_append, List.length_take, List.length_drop, List.length_cons, List.length_nil]
    omega
  · rw [rowOk_some (ds := es) rfl, List.all_eq_true] at z
    have := z o (by rw [he]; simp)
    rw [onr] at this
    cases this
def plainL : List PyData := [.none, .int 3, .str "row", .bool true, .dict []]
theorem bent_plain {d : PyData} (h : d ∈ plainL) : Bent d := by
  have z := List.all_eq_true.mp (show (plainL.all fun d => gdB d && (txtOk d && (seqD d).isNone)) = true by decide +kernel) d h
  simp only [Bool.and_eq_true] at z
  have e : seqD d = none := by cases e : seqD d <;> simp [e] at z ⊢
  refine ⟨⟨(gdB_ok z.1).mono (by decide) (by decide), z.2.1, fun ds e' => by rw [e] at e'; cases e'⟩, fun q => ?_⟩
  rw [rowOk_none e] at q
  cases q
end L02
namespace L02
open PySem PySem.Spec PyProof.Rows L2 Fp RZ
theorem dtAll_take {K : PySem.W.Frag} {H : Hp} : ∀ {ds : List PyData} {xs : List V} (k : Nat), DtAll K H ds xs → DtAll K H (ds.take k) (xs.take k)
  | _, _, 0, _ => by simp only [List.take_zero]; exact dtAll_nil
  | [], _, k + 1, h => by unfold DtAll at h; subst h; exact dtAll_nil
  | d :: ds, _, k + 1, h => by
    unfold DtAll at h
    obtain ⟨x, r, rfl, h1, h2⟩ := h
    exact dtAll_cons h1 (dtAll_take k h2)
theorem dtAll_drop {K : PySem.W.Frag} {H : Hp} : ∀ {ds : List PyData} {xs : List V} (k : Nat), DtAll K H ds xs → DtAll K H (ds.drop k) (xs.drop k)
  | _, _, 0, h => by simpa using h
  | [], _, k + 1, h => by unfold DtAll at h; subst h; exact dtAll_nil
  | d :: ds, _, k + 1, h => by
    unfold DtAll at h
    obtain ⟨x, r, rfl, h1, h2⟩ := h
    exact dtAll_drop k h2
theorem cut_m1 {n : Nat} : HT.sIx n n (some (-1)) = n - 1 := by
  unfold HT.sIx
  dsimp only
  rw [if_pos (by decide)]
  omega
theorem cut_last {xs : List V} : cutV xs none (some (-1)) = xs.take (xs.length - 1) := by
  unfold cutV
  rw [cut_m1]
  show List.take (xs.length - 1 - 0) (xs.drop 0) = _
  simp
theorem cut_to {xs : List V} {k : Nat} (h : k ≤ xs.length) : cutV xs none (some (k : Int)) = xs.take k := by
  unfold cutV
  rw [HT.sIx_nat, Nat.min_eq_left h]
  show List.take (k - 0) (xs.drop 0) = _
  simp
theorem cut_from {xs : List V} {k : Nat} (h : k ≤ xs.length) : cutV xs (some (k : Int)) none = xs.drop k := by
  unfold cutV
  rw [HT.sIx_nat, Nat.min_eq_left h]
  show List.take (xs.length - k) (xs.drop k) = _
  rw [List.take_of_length_le (by simp)]
/-- t + u, of tuples of data -/
theorem cat_dt {K : PySem.W.Frag} {H : Hp} {Q : VK} {a b : Addr} {ds es : List PyData} {xs ys : List V} (hs : SqT K H a xs) (hds : DtAll K H ds xs) (hs2 : SqT K H b ys) (hes : DtAll K H es ys) (hl : xs.length + ys.length ≤ sizeLine)
    (q : ∀ p H', Same H H' → SqT K H' p (xs ++ ys) → DtAll K H' (ds ++ es) (xs ++ ys) → Q (.ref p) H') : rAddP K (.ref a) (.ref b) H Q := by
  have all := dtAll_append hds hes
  refine .inr (.inr (.inl ⟨a, b, xs, ys, rfl, rfl, hs, hs2, hl, fun e => ?_, fun _ e => ?_, fun _ _ p hp => ?_⟩))
  · subst e
    exact q b H (Same.refl H) hs2 all
  · subst e
    refine q a H (Same.refl H) (by rw [List.append_nil]; exact hs) all
  · exact q p _ (same_new hp) (.inl (.inl upd_same)) (all.mono (same_new hp))
section
variable {P : Program} {w : World} {K : PySem.W.Frag} {mg : Str → Option Value} {base : Heap} {f : Addr} {fd : FuncData}
abbrev s_law_bent_row : Stmt := top 66
theorem sc_law_bent_row : FnScope ["pen", "row", "way", "at"] ["pen", "row"] (defScope s_law_bent_row) := ⟨rfl, rfl, rfl, by decide +kernel, rfl, by decide +kernel, by decide +kernel⟩

def spBent (P : Program) (w : World) (K : PySem.W.Frag) : Sp := fun vs H Q _ => ∃ (p : Addr) (v : V) (ds : List PyData) (rs : List (Int × Int)), vs = [.ref p, v] ∧ Pen P w H p ∧ Dt K H (.tuple ds) v ∧ RowS ds rs ∧ ds.length ≤ 4 ∧ ∀ v H' d, Same H H' → Bent d → Dt K H' d v → Q v H'
theorem ok__law_bent_row (F : FnP K "_law_bent_row" s_law_bent_row f fd) (g_len : mg "len" = none) (p__law_draw : PrG P w K mg base "_law_draw" 1 ["pen", "many"] (spDraw P w)) (p__law_pick : PrG P w K mg base "_law_pick" 2 ["pen", "some"] (spPick P w K)) (p__law_odd : PrG P w K mg base "_law_odd" 3 ["pen"] (spOdd P w K)) :
    FnG P w K mg base (L2.CX P w) 4 f fd ["pen", "row"] (spBent P w K) := by
  refine okG F sc_law_bent_row (fun vs H Q E h => ?_) (fun cdv B outer s H vs Q E hr h => ?_)
  · obtain ⟨p, v, _, _, rfl, _⟩ := h
    rfl
  have nd := sc_law_bent_row.nd
  refine ⟨_, (pss_cons (ps_set (i := 2) nd rfl (.inl rfl) (pe_callP p__law_draw (hr.mono (by decide)) (by rfl) (fun σ => passAt (takes_of rfl rfl rfl rfl) σ) (pa_cons (pv 0) (pa_cons pe_int pa_nil))))
  (pss_cons (ps_if (PW.pt (pw_and (pt_cmpR (opEqA hr) (pv 2) pe_int (nomark _)) (pw_and1 (pt_cmpR op_gt (pe_callB call_len_seq (by rfl) g_len (by rfl) (pa_cons (pv 1) pa_nil)) pe_int (nomark _))))) (pss_one (ps_ret (pe_slice sl_tup (pv 1) po_none (po_some (pe_un un_neg pe_int))))) pss_nil)
  (pss_cons (ps_if (pt_cmpR (opEqA hr) (pv 2) pe_int (nomark _)) (pss_one (ps_ret (pe_op opAdd (pv 1) (pe_tup (pa_cons (pe_callP p__law_draw (hr.mono (by decide)) (by rfl) (fun σ => passAt (takes_of rfl rfl rfl rfl) σ) (pa_cons (pv 0) (pa_cons pe_int pa_nil))) pa_nil))))) pss_nil)
  (pss_cons (ps_if (PW.pt (pw_and (pt_cmpR (opEqA hr) (pv 2) pe_int (nomark _)) (pw_and1 (pt_cmpR op_gt (pe_callB call_len_seq (by rfl) g_len (by rfl) (pa_cons (pv 1) pa_nil)) pe_int (nomark _))))) (pss_cons (ps_set (i := 3) nd rfl (.inl rfl) (pe_callP p__law_draw (hr.mono (by decide)) (by rfl) (fun σ => passAt (takes_of rfl rfl rfl rfl) σ) (pa_cons (pv 0) (pa_cons (pe_callB call_len_seq (by rfl) g_len (by rfl) (pa_cons (pv 1) pa_nil)) pa_nil))))
  (pss_one (ps_ret (pe_op opAdd (pe_op opAdd (pe_slice sl_tup (pv 1) po_none (po_some (pv 3))) (pe_tup (pa_cons (pe_callP p__law_odd (hr.mono (by decide)) (by rfl) (fun σ => passAt (takes_of rfl rfl rfl rfl) σ) (pa_cons (pv 0) pa_nil)) pa_nil))) (pe_slice sl_tup (pv 1) (po_some (pe_op opAdd (pv 3) pe_int)) po_none))))) pss_nil)
  (pss_one (ps_ret (pe_callP p__law_pick (hr.mono (by decide)) (by rfl) (fun σ => passAt (takes_of rfl rfl rfl rfl) σ) (pa_cons (pv 0) (pa_cons (pe_lst (pa_cons pe_non (pa_cons pe_int (pa_cons pe_str (pa_cons pe_bl (pa_cons pe_dnewK pa_nil)))))) pa_nil))))))))), ?_⟩
  obtain ⟨p, v, ds, rs, rfl, hp, hv, hR, h4, q⟩ := h
  obtain ⟨a, xs, rfl, hs, hds⟩ := dt_tup_inv hv
  have lx := dtAll_len hds
  refine ⟨_, rfl, _, _, rfl, hp, by decide, by decide, fun way w0 w4 => ?_⟩
  have len0 : decide (0 < (xs.length : Int)) = false → ds.length = 0 := fun e => by
    have : ¬ (0 : Int) < (xs.length : Int) := by simpa using e
    omega
  unfold gName
  dsimp only
  refine seq_rest (fun σ H' => H' = H ∧ ∃ x3, (way ≠ 0 ∨ ds.length = 0) ∧ σ = [some (.ref p), some (.ref a), some (.int way), x3]) ?_ fun rest => ?_
  · rintro σ H' ⟨rfl, x3, hw0, rfl⟩
    refine ⟨_, rfl, .inl ⟨rfl, _, rfl, iteB (fun e => ?_) fun e => ?_⟩⟩
    · refine ⟨_, rfl, _, rfl, _, _, rfl, hp, by decide, by decide, fun r r0 r3 => ?_⟩
      refine ⟨by show (1 : Nat) ≤ sizeLine; decide, fun t ht => ?_⟩
      have s1 := same_new (o := .tup [V.int r]) ht
      refine cat_dt (sqt_mono s1 hs) (hds.mono s1) (.inl (.inl upd_same)) (dtAll1 (d := .int r) dt_int) (Nat.le_trans (show xs.length + 1 ≤ 5 by omega) (by decide)) fun pp H2 s2 h2 h3 => ?_
      exact q _ H2 _ (s1.trans s2) (bent_row (hR.snoc (rt_int r) (by omega) (by decide)) (by simp; omega)) (dt_tup h2 h3)
    unfold tNext
    dsimp only
    refine seq_rest (fun σ H2 => H2 = H' ∧ ∃ x3, σ = [some (.ref p), some (.ref a), some (.int way), x3]) ?_ fun rest => ?_
    · rintro σ H2 ⟨rfl, x3, rfl⟩
      refine ⟨_, rfl, fun d hd => ?_⟩
      have s1 := same_new (o := .dK []) hd
      refine ⟨by show (5 : Nat) ≤ sizeLine; decide, fun l hl => ?_⟩
      have s2 := same_new (o := .lst [V.non, .int 3, .str "row", .bl true, .ref d]) hl
      have all : DtAll K _ plainL [V.non, .int 3, .str "row", .bl true, .ref d] := dtAll_cons dt_none (dtAll_cons dt_int (dtAll_cons dt_str (dtAll_cons dt_bool (dtAll_cons (Dt.mono s2 (dt_dict0 (H := upd H2 d (.dK [])) upd_same)) dtAll_nil))))
      refine ⟨p, l, _, rfl, (hp.mono s1).mono s2, .inl (.inl (.inl upd_same)), by simp, by simp, fun v hv => ?_⟩
      obtain ⟨e, he, hv⟩ := dtAll_mem all hv
      exact q v _ e (s1.trans s2) (bent_plain he) hv
    refine ⟨_, rfl, .inl ⟨rfl, _, rfl, iteB (fun e => ?_) fun e => rest _ _ ⟨rfl, _, rfl⟩⟩⟩
    refine ⟨_, rfl, a, xs, rfl, .inr hs, _, _, rfl, rfl, _, rfl, iteB (fun e => ?_) fun e => rest _ _ ⟨rfl, _, rfl⟩⟩
    have xl : 0 < xs.length := by simpa using e
    refine ⟨_, rfl, _, rfl, a, xs, rfl, .inr hs, _, _, rfl, hp, by omega, by omega, fun r r0 r1 => ?_⟩
    obtain ⟨k, rfl⟩ : ∃ k : Nat, r = (k : Int) := ⟨r.toNat, by omega⟩
    have hk : k < xs.length := by omega
    have sz5 : ∀ n : Nat, n ≤ 9 → n ≤ sizeLine := fun n h => Nat.le_trans h (by decide)
    refine ⟨_, rfl, _, rfl, _, rfl, a, xs, rfl, hs, ?_, fun p1 hp1 => ?_⟩
    · rintro ⟨_, z⟩
      rw [HT.sIx_nat] at z
      omega
    rw [cut_to (by omega)]
    have s1 := same_new (o := .tup (xs.take k)) hp1
    refine ⟨_, rfl, p, rfl, hp.mono s1, fun v H2 d s2 hd hv => ?_⟩
    refine ⟨by show (1 : Nat) ≤ sizeLine; decide, fun t ht => ?_⟩
    have s3 := same_new (o := .tup [v]) ht
    have sA := s1.trans (s2.trans s3)
    have lt : (xs.take k).length = k := by rw [List.length_take]; omega
    refine cat_dt (sqt_mono (s2.trans s3) (.inl (.inl upd_same))) (dtAll_take k (hds.mono sA)) (.inl (.inl upd_same)) (dtAll1 (hv.mono s3)) (sz5 _ (by rw [lt]; simp; omega)) fun pp H3 s4 h2 h3 => ?_
    refine ⟨_, rfl, _, rfl, .inl ⟨_, _, rfl, rfl, _, rfl, a, xs, rfl, sqt_mono (sA.trans s4) hs, ?_, fun p2 hp2 => ?_⟩⟩
    · rintro ⟨z, _⟩
      have e : (k : Int) + 1 = ((k + 1 : Nat) : Int) := by omega
      rw [e, HT.sIx_nat] at z
      omega
    have e : (k : Int) + 1 = ((k + 1 : Nat) : Int) := by omega
    have ec := cut_from (xs := xs) (k := k + 1) (by omega)
    rw [← e] at ec
    have s5 := same_new (o := .tup (xs.drop (k + 1))) hp2
    dsimp only
    rw [ec]
    refine cat_dt (sqt_mono s5 h2) (h3.mono s5) (.inl (.inl upd_same)) (dtAll_drop (k + 1) (hds.mono ((sA.trans s4).trans s5))) (sz5 _ (by rw [List.length_append, lt, List.length_drop]; simp; omega)) fun pz H4 s6 h5 h6 => ?_
    exact q _ H4 _ (((sA.trans s4).trans s5).trans s6) (bent_odd hR h4 hd k rfl) (dt_tup h5 h6)
  refine ⟨_, rfl, .inl ⟨rfl, _, rfl, iteB (fun e => ?_) fun e => rest _ _ ⟨rfl, _, .inl (by simpa using e), rfl⟩⟩⟩
  refine ⟨_, rfl, a, xs, rfl, .inr hs, _, _, rfl, rfl, _, rfl, iteB (fun e => ?_) fun e => rest _ _ ⟨rfl, _, .inr (len0 e), rfl⟩⟩
  have xl : 0 < xs.length := by simpa using e
  refine ⟨_, rfl, _, rfl, _, rfl, a, xs, rfl, hs, ?_, fun p1 hp1 => ?_⟩
  · rintro ⟨_, z⟩
    have : HT.sIx xs.length xs.length (some (-1)) = xs.length - 1 := cut_m1
    rw [this] at z
    omega
  have ec : cutV xs none (some (-1)) = xs.take (xs.length - 1) := cut_last
  dsimp only
  rw [ec]
  exact q _ _ _ (same_new hp1) (bent_row (hR.take (xs.length - 1)) (by rw [List.length_take]; omega)) (dt_new hp1 (dtAll_take _ hds))
end
end L02
namespace L02
open PySem PySem.Spec PyProof.Rows L2 Fp RZ PD LamX
section
variable {P : Program} {w : World} {K : PySem.W.Frag} {mg : Str → Option Value} {base : Heap} {T : List (Addr × Str)} {x : Str} {k : Nat} {ps : List Str} {sp : Sp} {f : Df1}
theorem pd_pick (h : PrG P w K mg base x k ps (spPick P w K)) : Pd ⟨P, w, K, mg⟩ base T x k ps dfPick :=
  pd_of h (fun rs Q Q' Er Er' hq he ⟨m, e, h1, h2, q⟩ => ⟨m, e, h1, h2, fun r a => hq _ (q r a)⟩) fun vs H Q E ⟨t, rs, hp, ds, e, h1, h2, q⟩ => by
    have go : ∀ {a : Addr} {xs : List V} {p : Addr}, vs = [.ref p, .ref a] → Pen P w H p → (SqL K H a xs ∨ SqT K H a xs) → DtAll K H ds xs → spPick P w K vs H Q E := fun {a xs p} ev hp hs hd => by
      have hl := dtAll_len hd
      refine ⟨p, a, xs, ev, hp, hs, fun z => ?_, by omega, fun v hv => ?_⟩
      · subst z
        exact h1 (List.length_eq_zero_iff.mp hl)
      · obtain ⟨d, hd, h⟩ := dtAll_mem hd hv
        exact q d hd v H (Gx.refl t) (R.ofDt (M := ⟨P, w, K, mg⟩) h)
    rcases e with rfl | rfl
    · obtain ⟨v, u, rfl, a, b⟩ := two_of hp
      obtain ⟨p, rfl, hp2⟩ := R.penS a
      obtain ⟨a, xs, rfl, hs, hd⟩ := dt_lst_inv (R.dt b)
      exact go rfl hp2 (.inl hs) hd
    · obtain ⟨v, u, rfl, a, b⟩ := two_of hp
      obtain ⟨p, rfl, hp2⟩ := R.penS a
      obtain ⟨a, xs, rfl, hs, hd⟩ := dt_tup_inv (R.dt b)
      exact go rfl hp2 (.inr hs) hd

theorem errF_of {H : Hp} {E : XK} {k : Nat} {a b c : PyData} {v1 v2 v3 : V} (t : Tabs T H) (hk : k < 16) (h1 : Dt K H a v1) (h2 : Dt K H b v2) (h3 : Dt K H c v3) (q : erK ⟨P, w, K, mg⟩ T E noS H ⟨k, a, b, c⟩) : ErrF K H E k v1 v2 v3 := fun d H' s n e =>
  q (some d) H' (Gx.of t s) ⟨hk, v1, v2, v3, .inr ⟨d, rfl, by rw [hide_nil]; exact e⟩, by rw [hide_nil]; exact h1.mono s, by rw [hide_nil]; exact h2.mono s, by rw [hide_nil]; exact h3.mono s⟩
theorem errN_of {H : Hp} {E : XK} {what : Str} {b : PyData} {v : V} (t : Tabs T H) (h2 : Dt K H b v) (q : erK ⟨P, w, K, mg⟩ T E noS H ⟨0, .str what, b, .none⟩) : ErrN K H E what v := errF_of (k := 0) (a := .str what) (c := .none) t (by decide) dt_str h2 dt_none q
abbrev DR0 := Int × Int → Int × Int → (En → Prop) → (Flt → Prop) → PyData → Prop
def dfReck (r : DR0) : Df1 := fun rs Q Er => ∃ d1 d2, rs = [.d d1, .d d2] ∧ (isRatioD d1 = false → Er ⟨0, .str "one", d1, .none⟩) ∧ (isRatioD d1 = true → isRatioD d2 = false → Er ⟨0, .str "other", d2, .none⟩) ∧
  (isRatioD d1 = true → isRatioD d2 = true → ∃ t1 b1 t2 b2, Rt d1 t1 b1 ∧ Rt d2 t2 b2 ∧ Sz t1 b1 ∧ Sz t2 b2 ∧ r (t1, b1) (t2, b2) Q Er d2)
def rOp (op : Int × Int → Int × Int → Int × Int) : DR0 := fun a b Q _ _ => Q (.d (numD (op a b)))
def rBelow : DR0 := fun a b Q _ _ => Q (.d (.bool (decide (a.1 * b.2 < b.1 * a.2))))
def rOver : DR0 := fun a b Q Er d2 => (b.1 = 0 → Er ⟨0, .str "other", d2, .none⟩) ∧ (b.1 ≠ 0 → LowOk (a.1 * b.2) (a.2 * b.1) ∧ Q (.d (numD (divN a b))))
theorem dfReck_mono {r : DR0} (hr : ∀ a b d (Q Q' : En → Prop) (Er Er' : Flt → Prop), (∀ r, Q r → Q' r) → (∀ x, Er x → Er' x) → r a b Q Er d → r a b Q' Er' d) : MonoF (dfReck r) := fun rs Q Q' Er Er' hq he ⟨d1, d2, e, h1, h2, h3⟩ =>
  ⟨d1, d2, e, fun z => he _ (h1 z), fun z z' => he _ (h2 z z'), fun z z' => by
    obtain ⟨t1, b1, t2, b2, a, b, c, d, q⟩ := h3 z z'
    exact ⟨t1, b1, t2, b2, a, b, c, d, hr _ _ _ _ _ _ _ hq he q⟩⟩
theorem pd_reck {r : DR0} {ok : Hp → (PyData → Hp → Prop) → XK → V → Int × Int → Int × Int → Prop} (h : PrG P w K mg base x k ps (spReck K ok))
    (hr : ∀ a b d (Q Q' : En → Prop) (Er Er' : Flt → Prop), (∀ r, Q r → Q' r) → (∀ x, Er x → Er' x) → r a b Q Er d → r a b Q' Er' d)
    (hc : ∀ H (Q : VK) (E : XK) u a b d2, Tabs T H → Dt K H d2 u → r a b (fun z => ∀ v H', Gx T H H' → R ⟨P, w, K, mg⟩ noO noS H' z v → Q v H') (erK ⟨P, w, K, mg⟩ T E noS H) d2 → ok H (fun d H' => ∀ v, Dt K H' d v → Q v H') E u a b) : Pd ⟨P, w, K, mg⟩ base T x k ps (dfReck r) :=
  pd_of h (dfReck_mono hr) fun vs H Q E ⟨t, rs, hp, d1, d2, e, h1, h2, h3⟩ => by
    subst e
    obtain ⟨v, u, rfl, a, b⟩ := two_of hp
    have a := R.dt a
    have b := R.dt b
    refine ⟨v, u, d1, d2, rfl, a, b, fun z => errN_of t a (h1 z), fun z z' => errN_of t b (h2 z z'), fun z z' => ?_⟩
    obtain ⟨t1, b1, t2, b2, r1, r2, z1, z2, q⟩ := h3 z z'
    exact ⟨t1, b1, t2, b2, r1, r2, z1, z2, hc H Q E u _ _ d2 t b q⟩
theorem pd_op {op : Int × Int → Int × Int → Int × Int} (h : PrG P w K mg base x k ps (spReck K (okOp op))) : Pd ⟨P, w, K, mg⟩ base T x k ps (dfReck (rOp op)) :=
  pd_reck h (fun a b d Q Q' Er Er' hq he q => hq _ q) fun H Q E u a b d2 t hu q H' s v hv => q v H' (Gx.of t s) (R.ofDt (M := ⟨P, w, K, mg⟩) hv)
theorem pd_below (h : PrG P w K mg base x k ps (spReck K fun H R _ _ a b => ∀ H', Same H H' → R (.bool (decide (a.1 * b.2 < b.1 * a.2))) H')) : Pd ⟨P, w, K, mg⟩ base T x k ps (dfReck rBelow) :=
  pd_reck h (fun a b d Q Q' Er Er' hq he q => hq _ q) fun H Q E u a b d2 t hu q H' s v hv => q v H' (Gx.of t s) (R.ofDt (M := ⟨P, w, K, mg⟩) hv)
theorem pd_over (h : PrG P w K mg base x k ps (spReck K fun H R E u a b => (b.1 = 0 → ErrN K H E "other" u) ∧ (b.1 ≠ 0 → LowOk (a.1 * b.2) (a.2 * b.1) ∧ ∀ H', Same H H' → R (numD (divN a b)) H'))) : Pd ⟨P, w, K, mg⟩ base T x k ps (dfReck rOver) :=
  pd_reck h (fun a b d Q Q' Er Er' hq he q => ⟨fun z => he _ (q.1 z), fun z => ⟨(q.2 z).1, hq _ (q.2 z).2⟩⟩) fun H Q E u a b d2 t hu q => ⟨fun z => errN_of t hu (q.1 z), fun z => ⟨(q.2 z).1, fun H' s v hv => (q.2 z).2 v H' (Gx.of t s) (R.ofDt (M := ⟨P, w, K, mg⟩) hv)⟩⟩
/-- only what is wrong with the arguments -/
def rNever : DR0 := fun _ _ _ _ _ => False
theorem pd_bad {r : DR0} (h : Pd ⟨P, w, K, mg⟩ base T x k ps (dfReck r)) : Pd ⟨P, w, K, mg⟩ base T x k ps (dfReck rNever) :=
  pd_of h.pr (dfReck_mono fun a b d Q Q' Er Er' hq he q => q) fun vs H Q E ⟨t, rs, hp, d1, d2, e, h1, h2, h3⟩ => ⟨t, rs, hp, d1, d2, e, h1, h2, fun z z' => by
    obtain ⟨t1, b1, t2, b2, a, b, c, d, q⟩ := h3 z z'
    exact q.elim⟩
def dfSign : Df1 := fun rs Q Er => ∃ d, rs = [.d d] ∧ (isRatioD d = false → Er ⟨0, .str "one", d, .none⟩) ∧ (isRatioD d = true → ∃ t b, Rt d t b ∧ Q (.d (.int t.sign)))
theorem pd_sign (h : PrG P w K mg base x k ps (spSign K)) : Pd ⟨P, w, K, mg⟩ base T x k ps dfSign :=
  pd_of h (fun rs Q Q' Er Er' hq he ⟨d, e, h1, h2⟩ => ⟨d, e, fun z => he _ (h1 z), fun z => by
    obtain ⟨t, b, r, q⟩ := h2 z
    exact ⟨t, b, r, hq _ q⟩⟩) fun vs H Q E ⟨t, rs, hp, d, e, h1, h2⟩ => by
    subst e
    obtain ⟨v, rfl, a⟩ := one_of hp
    have a := R.dt a
    refine ⟨v, d, rfl, a, fun z => errN_of t a (h1 z), fun z => ?_⟩
    obtain ⟨t', b, r, q⟩ := h2 z
    exact ⟨t', b, r, fun H' s => q _ H' (Gx.of t s) (R.ofDt (M := ⟨P, w, K, mg⟩) dt_int)⟩
def dfRatio : Df1 := fun rs Q Er => ∃ d1 d2, rs = [.d d1, .d d2] ∧ (isI d1 = false → Er ⟨0, .str "top", d1, .none⟩) ∧ (isI d1 = true → (isI d2 = false ∨ d2 = .int 0) → Er ⟨0, .str "bottom", d2, .none⟩) ∧ (∀ t b, d1 = .int t → d2 = .int b → b ≠ 0 → LowOk t b ∧ Q (.d (numD (low t b))))
theorem pd_ratio (h : PrG P w K mg base x k ps (spRatio K)) : Pd ⟨P, w, K, mg⟩ base T x k ps dfRatio :=
  pd_of h (fun rs Q Q' Er Er' hq he ⟨d1, d2, e, h1, h2, h3⟩ => ⟨d1, d2, e, fun z => he _ (h1 z), fun z z' => he _ (h2 z z'), fun t b a c n => ⟨(h3 t b a c n).1, hq _ (h3 t b a c n).2⟩⟩) fun vs H Q E ⟨t, rs, hp, d1, d2, e, h1, h2, h3⟩ => by
    subst e
    obtain ⟨v, u, rfl, a, b⟩ := two_of hp
    have a := R.dt a
    have b := R.dt b
    exact ⟨v, u, d1, d2, rfl, a, b, fun z => errN_of t a (h1 z), fun z z' => errN_of t b (h2 z z'), fun t' b' x y n => ⟨(h3 t' b' x y n).1, fun v H' s hv => (h3 t' b' x y n).2 v H' (Gx.of t s) (R.ofDt (M := ⟨P, w, K, mg⟩) hv)⟩⟩
def dfOdd : Df1 := fun rs Q _ => rs = [.pen] ∧ ∀ d, d ∈ oddL → Q (.d d)
theorem pd_odd (h : PrG P w K mg base x k ps (spOdd P w K)) : Pd ⟨P, w, K, mg⟩ base T x k ps dfOdd :=
  pd_of h (fun rs Q Q' Er Er' hq he ⟨e, q⟩ => ⟨e, fun d hd => hq _ (q d hd)⟩) fun vs H Q E ⟨t, rs, hp, e, q⟩ => by
    subst e
    obtain ⟨v, rfl, a⟩ := one_of hp
    obtain ⟨p, rfl, hp2⟩ := R.penS a
    exact ⟨p, rfl, hp2, fun v H' d s hd hv => q d hd v H' (Gx.of t s) (R.ofDt (M := ⟨P, w, K, mg⟩) hv)⟩
def dfNumber : Df1 := fun rs Q _ => ∃ sz : Int, rs = [.pen, .d (.int sz)] ∧ 0 ≤ sz ∧ sz ≤ 3 ∧ ∀ t b, Drawn sz t b → Q (.d (numD (t, b)))
theorem pd_number (h : PrG P w K mg base x k ps (spNumber P w K)) : Pd ⟨P, w, K, mg⟩ base T x k ps dfNumber :=
  pd_of h (fun rs Q Q' Er Er' hq he ⟨sz, e, h1, h2, q⟩ => ⟨sz, e, h1, h2, fun a b hd => hq _ (q a b hd)⟩) fun vs H Q E ⟨t, rs, hp, sz, e, h1, h2, q⟩ => by
    subst e
    obtain ⟨v, u, rfl, a, b⟩ := two_of hp
    obtain ⟨p, rfl, hp2⟩ := R.penS a
    obtain rfl := R.int b
    exact ⟨p, sz, rfl, hp2, h1, h2, fun v H' a b s hd hv => q a b hd v H' (Gx.of t s) (R.ofDt (M := ⟨P, w, K, mg⟩) hv)⟩
def dfSize : Df1 := fun rs Q _ => rs = [.pen] ∧ ∀ sz : Int, 0 ≤ sz → sz ≤ 2 → Q (.d (.int sz))
theorem pd_size (h : PrG P w K mg base x k ps (spSize P w)) : Pd ⟨P, w, K, mg⟩ base T x k ps dfSize :=
  pd_of h (fun rs Q Q' Er Er' hq he ⟨e, q⟩ => ⟨e, fun d hd h2 => hq _ (q d hd h2)⟩) fun vs H Q E ⟨t, rs, hp, e, q⟩ => by
    subst e
    obtain ⟨v, rfl, a⟩ := one_of hp
    obtain ⟨p, rfl, hp2⟩ := R.penS a
    exact ⟨p, rfl, hp2, fun sz H' s h1 h2 => q sz h1 h2 _ H' (Gx.of t s) (R.ofDt (M := ⟨P, w, K, mg⟩) dt_int)⟩
def dfRow : Df1 := fun rs Q _ => ∃ many sz : Int, rs = [.pen, .d (.int many), .d (.int sz)] ∧ 0 ≤ many ∧ many ≤ 4 ∧ 0 ≤ sz ∧ sz ≤ 2 ∧ ∀ ds ns, RowS ds ns → (ds.length : Int) = many → Q (.d (.tuple ds))
theorem pd_row (h : PrG P w K mg base x k ps (spRow P w K)) : Pd ⟨P, w, K, mg⟩ base T x k ps dfRow :=
  pd_of h (fun rs Q Q' Er Er' hq he ⟨m, sz, e, h1, h2, h3, h4, q⟩ => ⟨m, sz, e, h1, h2, h3, h4, fun a b hd hl => hq _ (q a b hd hl)⟩) fun vs H Q E ⟨t, rs, hp, m, sz, e, h1, h2, h3, h4, q⟩ => by
    subst e
    obtain ⟨v, u, x, rfl, a, b, c⟩ := three_of hp
    obtain ⟨p, rfl, hp2⟩ := R.penS a
    obtain rfl := R.int b
    obtain rfl := R.int c
    exact ⟨p, m, sz, rfl, hp2, h1, h2, h3, h4, fun v H' ds ns s hd hl hv => q ds ns hd hl v H' (Gx.of t s) (R.ofDt (M := ⟨P, w, K, mg⟩) hv)⟩
def dfBent : Df1 := fun rs Q _ => ∃ ds ns, rs = [.pen, .d (.tuple ds)] ∧ RowS ds ns ∧ ds.length ≤ 4 ∧ ∀ d, Bent d → Q (.d d)
theorem pd_bent (h : PrG P w K mg base x k ps (spBent P w K)) : Pd ⟨P, w, K, mg⟩ base T x k ps dfBent :=
  pd_of h (fun rs Q Q' Er Er' hq he ⟨ds, ns, e, h1, h2, q⟩ => ⟨ds, ns, e, h1, h2, fun a hd => hq _ (q a hd)⟩) fun vs H Q E ⟨t, rs, hp, ds, ns, e, h1, h2, q⟩ => by
    subst e
    obtain ⟨v, u, rfl, a, b⟩ := two_of hp
    obtain ⟨p, rfl, hp2⟩ := R.penS a
    exact ⟨p, u, ds, ns, rfl, hp2, R.dt b, h1, h2, fun v H' d s hd hv => q d hd v H' (Gx.of t s) (R.ofDt (M := ⟨P, w, K, mg⟩) hv)⟩
/-- dot of the law, of two rows of ratios -/
def dfSum : Df1 := fun rs Q _ => ∃ d es ds ns qs, rs = [.d d, .d (.tuple es)] ∧ seqD d = some ds ∧ RtAll ds ns ∧ RtAll es qs ∧ ns.length = qs.length ∧ ns.length ≤ 40 ∧ Q (.d (numD (dotN ns qs)))
theorem rows2_of {H : Hp} {d : PyData} {es ds : List PyData} {ns qs : List (Int × Int)} {v u : V} (hv : Dt K H d v) (hu : Dt K H (.tuple es) u) (e : seqD d = some ds) (r1 : RtAll ds ns) (r2 : RtAll es qs) (hl : ns.length = qs.length) (hm : ns.length ≤ 40) : Rows2 K H v u ds es ns qs := by
  obtain ⟨a, xs, rfl, hs, hds, _⟩ := dt_seq_inv hv e
  obtain ⟨b, ys, rfl, hs2, hds2⟩ := dt_tup_inv hu
  exact ⟨r1, r2, hl, hm, a, b, xs, ys, rfl, rfl, hs, hs2, hds, hds2⟩
theorem pd_sum (h : PrG P w K mg base x k ps (spSummed K)) : Pd ⟨P, w, K, mg⟩ base T x k ps dfSum :=
  pd_of h (fun rs Q Q' Er Er' hq he ⟨d, es, ds, ns, qs, e, h1, h2, h3, h4, h5, q⟩ => ⟨d, es, ds, ns, qs, e, h1, h2, h3, h4, h5, hq _ q⟩) fun vs H Q E ⟨t, rs, hp, d, es, ds, ns, qs, e, h1, h2, h3, h4, h5, q⟩ => by
    subst e
    obtain ⟨v, u, rfl, a, b⟩ := two_of hp
    exact ⟨v, u, ds, es, ns, qs, rfl, rows2_of (R.dt a) (R.dt b) h1 h2 h3 h4 h5, fun v' H' s hv => q v' H' (Gx.of t s) (R.ofDt (M := ⟨P, w, K, mg⟩) hv)⟩
def dfDot : Df1 := fun rs Q Er => ∃ d1 d2, rs = [.d d1, .d d2] ∧ (∀ ds, seqD d1 = some ds → ds.length < 1000) ∧ (∀ ds, seqD d2 = some ds → ds.length < 1000) ∧
  (rowOk d1 = false → Er ⟨1, .str "row", d1, .none⟩) ∧ (rowOk d1 = true → rowOk d2 = false → Er ⟨1, .str "other", d2, .none⟩) ∧
  (rowOk d1 = true → rowOk d2 = true → ∀ ds es, seqD d1 = some ds → seqD d2 = some es → (ds.length ≠ es.length → Er ⟨10, .str "other", .none, .none⟩) ∧ (ds.length = es.length → d2 = .tuple es ∧ ∃ ns qs, RtAll ds ns ∧ RtAll es qs ∧ ns.length = qs.length ∧ ns.length ≤ 40 ∧ Q (.d (numD (dotN ns qs)))))
theorem pd_dot (h : PrG P w K mg base x k ps (spDot K)) : Pd ⟨P, w, K, mg⟩ base T x k ps dfDot :=
  pd_of h (fun rs Q Q' Er Er' hq he ⟨d1, d2, e, l1, l2, h1, h2, h3⟩ => ⟨d1, d2, e, l1, l2, fun z => he _ (h1 z), fun z z' => he _ (h2 z z'), fun z z' ds es e1 e2 => ⟨fun n => he _ ((h3 z z' ds es e1 e2).1 n), fun n => by
    obtain ⟨e, ns, qs, a, b, c, d, q⟩ := (h3 z z' ds es e1 e2).2 n
    exact ⟨e, ns, qs, a, b, c, d, hq _ q⟩⟩⟩) fun vs H Q E ⟨t, rs, hp, d1, d2, e, l1, l2, h1, h2, h3⟩ => by
    subst e
    obtain ⟨v, u, rfl, a, b⟩ := two_of hp
    have a := R.dt a
    have b := R.dt b
    refine ⟨v, u, d1, d2, rfl, a, b, l1, l2, fun z => errF_of (a := .str "row") t (by decide) dt_str a dt_none (h1 z), fun z z' => errF_of (a := .str "other") t (by decide) dt_str b dt_none (h2 z z'), fun z z' ds es e1 e2 => ⟨fun n => errF_of (a := .str "other") t (by decide) dt_str dt_none dt_none ((h3 z z' ds es e1 e2).1 n), fun n => ?_⟩⟩
    obtain ⟨e, ns, qs, r1, r2, c, d, q⟩ := (h3 z z' ds es e1 e2).2 n
    subst e
    exact ⟨ns, qs, rows2_of a b e1 r1 r2 c d, fun v' H' s hv => q v' H' (Gx.of t s) (R.ofDt (M := ⟨P, w, K, mg⟩) hv)⟩
end
/-- what _law_fault needs -/
structure LFx (P : Program) (w : World) (K : PySem.W.Frag) (mg : Str → Option Value) (base : Heap) : Prop where
  D : Df K mg "_law_fault" s_law_fault
  A : Errs P w K mg base
  gi : mg "isinstance" = none
  gv : mg "ValueError" = none
  gl : mg "len" = none
  pk : PrC P w K mg base "_law_kinds" 2 ["e"] (spKinds K base 0 16)
theorem ev_lf {X : Cx} {T : List (Addr × Str)} {E : XK} {c : Addr} {n : Nat} {params : Arguments} {body : Expr} {scope : Scope} {f : PD.Env → Wd} {p lpos pos : Pos} (B : LFx X.prog X.w X.K X.mg X.base)
    {q0 : Str} (TQ : TabQ X.base X.mg T c (q0 ++ "<lambda>")) (hq : X.env.qual = q0) (hcode : X.env.code = .ref c) (hr : RoomG n X.A) (hn : 6 ≤ n) (hg : Gl X "_law_fault") (L : LamX.LamS X.env.scope scope) (hdef : defaultsOf params X.env = ([], []))
    (hbind : ∀ (q : Str) (cl : List (Str × Addr)) (pm cv ctv : Value), bindArgs (PySem.W.kla_fn "<lambda>" q params body scope cl pm cv ctv) ⟨[], []⟩ = pure [])
    (hbody : ∀ (A : Around) (outer : List PySem.Env) (s : Shared) (H : Hp) (E : XK) (f' c' : Addr), RoomG 4 (A.deeper (LamX.lamEnv X scope s.heap.objs.size f' c')) → Ev (LamX.lamCx X A outer s H E scope f' c') T E body f) :
    Ev X T E (.Call (.Name "_law_fault" p) [.Lambda params body scope lpos] [] pos) (wFault f) :=
  ev_faultD (k := 4) B.D (fun _ _ _ _ _ _ us hl => match us, hl with | [_], _ => rfl) sc_law_fault rfl (.inl rfl) (fun g cdv => fault_makes B.A B.gi B.gv B.gl B.pk (hr.mono (by omega))) (by rw [hq]; exact TQ) hcode (hr.mono hn) hg L hdef hbind hbody
end L02
namespace L02
open PySem PySem.Spec PyProof.Rows L2 Fp RZ PD LamX
section
variable {P : Program} {w : World} {K : PySem.W.Frag} {mg : Str → Option Value} {base : Heap} {fd : FuncData} {T : List (Addr × Str)}
theorem Drawn.sz {t b : Int} (h : Drawn 2 t b) : Sz t b := by
  have := h.sm (by decide)
  exact ⟨Nat.lt_trans this.1 (by decide), Nat.lt_trans this.2 (by decide)⟩
theorem use_reck {r : DR0} {Q : En → Prop} {Er : Flt → Prop} {d1 d2 : PyData} {t1 b1 t2 b2 : Int} (r1 : Rt d1 t1 b1) (r2 : Rt d2 t2 b2) (z1 : Sz t1 b1) (z2 : Sz t2 b2) (q : r (t1, b1) (t2, b2) Q Er d2) : dfReck r [.d d1, .d d2] Q Er :=
  ⟨d1, d2, rfl, fun z => absurd r1.is (by rw [z]; decide), fun _ z => absurd r2.is (by rw [z]; decide), fun _ _ => ⟨t1, b1, t2, b2, r1, r2, z1, z2, q⟩⟩
theorem use_op {op : Int × Int → Int × Int → Int × Int} {Q : En → Prop} {Er : Flt → Prop} {d1 d2 : PyData} {t1 b1 t2 b2 : Int} (r1 : Rt d1 t1 b1) (r2 : Rt d2 t2 b2) (z1 : Sz t1 b1) (z2 : Sz t2 b2) (q : Q (.d (numD (op (t1, b1) (t2, b2))))) : dfReck (rOp op) [.d d1, .d d2] Q Er := use_reck r1 r2 z1 z2 q
theorem use_below {Q : En → Prop} {Er : Flt → Prop} {d1 d2 : PyData} {t1 b1 t2 b2 : Int} (r1 : Rt d1 t1 b1) (r2 : Rt d2 t2 b2) (z1 : Sz t1 b1) (z2 : Sz t2 b2) (q : Q (.d (.bool (decide (t1 * b2 < t2 * b1))))) : dfReck rBelow [.d d1, .d d2] Q Er := use_reck r1 r2 z1 z2 q
theorem use_sign {Q : En → Prop} {Er : Flt → Prop} {d : PyData} {t b : Int} (r : Rt d t b) (q : Q (.d (.int t.sign))) : dfSign [.d d] Q Er := ⟨d, rfl, fun z => absurd r.is (by rw [z]; decide), fun _ => ⟨t, b, r, q⟩⟩
theorem use_over {Q : En → Prop} {Er : Flt → Prop} {d1 d2 : PyData} {t1 b1 t2 b2 : Int} (r1 : Rt d1 t1 b1) (r2 : Rt d2 t2 b2) (z1 : Sz t1 b1) (z2 : Sz t2 b2) (h : t2 ≠ 0) (hl : LowOk (t1 * b2) (b1 * t2)) (q : Q (.d (numD (divN (t1, b1) (t2, b2))))) : dfReck rOver [.d d1, .d d2] Q Er := use_reck r1 r2 z1 z2 ⟨fun z => absurd z h, fun _ => ⟨hl, q⟩⟩
theorem use_over0 {Q : En → Prop} {Er : Flt → Prop} {d1 d2 : PyData} {t1 b1 t2 b2 : Int} (r1 : Rt d1 t1 b1) (r2 : Rt d2 t2 b2) (z1 : Sz t1 b1) (z2 : Sz t2 b2) (h : t2 = 0) (q : Er ⟨0, .str "other", d2, .none⟩) : dfReck rOver [.d d1, .d d2] Q Er := use_reck r1 r2 z1 z2 ⟨fun _ => q, fun z => absurd h z⟩
theorem eqC_zero {d : PyData} {t b : Int} (r : Rt d t b) : eqC d (.int 0) = true := by
  unfold eqC
  rw [eqOk_rt r]
  exact Bool.or_true _
theorem low_ok {t b : Int} (hb : b ≠ 0) (h : t.natAbs < 100000) (h2 : b.natAbs < 100000) : LowOk t b := by
  have hg : Nat.gcd t.natAbs b.natAbs ≤ b.natAbs := Nat.gcd_le_right _ (by omega)
  refine ⟨hb, ?_, fun _ => by omega⟩
  exact Nat.lt_of_lt_of_le (log2_lt' (k := 17) (show _ < 2 ^ 17 by omega) (by decide)) (by decide)
theorem mul_small {a b : Int} (h : a.natAbs < 1000) (h2 : b.natAbs < 100) : (a * b).natAbs < 100000 := by
  rw [Int.natAbs_mul]
  exact Nat.lt_of_le_of_lt (Nat.mul_le_mul (show a.natAbs ≤ 999 by omega) (show b.natAbs ≤ 99 by omega)) (by decide)
theorem Val.rep {d : PyData} (h : Val d) : d.showable = true ∧ d.depth ≤ 100 ∧ d.shown.length ≤ sizeLine := h.gd.rep (by decide) (by decide)
/-- of two texts of a fault -/
theorem strOk_of {x : Str} (h : OkT x) : PyData.strOk x = true := by
  unfold PyData.strOk
  rw [Array.all_eq_true_iff_forall_mem]
  intro c hc
  exact decide_eq_true (h c (by simpa using hc))
theorem eqC_told {x y : PyData} {a b : Str} (ha : PyData.strOk a = true) (hx : txtOk x = true) (hb : PyData.strOk b = true) : eqC (toldD ⟨0, .str a, x, y⟩) (.tuple [.str "number", .str a, .str b]) = true := by
  have hn : PyData.strOk "number" = true := strOk_of (okT_ofString _)
  have hx : PyData.strOk x.shown = true := strOk_of (okT_shown x hx)
  simp [eqC, toldD, EqOk, SeqAt.shaped, scalP, PyData.canLay0, PyData.canLayAll0, PyData.depth, PyData.depthAll, ha, hx, hb, hn]
theorem eqv_told {x y : PyData} {a b : Str} (h : x.shown = b) : PyData.eqv (toldD ⟨0, .str a, x, y⟩) (.tuple [.str "number", .str a, .str b]) = true := by
  subst h
  simp [toldD, PyData.eqv, PyData.eqvAll]
theorem ris_num {n : Int × Int} : RIs True [numD n, numD n] (.bool true) := by
  refine ⟨rfl, ?_⟩
  unfold numD
  split
  · exact .inl ⟨_, rfl⟩
  · exact .inr ⟨trivial, _, _, rfl⟩
abbrev s_law_reckoned_right : Stmt := top 71
theorem sc_law_reckoned_right : FnScope ["one", "other"] ["one", "other"] (defScope s_law_reckoned_right) := ⟨rfl, rfl, rfl, by decide +kernel, rfl, by decide +kernel, by decide +kernel⟩

def dfReckoned : Df1 := fun rs Q _ => ∃ t1 b1 t2 b2, rs = [.d (numD (t1, b1)), .d (numD (t2, b2))] ∧ Drawn 2 t1 b1 ∧ Drawn 2 t2 b2 ∧ Q (.d (.bool true))
theorem ok_reckoned (F : FnP K "_law_reckoned_right" s_law_reckoned_right (He.fAd K ("_law_reckoned_right", none)) fd) (LF : LFx P w K mg base) (TQ : TabQ base mg T (He.codeOf K ("_law_reckoned_right", none)) ((("_law_reckoned_right" : Str) ++ ".<locals>.") ++ "<lambda>"))
    (hasInt : Prop) (q__law_is : Pd ⟨P, w, K, mg⟩ base T "_law_is" 2 ["told", "due"] (dfDt (RIs True))) (q__law_says : Pd ⟨P, w, K, mg⟩ base T "_law_says" 1 ["told", "due"] (dfDt RSays))
    (q_plus : Pd ⟨P, w, K, mg⟩ base T "plus" 4 ["one", "other"] (dfReck (rOp addN))) (q_minus : Pd ⟨P, w, K, mg⟩ base T "minus" 4 ["one", "other"] (dfReck (rOp fun a b => addN a (-b.1, b.2)))) (q_times : Pd ⟨P, w, K, mg⟩ base T "times" 4 ["one", "other"] (dfReck (rOp mulN)))
    (q_below : Pd ⟨P, w, K, mg⟩ base T "below" 4 ["one", "other"] (dfReck rBelow)) (q_over : Pd ⟨P, w, K, mg⟩ base T "over" 4 ["one", "other"] (dfReck rOver)) (q_sign : Pd ⟨P, w, K, mg⟩ base T "sign" 3 ["one"] dfSign)
    (q__law_plus : Pd ⟨P, w, K, mg⟩ base T "_law_plus" 3 ["one", "other"] (dfDt (RBin addN anyP))) (q__law_minus : Pd ⟨P, w, K, mg⟩ base T "_law_minus" 4 ["one", "other"] (dfDt (RBin (fun a b => addN a (-b.1, b.2)) anyP))) (q__law_times : Pd ⟨P, w, K, mg⟩ base T "_law_times" 3 ["one", "other"] (dfDt (RBin mulN anyP)))
    (q__law_over : Pd ⟨P, w, K, mg⟩ base T "_law_over" 3 ["one", "other"] (dfDt (RBin divN fun a b => LowOk (a.1 * b.2) (a.2 * b.1))))
    (q__law_less : Pd ⟨P, w, K, mg⟩ base T "_law_less" 2 ["one", "other"] (dfDt fun ds d => ∃ d1 t1 b1 d2 t2 b2, ds = [d1, d2] ∧ Rt d1 t1 b1 ∧ Rt d2 t2 b2 ∧ Sz t1 b1 ∧ Sz t2 b2 ∧ d = .bool (decide (t1 * b2 < t2 * b1))))
    (q__law_sign : Pd ⟨P, w, K, mg⟩ base T "_law_sign" 2 ["number"] (dfDt fun ds d => ∃ e t b, ds = [e] ∧ Rt e t b ∧ d = .int t.sign)) :
    FnG P w K mg base (L2.CX P w) 7 (He.fAd K ("_law_reckoned_right", none)) fd ["one", "other"] (spD ⟨P, w, K, mg⟩ T dfReckoned) := by
  refine okDK F sc_law_reckoned_right (fun rs Q Er h => ?_) (fun A outer s H E hr => ?_)
  · obtain ⟨t1, b1, t2, b2, rfl, _⟩ := h
    rfl
  · have nd := sc_law_reckoned_right.nd
    refine ⟨_, (sv_cons (s_if (Wv.tv (wv_or (tv_not (tv_val (ev_call q__law_is (hr.mono (by decide)) (by rfl) (fun σ => passAt (takes_of rfl rfl rfl rfl) σ) (av_cons (ev_call q_plus (hr.mono (by decide)) (by rfl) (fun σ => passAt (takes_of rfl rfl rfl rfl) σ) (av_cons (ev_var (pv 0)) (av_cons (ev_var (pv 1)) av_nil))) (av_cons (ev_call q__law_plus (hr.mono (by decide)) (by rfl) (fun σ => passAt (takes_of rfl rfl rfl rfl) σ) (av_cons (ev_var (pv 0)) (av_cons (ev_var (pv 1)) av_nil))) av_nil))))) (wv_or1 (tv_not (tv_val (ev_call q__law_is (hr.mono (by decide)) (by rfl) (fun σ => passAt (takes_of rfl rfl rfl rfl) σ) (av_cons (ev_call q_minus (hr.mono (by decide)) (by rfl) (fun σ => passAt (takes_of rfl rfl rfl rfl) σ) (av_cons (ev_var (pv 0)) (av_cons (ev_var (pv 1)) av_nil))) (av_cons (ev_call q__law_minus (hr.mono (by decide)) (by rfl) (fun σ => passAt (takes_of rfl rfl rfl rfl) σ) (av_cons (ev_var (pv 0)) (av_cons (ev_var (pv 1)) av_nil))) av_nil)))))))) (sv_one (s_ret ev_bl)) sv_nil)
  (sv_cons (s_if (Wv.tv (wv_or (tv_not (tv_val (ev_call q__law_is (hr.mono (by decide)) (by rfl) (fun σ => passAt (takes_of rfl rfl rfl rfl) σ) (av_cons (ev_call q_times (hr.mono (by decide)) (by rfl) (fun σ => passAt (takes_of rfl rfl rfl rfl) σ) (av_cons (ev_var (pv 0)) (av_cons (ev_var (pv 1)) av_nil))) (av_cons (ev_call q__law_times (hr.mono (by decide)) (by rfl) (fun σ => passAt (takes_of rfl rfl rfl rfl) σ) (av_cons (ev_var (pv 0)) (av_cons (ev_var (pv 1)) av_nil))) av_nil))))) (wv_or1 (tv_not (tv_val (ev_call q__law_says (hr.mono (by decide)) (by rfl) (fun σ => passAt (takes_of rfl rfl rfl rfl) σ) (av_cons (ev_call q_below (hr.mono (by decide)) (by rfl) (fun σ => passAt (takes_of rfl rfl rfl rfl) σ) (av_cons (ev_var (pv 0)) (av_cons (ev_var (pv 1)) av_nil))) (av_cons (ev_call q__law_less (hr.mono (by decide)) (by rfl) (fun σ => passAt (takes_of rfl rfl rfl rfl) σ) (av_cons (ev_var (pv 0)) (av_cons (ev_var (pv 1)) av_nil))) av_nil)))))))) (sv_one (s_ret ev_bl)) sv_nil)
  (sv_cons (s_if (tv_not (tv_val (ev_call q__law_is (hr.mono (by decide)) (by rfl) (fun σ => passAt (takes_of rfl rfl rfl rfl) σ) (av_cons (ev_call q_sign (hr.mono (by decide)) (by rfl) (fun σ => passAt (takes_of rfl rfl rfl rfl) σ) (av_cons (ev_var (pv 0)) av_nil)) (av_cons (ev_call q__law_sign (hr.mono (by decide)) (by rfl) (fun σ => passAt (takes_of rfl rfl rfl rfl) σ) (av_cons (ev_var (pv 0)) av_nil)) av_nil))))) (sv_one (s_ret ev_bl)) sv_nil)
  (sv_cons (s_if (tv_cmp (opEqA hr) o_eq (ev_var (pv 1)) ev_int (nomark _)) (sv_one (s_ret (ev_cmp (opEqA hr) o_eq (ev_lf LF TQ rfl rfl hr (by decide) (by rfl) (lamS_by (sc := defScope s_law_reckoned_right) (by decide +kernel)) rfl (fun _ _ _ _ _ => rfl) (fun A2 o2 s2 H2 E2 f2 c2 hr2 => (ev_call q_over (hr2.mono (by decide)) (by rfl) (fun σ => passAt (takes_of rfl rfl rfl rfl) σ) (av_cons (ev_var (pv 0)) (av_cons (ev_var (pv 1)) av_nil))))) (ev_tup (av_cons ev_str (av_cons ev_str (av_cons ev_str av_nil)))) (nomark _)))) sv_nil)
  (sv_one (s_ret (ev_call q__law_is (hr.mono (by decide)) (by rfl) (fun σ => passAt (takes_of rfl rfl rfl rfl) σ) (av_cons (ev_call q_over (hr.mono (by decide)) (by rfl) (fun σ => passAt (takes_of rfl rfl rfl rfl) σ) (av_cons (ev_var (pv 0)) (av_cons (ev_var (pv 1)) av_nil))) (av_cons (ev_call q__law_over (hr.mono (by decide)) (by rfl) (fun σ => passAt (takes_of rfl rfl rfl rfl) σ) (av_cons (ev_var (pv 0)) (av_cons (ev_var (pv 1)) av_nil))) av_nil))))))))), ?_⟩
    rintro rs Q Er ⟨t1, b1, t2, b2, rfl, h1, h2, q⟩
    simp only [startE, List.map_cons, List.map_nil, List.length_cons, List.length_nil, Nat.sub_self, Nat.reduceSub, Nat.reduceAdd, List.replicate, List.cons_append, List.nil_append, List.append_nil, List.getElem?_cons_zero, List.getElem?_cons_succ, List.set_cons_zero, List.set_cons_succ, endK, wNil, wSeq, wSet, wPar, wRet, wIf, wFor, wAsg, wFault, eN_, eC, eOp, eUn, eIf, eNot, eAnd, eOr, bV, bAnd, bOr, bNot, aNil, aCons, eCall, eCallV, eTup, eLst, eTupF, eB, iSeqE, flat_d, flat_new, flat_fn, flat_fns, flat_pen, flat_own, thaw_d, thaw_own, notOwn_d, notOwn_pen, notOwn_fn, notOwn_fns, notOwn_own, plain_nil, plain_cons, tru_b, bind_d, bind_pen, bind_fn, bind_fns, bind_newT, bind_newF, par_F, par_T, eN_, allD_nil, allD_cons, allF_nil, allF_cons, gN_, gT_, bAll_nil, bAll_cons, wI_, wAdd_i, wAdd_s, wAdd_t, wAdd_l, wMul_i, wEq_, wNe_, wIs_n, wIs_b, wIs_i, items_l, items_n, items_t, items_f, items_s, rng1_, rng2_, len_l, len_t, len_o, len_s, list_l, list_t, list_o, tup_l, tup_t, tup_o, repr_, true_and, and_true, if_true, if_false, Bool.not_true, Bool.not_false, Bool.false_eq_true, ite_true, ite_false]
    have r1 := h1.rt
    have r2 := h2.rt
    have z1 := h1.sz
    have z2 := h2.sz
    refine use_op r1 r2 z1 z2 (use_dt _ rfl ⟨_, _, _, _, _, _, rfl, r1, r2, z1, z2, trivial, rfl⟩ ?_)
    simp only [flat_d, flat_new, flat_fn, flat_pen, notOwn_d, notOwn_pen, notOwn_fn, tru_b, true_and, and_true, Bool.not_true, Bool.not_false, if_true, if_false, Bool.false_eq_true, Bool.true_eq_false, thaw_d, List.set_cons_zero, List.set_cons_succ, List.getElem?_cons_zero, List.getElem?_cons_succ, bind_d, allD_cons, allD_nil, gT_, gN_, bAll_cons, bAll_nil, wI_, wAdd_i, wMul_i, wEq_, wNe_, wIs_b, list_l, list_t, len_l, len_t, repr_, not_true, decide_true, decide_false, Bool.false_eq_true, List.length_cons, List.length_nil, List.nil_append, List.cons_append]
    refine use_dt _ rfl ris_num ?_
    simp only [flat_d, flat_new, flat_fn, flat_pen, notOwn_d, notOwn_pen, notOwn_fn, tru_b, true_and, and_true, Bool.not_true, Bool.not_false, if_true, if_false, Bool.false_eq_true, Bool.true_eq_false, thaw_d, List.set_cons_zero, List.set_cons_succ, List.getElem?_cons_zero, List.getElem?_cons_succ, bind_d, allD_cons, allD_nil, gT_, gN_, bAll_cons, bAll_nil, wI_, wAdd_i, wMul_i, wEq_, wNe_, wIs_b, list_l, list_t, len_l, len_t, repr_, not_true, decide_true, decide_false, Bool.false_eq_true, List.length_cons, List.length_nil, List.nil_append, List.cons_append]
    refine use_op r1 r2 z1 z2 (use_dt _ rfl ⟨_, _, _, _, _, _, rfl, r1, r2, z1, z2, trivial, rfl⟩ ?_)
    simp only [flat_d, flat_new, flat_fn, flat_pen, notOwn_d, notOwn_pen, notOwn_fn, tru_b, true_and, and_true, Bool.not_true, Bool.not_false, if_true, if_false, Bool.false_eq_true, Bool.true_eq_false, thaw_d, List.set_cons_zero, List.set_cons_succ, List.getElem?_cons_zero, List.getElem?_cons_succ, bind_d, allD_cons, allD_nil, gT_, gN_, bAll_cons, bAll_nil, wI_, wAdd_i, wMul_i, wEq_, wNe_, wIs_b, list_l, list_t, len_l, len_t, repr_, not_true, decide_true, decide_false, Bool.false_eq_true, List.length_cons, List.length_nil, List.nil_append, List.cons_append]
    refine use_dt _ rfl ris_num ?_
    simp only [flat_d, flat_new, flat_fn, flat_pen, notOwn_d, notOwn_pen, notOwn_fn, tru_b, true_and, and_true, Bool.not_true, Bool.not_false, if_true, if_false, Bool.false_eq_true, Bool.true_eq_false, thaw_d, List.set_cons_zero, List.set_cons_succ, List.getElem?_cons_zero, List.getElem?_cons_succ, bind_d, allD_cons, allD_nil, gT_, gN_, bAll_cons, bAll_nil, wI_, wAdd_i, wMul_i, wEq_, wNe_, wIs_b, list_l, list_t, len_l, len_t, repr_, not_true, decide_true, decide_false, Bool.false_eq_true, List.length_cons, List.length_nil, List.nil_append, List.cons_append]
    refine use_op r1 r2 z1 z2 (use_dt _ rfl ⟨_, _, _, _, _, _, rfl, r1, r2, z1, z2, trivial, rfl⟩ ?_)
    simp only [flat_d, flat_new, flat_fn, flat_pen, notOwn_d, notOwn_pen, notOwn_fn, tru_b, true_and, and_true, Bool.not_true, Bool.not_false, if_true, if_false, Bool.false_eq_true, Bool.true_eq_false, thaw_d, List.set_cons_zero, List.set_cons_succ, List.getElem?_cons_zero, List.getElem?_cons_succ, bind_d, allD_cons, allD_nil, gT_, gN_, bAll_cons, bAll_nil, wI_, wAdd_i, wMul_i, wEq_, wNe_, wIs_b, list_l, list_t, len_l, len_t, repr_, not_true, decide_true, decide_false, Bool.false_eq_true, List.length_cons, List.length_nil, List.nil_append, List.cons_append]
    refine use_dt _ rfl ris_num ?_
    simp only [flat_d, flat_new, flat_fn, flat_pen, notOwn_d, notOwn_pen, notOwn_fn, tru_b, true_and, and_true, Bool.not_true, Bool.not_false, if_true, if_false, Bool.false_eq_true, Bool.true_eq_false, thaw_d, List.set_cons_zero, List.set_cons_succ, List.getElem?_cons_zero, List.getElem?_cons_succ, bind_d, allD_cons, allD_nil, gT_, gN_, bAll_cons, bAll_nil, wI_, wAdd_i, wMul_i, wEq_, wNe_, wIs_b, list_l, list_t, len_l, len_t, repr_, not_true, decide_true, decide_false, Bool.false_eq_true, List.length_cons, List.length_nil, List.nil_append, List.cons_append]
    refine use_below r1 r2 z1 z2 (use_dt _ rfl ⟨_, _, _, _, _, _, rfl, r1, r2, z1, z2, rfl⟩ ?_)
    simp only [flat_d, flat_new, flat_fn, flat_pen, notOwn_d, notOwn_pen, notOwn_fn, tru_b, true_and, and_true, Bool.not_true, Bool.not_false, if_true, if_false, Bool.false_eq_true, Bool.true_eq_false, thaw_d, List.set_cons_zero, List.set_cons_succ, List.getElem?_cons_zero, List.getElem?_cons_succ, bind_d, allD_cons, allD_nil, gT_, gN_, bAll_cons, bAll_nil, wI_, wAdd_i, wMul_i, wEq_, wNe_, wIs_b, list_l, list_t, len_l, len_t, repr_, not_true, decide_true, decide_false, Bool.false_eq_true, List.length_cons, List.length_nil, List.nil_append, List.cons_append]
    refine use_dt _ rfl ⟨_, _, rfl, rfl⟩ ?_
    simp only [flat_d, flat_new, flat_fn, flat_pen, notOwn_d, notOwn_pen, notOwn_fn, tru_b, true_and, and_true, Bool.not_true, Bool.not_false, if_true, if_false, Bool.false_eq_true, Bool.true_eq_false, thaw_d, List.set_cons_zero, List.set_cons_succ, List.getElem?_cons_zero, List.getElem?_cons_succ, bind_d, allD_cons, allD_nil, gT_, gN_, bAll_cons, bAll_nil, wI_, wAdd_i, wMul_i, wEq_, wNe_, wIs_b, list_l, list_t, len_l, len_t, repr_, not_true, decide_true, decide_false, Bool.false_eq_true, List.length_cons, List.length_nil, List.nil_append, List.cons_append]
    refine use_sign r1 (use_dt _ rfl ⟨_, _, _, rfl, r1, rfl⟩ ?_)
    simp only [flat_d, flat_new, flat_fn, flat_pen, notOwn_d, notOwn_pen, notOwn_fn, tru_b, true_and, and_true, Bool.not_true, Bool.not_false, if_true, if_false, Bool.false_eq_true, Bool.true_eq_false, thaw_d, List.set_cons_zero, List.set_cons_succ, List.getElem?_cons_zero, List.getElem?_cons_succ, bind_d, allD_cons, allD_nil, gT_, gN_, bAll_cons, bAll_nil, wI_, wAdd_i, wMul_i, wEq_, wNe_, wIs_b, list_l, list_t, len_l, len_t, repr_, not_true, decide_true, decide_false, Bool.false_eq_true, List.length_cons, List.length_nil, List.nil_append, List.cons_append]
    refine use_dt _ rfl ⟨rfl, .inl ⟨_, rfl⟩⟩ ?_
    simp only [flat_d, flat_new, flat_fn, flat_pen, notOwn_d, notOwn_pen, notOwn_fn, tru_b, true_and, and_true, Bool.not_true, Bool.not_false, if_true, if_false, Bool.false_eq_true, Bool.true_eq_false, thaw_d, List.set_cons_zero, List.set_cons_succ, List.getElem?_cons_zero, List.getElem?_cons_succ, bind_d, allD_cons, allD_nil, gT_, gN_, bAll_cons, bAll_nil, wI_, wAdd_i, wMul_i, wEq_, wNe_, wIs_b, list_l, list_t, len_l, len_t, repr_, not_true, decide_true, decide_false, Bool.false_eq_true, List.length_cons, List.length_nil, List.nil_append, List.cons_append]
    refine ⟨eqC_zero r2, ?_⟩
    rw [eqv_zero r2]
    refine iteB (fun z => ?_) fun z => ?_
    · have z : t2 = 0 := of_decide_eq_true z
      refine use_over0 r1 r2 z1 z2 z ?_
      have s2 := h2.sm (by decide)
      have e2 : numD (t2, b2) = .int 0 := by
        have g := r2.g
        rw [z] at g
        simp at g
        have := h2.b0
        have : b2 = 1 := by omega
        subst this
        subst z
        rfl
      rw [e2]
      refine ⟨⟨(fun z => nomatch z), fun _ => ⟨by decide, by decide, by decide, by decide⟩⟩, by decide, eqC_told (strOk_of (okT_ofString _)) rfl (strOk_of (okT_ofString _)), ?_⟩
      rw [eqv_told (by decide +kernel)]
      exact q
    · have z : t2 ≠ 0 := of_decide_eq_false z
      have s1 := h1.sm (by decide)
      have s2 := h2.sm (by decide)
      have lo : LowOk (t1 * b2) (b1 * t2) := low_ok (Int.mul_ne_zero (by have := h1.b0; omega) z) (mul_small s1.1 s2.2) (by rw [Int.mul_comm]; exact mul_small s2.1 s1.2)
      refine use_over r1 r2 z1 z2 z lo (use_dt _ rfl ⟨_, _, _, _, _, _, rfl, r1, r2, z1, z2, lo, rfl⟩ ?_)
      simp only [flat_d, flat_new, flat_fn, flat_pen, notOwn_d, notOwn_pen, notOwn_fn, tru_b, true_and, and_true, Bool.not_true, Bool.not_false, if_true, if_false, Bool.false_eq_true, Bool.true_eq_false, thaw_d, List.set_cons_zero, List.set_cons_succ, List.getElem?_cons_zero, List.getElem?_cons_succ, bind_d, allD_cons, allD_nil, gT_, gN_, bAll_cons, bAll_nil, wI_, wAdd_i, wMul_i, wEq_, wNe_, wIs_b, list_l, list_t, len_l, len_t, repr_, not_true, decide_true, decide_false, Bool.false_eq_true, List.length_cons, List.length_nil, List.nil_append, List.cons_append]
      exact use_dt _ rfl ris_num q
end
end L02
namespace L02
open PySem PySem.Spec PyProof.Rows L2 Fp RZ PD LamX
section
variable {P : Program} {w : World} {K : PySem.W.Frag} {mg : Str → Option Value} {base : Heap} {fd : FuncData} {T : List (Addr × Str)}
theorem use_bad1 {r : DR0} {Q : En → Prop} {Er : Flt → Prop} {d1 d2 : PyData} (h : isRatioD d1 = false) (q : Er ⟨0, .str "one", d1, .none⟩) : dfReck r [.d d1, .d d2] Q Er :=
  ⟨d1, d2, rfl, fun _ => q, fun z => absurd h (by rw [z]; decide), fun z => absurd h (by rw [z]; decide)⟩
theorem use_bad2 {r : DR0} {Q : En → Prop} {Er : Flt → Prop} {d1 d2 : PyData} (h1 : isRatioD d1 = true) (h : isRatioD d2 = false) (q : Er ⟨0, .str "other", d2, .none⟩) : dfReck r [.d d1, .d d2] Q Er :=
  ⟨d1, d2, rfl, fun z => absurd h1 (by rw [z]; decide), fun _ _ => q, fun _ z => absurd h (by rw [z]; decide)⟩
theorem use_signB {Q : En → Prop} {Er : Flt → Prop} {d : PyData} (h : isRatioD d = false) (q : Er ⟨0, .str "one", d, .none⟩) : dfSign [.d d] Q Er := ⟨d, rfl, fun _ => q, fun z => absurd h (by rw [z]; decide)⟩
theorem told_ne {d : PyData} {a : String} {X Y : Prop} (hv : Val d) (y : Y) : fltOk ⟨0, .str a, d, .none⟩ ∧ (d.showable = true ∧ d.depth ≤ 100 ∧ d.shown.length ≤ sizeLine) ∧ 3 ≤ sizeLine ∧ eqC (toldD ⟨0, .str a, d, .none⟩) (.tuple [.str "number", .str a, .str d.shown]) = true ∧
    if (!PyData.eqv (toldD ⟨0, .str a, d, .none⟩) (.tuple [.str "number", .str a, .str d.shown])) = true then X else Y :=
  ⟨⟨(fun z => nomatch z), fun _ => hv.gd⟩, hv.rep, by decide, eqC_told (strOk_of (okT_ofString _)) hv.tx (strOk_of (okT_shown _ hv.tx)), by rw [eqv_told rfl]; exact y⟩
theorem told_eq {d : PyData} {a : String} {Q : En → Prop} (hv : Val d) (y : Q (.d (.bool true))) : fltOk ⟨0, .str a, d, .none⟩ ∧ (d.showable = true ∧ d.depth ≤ 100 ∧ d.shown.length ≤ sizeLine) ∧ 3 ≤ sizeLine ∧ eqC (toldD ⟨0, .str a, d, .none⟩) (.tuple [.str "number", .str a, .str d.shown]) = true ∧
    Q (.d (.bool (PyData.eqv (toldD ⟨0, .str a, d, .none⟩) (.tuple [.str "number", .str a, .str d.shown])))) :=
  ⟨⟨(fun z => nomatch z), fun _ => hv.gd⟩, hv.rep, by decide, eqC_told (strOk_of (okT_ofString _)) hv.tx (strOk_of (okT_shown _ hv.tx)), by rw [eqv_told rfl]; exact y⟩
def dfPen : Df1 := fun rs Q _ => rs = [.pen] ∧ Q (.d (.bool true))
abbrev s_law_refused_right : Stmt := top 72
theorem sc_law_refused_right : FnScope ["one", "odd", "call"] ["one", "odd"] (defScope s_law_refused_right) := ⟨rfl, rfl, rfl, by decide +kernel, rfl, by decide +kernel, by decide +kernel⟩

def dfRefused : Df1 := fun rs Q _ => ∃ t b d, rs = [.d (numD (t, b)), .d d] ∧ Drawn 2 t b ∧ d ∈ oddL ∧ Q (.d (.bool true))
theorem ok_refused (F : FnP K "_law_refused_right" s_law_refused_right (He.fAd K ("_law_refused_right", none)) fd) (LF : LFx P w K mg base) (hm : ∃ o es ep, base.get? sysModules = some o ∧ o.data = .dict es ep) (g_repr : mg "repr" = none) (TQ : TabQ base mg T (He.codeOf K ("_law_refused_right", none)) ((("_law_refused_right" : Str) ++ ".<locals>.") ++ "<lambda>"))
    (gv_plus : mg "plus" = some (.ref (He.ga K "plus"))) (gv_minus : mg "minus" = some (.ref (He.ga K "minus"))) (gv_times : mg "times" = some (.ref (He.ga K "times"))) (gv_over : mg "over" = some (.ref (He.ga K "over"))) (gv_below : mg "below" = some (.ref (He.ga K "below")))
    (CV : ∀ g ∈ (["plus", "minus", "times", "over", "below"] : List Str), Pd ⟨P, w, K, mg⟩ base T g 4 ["one", "other"] (dfReck rNever)) (q_sign : Pd ⟨P, w, K, mg⟩ base T "sign" 3 ["one"] dfSign) :
    FnG P w K mg base (L2.CX P w) 7 (He.fAd K ("_law_refused_right", none)) fd ["one", "odd"] (spD ⟨P, w, K, mg⟩ T dfRefused) := by
  refine okDK F sc_law_refused_right (fun rs Q Er h => ?_) (fun A outer s H E hr => ?_)
  · obtain ⟨t1, b1, d, rfl, _⟩ := h
    rfl
  · have nd := sc_law_refused_right.nd
    refine ⟨_, (sv_cons (s_for (passes_of rfl) rfl (iv_seq (ev_tupF (av_cons (ev_fn (pe_glob (by rfl) gv_plus relRef) gv_plus) (av_cons (ev_fn (pe_glob (by rfl) gv_minus relRef) gv_minus) (av_cons (ev_fn (pe_glob (by rfl) gv_times relRef) gv_times) (av_cons (ev_fn (pe_glob (by rfl) gv_over relRef) gv_over) (av_cons (ev_fn (pe_glob (by rfl) gv_below relRef) gv_below) av_nil))))))) (gv_name (i := 2) nd rfl (by first | exact .inl rfl | exact .inr rfl))
   (sv_cons (s_if (tv_cmp (opNeA hr) o_ne (ev_lf LF TQ rfl rfl hr (by decide) (by rfl) (lamS_by (sc := defScope s_law_refused_right) (by decide +kernel)) rfl (fun _ _ _ _ _ => rfl) (fun A2 o2 s2 H2 E2 f2 c2 hr2 => (ev_callV (i := 2) CV (by decide) (hr2.mono (by decide)) (fun σ => passAt (takes_of rfl rfl rfl rfl) σ) (av_cons (ev_var (pv 1)) (av_cons (ev_var (pv 1)) av_nil))))) (ev_tup (av_cons ev_str (av_cons ev_str (av_cons (ev_callB (call_repr hm hr) b_repr (by rfl) g_repr (by rfl) (av_cons (ev_var (pv 1)) av_nil)) av_nil)))) (nomark _)) (sv_one (s_ret ev_bl)) sv_nil)
  (sv_one (s_if (tv_cmp (opNeA hr) o_ne (ev_lf LF TQ rfl rfl hr (by decide) (by rfl) (lamS_by (sc := defScope s_law_refused_right) (by decide +kernel)) rfl (fun _ _ _ _ _ => rfl) (fun A2 o2 s2 H2 E2 f2 c2 hr2 => (ev_callV (i := 2) CV (by decide) (hr2.mono (by decide)) (fun σ => passAt (takes_of rfl rfl rfl rfl) σ) (av_cons (ev_var (pv 0)) (av_cons (ev_var (pv 1)) av_nil))))) (ev_tup (av_cons ev_str (av_cons ev_str (av_cons (ev_callB (call_repr hm hr) b_repr (by rfl) g_repr (by rfl) (av_cons (ev_var (pv 1)) av_nil)) av_nil)))) (nomark _)) (sv_one (s_ret ev_bl)) sv_nil))))
  (sv_one (s_ret (ev_cmp (opEqA hr) o_eq (ev_lf LF TQ rfl rfl hr (by decide) (by rfl) (lamS_by (sc := defScope s_law_refused_right) (by decide +kernel)) rfl (fun _ _ _ _ _ => rfl) (fun A2 o2 s2 H2 E2 f2 c2 hr2 => (ev_call q_sign (hr2.mono (by decide)) (by rfl) (fun σ => passAt (takes_of rfl rfl rfl rfl) σ) (av_cons (ev_var (pv 1)) av_nil)))) (ev_tup (av_cons ev_str (av_cons ev_str (av_cons (ev_callB (call_repr hm hr) b_repr (by rfl) g_repr (by rfl) (av_cons (ev_var (pv 1)) av_nil)) av_nil)))) (nomark _))))), ?_⟩
    rintro rs Q Er ⟨t1, b1, d, rfl, h1, h2, q⟩
    simp only [forL, startE, List.map_cons, List.map_nil, List.length_cons, List.length_nil, Nat.sub_self, Nat.reduceSub, Nat.reduceAdd, List.replicate, List.cons_append, List.nil_append, List.append_nil, List.getElem?_cons_zero, List.getElem?_cons_succ, List.set_cons_zero, List.set_cons_succ, endK, wNil, wSeq, wSet, wPar, wRet, wIf, wFor, wAsg, wFault, eN_, eC, eOp, eUn, eIf, eNot, eAnd, eOr, bV, bAnd, bOr, bNot, aNil, aCons, eCall, eCallV, eTup, eLst, eTupF, eB, iSeqE, flat_d, flat_new, flat_fn, flat_fns, flat_pen, flat_own, thaw_d, thaw_own, notOwn_d, notOwn_pen, notOwn_fn, notOwn_fns, notOwn_own, plain_nil, plain_cons, tru_b, bind_d, bind_pen, bind_fn, bind_fns, bind_newT, bind_newF, par_F, par_T, eN_, allD_nil, allD_cons, allF_nil, allF_cons, gN_, gT_, bAll_nil, bAll_cons, wI_, wAdd_i, wAdd_s, wAdd_t, wAdd_l, wMul_i, wEq_, wNe_, wIs_n, wIs_b, wIs_i, items_l, items_n, items_t, items_f, items_s, rng1_, rng2_, len_l, len_t, len_o, len_s, list_l, list_t, list_o, tup_l, tup_t, tup_o, repr_, true_and, and_true, if_true, if_false, Bool.not_true, Bool.not_false, Bool.false_eq_true, ite_true, ite_false]
    obtain ⟨hv, hn⟩ := odd_val h2
    have r1 := h1.rt.is
    refine ⟨by decide, ?_⟩
    refine ⟨⟨_, rfl, by simp⟩, use_bad1 hn (told_ne hv ⟨⟨_, rfl, by simp⟩, use_bad2 r1 hn (told_ne hv ?_)⟩)⟩
    refine ⟨⟨_, rfl, by simp⟩, use_bad1 hn (told_ne hv ⟨⟨_, rfl, by simp⟩, use_bad2 r1 hn (told_ne hv ?_)⟩)⟩
    refine ⟨⟨_, rfl, by simp⟩, use_bad1 hn (told_ne hv ⟨⟨_, rfl, by simp⟩, use_bad2 r1 hn (told_ne hv ?_)⟩)⟩
    refine ⟨⟨_, rfl, by simp⟩, use_bad1 hn (told_ne hv ⟨⟨_, rfl, by simp⟩, use_bad2 r1 hn (told_ne hv ?_)⟩)⟩
    refine ⟨⟨_, rfl, by simp⟩, use_bad1 hn (told_ne hv ⟨⟨_, rfl, by simp⟩, use_bad2 r1 hn (told_ne hv ?_)⟩)⟩
    exact use_signB hn (told_eq (Q := fun r => Q r.flat.thaw) hv q)
end
end L02
namespace L02
open PySem PySem.Spec PyProof.Rows L2 Fp RZ PD LamX
section
variable {P : Program} {w : World} {K : PySem.W.Frag} {mg : Str → Option Value} {base : Heap} {fd : FuncData} {T : List (Addr × Str)}
theorem use_pick {ds : List PyData} {Q : En → Prop} {Er : Flt → Prop} (h : ds ≠ []) (hl : ds.length < 1000) (q : ∀ d, d ∈ ds → Q (.d d)) : dfPick [.pen, .d (.list ds)] Q Er := ⟨ds, .inl rfl, h, hl, q⟩
theorem use_draw {m : Int} {Q : En → Prop} {Er : Flt → Prop} (h : 1 ≤ m) (hl : m < 1000000000) (q : ∀ r, 0 ≤ r → r < m → Q (.d (.int r))) : dfDraw [.pen, .d (.int m)] Q Er := ⟨m, rfl, h, hl, q⟩
theorem tf {C : Prop} (h : true = false) : C := Bool.noConfusion h
theorem use_ratio {t b : Int} {Q : En → Prop} {Er : Flt → Prop} (hb : b ≠ 0) (hl : LowOk t b) (q : Q (.d (numD (low t b)))) : dfRatio [.d (.int t), .d (.int b)] Q Er :=
  ⟨_, _, rfl, fun z => tf z, fun _ z => z.elim tf (fun z => absurd (PyData.int.inj z) hb), fun t' b' e1 e2 n => by
    obtain rfl := PyData.int.inj e1
    obtain rfl := PyData.int.inj e2
    exact ⟨hl, q⟩⟩
theorem use_ratio1 {d1 d2 : PyData} {Q : En → Prop} {Er : Flt → Prop} (h : isI d1 = false) (q : Er ⟨0, .str "top", d1, .none⟩) : dfRatio [.d d1, .d d2] Q Er :=
  ⟨_, _, rfl, fun _ => q, fun z => absurd h (by rw [z]; decide), fun t b e => absurd h (by rw [e]; exact fun z => tf z)⟩
theorem use_ratio2 {t : Int} {d2 : PyData} {Q : En → Prop} {Er : Flt → Prop} (h : isI d2 = false ∨ d2 = .int 0) (q : Er ⟨0, .str "bottom", d2, .none⟩) : dfRatio [.d (.int t), .d d2] Q Er :=
  ⟨_, _, rfl, fun z => tf z, fun _ _ => q, fun t b _ e n => by
    subst e
    rcases h with h | h
    · exact tf h
    · exact absurd (PyData.int.inj h) n⟩
theorem low_ok2 {t b : Int} (hb : b ≠ 0) (h : b.natAbs < 2 ^ 100) (h2 : b < 0 → b.natAbs < 100000) : LowOk t b := by
  have hg : Nat.gcd t.natAbs b.natAbs ≤ b.natAbs := Nat.gcd_le_right _ (by omega)
  refine ⟨hb, ?_, fun z => by have := h2 z; omega⟩
  exact Nat.lt_of_lt_of_le (log2_lt' (k := 100) (Nat.lt_of_le_of_lt hg h) (by decide)) (by decide)
theorem cMulW_of {a b : Int} (h : a.natAbs < 2 ^ 100) (h2 : b.natAbs < 2 ^ 100) : CMulW a b := by
  have h1 := log2_lt' (k := 100) h (by decide)
  have h2 := log2_lt' (k := 100) h2 (by decide)
  unfold CMulW
  omega
def valB (d : PyData) : Bool := gdB d && (txtOk d && match seqD d with | some ds => decide (ds.length < 1000) | none => true)
theorem valB_ok {d : PyData} (h : valB d = true) : Val d := by
  unfold valB at h
  simp only [Bool.and_eq_true] at h
  refine ⟨(gdB_ok h.1).mono (by decide) (by decide), h.2.1, fun ds e => ?_⟩
  have q := h.2.2
  rw [e] at q
  simpa using q
theorem list_all {ds : List PyData} {p : PyData → Bool} (h : ds.all p = true) {d : PyData} (hd : d ∈ ds) : p d = true := List.all_eq_true.mp h d hd
abbrev s_law_made_right : Stmt := top 70
theorem sc_law_made_right : FnScope ["pen", "by", "value", "odd", "top", "bottom"] ["pen"] (defScope s_law_made_right) := ⟨rfl, rfl, rfl, by decide +kernel, rfl, by decide +kernel, by decide +kernel⟩

theorem ok_made (F : FnP K "_law_made_right" s_law_made_right (He.fAd K ("_law_made_right", none)) fd) (LF : LFx P w K mg base) (hm : ∃ o es ep, base.get? sysModules = some o ∧ o.data = .dict es ep) (g_repr : mg "repr" = none) (TQ : TabQ base mg T (He.codeOf K ("_law_made_right", none)) ((("_law_made_right" : Str) ++ ".<locals>.") ++ "<lambda>"))
    (q__law_pick : Pd ⟨P, w, K, mg⟩ base T "_law_pick" 2 ["pen", "some"] dfPick) (q__law_draw : Pd ⟨P, w, K, mg⟩ base T "_law_draw" 1 ["pen", "many"] dfDraw) (q__law_odd : Pd ⟨P, w, K, mg⟩ base T "_law_odd" 3 ["pen"] dfOdd) (q__law_number : Pd ⟨P, w, K, mg⟩ base T "_law_number" 3 ["pen", "size"] dfNumber)
    (q__law_is : Pd ⟨P, w, K, mg⟩ base T "_law_is" 2 ["told", "due"] (dfDt (RIs True))) (q__law_says : Pd ⟨P, w, K, mg⟩ base T "_law_says" 1 ["told", "due"] (dfDt RSays)) (q__law_low : Pd ⟨P, w, K, mg⟩ base T "_law_low" 2 ["top", "bottom"] (dfDt RLow))
    (q_ratio : Pd ⟨P, w, K, mg⟩ base T "ratio" 3 ["top", "bottom"] dfRatio) (q_is_ratio : Pd ⟨P, w, K, mg⟩ base T "is_ratio" 2 ["value"] (dfDt RIsR)) (q__law_is_ratio : Pd ⟨P, w, K, mg⟩ base T "_law_is_ratio" 2 ["value"] (dfDt RIsR)) :
    FnG P w K mg base (L2.CX P w) 7 (He.fAd K ("_law_made_right", none)) fd ["pen"] (spD ⟨P, w, K, mg⟩ T dfPen) := by
  refine okDK F sc_law_made_right (fun rs Q Er h => ?_) (fun A outer s H E hr => ?_)
  · obtain ⟨rfl, _⟩ := h
    rfl
  · have nd := sc_law_made_right.nd
    refine ⟨_, (sv_cons (s_set false (i := 1) nd rfl (by first | exact .inl rfl | exact .inr rfl) (ev_call q__law_pick (hr.mono (by decide)) (by rfl) (fun σ => passAt (takes_of rfl rfl rfl rfl) σ) (av_cons (ev_var (pv 0)) (av_cons (ev_lst (av_cons ev_int (av_cons (ev_un un_neg o_neg ev_int) (av_cons ev_int (av_cons (ev_un un_neg o_neg ev_int) (av_cons (ev_op op_pow o_pow ev_int ev_int) av_nil)))))) av_nil))))
  (sv_cons (s_asg (ev_tup (av_cons (ev_op op_sub o_sub (ev_call q__law_draw (hr.mono (by decide)) (by rfl) (fun σ => passAt (takes_of rfl rfl rfl rfl) σ) (av_cons (ev_var (pv 0)) (av_cons ev_int av_nil))) ev_int) (av_cons (ev_op opAddX o_add ev_int (ev_call q__law_draw (hr.mono (by decide)) (by rfl) (fun σ => passAt (takes_of rfl rfl rfl rfl) σ) (av_cons (ev_var (pv 0)) (av_cons ev_int av_nil)))) av_nil))) (gv_tup rfl (gvs_cons (gv_name (i := 4) nd rfl (by first | exact .inl rfl | exact .inr rfl)) (gvs_cons (gv_name (i := 5) nd rfl (by first | exact .inl rfl | exact .inr rfl)) gvs_nil))))
  (sv_cons (s_if (Wv.tv (wv_or (tv_not (tv_val (ev_call q__law_is (hr.mono (by decide)) (by rfl) (fun σ => passAt (takes_of rfl rfl rfl rfl) σ) (av_cons (ev_call q_ratio (hr.mono (by decide)) (by rfl) (fun σ => passAt (takes_of rfl rfl rfl rfl) σ) (av_cons (ev_op opMul o_mul (ev_var (pv 4)) (ev_var (pv 1))) (av_cons (ev_op opMul o_mul (ev_var (pv 5)) (ev_var (pv 1))) av_nil))) (av_cons (ev_call q__law_low (hr.mono (by decide)) (by rfl) (fun σ => passAt (takes_of rfl rfl rfl rfl) σ) (av_cons (ev_var (pv 4)) (av_cons (ev_var (pv 5)) av_nil))) av_nil))))) (wv_or1 (tv_cmp opNotX o_isNot (ev_call q_is_ratio (hr.mono (by decide)) (by rfl) (fun σ => passAt (takes_of rfl rfl rfl rfl) σ) (av_cons (ev_call q__law_low (hr.mono (by decide)) (by rfl) (fun σ => passAt (takes_of rfl rfl rfl rfl) σ) (av_cons (ev_var (pv 4)) (av_cons (ev_var (pv 5)) av_nil))) av_nil)) ev_bl (nomark _))))) (sv_one (s_ret ev_bl)) sv_nil)
  (sv_cons (s_set false (i := 2) nd rfl (by first | exact .inl rfl | exact .inr rfl) (ev_call q__law_pick (hr.mono (by decide)) (by rfl) (fun σ => passAt (takes_of rfl rfl rfl rfl) σ) (av_cons (ev_var (pv 0)) (av_cons (ev_lst (av_cons (ev_call q__law_odd (hr.mono (by decide)) (by rfl) (fun σ => passAt (takes_of rfl rfl rfl rfl) σ) (av_cons (ev_var (pv 0)) av_nil)) (av_cons (ev_call q__law_number (hr.mono (by decide)) (by rfl) (fun σ => passAt (takes_of rfl rfl rfl rfl) σ) (av_cons (ev_var (pv 0)) (av_cons ev_int av_nil))) (av_cons (ev_tup (av_cons (ev_op opMul o_mul (ev_var (pv 4)) (ev_var (pv 1))) (av_cons (ev_op opMul o_mul (ev_var (pv 5)) (ev_var (pv 1))) av_nil))) (av_cons (ev_lst (av_cons (ev_var (pv 4)) (av_cons (ev_var (pv 5)) av_nil))) (av_cons (ev_var (pv 4)) av_nil)))))) av_nil))))
  (sv_cons (s_if (tv_not (tv_val (ev_call q__law_says (hr.mono (by decide)) (by rfl) (fun σ => passAt (takes_of rfl rfl rfl rfl) σ) (av_cons (ev_call q_is_ratio (hr.mono (by decide)) (by rfl) (fun σ => passAt (takes_of rfl rfl rfl rfl) σ) (av_cons (ev_var (pv 2)) av_nil)) (av_cons (ev_call q__law_is_ratio (hr.mono (by decide)) (by rfl) (fun σ => passAt (takes_of rfl rfl rfl rfl) σ) (av_cons (ev_var (pv 2)) av_nil)) av_nil))))) (sv_one (s_ret ev_bl)) sv_nil)
  (sv_cons (s_set false (i := 3) nd rfl (by first | exact .inl rfl | exact .inr rfl) (ev_call q__law_pick (hr.mono (by decide)) (by rfl) (fun σ => passAt (takes_of rfl rfl rfl rfl) σ) (av_cons (ev_var (pv 0)) (av_cons (ev_lst (av_cons ev_non (av_cons ev_bl (av_cons ev_str (av_cons (ev_tup (av_cons ev_int (av_cons ev_int av_nil))) (av_cons (ev_lst (av_cons ev_int av_nil)) av_nil)))))) av_nil))))
  (sv_cons (s_if (tv_cmp (opNeA hr) o_ne (ev_lf LF TQ rfl rfl hr (by decide) (by rfl) (lamS_by (sc := defScope s_law_made_right) (by decide +kernel)) rfl (fun _ _ _ _ _ => rfl) (fun A2 o2 s2 H2 E2 f2 c2 hr2 => (ev_call q_ratio (hr2.mono (by decide)) (by rfl) (fun σ => passAt (takes_of rfl rfl rfl rfl) σ) (av_cons (ev_var (pv 3)) (av_cons ev_int av_nil))))) (ev_tup (av_cons ev_str (av_cons ev_str (av_cons (ev_callB (call_repr hm hr) b_repr (by rfl) g_repr (by rfl) (av_cons (ev_var (pv 3)) av_nil)) av_nil)))) (nomark _)) (sv_one (s_ret ev_bl)) sv_nil)
  (sv_cons (s_set false (i := 3) nd rfl (by first | exact .inl rfl | exact .inr rfl) (ev_call q__law_pick (hr.mono (by decide)) (by rfl) (fun σ => passAt (takes_of rfl rfl rfl rfl) σ) (av_cons (ev_var (pv 0)) (av_cons (ev_lst (av_cons ev_int (av_cons ev_non (av_cons ev_bl (av_cons (ev_tup (av_cons ev_int (av_cons ev_int av_nil))) av_nil))))) av_nil))))
  (sv_one (s_ret (ev_cmp (opEqA hr) o_eq (ev_lf LF TQ rfl rfl hr (by decide) (by rfl) (lamS_by (sc := defScope s_law_made_right) (by decide +kernel)) rfl (fun _ _ _ _ _ => rfl) (fun A2 o2 s2 H2 E2 f2 c2 hr2 => (ev_call q_ratio (hr2.mono (by decide)) (by rfl) (fun σ => passAt (takes_of rfl rfl rfl rfl) σ) (av_cons (ev_var (pv 4)) (av_cons (ev_var (pv 3)) av_nil))))) (ev_tup (av_cons ev_str (av_cons ev_str (av_cons (ev_callB (call_repr hm hr) b_repr (by rfl) g_repr (by rfl) (av_cons (ev_var (pv 3)) av_nil)) av_nil)))) (nomark _)))))))))))), ?_⟩
    rintro rs Q Er ⟨rfl, q⟩
    simp only [startE, List.map_cons, List.map_nil, List.length_cons, List.length_nil, Nat.sub_self, Nat.reduceSub, Nat.reduceAdd, List.replicate, List.cons_append, List.nil_append, List.append_nil, List.getElem?_cons_zero, List.getElem?_cons_succ, List.set_cons_zero, List.set_cons_succ, endK, wNil, wSeq, wSet, wPar, wRet, wIf, wFor, wAsg, wFault, eN_, eC, eOp, eUn, eIf, eNot, eAnd, eOr, bV, bAnd, bOr, bNot, aNil, aCons, eCall, eCallV, eTup, eLst, eTupF, eB, iSeqE, flat_d, flat_new, flat_fn, flat_fns, flat_pen, flat_own, thaw_d, thaw_own, notOwn_d, notOwn_pen, notOwn_fn, notOwn_fns, notOwn_own, plain_nil, plain_cons, tru_b, bind_d, bind_pen, bind_fn, bind_fns, bind_newT, bind_newF, par_F, par_T, eN_, allD_nil, allD_cons, allF_nil, allF_cons, gN_, gT_, bAll_nil, bAll_cons, wI_, wAdd_i, wAdd_s, wAdd_t, wAdd_l, wMul_i, wEq_, wNe_, wIs_n, wIs_b, wIs_i, items_l, items_n, items_t, items_f, items_s, rng1_, rng2_, len_l, len_t, len_o, len_s, list_l, list_t, list_o, tup_l, tup_t, tup_o, repr_, true_and, and_true, if_true, if_false, Bool.not_true, Bool.not_false, Bool.false_eq_true, ite_true, ite_false]
    refine ⟨⟨by decide, by decide, by decide⟩, by decide, use_pick (by simp) (by simp) fun d hd => ?_⟩
    obtain ⟨k, rfl, k0, k1, k2⟩ : ∃ k : Int, d = .int k ∧ k ≠ 0 ∧ k.natAbs ≤ 100000000000000000000 ∧ (k < 0 → k.natAbs ≤ 6) := by
      simp only [List.mem_cons, List.not_mem_nil, or_false] at hd
      rcases hd with rfl | rfl | rfl | rfl | rfl <;> exact ⟨_, rfl, by decide, by decide, by decide⟩
    simp only [flat_d, flat_new, flat_fn, flat_pen, notOwn_d, notOwn_pen, notOwn_fn, tru_b, true_and, and_true, Bool.not_true, Bool.not_false, if_true, if_false, Bool.false_eq_true, Bool.true_eq_false, thaw_d, List.set_cons_zero, List.set_cons_succ, List.getElem?_cons_zero, List.getElem?_cons_succ, bind_d, allD_cons, allD_nil, gT_, gN_, bAll_cons, bAll_nil, wI_, wAdd_i, wMul_i, wEq_, wNe_, wIs_b, list_l, list_t, len_l, len_t, repr_, not_true, decide_true, decide_false, Bool.false_eq_true, List.length_cons, List.length_nil, List.nil_append, List.cons_append]
    refine use_draw (by decide) (by decide) fun a a0 a1 => ?_
    simp only [flat_d, flat_new, flat_fn, flat_pen, notOwn_d, notOwn_pen, notOwn_fn, tru_b, true_and, and_true, Bool.not_true, Bool.not_false, if_true, if_false, Bool.false_eq_true, Bool.true_eq_false, thaw_d, List.set_cons_zero, List.set_cons_succ, List.getElem?_cons_zero, List.getElem?_cons_succ, bind_d, allD_cons, allD_nil, gT_, gN_, bAll_cons, bAll_nil, wI_, wAdd_i, wMul_i, wEq_, wNe_, wIs_b, list_l, list_t, len_l, len_t, repr_, not_true, decide_true, decide_false, Bool.false_eq_true, List.length_cons, List.length_nil, List.nil_append, List.cons_append]
    refine use_draw (by decide) (by decide) fun b b0 b1 => ?_
    simp only [flat_d, flat_new, flat_fn, flat_pen, notOwn_d, notOwn_pen, notOwn_fn, tru_b, true_and, and_true, Bool.not_true, Bool.not_false, if_true, if_false, Bool.false_eq_true, Bool.true_eq_false, thaw_d, List.set_cons_zero, List.set_cons_succ, List.getElem?_cons_zero, List.getElem?_cons_succ, bind_d, allD_cons, allD_nil, gT_, gN_, bAll_cons, bAll_nil, wI_, wAdd_i, wMul_i, wEq_, wNe_, wIs_b, list_l, list_t, len_l, len_t, repr_, not_true, decide_true, decide_false, Bool.false_eq_true, List.length_cons, List.length_nil, List.nil_append, List.cons_append]
    have ht : (a - 499).natAbs < 1000 := by omega
    have hc : 0 < 1 + b ∧ 1 + b < 100 := by omega
    generalize a - 499 = t at *
    generalize 1 + b = c at *
    have c0 : c ≠ 0 := by omega
    have c9 : c.natAbs < 100 := by omega
    have ck : c * k ≠ 0 := Int.mul_ne_zero c0 k0
    have k9 : k.natAbs < 2 ^ 100 := Nat.lt_of_le_of_lt k1 (by decide)
    have m1 : CMulW t k := cMulW_of (Nat.lt_trans ht (by decide)) k9
    have m2 : CMulW c k := cMulW_of (Nat.lt_trans c9 (by decide)) k9
    have lk : LowOk (t * k) (c * k) := by
      refine low_ok2 ck ?_ fun z => ?_
      · rw [Int.natAbs_mul]
        exact Nat.lt_of_le_of_lt (Nat.mul_le_mul (show c.natAbs ≤ 99 by omega) k1) (by decide)
      · have kn : k < 0 := by
          by_cases h : k < 0
          · exact h
          · have := Int.mul_nonneg (show 0 ≤ c by omega) (show 0 ≤ k by omega)
            omega
        rw [Int.natAbs_mul]
        exact Nat.lt_of_le_of_lt (Nat.mul_le_mul (show c.natAbs ≤ 99 by omega) (k2 kn)) (by decide)
    have lo : LowOk t c := low_ok c0 (by omega) (by omega)
    have el : low (t * k) (c * k) = low t c := low_eq ck c0 (by ac_rfl)
    have hrt := rt_low (t := t) c0
    refine ⟨by decide, m1, m2, use_ratio ck lk (use_dt _ rfl ⟨_, _, rfl, lo, rfl⟩ ?_)⟩
    rw [el]
    simp only [flat_d, flat_new, flat_fn, flat_pen, notOwn_d, notOwn_pen, notOwn_fn, tru_b, true_and, and_true, Bool.not_true, Bool.not_false, if_true, if_false, Bool.false_eq_true, Bool.true_eq_false, thaw_d, List.set_cons_zero, List.set_cons_succ, List.getElem?_cons_zero, List.getElem?_cons_succ, bind_d, allD_cons, allD_nil, gT_, gN_, bAll_cons, bAll_nil, wI_, wAdd_i, wMul_i, wEq_, wNe_, wIs_b, list_l, list_t, len_l, len_t, repr_, not_true, decide_true, decide_false, Bool.false_eq_true, List.length_cons, List.length_nil, List.nil_append, List.cons_append]
    refine use_dt _ rfl ris_num ?_
    simp only [flat_d, flat_new, flat_fn, flat_pen, notOwn_d, notOwn_pen, notOwn_fn, tru_b, true_and, and_true, Bool.not_true, Bool.not_false, if_true, if_false, Bool.false_eq_true, Bool.true_eq_false, thaw_d, List.set_cons_zero, List.set_cons_succ, List.getElem?_cons_zero, List.getElem?_cons_succ, bind_d, allD_cons, allD_nil, gT_, gN_, bAll_cons, bAll_nil, wI_, wAdd_i, wMul_i, wEq_, wNe_, wIs_b, list_l, list_t, len_l, len_t, repr_, not_true, decide_true, decide_false, Bool.false_eq_true, List.length_cons, List.length_nil, List.nil_append, List.cons_append]
    refine use_dt _ rfl ⟨_, _, rfl, lo, rfl⟩ ?_
    simp only [flat_d, flat_new, flat_fn, flat_pen, notOwn_d, notOwn_pen, notOwn_fn, tru_b, true_and, and_true, Bool.not_true, Bool.not_false, if_true, if_false, Bool.false_eq_true, Bool.true_eq_false, thaw_d, List.set_cons_zero, List.set_cons_succ, List.getElem?_cons_zero, List.getElem?_cons_succ, bind_d, allD_cons, allD_nil, gT_, gN_, bAll_cons, bAll_nil, wI_, wAdd_i, wMul_i, wEq_, wNe_, wIs_b, list_l, list_t, len_l, len_t, repr_, not_true, decide_true, decide_false, Bool.false_eq_true, List.length_cons, List.length_nil, List.nil_append, List.cons_append]
    refine use_dt _ rfl ⟨_, rfl, rfl⟩ ?_
    rw [hrt.is]
    simp only [flat_d, flat_new, flat_fn, flat_pen, notOwn_d, notOwn_pen, notOwn_fn, tru_b, true_and, and_true, Bool.not_true, Bool.not_false, if_true, if_false, Bool.false_eq_true, Bool.true_eq_false, thaw_d, List.set_cons_zero, List.set_cons_succ, List.getElem?_cons_zero, List.getElem?_cons_succ, bind_d, allD_cons, allD_nil, gT_, gN_, bAll_cons, bAll_nil, wI_, wAdd_i, wMul_i, wEq_, wNe_, wIs_b, list_l, list_t, len_l, len_t, repr_, not_true, decide_true, decide_false, Bool.false_eq_true, List.length_cons, List.length_nil, List.nil_append, List.cons_append]
    refine ⟨rfl, fun v0 hv0 => ⟨3, rfl, by decide, by decide, fun t' b' hd' => ?_⟩⟩
    simp only [flat_d, flat_new, flat_fn, flat_pen, notOwn_d, notOwn_pen, notOwn_fn, tru_b, true_and, and_true, Bool.not_true, Bool.not_false, if_true, if_false, Bool.false_eq_true, Bool.true_eq_false, thaw_d, List.set_cons_zero, List.set_cons_succ, List.getElem?_cons_zero, List.getElem?_cons_succ, bind_d, allD_cons, allD_nil, gT_, gN_, bAll_cons, bAll_nil, wI_, wAdd_i, wMul_i, wEq_, wNe_, wIs_b, list_l, list_t, len_l, len_t, repr_, not_true, decide_true, decide_false, Bool.false_eq_true, List.length_cons, List.length_nil, List.nil_append, List.cons_append]
    refine ⟨m1, m2, by decide, by decide, by decide, use_pick (by simp) (by simp) fun v hv => ?_⟩
    simp only [flat_d, flat_new, flat_fn, flat_pen, notOwn_d, notOwn_pen, notOwn_fn, tru_b, true_and, and_true, Bool.not_true, Bool.not_false, if_true, if_false, Bool.false_eq_true, Bool.true_eq_false, thaw_d, List.set_cons_zero, List.set_cons_succ, List.getElem?_cons_zero, List.getElem?_cons_succ, bind_d, allD_cons, allD_nil, gT_, gN_, bAll_cons, bAll_nil, wI_, wAdd_i, wMul_i, wEq_, wNe_, wIs_b, list_l, list_t, len_l, len_t, repr_, not_true, decide_true, decide_false, Bool.false_eq_true, List.length_cons, List.length_nil, List.nil_append, List.cons_append]
    refine use_dt _ rfl ⟨_, rfl, rfl⟩ (use_dt _ rfl ⟨_, rfl, rfl⟩ ?_)
    simp only [flat_d, flat_new, flat_fn, flat_pen, notOwn_d, notOwn_pen, notOwn_fn, tru_b, true_and, and_true, Bool.not_true, Bool.not_false, if_true, if_false, Bool.false_eq_true, Bool.true_eq_false, thaw_d, List.set_cons_zero, List.set_cons_succ, List.getElem?_cons_zero, List.getElem?_cons_succ, bind_d, allD_cons, allD_nil, gT_, gN_, bAll_cons, bAll_nil, wI_, wAdd_i, wMul_i, wEq_, wNe_, wIs_b, list_l, list_t, len_l, len_t, repr_, not_true, decide_true, decide_false, Bool.false_eq_true, List.length_cons, List.length_nil, List.nil_append, List.cons_append]
    refine use_dt _ rfl ⟨_, _, rfl, rfl⟩ ?_
    simp only [flat_d, flat_new, flat_fn, flat_pen, notOwn_d, notOwn_pen, notOwn_fn, tru_b, true_and, and_true, Bool.not_true, Bool.not_false, if_true, if_false, Bool.false_eq_true, Bool.true_eq_false, thaw_d, List.set_cons_zero, List.set_cons_succ, List.getElem?_cons_zero, List.getElem?_cons_succ, bind_d, allD_cons, allD_nil, gT_, gN_, bAll_cons, bAll_nil, wI_, wAdd_i, wMul_i, wEq_, wNe_, wIs_b, list_l, list_t, len_l, len_t, repr_, not_true, decide_true, decide_false, Bool.false_eq_true, List.length_cons, List.length_nil, List.nil_append, List.cons_append]
    refine ⟨by decide, by decide, by decide, use_pick (by simp) (by simp) fun d hd => ?_⟩
    have vd : Val d := valB_ok (list_all (p := valB) (by decide +kernel) hd)
    have nd : isI d = false := by
      have := list_all (p := fun d => !isI d) (by decide +kernel) hd
      simpa using this
    simp only [flat_d, flat_new, flat_fn, flat_pen, notOwn_d, notOwn_pen, notOwn_fn, tru_b, true_and, and_true, Bool.not_true, Bool.not_false, if_true, if_false, Bool.false_eq_true, Bool.true_eq_false, thaw_d, List.set_cons_zero, List.set_cons_succ, List.getElem?_cons_zero, List.getElem?_cons_succ, bind_d, allD_cons, allD_nil, gT_, gN_, bAll_cons, bAll_nil, wI_, wAdd_i, wMul_i, wEq_, wNe_, wIs_b, list_l, list_t, len_l, len_t, repr_, not_true, decide_true, decide_false, Bool.false_eq_true, List.length_cons, List.length_nil, List.nil_append, List.cons_append]
    refine use_ratio1 nd (told_ne vd ?_)
    refine ⟨by decide, by decide, use_pick (by simp) (by simp) fun d2 hd2 => ?_⟩
    have vd2 : Val d2 := valB_ok (list_all (p := valB) (by decide +kernel) hd2)
    have nd2 : isI d2 = false ∨ d2 = .int 0 := by
      simp only [List.mem_cons, List.not_mem_nil, or_false] at hd2
      rcases hd2 with rfl | rfl | rfl | rfl
      · exact .inr rfl
      · exact .inl rfl
      · exact .inl rfl
      · exact .inl rfl
    simp only [flat_d, flat_new, flat_fn, flat_pen, notOwn_d, notOwn_pen, notOwn_fn, tru_b, true_and, and_true, Bool.not_true, Bool.not_false, if_true, if_false, Bool.false_eq_true, Bool.true_eq_false, thaw_d, List.set_cons_zero, List.set_cons_succ, List.getElem?_cons_zero, List.getElem?_cons_succ, bind_d, allD_cons, allD_nil, gT_, gN_, bAll_cons, bAll_nil, wI_, wAdd_i, wMul_i, wEq_, wNe_, wIs_b, list_l, list_t, len_l, len_t, repr_, not_true, decide_true, decide_false, Bool.false_eq_true, List.length_cons, List.length_nil, List.nil_append, List.cons_append]
    exact use_ratio2 nd2 (told_eq (Q := fun r => Q r.flat.thaw) vd2 q)
end
end L02
namespace L02
open PySem PySem.Spec PyProof.Rows L2 Fp RZ PD LamX
section
variable {P : Program} {w : World} {K : PySem.W.Frag} {mg : Str → Option Value} {base : Heap} {fd : FuncData} {T : List (Addr × Str)}
theorem eqC_told1 {x y : PyData} {a b : Str} (ha : PyData.strOk a = true) (hx : txtOk x = true) (hb : PyData.strOk b = true) : eqC (toldD ⟨1, .str a, x, y⟩) (.tuple [.str "row", .str a, .str b]) = true := by
  have hn : PyData.strOk "row" = true := strOk_of (okT_ofString _)
  have hx : PyData.strOk x.shown = true := strOk_of (okT_shown x hx)
  simp [eqC, toldD, EqOk, SeqAt.shaped, scalP, PyData.canLay0, PyData.canLayAll0, PyData.depth, PyData.depthAll, ha, hx, hb, hn]
theorem eqv_told1 {x y : PyData} {a b : Str} (h : x.shown = b) : PyData.eqv (toldD ⟨1, .str a, x, y⟩) (.tuple [.str "row", .str a, .str b]) = true := by
  subst h
  simp [toldD, PyData.eqv, PyData.eqvAll]
theorem told1_eq {d : PyData} {a : String} {Q : En → Prop} (hv : Val d) (y : Q (.d (.bool true))) : fltOk ⟨1, .str a, d, .none⟩ ∧ (d.showable = true ∧ d.depth ≤ 100 ∧ d.shown.length ≤ sizeLine) ∧ 3 ≤ sizeLine ∧ eqC (toldD ⟨1, .str a, d, .none⟩) (.tuple [.str "row", .str a, .str d.shown]) = true ∧
    Q (.d (.bool (PyData.eqv (toldD ⟨1, .str a, d, .none⟩) (.tuple [.str "row", .str a, .str d.shown])))) :=
  ⟨⟨(fun z => nomatch z), fun _ => hv.gd⟩, hv.rep, by decide, eqC_told1 (strOk_of (okT_ofString _)) hv.tx (strOk_of (okT_shown _ hv.tx)), by rw [eqv_told1 rfl]; exact y⟩
theorem use_dot1 {d1 d2 : PyData} {Q : En → Prop} {Er : Flt → Prop} (v1 : Val d1) (v2 : Val d2) (h : rowOk d1 = false) (q : Er ⟨1, .str "row", d1, .none⟩) : dfDot [.d d1, .d d2] Q Er :=
  ⟨d1, d2, rfl, v1.ln, v2.ln, fun _ => q, fun z => absurd h (by rw [z]; exact fun z => tf z), fun z => absurd h (by rw [z]; exact fun z => tf z)⟩
theorem use_dot2 {d1 d2 : PyData} {Q : En → Prop} {Er : Flt → Prop} (v1 : Val d1) (v2 : Val d2) (h1 : rowOk d1 = true) (h : rowOk d2 = false) (q : Er ⟨1, .str "other", d2, .none⟩) : dfDot [.d d1, .d d2] Q Er :=
  ⟨d1, d2, rfl, v1.ln, v2.ln, fun z => absurd h1 (by rw [z]; exact fun z => tf z.symm), fun _ _ => q, fun _ z => absurd h (by rw [z]; exact fun z => tf z)⟩
theorem use_dotU {d1 : PyData} {ds es : List PyData} {ns qs : List (Int × Int)} {Q : En → Prop} {Er : Flt → Prop} (e : seqD d1 = some ds) (l1 : ds.length < 1000) (l2 : es.length < 1000) (r1 : RowS ds ns) (r2 : RowS es qs) (n : ds.length ≠ es.length) (q : Er ⟨10, .str "other", .none, .none⟩) : dfDot [.d d1, .d (.tuple es)] Q Er := by
  have o1 : rowOk d1 = true := by rw [rowOk_some e, ← rowOk_some (d := .tuple ds) rfl]; exact r1.ok
  have o2 := r2.ok
  refine ⟨_, _, rfl, fun ds' e' => ?_, fun ds' e' => ?_, fun z => absurd o1 (by rw [z]; exact fun z => tf z.symm), fun _ z => absurd o2 (by rw [z]; exact fun z => tf z.symm), fun _ _ ds' es' e1 e2 => ?_⟩
  · rw [e] at e'
    injection e' with e'
    rw [← e']; exact l1
  · injection e' with e'
    rw [← e']; exact l2
  · rw [e] at e1
    injection e1 with e1
    injection e2 with e2
    subst e1 e2
    exact ⟨fun _ => q, fun z => absurd z n⟩
theorem use_dot {d1 : PyData} {ds es : List PyData} {ns qs : List (Int × Int)} {Q : En → Prop} {Er : Flt → Prop} (e : seqD d1 = some ds) (l1 : ds.length ≤ 40) (r1 : RowS ds ns) (r2 : RowS es qs) (n : ds.length = es.length) (q : Q (.d (numD (dotN ns qs)))) : dfDot [.d d1, .d (.tuple es)] Q Er := by
  have o1 : rowOk d1 = true := by rw [rowOk_some e, ← rowOk_some (d := .tuple ds) rfl]; exact r1.ok
  have o2 := r2.ok
  have n1 := r1.len
  have n2 := r2.len
  refine ⟨_, _, rfl, fun ds' e' => ?_, fun ds' e' => ?_, fun z => absurd o1 (by rw [z]; exact fun z => tf z.symm), fun _ z => absurd o2 (by rw [z]; exact fun z => tf z.symm), fun _ _ ds' es' e1 e2 => ?_⟩
  · rw [e] at e'
    injection e' with e'
    rw [← e']; omega
  · injection e' with e'
    rw [← e']; omega
  · rw [e] at e1
    injection e1 with e1
    injection e2 with e2
    subst e1 e2
    exact ⟨fun z => absurd n z, fun _ => ⟨rfl, ns, qs, r1.all, r2.all, by omega, by omega, q⟩⟩
theorem use_sum {d1 : PyData} {ds es : List PyData} {ns qs : List (Int × Int)} {Q : En → Prop} {Er : Flt → Prop} (e : seqD d1 = some ds) (l1 : ds.length ≤ 40) (r1 : RowS ds ns) (r2 : RowS es qs) (n : ds.length = es.length) (q : Q (.d (numD (dotN ns qs)))) : dfSum [.d d1, .d (.tuple es)] Q Er := by
  have n1 := r1.len
  have n2 := r2.len
  exact ⟨_, _, ds, ns, qs, rfl, e, r1.all, r2.all, by omega, by omega, q⟩
theorem len_seq {x : PyData} {ds : List PyData} {Q : En → Prop} (e : seqD x = some ds) (q : Q (.d (.int (ds.length : Nat)))) : bLen [.d x] Q := by
  cases x with
  | list xs => injection e with e; subst e; exact q
  | tuple xs => injection e with e; subst e; exact q
  | _ => cases e
abbrev s_law_rows_right : Stmt := top 73
theorem sc_law_rows_right : FnScope ["pen", "many", "row", "other", "bent", "odd"] ["pen"] (defScope s_law_rows_right) := ⟨rfl, rfl, rfl, by decide +kernel, rfl, by decide +kernel, by decide +kernel⟩

theorem ok_rows (F : FnP K "_law_rows_right" s_law_rows_right (He.fAd K ("_law_rows_right", none)) fd) (LF : LFx P w K mg base) (hm : ∃ o es ep, base.get? sysModules = some o ∧ o.data = .dict es ep) (g_repr : mg "repr" = none) (g_len : mg "len" = none) (g_list : mg "list" = none) (TQ : TabQ base mg T (He.codeOf K ("_law_rows_right", none)) ((("_law_rows_right" : Str) ++ ".<locals>.") ++ "<lambda>"))
    (q__law_draw : Pd ⟨P, w, K, mg⟩ base T "_law_draw" 1 ["pen", "many"] dfDraw) (q__law_row : Pd ⟨P, w, K, mg⟩ base T "_law_row" 4 ["pen", "many", "size"] dfRow) (q__law_size : Pd ⟨P, w, K, mg⟩ base T "_law_size" 3 ["pen"] dfSize) (q__law_bent_row : Pd ⟨P, w, K, mg⟩ base T "_law_bent_row" 4 ["pen", "row"] dfBent)
    (q__law_is : Pd ⟨P, w, K, mg⟩ base T "_law_is" 2 ["told", "due"] (dfDt (RIs True))) (q_dot : Pd ⟨P, w, K, mg⟩ base T "dot" 3 ["row", "other"] dfDot) (q__law_dot : Pd ⟨P, w, K, mg⟩ base T "_law_dot" 3 ["row", "other"] dfSum)
    (q__law_is_list : Pd ⟨P, w, K, mg⟩ base T "_law_is_list" 1 ["value"] (dfDt fun ds d => ∃ e, ds = [e] ∧ d = .bool (seqD e).isSome)) (q__law_is_any_row : Pd ⟨P, w, K, mg⟩ base T "_law_is_any_row" 3 ["value", "many"] (dfDt fun ds d => ∃ e es, ds = [e, .int es.length] ∧ seqD e = some es ∧ es.length < 1000 ∧ d = .bool (rowOk e))) :
    FnG P w K mg base (L2.CX P w) 7 (He.fAd K ("_law_rows_right", none)) fd ["pen"] (spD ⟨P, w, K, mg⟩ T dfPen) := by
  refine okDK F sc_law_rows_right (fun rs Q Er h => ?_) (fun A outer s H E hr => ?_)
  · obtain ⟨rfl, _⟩ := h
    rfl
  · have nd := sc_law_rows_right.nd
    refine ⟨_, (sv_cons (s_set false (i := 1) nd rfl (by first | exact .inl rfl | exact .inr rfl) (ev_call q__law_draw (hr.mono (by decide)) (by rfl) (fun σ => passAt (takes_of rfl rfl rfl rfl) σ) (av_cons (ev_var (pv 0)) (av_cons ev_int av_nil))))
  (sv_cons (s_par false (i := 2) (j := 3) rfl nd rfl rfl (by decide) rfl rfl (ev_call q__law_row (hr.mono (by decide)) (by rfl) (fun σ => passAt (takes_of rfl rfl rfl rfl) σ) (av_cons (ev_var (pv 0)) (av_cons (ev_var (pv 1)) (av_cons (ev_call q__law_size (hr.mono (by decide)) (by rfl) (fun σ => passAt (takes_of rfl rfl rfl rfl) σ) (av_cons (ev_var (pv 0)) av_nil)) av_nil)))) (ev_call q__law_row (hr.mono (by decide)) (by rfl) (fun σ => passAt (takes_of rfl rfl rfl rfl) σ) (av_cons (ev_var (pv 0)) (av_cons (ev_var (pv 1)) (av_cons (ev_call q__law_size (hr.mono (by decide)) (by rfl) (fun σ => passAt (takes_of rfl rfl rfl rfl) σ) (av_cons (ev_var (pv 0)) av_nil)) av_nil)))) rfl)
  (sv_cons (s_if (tv_not (tv_val (ev_call q__law_is (hr.mono (by decide)) (by rfl) (fun σ => passAt (takes_of rfl rfl rfl rfl) σ) (av_cons (ev_call q_dot (hr.mono (by decide)) (by rfl) (fun σ => passAt (takes_of rfl rfl rfl rfl) σ) (av_cons (ev_callTy call_list_of b_list (by rfl) g_list (by rfl) (av_cons (ev_var (pv 2)) av_nil)) (av_cons (ev_var (pv 3)) av_nil))) (av_cons (ev_call q__law_dot (hr.mono (by decide)) (by rfl) (fun σ => passAt (takes_of rfl rfl rfl rfl) σ) (av_cons (ev_var (pv 2)) (av_cons (ev_var (pv 3)) av_nil))) av_nil))))) (sv_one (s_ret ev_bl)) sv_nil)
  (sv_cons (s_asg (ev_tup (av_cons (ev_call q__law_bent_row (hr.mono (by decide)) (by rfl) (fun σ => passAt (takes_of rfl rfl rfl rfl) σ) (av_cons (ev_var (pv 0)) (av_cons (ev_var (pv 2)) av_nil))) (av_cons (ev_call q__law_bent_row (hr.mono (by decide)) (by rfl) (fun σ => passAt (takes_of rfl rfl rfl rfl) σ) (av_cons (ev_var (pv 0)) (av_cons (ev_var (pv 3)) av_nil))) av_nil))) (gv_tup rfl (gvs_cons (gv_name (i := 4) nd rfl (by first | exact .inl rfl | exact .inr rfl)) (gvs_cons (gv_name (i := 5) nd rfl (by first | exact .inl rfl | exact .inr rfl)) gvs_nil))))
  (sv_cons (s_if (Wv.tv (wv_or (tv_not (tv_val (ev_call q__law_is_list (hr.mono (by decide)) (by rfl) (fun σ => passAt (takes_of rfl rfl rfl rfl) σ) (av_cons (ev_var (pv 4)) av_nil)))) (wv_or1 (tv_not (tv_val (ev_call q__law_is_any_row (hr.mono (by decide)) (by rfl) (fun σ => passAt (takes_of rfl rfl rfl rfl) σ) (av_cons (ev_var (pv 4)) (av_cons (ev_callB call_len b_len (by rfl) g_len (by rfl) (av_cons (ev_var (pv 4)) av_nil)) av_nil)))))))) (sv_one (s_ret (ev_cmp (opEqA hr) o_eq (ev_lf LF TQ rfl rfl hr (by decide) (by rfl) (lamS_by (sc := defScope s_law_rows_right) (by decide +kernel)) rfl (fun _ _ _ _ _ => rfl) (fun A2 o2 s2 H2 E2 f2 c2 hr2 => (ev_call q_dot (hr2.mono (by decide)) (by rfl) (fun σ => passAt (takes_of rfl rfl rfl rfl) σ) (av_cons (ev_var (pv 4)) (av_cons (ev_var (pv 5)) av_nil))))) (ev_tup (av_cons ev_str (av_cons ev_str (av_cons (ev_callB (call_repr hm hr) b_repr (by rfl) g_repr (by rfl) (av_cons (ev_var (pv 4)) av_nil)) av_nil)))) (nomark _)))) sv_nil)
  (sv_cons (s_if (Wv.tv (wv_or (tv_not (tv_val (ev_call q__law_is_list (hr.mono (by decide)) (by rfl) (fun σ => passAt (takes_of rfl rfl rfl rfl) σ) (av_cons (ev_var (pv 5)) av_nil)))) (wv_or1 (tv_not (tv_val (ev_call q__law_is_any_row (hr.mono (by decide)) (by rfl) (fun σ => passAt (takes_of rfl rfl rfl rfl) σ) (av_cons (ev_var (pv 5)) (av_cons (ev_callB call_len b_len (by rfl) g_len (by rfl) (av_cons (ev_var (pv 5)) av_nil)) av_nil)))))))) (sv_one (s_ret (ev_cmp (opEqA hr) o_eq (ev_lf LF TQ rfl rfl hr (by decide) (by rfl) (lamS_by (sc := defScope s_law_rows_right) (by decide +kernel)) rfl (fun _ _ _ _ _ => rfl) (fun A2 o2 s2 H2 E2 f2 c2 hr2 => (ev_call q_dot (hr2.mono (by decide)) (by rfl) (fun σ => passAt (takes_of rfl rfl rfl rfl) σ) (av_cons (ev_var (pv 4)) (av_cons (ev_var (pv 5)) av_nil))))) (ev_tup (av_cons ev_str (av_cons ev_str (av_cons (ev_callB (call_repr hm hr) b_repr (by rfl) g_repr (by rfl) (av_cons (ev_var (pv 5)) av_nil)) av_nil)))) (nomark _)))) sv_nil)
  (sv_one (s_ret (ev_cmp (opEqA hr) o_eq (ev_lf LF TQ rfl rfl hr (by decide) (by rfl) (lamS_by (sc := defScope s_law_rows_right) (by decide +kernel)) rfl (fun _ _ _ _ _ => rfl) (fun A2 o2 s2 H2 E2 f2 c2 hr2 => (ev_call q_dot (hr2.mono (by decide)) (by rfl) (fun σ => passAt (takes_of rfl rfl rfl rfl) σ) (av_cons (ev_var (pv 4)) (av_cons (ev_var (pv 5)) av_nil))))) (ev_if (tv_cmp (opNeA hr) o_ne (ev_callB call_len b_len (by rfl) g_len (by rfl) (av_cons (ev_var (pv 4)) av_nil)) (ev_callB call_len b_len (by rfl) g_len (by rfl) (av_cons (ev_var (pv 5)) av_nil)) (nomark _)) (ev_tup (av_cons ev_str (av_cons ev_str av_nil))) ev_non) (nomark _)))))))))), ?_⟩
    rintro rs Q Er ⟨rfl, q⟩
    simp only [startE, List.map_cons, List.map_nil, List.length_cons, List.length_nil, Nat.sub_self, Nat.reduceSub, Nat.reduceAdd, List.replicate, List.cons_append, List.nil_append, List.append_nil, List.getElem?_cons_zero, List.getElem?_cons_succ, List.set_cons_zero, List.set_cons_succ, endK, wNil, wSeq, wSet, wPar, wRet, wIf, wFor, wAsg, wFault, eN_, eC, eOp, eUn, eIf, eNot, eAnd, eOr, bV, bAnd, bOr, bNot, aNil, aCons, eCall, eCallV, eTup, eLst, eTupF, eB, iSeqE, flat_d, flat_new, flat_fn, flat_fns, flat_pen, flat_own, thaw_d, thaw_own, notOwn_d, notOwn_pen, notOwn_fn, notOwn_fns, notOwn_own, plain_nil, plain_cons, tru_b, bind_d, bind_pen, bind_fn, bind_fns, bind_newT, bind_newF, par_F, par_T, eN_, allD_nil, allD_cons, allF_nil, allF_cons, gN_, gT_, bAll_nil, bAll_cons, wI_, wAdd_i, wAdd_s, wAdd_t, wAdd_l, wMul_i, wEq_, wNe_, wIs_n, wIs_b, wIs_i, items_l, items_n, items_t, items_f, items_s, rng1_, rng2_, len_l, len_t, len_o, len_s, list_l, list_t, list_o, tup_l, tup_t, tup_o, repr_, true_and, and_true, if_true, if_false, Bool.not_true, Bool.not_false, Bool.false_eq_true, ite_true, ite_false]
    refine use_draw (by decide) (by decide) fun m m0 m1 => ?_
    simp only [flat_d, flat_new, flat_fn, flat_pen, notOwn_d, notOwn_pen, notOwn_fn, tru_b, true_and, and_true, Bool.not_true, Bool.not_false, if_true, if_false, Bool.false_eq_true, Bool.true_eq_false, thaw_d, List.set_cons_zero, List.set_cons_succ, List.getElem?_cons_zero, List.getElem?_cons_succ, bind_d, allD_cons, allD_nil, gT_, gN_, bAll_cons, bAll_nil, wI_, wAdd_i, wMul_i, wEq_, wNe_, wIs_b, list_l, list_t, len_l, len_t, repr_, not_true, decide_true, decide_false, Bool.false_eq_true, List.length_cons, List.length_nil, List.nil_append, List.cons_append]
    refine ⟨rfl, fun sz z0 z2 => ?_⟩
    simp only [flat_d, flat_new, flat_fn, flat_pen, notOwn_d, notOwn_pen, notOwn_fn, tru_b, true_and, and_true, Bool.not_true, Bool.not_false, if_true, if_false, Bool.false_eq_true, Bool.true_eq_false, thaw_d, List.set_cons_zero, List.set_cons_succ, List.getElem?_cons_zero, List.getElem?_cons_succ, bind_d, allD_cons, allD_nil, gT_, gN_, bAll_cons, bAll_nil, wI_, wAdd_i, wMul_i, wEq_, wNe_, wIs_b, list_l, list_t, len_l, len_t, repr_, not_true, decide_true, decide_false, Bool.false_eq_true, List.length_cons, List.length_nil, List.nil_append, List.cons_append]
    refine ⟨m, sz, rfl, m0, by omega, z0, z2, fun ds ns hR hl => ?_⟩
    simp only [flat_d, flat_new, flat_fn, flat_pen, notOwn_d, notOwn_pen, notOwn_fn, tru_b, true_and, and_true, Bool.not_true, Bool.not_false, if_true, if_false, Bool.false_eq_true, Bool.true_eq_false, thaw_d, List.set_cons_zero, List.set_cons_succ, List.getElem?_cons_zero, List.getElem?_cons_succ, bind_d, allD_cons, allD_nil, gT_, gN_, bAll_cons, bAll_nil, wI_, wAdd_i, wMul_i, wEq_, wNe_, wIs_b, list_l, list_t, len_l, len_t, repr_, not_true, decide_true, decide_false, Bool.false_eq_true, List.length_cons, List.length_nil, List.nil_append, List.cons_append]
    refine ⟨rfl, fun sz' z0' z2' => ?_⟩
    simp only [flat_d, flat_new, flat_fn, flat_pen, notOwn_d, notOwn_pen, notOwn_fn, tru_b, true_and, and_true, Bool.not_true, Bool.not_false, if_true, if_false, Bool.false_eq_true, Bool.true_eq_false, thaw_d, List.set_cons_zero, List.set_cons_succ, List.getElem?_cons_zero, List.getElem?_cons_succ, bind_d, allD_cons, allD_nil, gT_, gN_, bAll_cons, bAll_nil, wI_, wAdd_i, wMul_i, wEq_, wNe_, wIs_b, list_l, list_t, len_l, len_t, repr_, not_true, decide_true, decide_false, Bool.false_eq_true, List.length_cons, List.length_nil, List.nil_append, List.cons_append]
    refine ⟨m, sz', rfl, m0, by omega, z0', z2', fun es qs hR2 hl2 => ?_⟩
    simp only [flat_d, flat_new, flat_fn, flat_pen, notOwn_d, notOwn_pen, notOwn_fn, tru_b, true_and, and_true, Bool.not_true, Bool.not_false, if_true, if_false, Bool.false_eq_true, Bool.true_eq_false, thaw_d, List.set_cons_zero, List.set_cons_succ, List.getElem?_cons_zero, List.getElem?_cons_succ, bind_d, allD_cons, allD_nil, gT_, gN_, bAll_cons, bAll_nil, wI_, wAdd_i, wMul_i, wEq_, wNe_, wIs_b, list_l, list_t, len_l, len_t, repr_, not_true, decide_true, decide_false, Bool.false_eq_true, List.length_cons, List.length_nil, List.nil_append, List.cons_append]
    refine use_dot rfl (by omega) hR hR2 (by omega) (use_sum rfl (by omega) hR hR2 (by omega) ?_)
    simp only [flat_d, flat_new, flat_fn, flat_pen, notOwn_d, notOwn_pen, notOwn_fn, tru_b, true_and, and_true, Bool.not_true, Bool.not_false, if_true, if_false, Bool.false_eq_true, Bool.true_eq_false, thaw_d, List.set_cons_zero, List.set_cons_succ, List.getElem?_cons_zero, List.getElem?_cons_succ, bind_d, allD_cons, allD_nil, gT_, gN_, bAll_cons, bAll_nil, wI_, wAdd_i, wMul_i, wEq_, wNe_, wIs_b, list_l, list_t, len_l, len_t, repr_, not_true, decide_true, decide_false, Bool.false_eq_true, List.length_cons, List.length_nil, List.nil_append, List.cons_append]
    refine use_dt _ rfl ris_num ?_
    simp only [flat_d, flat_new, flat_fn, flat_pen, notOwn_d, notOwn_pen, notOwn_fn, tru_b, true_and, and_true, Bool.not_true, Bool.not_false, if_true, if_false, Bool.false_eq_true, Bool.true_eq_false, thaw_d, List.set_cons_zero, List.set_cons_succ, List.getElem?_cons_zero, List.getElem?_cons_succ, bind_d, allD_cons, allD_nil, gT_, gN_, bAll_cons, bAll_nil, wI_, wAdd_i, wMul_i, wEq_, wNe_, wIs_b, list_l, list_t, len_l, len_t, repr_, not_true, decide_true, decide_false, Bool.false_eq_true, List.length_cons, List.length_nil, List.nil_append, List.cons_append]
    refine ⟨ds, ns, rfl, hR, by omega, fun bent hb => ?_⟩
    simp only [flat_d, flat_new, flat_fn, flat_pen, notOwn_d, notOwn_pen, notOwn_fn, tru_b, true_and, and_true, Bool.not_true, Bool.not_false, if_true, if_false, Bool.false_eq_true, Bool.true_eq_false, thaw_d, List.set_cons_zero, List.set_cons_succ, List.getElem?_cons_zero, List.getElem?_cons_succ, bind_d, allD_cons, allD_nil, gT_, gN_, bAll_cons, bAll_nil, wI_, wAdd_i, wMul_i, wEq_, wNe_, wIs_b, list_l, list_t, len_l, len_t, repr_, not_true, decide_true, decide_false, Bool.false_eq_true, List.length_cons, List.length_nil, List.nil_append, List.cons_append]
    refine ⟨es, qs, rfl, hR2, by omega, fun odd ho => ?_⟩
    simp only [flat_d, flat_new, flat_fn, flat_pen, notOwn_d, notOwn_pen, notOwn_fn, tru_b, true_and, and_true, Bool.not_true, Bool.not_false, if_true, if_false, Bool.false_eq_true, Bool.true_eq_false, thaw_d, List.set_cons_zero, List.set_cons_succ, List.getElem?_cons_zero, List.getElem?_cons_succ, bind_d, allD_cons, allD_nil, gT_, gN_, bAll_cons, bAll_nil, wI_, wAdd_i, wMul_i, wEq_, wNe_, wIs_b, list_l, list_t, len_l, len_t, repr_, not_true, decide_true, decide_false, Bool.false_eq_true, List.length_cons, List.length_nil, List.nil_append, List.cons_append]
    refine ⟨by decide, use_dt _ rfl ⟨_, rfl, rfl⟩ ?_⟩
    simp only [flat_d, flat_new, flat_fn, flat_pen, notOwn_d, notOwn_pen, notOwn_fn, tru_b, true_and, and_true, Bool.not_true, Bool.not_false, if_true, if_false, Bool.false_eq_true, Bool.true_eq_false, thaw_d, List.set_cons_zero, List.set_cons_succ, List.getElem?_cons_zero, List.getElem?_cons_succ, bind_d, allD_cons, allD_nil, gT_, gN_, bAll_cons, bAll_nil, wI_, wAdd_i, wMul_i, wEq_, wNe_, wIs_b, list_l, list_t, len_l, len_t, repr_, not_true, decide_true, decide_false, Bool.false_eq_true, List.length_cons, List.length_nil, List.nil_append, List.cons_append]
    have vb := hb.val
    have vo := ho.val
    refine iteB (fun z => ?_) fun z => ?_
    · have z : seqD bent = none := by cases e : seqD bent <;> simp [e] at z ⊢
      exact use_dot1 vb vo (rowOk_none z) (told1_eq (Q := fun r => Q r.flat.thaw) vb q)
    obtain ⟨bs, eb⟩ : ∃ bs, seqD bent = some bs := by cases e : seqD bent <;> simp [e] at z ⊢
    refine len_seq eb ?_
    simp only [flat_d, flat_new, flat_fn, flat_pen, notOwn_d, notOwn_pen, notOwn_fn, tru_b, true_and, and_true, Bool.not_true, Bool.not_false, if_true, if_false, Bool.false_eq_true, Bool.true_eq_false, thaw_d, List.set_cons_zero, List.set_cons_succ, List.getElem?_cons_zero, List.getElem?_cons_succ, bind_d, allD_cons, allD_nil, gT_, gN_, bAll_cons, bAll_nil, wI_, wAdd_i, wMul_i, wEq_, wNe_, wIs_b, list_l, list_t, len_l, len_t, repr_, not_true, decide_true, decide_false, Bool.false_eq_true, List.length_cons, List.length_nil, List.nil_append, List.cons_append]
    refine use_dt _ rfl ⟨bent, bs, rfl, eb, vb.ln bs eb, rfl⟩ ?_
    simp only [flat_d, flat_new, flat_fn, flat_pen, notOwn_d, notOwn_pen, notOwn_fn, tru_b, true_and, and_true, Bool.not_true, Bool.not_false, if_true, if_false, Bool.false_eq_true, Bool.true_eq_false, thaw_d, List.set_cons_zero, List.set_cons_succ, List.getElem?_cons_zero, List.getElem?_cons_succ, bind_d, allD_cons, allD_nil, gT_, gN_, bAll_cons, bAll_nil, wI_, wAdd_i, wMul_i, wEq_, wNe_, wIs_b, list_l, list_t, len_l, len_t, repr_, not_true, decide_true, decide_false, Bool.false_eq_true, List.length_cons, List.length_nil, List.nil_append, List.cons_append]
    refine iteB (fun z => ?_) fun z => ?_
    · have z : rowOk bent = false := by simpa using z
      exact use_dot1 vb vo z (told1_eq (Q := fun r => Q r.flat.thaw) vb q)
    have rb : rowOk bent = true := by simpa using z
    refine use_dt _ rfl ⟨_, rfl, rfl⟩ ?_
    simp only [flat_d, flat_new, flat_fn, flat_pen, notOwn_d, notOwn_pen, notOwn_fn, tru_b, true_and, and_true, Bool.not_true, Bool.not_false, if_true, if_false, Bool.false_eq_true, Bool.true_eq_false, thaw_d, List.set_cons_zero, List.set_cons_succ, List.getElem?_cons_zero, List.getElem?_cons_succ, bind_d, allD_cons, allD_nil, gT_, gN_, bAll_cons, bAll_nil, wI_, wAdd_i, wMul_i, wEq_, wNe_, wIs_b, list_l, list_t, len_l, len_t, repr_, not_true, decide_true, decide_false, Bool.false_eq_true, List.length_cons, List.length_nil, List.nil_append, List.cons_append]
    refine iteB (fun z => ?_) fun z => ?_
    · have z : seqD odd = none := by cases e : seqD odd <;> simp [e] at z ⊢
      exact use_dot2 vb vo rb (rowOk_none z) (told1_eq (Q := fun r => Q r.flat.thaw) vo q)
    obtain ⟨os, eo⟩ : ∃ bs, seqD odd = some bs := by cases e : seqD odd <;> simp [e] at z ⊢
    refine len_seq eo ?_
    simp only [flat_d, flat_new, flat_fn, flat_pen, notOwn_d, notOwn_pen, notOwn_fn, tru_b, true_and, and_true, Bool.not_true, Bool.not_false, if_true, if_false, Bool.false_eq_true, Bool.true_eq_false, thaw_d, List.set_cons_zero, List.set_cons_succ, List.getElem?_cons_zero, List.getElem?_cons_succ, bind_d, allD_cons, allD_nil, gT_, gN_, bAll_cons, bAll_nil, wI_, wAdd_i, wMul_i, wEq_, wNe_, wIs_b, list_l, list_t, len_l, len_t, repr_, not_true, decide_true, decide_false, Bool.false_eq_true, List.length_cons, List.length_nil, List.nil_append, List.cons_append]
    refine use_dt _ rfl ⟨odd, os, rfl, eo, vo.ln os eo, rfl⟩ ?_
    simp only [flat_d, flat_new, flat_fn, flat_pen, notOwn_d, notOwn_pen, notOwn_fn, tru_b, true_and, and_true, Bool.not_true, Bool.not_false, if_true, if_false, Bool.false_eq_true, Bool.true_eq_false, thaw_d, List.set_cons_zero, List.set_cons_succ, List.getElem?_cons_zero, List.getElem?_cons_succ, bind_d, allD_cons, allD_nil, gT_, gN_, bAll_cons, bAll_nil, wI_, wAdd_i, wMul_i, wEq_, wNe_, wIs_b, list_l, list_t, len_l, len_t, repr_, not_true, decide_true, decide_false, Bool.false_eq_true, List.length_cons, List.length_nil, List.nil_append, List.cons_append]
    refine iteB (fun z => ?_) fun z => ?_
    · have z : rowOk odd = false := by simpa using z
      exact use_dot2 vb vo rb z (told1_eq (Q := fun r => Q r.flat.thaw) vo q)
    have ro : rowOk odd = true := by simpa using z
    obtain ⟨bs', bn, rfl, hb1, hb2⟩ := hb.row rb
    obtain ⟨os', on, rfl, ho1, ho2⟩ := ho.row ro
    simp only [flat_d, flat_new, flat_fn, flat_pen, notOwn_d, notOwn_pen, notOwn_fn, tru_b, true_and, and_true, Bool.not_true, Bool.not_false, if_true, if_false, Bool.false_eq_true, Bool.true_eq_false, thaw_d, List.set_cons_zero, List.set_cons_succ, List.getElem?_cons_zero, List.getElem?_cons_succ, bind_d, allD_cons, allD_nil, gT_, gN_, bAll_cons, bAll_nil, wI_, wAdd_i, wMul_i, wEq_, wNe_, wIs_b, list_l, list_t, len_l, len_t, repr_, not_true, decide_true, decide_false, Bool.false_eq_true, List.length_cons, List.length_nil, List.nil_append, List.cons_append]
    have ei : ∀ a b : Nat, PyData.eqv (.int (a : Int)) (.int (b : Int)) = decide (a = b) := fun a b => by
      rw [Bool.eq_iff_iff]
      simp [PyData.eqv]
      omega
    by_cases n : bs'.length = os'.length
    · refine use_dot rfl (by omega) hb1 ho1 n ⟨rfl, ?_⟩
      rw [ei, n]
      simp only [decide_true, Bool.not_true, Bool.false_eq_true, if_false]
      exact ⟨rfl, q⟩
    · refine use_dotU rfl (by omega) (by omega) hb1 ho1 n ⟨⟨(fun z => nomatch z), fun z => nomatch z⟩, rfl, ?_⟩
      rw [ei]
      simp only [n, decide_false, Bool.not_false, if_true]
      refine ⟨by decide, by decide +kernel, ?_⟩
      have e : PyData.eqv (toldD ⟨10, .str "other", .none, .none⟩) (.tuple [.str "unlike", .str "other"]) = true := by simp [toldD, PyData.eqv, PyData.eqvAll]
      rw [e]
      exact q
end
end L02
namespace L02
open PySem PySem.Spec PyProof.Rows L2 Fp RZ PD LamX
section
variable {P : Program} {w : World} {K : PySem.W.Frag} {mg : Str → Option Value} {base : Heap} {f : Addr} {fd : FuncData} {T : List (Addr × Str)}
abbrev slaw : Stmt := top 74
theorem sclaw : FnScope ["script", "pen", "lap", "one", "other"] ["script"] (defScope slaw) := ⟨rfl, rfl, rfl, by decide +kernel, rfl, by decide +kernel, by decide +kernel⟩

theorem drawn2 {sz t b : Int} (h : Drawn sz t b) (hs : sz ≤ 2) : Drawn 2 t b := ⟨h.b0, h.g, fun _ => h.sm hs, h.lg⟩
theorem drawn0 : Drawn 2 0 1 := ⟨by decide, by decide, fun _ => by decide, by decide⟩
theorem use_size {Q : En → Prop} {Er : Flt → Prop} (q : ∀ sz : Int, 0 ≤ sz → sz ≤ 2 → Q (.d (.int sz))) : dfSize [.pen] Q Er := ⟨rfl, q⟩
theorem use_number {sz : Int} {Q : En → Prop} {Er : Flt → Prop} (h0 : 0 ≤ sz) (h2 : sz ≤ 2) (q : ∀ t b, Drawn 2 t b → Q (.d (numD (t, b)))) : dfNumber [.pen, .d (.int sz)] Q Er := ⟨sz, rfl, h0, by omega, fun t b h => q t b (drawn2 h h2)⟩
def dfLaw : Df1 := fun rs Q _ => ∃ ns : List Int, rs = [.d (.list (ns.map .int))] ∧ Q (.d (.bool true))
theorem ok_law (F : FnP K "law" slaw f fd) (g_range : mg "range" = none) (q__law_pen : Pd ⟨P, w, K, mg⟩ base T "_law_pen" 1 ["script"] dfMkPen) (q__law_number : Pd ⟨P, w, K, mg⟩ base T "_law_number" 3 ["pen", "size"] dfNumber) (q__law_size : Pd ⟨P, w, K, mg⟩ base T "_law_size" 3 ["pen"] dfSize)
    (q__law_pick : Pd ⟨P, w, K, mg⟩ base T "_law_pick" 2 ["pen", "some"] dfPick) (q__law_odd : Pd ⟨P, w, K, mg⟩ base T "_law_odd" 3 ["pen"] dfOdd) (q__law_made_right : Pd ⟨P, w, K, mg⟩ base T "_law_made_right" 7 ["pen"] dfPen) (q__law_reckoned_right : Pd ⟨P, w, K, mg⟩ base T "_law_reckoned_right" 7 ["one", "other"] dfReckoned)
    (q__law_refused_right : Pd ⟨P, w, K, mg⟩ base T "_law_refused_right" 7 ["one", "odd"] dfRefused) (q__law_rows_right : Pd ⟨P, w, K, mg⟩ base T "_law_rows_right" 7 ["pen"] dfPen) :
    FnG P w K mg base (L2.CX P w) 8 f fd ["script"] (spD ⟨P, w, K, mg⟩ T dfLaw) := by
  refine okD F sclaw (fun rs Q Er h => ?_) (fun cdv A outer s H E hr => ?_)
  · obtain ⟨ns, rfl, _⟩ := h
    rfl
  · have nd := sclaw.nd
    refine ⟨_, (sv_cons (s_set false (i := 1) nd rfl (by first | exact .inl rfl | exact .inr rfl) (ev_call q__law_pen (hr.mono (by decide)) (by rfl) (fun σ => passAt (takes_of rfl rfl rfl rfl) σ) (av_cons (ev_var (pv 0)) av_nil)))
  (sv_cons (s_for (passes_of rfl) rfl (iv_range1 (by rfl) g_range (av_cons ev_int av_nil)) (gv_name (i := 2) nd rfl (by first | exact .inl rfl | exact .inr rfl))
   (sv_cons (s_par false (i := 3) (j := 4) rfl nd rfl rfl (by decide) rfl rfl (ev_call q__law_number (hr.mono (by decide)) (by rfl) (fun σ => passAt (takes_of rfl rfl rfl rfl) σ) (av_cons (ev_var (pv 1)) (av_cons (ev_call q__law_size (hr.mono (by decide)) (by rfl) (fun σ => passAt (takes_of rfl rfl rfl rfl) σ) (av_cons (ev_var (pv 1)) av_nil)) av_nil))) (ev_call q__law_number (hr.mono (by decide)) (by rfl) (fun σ => passAt (takes_of rfl rfl rfl rfl) σ) (av_cons (ev_var (pv 1)) (av_cons (ev_call q__law_size (hr.mono (by decide)) (by rfl) (fun σ => passAt (takes_of rfl rfl rfl rfl) σ) (av_cons (ev_var (pv 1)) av_nil)) av_nil))) rfl)
  (sv_cons (s_if (Wv.tv (wv_or (tv_not (tv_val (ev_call q__law_made_right (hr.mono (by decide)) (by rfl) (fun σ => passAt (takes_of rfl rfl rfl rfl) σ) (av_cons (ev_var (pv 1)) av_nil)))) (wv_or1 (tv_not (tv_val (ev_call q__law_reckoned_right (hr.mono (by decide)) (by rfl) (fun σ => passAt (takes_of rfl rfl rfl rfl) σ) (av_cons (ev_var (pv 3)) (av_cons (ev_call q__law_pick (hr.mono (by decide)) (by rfl) (fun σ => passAt (takes_of rfl rfl rfl rfl) σ) (av_cons (ev_var (pv 1)) (av_cons (ev_lst (av_cons (ev_var (pv 4)) (av_cons ev_int (av_cons (ev_var (pv 3)) av_nil)))) av_nil))) av_nil)))))))) (sv_one (s_ret ev_bl)) sv_nil)
  (sv_one (s_if (Wv.tv (wv_or (tv_not (tv_val (ev_call q__law_refused_right (hr.mono (by decide)) (by rfl) (fun σ => passAt (takes_of rfl rfl rfl rfl) σ) (av_cons (ev_var (pv 3)) (av_cons (ev_call q__law_odd (hr.mono (by decide)) (by rfl) (fun σ => passAt (takes_of rfl rfl rfl rfl) σ) (av_cons (ev_var (pv 1)) av_nil)) av_nil))))) (wv_or1 (tv_not (tv_val (ev_call q__law_rows_right (hr.mono (by decide)) (by rfl) (fun σ => passAt (takes_of rfl rfl rfl rfl) σ) (av_cons (ev_var (pv 1)) av_nil))))))) (sv_one (s_ret ev_bl)) sv_nil)))))
  (sv_one (s_ret ev_bl)))), ?_⟩
    rintro rs Q Er ⟨ns, rfl, q⟩
    simp only [startE, List.map_cons, List.map_nil, List.length_cons, List.length_nil, Nat.sub_self, Nat.reduceSub, Nat.reduceAdd, List.replicate, List.cons_append, List.nil_append, List.append_nil, List.getElem?_cons_zero, List.getElem?_cons_succ, List.set_cons_zero, List.set_cons_succ, endK, wNil, wSeq, wSet, wPar, wRet, wIf, wFor, wAsg, wFault, eN_, eC, eOp, eUn, eIf, eNot, eAnd, eOr, bV, bAnd, bOr, bNot, aNil, aCons, eCall, eCallV, eTup, eLst, eTupF, eB, iSeqE, flat_d, flat_new, flat_fn, flat_fns, flat_pen, flat_own, thaw_d, thaw_own, notOwn_d, notOwn_pen, notOwn_fn, notOwn_fns, notOwn_own, plain_nil, plain_cons, tru_b, bind_d, bind_pen, bind_fn, bind_fns, bind_newT, bind_newF, par_F, par_T, eN_, allD_nil, allD_cons, allF_nil, allF_cons, gN_, gT_, bAll_nil, bAll_cons, wI_, wAdd_i, wAdd_s, wAdd_t, wAdd_l, wMul_i, wEq_, wNe_, wIs_n, wIs_b, wIs_i, items_l, items_n, items_t, items_f, items_s, rng1_, rng2_, len_l, len_t, len_o, len_s, list_l, list_t, list_o, tup_l, tup_t, tup_o, repr_, true_and, and_true, if_true, if_false, Bool.not_true, Bool.not_false, Bool.false_eq_true, ite_true, ite_false]
    refine ⟨ns, rfl, ?_⟩
    simp only [flat_d, flat_new, flat_fn, flat_pen, notOwn_d, notOwn_pen, notOwn_fn, tru_b, true_and, and_true, Bool.not_true, Bool.not_false, if_true, if_false, Bool.false_eq_true, Bool.true_eq_false, thaw_d, List.set_cons_zero, List.set_cons_succ, List.getElem?_cons_zero, List.getElem?_cons_succ, bind_d, allD_cons, allD_nil, gT_, gN_, bAll_cons, bAll_nil, wI_, wAdd_i, wMul_i, wEq_, wNe_, wIs_b, list_l, list_t, len_l, len_t, repr_, not_true, decide_true, decide_false, Bool.false_eq_true, List.length_cons, List.length_nil, List.nil_append, List.cons_append]
    rw [bind_pen]
    refine ⟨by decide, forL_inv (fun e => ∃ x2 x3 x4, e = [some (.d (.list (ns.map .int))), some .pen, x2, x3, x4]) (fun r hr env k' ⟨x2, x3, x4, he⟩ hn hc hb ht hx => ?_) (fun e _ => q) ⟨_, _, _, rfl⟩⟩
    obtain ⟨i, hi, rfl⟩ := rngE_mem hr
    subst he
    simp only [startE, List.map_cons, List.map_nil, List.length_cons, List.length_nil, Nat.sub_self, Nat.reduceSub, Nat.reduceAdd, List.replicate, List.cons_append, List.nil_append, List.append_nil, List.getElem?_cons_zero, List.getElem?_cons_succ, List.set_cons_zero, List.set_cons_succ, endK, wNil, wSeq, wSet, wPar, wRet, wIf, wFor, wAsg, wFault, eN_, eC, eOp, eUn, eIf, eNot, eAnd, eOr, bV, bAnd, bOr, bNot, aNil, aCons, eCall, eCallV, eTup, eLst, eTupF, eB, iSeqE, flat_d, flat_new, flat_fn, flat_fns, flat_pen, flat_own, thaw_d, thaw_own, notOwn_d, notOwn_pen, notOwn_fn, notOwn_fns, notOwn_own, plain_nil, plain_cons, tru_b, bind_d, bind_pen, bind_fn, bind_fns, bind_newT, bind_newF, par_F, par_T, eN_, allD_nil, allD_cons, allF_nil, allF_cons, gN_, gT_, bAll_nil, bAll_cons, wI_, wAdd_i, wAdd_s, wAdd_t, wAdd_l, wMul_i, wEq_, wNe_, wIs_n, wIs_b, wIs_i, items_l, items_n, items_t, items_f, items_s, rng1_, rng2_, len_l, len_t, len_o, len_s, list_l, list_t, list_o, tup_l, tup_t, tup_o, repr_, true_and, and_true, if_true, if_false, Bool.not_true, Bool.not_false, Bool.false_eq_true, ite_true, ite_false]
    rw [ht, hx]
    refine use_size fun sz z0 z2 => ?_
    simp only [flat_d, flat_new, flat_fn, flat_pen, notOwn_d, notOwn_pen, notOwn_fn, tru_b, true_and, and_true, Bool.not_true, Bool.not_false, if_true, if_false, Bool.false_eq_true, Bool.true_eq_false, thaw_d, List.set_cons_zero, List.set_cons_succ, List.getElem?_cons_zero, List.getElem?_cons_succ, bind_d, allD_cons, allD_nil, gT_, gN_, bAll_cons, bAll_nil, wI_, wAdd_i, wMul_i, wEq_, wNe_, wIs_b, list_l, list_t, len_l, len_t, repr_, not_true, decide_true, decide_false, Bool.false_eq_true, List.length_cons, List.length_nil, List.nil_append, List.cons_append]
    refine use_number z0 z2 fun t1 b1 h1 => ?_
    simp only [flat_d, flat_new, flat_fn, flat_pen, notOwn_d, notOwn_pen, notOwn_fn, tru_b, true_and, and_true, Bool.not_true, Bool.not_false, if_true, if_false, Bool.false_eq_true, Bool.true_eq_false, thaw_d, List.set_cons_zero, List.set_cons_succ, List.getElem?_cons_zero, List.getElem?_cons_succ, bind_d, allD_cons, allD_nil, gT_, gN_, bAll_cons, bAll_nil, wI_, wAdd_i, wMul_i, wEq_, wNe_, wIs_b, list_l, list_t, len_l, len_t, repr_, not_true, decide_true, decide_false, Bool.false_eq_true, List.length_cons, List.length_nil, List.nil_append, List.cons_append]
    refine use_size fun sz z0 z2 => ?_
    simp only [flat_d, flat_new, flat_fn, flat_pen, notOwn_d, notOwn_pen, notOwn_fn, tru_b, true_and, and_true, Bool.not_true, Bool.not_false, if_true, if_false, Bool.false_eq_true, Bool.true_eq_false, thaw_d, List.set_cons_zero, List.set_cons_succ, List.getElem?_cons_zero, List.getElem?_cons_succ, bind_d, allD_cons, allD_nil, gT_, gN_, bAll_cons, bAll_nil, wI_, wAdd_i, wMul_i, wEq_, wNe_, wIs_b, list_l, list_t, len_l, len_t, repr_, not_true, decide_true, decide_false, Bool.false_eq_true, List.length_cons, List.length_nil, List.nil_append, List.cons_append]
    refine use_number z0 z2 fun t2 b2 h2 => ?_
    simp only [flat_d, flat_new, flat_fn, flat_pen, notOwn_d, notOwn_pen, notOwn_fn, tru_b, true_and, and_true, Bool.not_true, Bool.not_false, if_true, if_false, Bool.false_eq_true, Bool.true_eq_false, thaw_d, List.set_cons_zero, List.set_cons_succ, List.getElem?_cons_zero, List.getElem?_cons_succ, bind_d, allD_cons, allD_nil, gT_, gN_, bAll_cons, bAll_nil, wI_, wAdd_i, wMul_i, wEq_, wNe_, wIs_b, list_l, list_t, len_l, len_t, repr_, not_true, decide_true, decide_false, Bool.false_eq_true, List.length_cons, List.length_nil, List.nil_append, List.cons_append]
    refine ⟨rfl, ?_⟩
    simp only [flat_d, flat_new, flat_fn, flat_pen, notOwn_d, notOwn_pen, notOwn_fn, tru_b, true_and, and_true, Bool.not_true, Bool.not_false, if_true, if_false, Bool.false_eq_true, Bool.true_eq_false, thaw_d, List.set_cons_zero, List.set_cons_succ, List.getElem?_cons_zero, List.getElem?_cons_succ, bind_d, allD_cons, allD_nil, gT_, gN_, bAll_cons, bAll_nil, wI_, wAdd_i, wMul_i, wEq_, wNe_, wIs_b, list_l, list_t, len_l, len_t, repr_, not_true, decide_true, decide_false, Bool.false_eq_true, List.length_cons, List.length_nil, List.nil_append, List.cons_append]
    refine ⟨by decide, use_pick (by simp) (by simp) fun d hd => ?_⟩
    simp only [flat_d, flat_new, flat_fn, flat_pen, notOwn_d, notOwn_pen, notOwn_fn, tru_b, true_and, and_true, Bool.not_true, Bool.not_false, if_true, if_false, Bool.false_eq_true, Bool.true_eq_false, thaw_d, List.set_cons_zero, List.set_cons_succ, List.getElem?_cons_zero, List.getElem?_cons_succ, bind_d, allD_cons, allD_nil, gT_, gN_, bAll_cons, bAll_nil, wI_, wAdd_i, wMul_i, wEq_, wNe_, wIs_b, list_l, list_t, len_l, len_t, repr_, not_true, decide_true, decide_false, Bool.false_eq_true, List.length_cons, List.length_nil, List.nil_append, List.cons_append]
    obtain ⟨t3, b3, rfl, h3⟩ : ∃ t b, d = numD (t, b) ∧ Drawn 2 t b := by
      simp only [List.mem_cons, List.not_mem_nil, or_false] at hd
      rcases hd with rfl | rfl | rfl
      · exact ⟨_, _, rfl, h2⟩
      · exact ⟨0, 1, rfl, drawn0⟩
      · exact ⟨_, _, rfl, h1⟩
    refine ⟨t1, b1, t3, b3, rfl, h1, h3, ?_⟩
    simp only [flat_d, flat_new, flat_fn, flat_pen, notOwn_d, notOwn_pen, notOwn_fn, tru_b, true_and, and_true, Bool.not_true, Bool.not_false, if_true, if_false, Bool.false_eq_true, Bool.true_eq_false, thaw_d, List.set_cons_zero, List.set_cons_succ, List.getElem?_cons_zero, List.getElem?_cons_succ, bind_d, allD_cons, allD_nil, gT_, gN_, bAll_cons, bAll_nil, wI_, wAdd_i, wMul_i, wEq_, wNe_, wIs_b, list_l, list_t, len_l, len_t, repr_, not_true, decide_true, decide_false, Bool.false_eq_true, List.length_cons, List.length_nil, List.nil_append, List.cons_append]
    refine ⟨rfl, fun d hd => ?_⟩
    simp only [flat_d, flat_new, flat_fn, flat_pen, notOwn_d, notOwn_pen, notOwn_fn, tru_b, true_and, and_true, Bool.not_true, Bool.not_false, if_true, if_false, Bool.false_eq_true, Bool.true_eq_false, thaw_d, List.set_cons_zero, List.set_cons_succ, List.getElem?_cons_zero, List.getElem?_cons_succ, bind_d, allD_cons, allD_nil, gT_, gN_, bAll_cons, bAll_nil, wI_, wAdd_i, wMul_i, wEq_, wNe_, wIs_b, list_l, list_t, len_l, len_t, repr_, not_true, decide_true, decide_false, Bool.false_eq_true, List.length_cons, List.length_nil, List.nil_append, List.cons_append]
    refine ⟨t1, b1, d, rfl, h1, hd, ?_⟩
    simp only [flat_d, flat_new, flat_fn, flat_pen, notOwn_d, notOwn_pen, notOwn_fn, tru_b, true_and, and_true, Bool.not_true, Bool.not_false, if_true, if_false, Bool.false_eq_true, Bool.true_eq_false, thaw_d, List.set_cons_zero, List.set_cons_succ, List.getElem?_cons_zero, List.getElem?_cons_succ, bind_d, allD_cons, allD_nil, gT_, gN_, bAll_cons, bAll_nil, wI_, wAdd_i, wMul_i, wEq_, wNe_, wIs_b, list_l, list_t, len_l, len_t, repr_, not_true, decide_true, decide_false, Bool.false_eq_true, List.length_cons, List.length_nil, List.nil_append, List.cons_append]
    refine ⟨rfl, ?_⟩
    simp only [flat_d, flat_new, flat_fn, flat_pen, notOwn_d, notOwn_pen, notOwn_fn, tru_b, true_and, and_true, Bool.not_true, Bool.not_false, if_true, if_false, Bool.false_eq_true, Bool.true_eq_false, thaw_d, List.set_cons_zero, List.set_cons_succ, List.getElem?_cons_zero, List.getElem?_cons_succ, bind_d, allD_cons, allD_nil, gT_, gN_, bAll_cons, bAll_nil, wI_, wAdd_i, wMul_i, wEq_, wNe_, wIs_b, list_l, list_t, len_l, len_t, repr_, not_true, decide_true, decide_false, Bool.false_eq_true, List.length_cons, List.length_nil, List.nil_append, List.cons_append]
    exact hn _ ⟨_, _, _, rfl⟩
end
end L02
namespace L02
open PySem PySem.Spec PyProof.Rows L2 Fp RZ PD LamX

theorem memD {i : Nat} {d : He.DefD} (h : defs[i]? = some d) : d ∈ defs := List.mem_of_getElem? h
def tabT (K : PySem.W.Frag) : List (Addr × Str) := tabF.map fun p => ((He.cT K p).2, (p.1 ++ ".<locals>.") ++ "<lambda>")
theorem tabQ {K : PySem.W.Frag} {base : Heap} {mg : Str → Option Value} (h : (tabF.all fun p => tabF.all fun q => decide (p = q) || !decide ((He.cT K p).2 = (He.cT K q).2)) = true) (hT : ∀ p ∈ tabF, TabB base mg (He.cT K p).1 (He.cT K p).2) {x : Str} (hx : (x, none) ∈ tabF) :
    TabQ base mg (tabT K) (He.codeOf K (x, none)) ((x ++ ".<locals>.") ++ "<lambda>") := ⟨⟨(He.cT K (x, none)).2, hT _ hx, List.mem_map.mpr ⟨(x, none), hx, rfl⟩, fun p hp e => by
  obtain ⟨q, hq, rfl⟩ := List.mem_map.mp hp
  have z := List.all_eq_true.mp (List.all_eq_true.mp h q hq) (x, none) hx
  simp only [Bool.or_eq_true, decide_eq_true_eq, Bool.not_eq_true', decide_eq_false_iff_not] at z
  rcases z with rfl | z
  · rfl
  · exact absurd e z⟩⟩
theorem noFn {P : Program} {w : World} {K : PySem.W.Frag} {mg : Str → Option Value} {base : Heap} {f : Addr} {fd : FuncData} {ps : List Str} : FnG P w K mg base (L2.CX P w) 0 f fd ps (fun _ _ _ _ => False) := ⟨fun _ _ _ _ h => h.elim, fun _ _ _ _ _ _ _ _ _ _ _ _ _ h => h.elim⟩
theorem is_int {K : PySem.W.Frag} : True → ∀ (i : Int) (H : Hp) (Q : VK) (E : XK), (∀ H', Same H H' → Q (.bl true) H') → spDt K 2 (RIs False) [.int i, .int i] H Q E := fun _ i H Q E q => ⟨rfl, [.int i, .int i], .bool true, dtAll2 dt_int dt_int, ⟨rfl, .inl ⟨i, rfl⟩⟩, fun v H' s hv => by
  rw [dt_bool_inv hv]
  exact q H' s⟩
theorem facts {P : Program} {w : World} {K : PySem.W.Frag} {h : Heap} {mg : Str → Option Value} {fa : Addr} (S : SaysM exK defs tabF h K) (G : h.Ns mainGlobals mg) (hfa : mg ("law" : Str) = some (.ref fa)) :
    ∃ fd : FuncData, (∀ (s : Shared) (v : Value), BindsTo s fd ⟨[v], []⟩ [("script", v)]) ∧ ∀ base : Heap, K.In base → base.Ns mainGlobals mg → ModD base → (∀ p ∈ tabF, TabB base mg (He.cT K p).1 (He.cT K p).2) → FnG P w K mg base (L2.CX P w) 8 fa fd ["script"] (spD ⟨P, w, K, mg⟩ (tabT K) dfLaw) := by
  have X := S.inh
  have ex := S.ex
  unfold exK at ex
  simp only [Bool.and_eq_true] at ex
  obtain ⟨x1, x2, x3, ⟨x4, x4b⟩, x5, x6, x7, x8, x9, x10⟩ := ex
  have rg : ∀ {n : Nat} {p : Nat → Bool}, (List.range n).all p = true → ∀ k, k < n → p k = true := fun e k hk => List.all_eq_true.mp e k (List.mem_range.mpr hk)
  have fr : ∀ x ∈ ([("int" : PySem.Str), ("bool" : PySem.Str), ("str" : PySem.Str), ("list" : PySem.Str), ("tuple" : PySem.Str), ("len" : PySem.Str), ("range" : PySem.Str), ("repr" : PySem.Str), ("isinstance" : PySem.Str), ("ValueError" : PySem.Str), ("zip" : PySem.Str), ("all" : PySem.Str), ("abs" : PySem.Str)] : List Str), mg x = none := fun x hx => He.free_ok X G (List.all_eq_true.mp x7 x hx)
  have gl : ∀ x ∈ ([("is_integer" : PySem.Str), ("is_ratio" : PySem.Str), ("pair" : PySem.Str), ("in_lowest" : PySem.Str), ("ratio" : PySem.Str), ("need_ratios" : PySem.Str), ("plus" : PySem.Str), ("added" : PySem.Str), ("minus" : PySem.Str), ("opposite" : PySem.Str), ("times" : PySem.Str), ("multiplied" : PySem.Str), ("over" : PySem.Str), ("divided" : PySem.Str), ("sign" : PySem.Str), ("sign_of" : PySem.Str), ("below" : PySem.Str), ("is_below" : PySem.Str), ("dot" : PySem.Str), ("summed" : PySem.Str), ("_law_pen" : PySem.Str), ("_law_draw" : PySem.Str), ("_law_pick" : PySem.Str), ("_law_is" : PySem.Str), ("_law_says" : PySem.Str), ("_law_divisor" : PySem.Str), ("_law_low" : PySem.Str), ("_law_pair" : PySem.Str), ("_law_plus" : PySem.Str), ("_law_opposite" : PySem.Str), ("_law_minus" : PySem.Str), ("_law_times" : PySem.Str), ("_law_over" : PySem.Str), ("_law_sign" : PySem.Str), ("_law_less" : PySem.Str), ("_law_dot" : PySem.Str), ("_law_is_list" : PySem.Str), ("_law_is_ratio" : PySem.Str), ("_law_is_whole" : PySem.Str), ("_law_is_any_row" : PySem.Str), ("_law_number" : PySem.Str), ("_law_wide" : PySem.Str), ("_law_size" : PySem.Str), ("_law_row" : PySem.Str), ("_law_odd" : PySem.Str), ("_law_bent_row" : PySem.Str), ("_law_fault" : PySem.Str), ("_law_kinds" : PySem.Str), ("_law_more_kinds" : PySem.Str), ("_law_made_right" : PySem.Str), ("_law_reckoned_right" : PySem.Str), ("_law_refused_right" : PySem.Str), ("_law_rows_right" : PySem.Str), ("law" : PySem.Str)] : List Str), mg x = some (.ref (He.ga K x)) := fun x hx => He.glo_ok X G (List.all_eq_true.mp x8 x hx)
  have g_gcd : mg "gcd" = some (.builtin "math.gcd") := PySem.W.mg_of X G (He.eqO_ok x9)
  have cE : ∀ k, k < 16 → ErrC K mg (cname k) (He.ga K (cname k)) := fun k hk => errB_ok X G (rg x2 k hk)

  have Dis_integer : Df K mg "is_integer" sis_integer := by
    obtain ⟨fd, F⟩ := S.fn _ (memD (i := 0) rfl)
    exact ⟨_, fd, F, gl _ (by decide)⟩
  have Dis_ratio : Df K mg "is_ratio" sis_ratio := by
    obtain ⟨fd, F⟩ := S.fn _ (memD (i := 1) rfl)
    exact ⟨_, fd, F, gl _ (by decide)⟩
  have Dpair : Df K mg "pair" spair := by
    obtain ⟨fd, F⟩ := S.fn _ (memD (i := 2) rfl)
    exact ⟨_, fd, F, gl _ (by decide)⟩
  have Din_lowest : Df K mg "in_lowest" sin_lowest := by
    obtain ⟨fd, F⟩ := S.fn _ (memD (i := 3) rfl)
    exact ⟨_, fd, F, gl _ (by decide)⟩
  have Dratio : Df K mg "ratio" sratio := by
    obtain ⟨fd, F⟩ := S.fn _ (memD (i := 4) rfl)
    exact ⟨_, fd, F, gl _ (by decide)⟩
  have Dneed_ratios : Df K mg "need_ratios" sneed_ratios := by
    obtain ⟨fd, F⟩ := S.fn _ (memD (i := 5) rfl)
    exact ⟨_, fd, F, gl _ (by decide)⟩
  have Dplus : Df K mg "plus" splus := by
    obtain ⟨fd, F⟩ := S.fn _ (memD (i := 6) rfl)
    exact ⟨_, fd, F, gl _ (by decide)⟩
  have Dadded : Df K mg "added" sadded := by
    obtain ⟨fd, F⟩ := S.fn _ (memD (i := 7) rfl)
    exact ⟨_, fd, F, gl _ (by decide)⟩
  have Dminus : Df K mg "minus" sminus := by
    obtain ⟨fd, F⟩ := S.fn _ (memD (i := 8) rfl)
    exact ⟨_, fd, F, gl _ (by decide)⟩
  have Dopposite : Df K mg "opposite" sopposite := by
    obtain ⟨fd, F⟩ := S.fn _ (memD (i := 9) rfl)
    exact ⟨_, fd, F, gl _ (by decide)⟩
  have Dtimes : Df K mg "times" stimes := by
    obtain ⟨fd, F⟩ := S.fn _ (memD (i := 10) rfl)
    exact ⟨_, fd, F, gl _ (by decide)⟩
  have Dmultiplied : Df K mg "multiplied" smultiplied := by
    obtain ⟨fd, F⟩ := S.fn _ (memD (i := 11) rfl)
    exact ⟨_, fd, F, gl _ (by decide)⟩
  have Dover : Df K mg "over" sover := by
    obtain ⟨fd, F⟩ := S.fn _ (memD (i := 12) rfl)
    exact ⟨_, fd, F, gl _ (by decide)⟩
  have Ddivided : Df K mg "divided" sdivided := by
    obtain ⟨fd, F⟩ := S.fn _ (memD (i := 13) rfl)
    exact ⟨_, fd, F, gl _ (by decide)⟩
  have Dsign : Df K mg "sign" ssign := by
    obtain ⟨fd, F⟩ := S.fn _ (memD (i := 14) rfl)
    exact ⟨_, fd, F, gl _ (by decide)⟩
  have Dsign_of : Df K mg "sign_of" ssign_of := by
    obtain ⟨fd, F⟩ := S.fn _ (memD (i := 15) rfl)
    exact ⟨_, fd, F, gl _ (by decide)⟩
  have Dbelow : Df K mg "below" sbelow := by
    obtain ⟨fd, F⟩ := S.fn _ (memD (i := 16) rfl)
    exact ⟨_, fd, F, gl _ (by decide)⟩
  have Dis_below : Df K mg "is_below" sis_below := by
    obtain ⟨fd, F⟩ := S.fn _ (memD (i := 17) rfl)
    exact ⟨_, fd, F, gl _ (by decide)⟩
  have Ddot : Df K mg "dot" sdot := by
    obtain ⟨fd, F⟩ := S.fn _ (memD (i := 18) rfl)
    exact ⟨_, fd, F, gl _ (by decide)⟩
  have Dsummed : Df K mg "summed" ssummed := by
    obtain ⟨fd, F⟩ := S.fn _ (memD (i := 19) rfl)
    exact ⟨_, fd, F, gl _ (by decide)⟩
  have D_law_pen : Df K mg "_law_pen" s_law_pen := by
    obtain ⟨fd, F⟩ := S.fn _ (memD (i := 20) rfl)
    exact ⟨_, fd, F, gl _ (by decide)⟩
  have D_law_draw : Df K mg "_law_draw" s_law_draw := by
    obtain ⟨fd, F⟩ := S.fn _ (memD (i := 21) rfl)
    exact ⟨_, fd, F, gl _ (by decide)⟩
  have D_law_pick : Df K mg "_law_pick" s_law_pick := by
    obtain ⟨fd, F⟩ := S.fn _ (memD (i := 22) rfl)
    exact ⟨_, fd, F, gl _ (by decide)⟩
  have D_law_is : Df K mg "_law_is" s_law_is := by
    obtain ⟨fd, F⟩ := S.fn _ (memD (i := 23) rfl)
    exact ⟨_, fd, F, gl _ (by decide)⟩
  have D_law_says : Df K mg "_law_says" s_law_says := by
    obtain ⟨fd, F⟩ := S.fn _ (memD (i := 24) rfl)
    exact ⟨_, fd, F, gl _ (by decide)⟩
  have D_law_divisor : Df K mg "_law_divisor" s_law_divisor := by
    obtain ⟨fd, F⟩ := S.fn _ (memD (i := 25) rfl)
    exact ⟨_, fd, F, gl _ (by decide)⟩
  have D_law_low : Df K mg "_law_low" s_law_low := by
    obtain ⟨fd, F⟩ := S.fn _ (memD (i := 26) rfl)
    exact ⟨_, fd, F, gl _ (by decide)⟩
  have D_law_pair : Df K mg "_law_pair" s_law_pair := by
    obtain ⟨fd, F⟩ := S.fn _ (memD (i := 27) rfl)
    exact ⟨_, fd, F, gl _ (by decide)⟩
  have D_law_plus : Df K mg "_law_plus" s_law_plus := by
    obtain ⟨fd, F⟩ := S.fn _ (memD (i := 28) rfl)
    exact ⟨_, fd, F, gl _ (by decide)⟩
  have D_law_opposite : Df K mg "_law_opposite" s_law_opposite := by
    obtain ⟨fd, F⟩ := S.fn _ (memD (i := 29) rfl)
    exact ⟨_, fd, F, gl _ (by decide)⟩
  have D_law_minus : Df K mg "_law_minus" s_law_minus := by
    obtain ⟨fd, F⟩ := S.fn _ (memD (i := 30) rfl)
    exact ⟨_, fd, F, gl _ (by decide)⟩
  have D_law_times : Df K mg "_law_times" s_law_times := by
    obtain ⟨fd, F⟩ := S.fn _ (memD (i := 31) rfl)
    exact ⟨_, fd, F, gl _ (by decide)⟩
  have D_law_over : Df K mg "_law_over" s_law_over := by
    obtain ⟨fd, F⟩ := S.fn _ (memD (i := 32) rfl)
    exact ⟨_, fd, F, gl _ (by decide)⟩
  have D_law_sign : Df K mg "_law_sign" s_law_sign := by
    obtain ⟨fd, F⟩ := S.fn _ (memD (i := 33) rfl)
    exact ⟨_, fd, F, gl _ (by decide)⟩
  have D_law_less : Df K mg "_law_less" s_law_less := by
    obtain ⟨fd, F⟩ := S.fn _ (memD (i := 34) rfl)
    exact ⟨_, fd, F, gl _ (by decide)⟩
  have D_law_dot : Df K mg "_law_dot" s_law_dot := by
    obtain ⟨fd, F⟩ := S.fn _ (memD (i := 35) rfl)
    exact ⟨_, fd, F, gl _ (by decide)⟩
  have D_law_is_list : Df K mg "_law_is_list" s_law_is_list := by
    obtain ⟨fd, F⟩ := S.fn _ (memD (i := 36) rfl)
    exact ⟨_, fd, F, gl _ (by decide)⟩
  have D_law_is_ratio : Df K mg "_law_is_ratio" s_law_is_ratio := by
    obtain ⟨fd, F⟩ := S.fn _ (memD (i := 37) rfl)
    exact ⟨_, fd, F, gl _ (by decide)⟩
  have D_law_is_whole : Df K mg "_law_is_whole" s_law_is_whole := by
    obtain ⟨fd, F⟩ := S.fn _ (memD (i := 38) rfl)
    exact ⟨_, fd, F, gl _ (by decide)⟩
  have D_law_is_any_row : Df K mg "_law_is_any_row" s_law_is_any_row := by
    obtain ⟨fd, F⟩ := S.fn _ (memD (i := 39) rfl)
    exact ⟨_, fd, F, gl _ (by decide)⟩
  have D_law_number : Df K mg "_law_number" s_law_number := by
    obtain ⟨fd, F⟩ := S.fn _ (memD (i := 40) rfl)
    exact ⟨_, fd, F, gl _ (by decide)⟩
  have D_law_wide : Df K mg "_law_wide" s_law_wide := by
    obtain ⟨fd, F⟩ := S.fn _ (memD (i := 41) rfl)
    exact ⟨_, fd, F, gl _ (by decide)⟩
  have D_law_size : Df K mg "_law_size" s_law_size := by
    obtain ⟨fd, F⟩ := S.fn _ (memD (i := 42) rfl)
    exact ⟨_, fd, F, gl _ (by decide)⟩
  have D_law_row : Df K mg "_law_row" s_law_row := by
    obtain ⟨fd, F⟩ := S.fn _ (memD (i := 43) rfl)
    exact ⟨_, fd, F, gl _ (by decide)⟩
  have D_law_odd : Df K mg "_law_odd" s_law_odd := by
    obtain ⟨fd, F⟩ := S.fn _ (memD (i := 44) rfl)
    exact ⟨_, fd, F, gl _ (by decide)⟩
  have D_law_bent_row : Df K mg "_law_bent_row" s_law_bent_row := by
    obtain ⟨fd, F⟩ := S.fn _ (memD (i := 45) rfl)
    exact ⟨_, fd, F, gl _ (by decide)⟩
  have D_law_fault : Df K mg "_law_fault" s_law_fault := by
    obtain ⟨fd, F⟩ := S.fn _ (memD (i := 46) rfl)
    exact ⟨_, fd, F, gl _ (by decide)⟩
  have D_law_kinds : Df K mg "_law_kinds" s_law_kinds := by
    obtain ⟨fd, F⟩ := S.fn _ (memD (i := 47) rfl)
    exact ⟨_, fd, F, gl _ (by decide)⟩
  have D_law_more_kinds : Df K mg "_law_more_kinds" s_law_more_kinds := by
    obtain ⟨fd, F⟩ := S.fn _ (memD (i := 48) rfl)
    exact ⟨_, fd, F, gl _ (by decide)⟩
  obtain ⟨fi_BadNumber, Fi_BadNumber⟩ := S.fn _ (memD (i := 54) (d := inD "BadNumber" "BadNumber.__init__" si_BadNumber) rfl)
  obtain ⟨fi_BadRow, Fi_BadRow⟩ := S.fn _ (memD (i := 55) (d := inD "BadRow" "BadRow.__init__" si_BadRow) rfl)
  obtain ⟨fi_BadTable, Fi_BadTable⟩ := S.fn _ (memD (i := 56) (d := inD "BadTable" "BadTable.__init__" si_BadTable) rfl)
  obtain ⟨fi_BadPoly, Fi_BadPoly⟩ := S.fn _ (memD (i := 57) (d := inD "BadPoly" "BadPoly.__init__" si_BadPoly) rfl)
  obtain ⟨fi_BadPaper, Fi_BadPaper⟩ := S.fn _ (memD (i := 58) (d := inD "BadPaper" "BadPaper.__init__" si_BadPaper) rfl)
  obtain ⟨fi_BadName, Fi_BadName⟩ := S.fn _ (memD (i := 59) (d := inD "BadName" "BadName.__init__" si_BadName) rfl)
  obtain ⟨fi_BadText, Fi_BadText⟩ := S.fn _ (memD (i := 60) (d := inD "BadText" "BadText.__init__" si_BadText) rfl)
  obtain ⟨fi_NoPlace, Fi_NoPlace⟩ := S.fn _ (memD (i := 61) (d := inD "NoPlace" "NoPlace.__init__" si_NoPlace) rfl)
  obtain ⟨fi_NoName, Fi_NoName⟩ := S.fn _ (memD (i := 62) (d := inD "NoName" "NoName.__init__" si_NoName) rfl)
  obtain ⟨fi_TakenName, Fi_TakenName⟩ := S.fn _ (memD (i := 63) (d := inD "TakenName" "TakenName.__init__" si_TakenName) rfl)
  obtain ⟨fi_Unlike, Fi_Unlike⟩ := S.fn _ (memD (i := 64) (d := inD "Unlike" "Unlike.__init__" si_Unlike) rfl)
  obtain ⟨fi_NotThere, Fi_NotThere⟩ := S.fn _ (memD (i := 65) (d := inD "NotThere" "NotThere.__init__" si_NotThere) rfl)
  obtain ⟨fi_TooMany, Fi_TooMany⟩ := S.fn _ (memD (i := 66) (d := inD "TooMany" "TooMany.__init__" si_TooMany) rfl)
  obtain ⟨fi_NotKept, Fi_NotKept⟩ := S.fn _ (memD (i := 67) (d := inD "NotKept" "NotKept.__init__" si_NotKept) rfl)
  obtain ⟨fd_law_made_right, F_law_made_right⟩ := S.fn _ (memD (i := 49) (d := fnD "_law_made_right" s_law_made_right) rfl)
  obtain ⟨fd_law_reckoned_right, F_law_reckoned_right⟩ := S.fn _ (memD (i := 50) (d := fnD "_law_reckoned_right" s_law_reckoned_right) rfl)
  obtain ⟨fd_law_refused_right, F_law_refused_right⟩ := S.fn _ (memD (i := 51) (d := fnD "_law_refused_right" s_law_refused_right) rfl)
  obtain ⟨fd_law_rows_right, F_law_rows_right⟩ := S.fn _ (memD (i := 52) (d := fnD "_law_rows_right" s_law_rows_right) rfl)
  obtain ⟨fdlaw, Flaw⟩ := S.fn _ (memD (i := 53) (d := fnD "law" slaw) rfl)
  have el : fa = He.ga K "law" := by
    have e := hfa.symm.trans (gl "law" (by decide))
    injection e with e
    injection e
  subst el
  refine ⟨fdlaw, fun s v => FunD.bindsA (ps := ["script"]) Flaw (fun _ _ _ _ _ _ us hl => match us, hl with | [_], _ => rfl) s [v] rfl, fun base Kb Gb hm hT => ?_⟩
  have A : Errs P w K mg base := {
    c_FieldError := errB_ok X G x1
    c := cE
    e := fun k hk => by
      match k, hk with
      | 0, _ => exact err_BadNumber (cE 0 (by decide)) (rg x3 0 (by decide)) Fi_BadNumber
      | 1, _ => exact err_BadRow (cE 1 (by decide)) (rg x3 1 (by decide)) Fi_BadRow
      | 2, _ => exact err_BadTable (cE 2 (by decide)) (rg x3 2 (by decide)) Fi_BadTable
      | 3, _ => exact err_BadPoly (cE 3 (by decide)) (rg x3 3 (by decide)) Fi_BadPoly
      | 4, _ => exact err_BadPaper (cE 4 (by decide)) (rg x3 4 (by decide)) Fi_BadPaper
      | 5, _ => exact err_BadName (cE 5 (by decide)) (rg x3 5 (by decide)) Fi_BadName
      | 6, _ => exact err_BadText (cE 6 (by decide)) (rg x3 6 (by decide)) Fi_BadText
      | 7, _ => exact err_NoPlace (cE 7 (by decide)) (rg x3 7 (by decide)) Fi_NoPlace
      | 8, _ => exact err_NoName (cE 8 (by decide)) (rg x3 8 (by decide)) Fi_NoName
      | 9, _ => exact err_TakenName (cE 9 (by decide)) (rg x3 9 (by decide)) Fi_TakenName
      | 10, _ => exact err_Unlike (cE 10 (by decide)) (rg x3 10 (by decide)) Fi_Unlike
      | 11, _ => exact err_NotThere (cE 11 (by decide)) (rg x3 11 (by decide)) Fi_NotThere
      | 12, _ => exact err_TooMany (cE 12 (by decide)) (rg x3 12 (by decide)) Fi_TooMany
      | 13, _ => exact err_NotKept (cE 13 (by decide)) (rg x3 13 (by decide)) Fi_NotKept
      | _ + 14, hk => exact absurd hk (by omega)
    z := fun k h1 h2 => by
      match k, h1, h2 with
      | 14, _, _ => exact x4
      | 15, _, _ => exact x4b
      | _ + 16, _, h2 => exact absurd h2 (by omega)
    is := fun k j hk hj => of_decide_eq_true (rg (rg x5 k hk) j hj)
    te := fun k hk => of_decide_eq_true (rg x6 k hk)
    no := fun k f hk hf => (oexB_ok (cE k (by omega)) (rg x3 k hk)).2.2.2 f hf }
  have g_int : mg "int" = none := fr _ (by decide)
  have g_bool : mg "bool" = none := fr _ (by decide)
  have g_str : mg "str" = none := fr _ (by decide)
  have g_list : mg "list" = none := fr _ (by decide)
  have g_tuple : mg "tuple" = none := fr _ (by decide)
  have g_len : mg "len" = none := fr _ (by decide)
  have g_range : mg "range" = none := fr _ (by decide)
  have g_repr : mg "repr" = none := fr _ (by decide)
  have g_isinstance : mg "isinstance" = none := fr _ (by decide)
  have g_ValueError : mg "ValueError" = none := fr _ (by decide)
  have g_zip : mg "zip" = none := fr _ (by decide)
  have g_all : mg "all" = none := fr _ (by decide)
  have g_abs : mg "abs" = none := fr _ (by decide)
  have p__law_draw : PrG P w K mg base "_law_draw" 1 ["pen", "many"] (spDraw P w) := D_law_draw.prG (fun _ _ _ _ _ _ us hl => match us, hl with | [_, _], _ => rfl) fun f fd F => ok_drawE (ok_draw F g_int g_len)
  have p__law_pen : PrG P w K mg base "_law_pen" 1 ["script"] (spPen P w K) := D_law_pen.prG (fun _ _ _ _ _ _ us hl => match us, hl with | [_], _ => rfl) fun f fd F => ok_penE (ok_pen F g_int g_list)
  have p__law_pick : PrG P w K mg base "_law_pick" 2 ["pen", "some"] (spPick P w K) := D_law_pick.prG (fun _ _ _ _ _ _ us hl => match us, hl with | [_, _], _ => rfl) fun f fd F => ok_pick F g_len p__law_draw
  have p__law_more_kinds : PrC P w K mg base "_law_more_kinds" 1 ["e"] (spKinds K base 8 16) := D_law_more_kinds.prC (fun _ _ _ _ _ _ us hl => match us, hl with | [_], _ => rfl) fun f fd F => ok_law_more_kinds F A hm g_isinstance g_repr
  have p__law_kinds : PrC P w K mg base "_law_kinds" 2 ["e"] (spKinds K base 0 16) := D_law_kinds.prC (fun _ _ _ _ _ _ us hl => match us, hl with | [_], _ => rfl) fun f fd F => ok_law_kinds F A hm g_isinstance g_repr p__law_more_kinds
  have p_is_integer : PrG P w K mg base "is_integer" 1 ["value"] (spDt K 1 fun ds d => ∃ e, ds = [e] ∧ d = .bool (isI e)) := Dis_integer.prG (fun _ _ _ _ _ _ us hl => match us, hl with | [_], _ => rfl) fun f fd F => ok_is_integer F g_int g_bool g_isinstance
  have p_pair : PrG P w K mg base "pair" 1 ["number"] (spDt K 1 fun ds d => ∃ e t b, ds = [e] ∧ Rt e t b ∧ d = .tuple [.int t, .int b]) := Dpair.prG (fun _ _ _ _ _ _ us hl => match us, hl with | [_], _ => rfl) fun f fd F => ok_pair F g_int g_isinstance
  have p_in_lowest : PrG P w K mg base "in_lowest" 1 ["top", "bottom"] (spDt K 2 fun ds d => ∃ t b, ds = [.int t, .int b] ∧ LowOk t b ∧ d = numD (low t b)) := Din_lowest.prG (fun _ _ _ _ _ _ us hl => match us, hl with | [_, _], _ => rfl) fun f fd F => ok_in_lowest F g_gcd
  have p_is_ratio : PrG P w K mg base "is_ratio" 2 ["value"] (spDt K 1 fun ds d => ∃ e, ds = [e] ∧ d = .bool (isRatioD e)) := Dis_ratio.prG (fun _ _ _ _ _ _ us hl => match us, hl with | [_], _ => rfl) fun f fd F => ok_is_ratio F g_tuple g_isinstance g_len g_gcd p_is_integer
  have p_sign_of : PrG P w K mg base "sign_of" 1 ["number"] (spDt K 1 fun ds d => ∃ e t b, ds = [e] ∧ Rt e t b ∧ d = .int t.sign) := Dsign_of.prG (fun _ _ _ _ _ _ us hl => match us, hl with | [_], _ => rfl) fun f fd F => ok_sign_of F g_int g_isinstance
  have p_opposite : PrG P w K mg base "opposite" 1 ["number"] (spDt K 1 fun ds d => ∃ e t b, ds = [e] ∧ Rt e t b ∧ d = numD (-t, b)) := Dopposite.prG (fun _ _ _ _ _ _ us hl => match us, hl with | [_], _ => rfl) fun f fd F => ok_opposite F g_int g_isinstance
  have p_added : PrG P w K mg base "added" 2 ["one", "other"] (spDt K 2 (RBin addN anyP)) := Dadded.prG (fun _ _ _ _ _ _ us hl => match us, hl with | [_, _], _ => rfl) fun f fd F => ok_added F g_int g_isinstance p_pair p_in_lowest
  have p_multiplied : PrG P w K mg base "multiplied" 2 ["one", "other"] (spDt K 2 (RBin mulN anyP)) := Dmultiplied.prG (fun _ _ _ _ _ _ us hl => match us, hl with | [_, _], _ => rfl) fun f fd F => ok_multiplied F g_int g_isinstance p_pair p_in_lowest
  have p_divided : PrG P w K mg base "divided" 2 ["one", "other"] (spDt K 2 (RBin divN fun a b => LowOk (a.1 * b.2) (a.2 * b.1))) := Ddivided.prG (fun _ _ _ _ _ _ us hl => match us, hl with | [_, _], _ => rfl) fun f fd F => ok_divided F p_pair p_in_lowest
  have p_is_below : PrG P w K mg base "is_below" 2 ["one", "other"] (spDt K 2 fun ds d => ∃ d1 t1 b1 d2 t2 b2, ds = [d1, d2] ∧ Rt d1 t1 b1 ∧ Rt d2 t2 b2 ∧ Sz t1 b1 ∧ Sz t2 b2 ∧ d = .bool (decide (t1 * b2 < t2 * b1))) := Dis_below.prG (fun _ _ _ _ _ _ us hl => match us, hl with | [_, _], _ => rfl) fun f fd F => ok_is_below F p_pair
  have p_need_ratios : PrG P w K mg base "need_ratios" 3 ["one", "other"] (spNeed K) := Dneed_ratios.prG (fun _ _ _ _ _ _ us hl => match us, hl with | [_, _], _ => rfl) fun f fd F => ok_need_ratios F A p_is_ratio
  have p_plus : PrG P w K mg base "plus" 4 ["one", "other"] (spReck K (okOp addN)) := Dplus.prG (fun _ _ _ _ _ _ us hl => match us, hl with | [_, _], _ => rfl) fun f fd F => ok_plus F p_need_ratios p_added
  have p_minus : PrG P w K mg base "minus" 4 ["one", "other"] (spReck K (okOp fun a b => addN a (-b.1, b.2))) := Dminus.prG (fun _ _ _ _ _ _ us hl => match us, hl with | [_, _], _ => rfl) fun f fd F => ok_minus F p_need_ratios p_added p_opposite
  have p_times : PrG P w K mg base "times" 4 ["one", "other"] (spReck K (okOp mulN)) := Dtimes.prG (fun _ _ _ _ _ _ us hl => match us, hl with | [_, _], _ => rfl) fun f fd F => ok_times F p_need_ratios p_multiplied
  have p_below : PrG P w K mg base "below" 4 ["one", "other"] (spReck K fun H R _ _ a b => ∀ H', Same H H' → R (.bool (decide (a.1 * b.2 < b.1 * a.2))) H') := Dbelow.prG (fun _ _ _ _ _ _ us hl => match us, hl with | [_, _], _ => rfl) fun f fd F => ok_below F p_need_ratios p_is_below
  have p_over : PrG P w K mg base "over" 4 ["one", "other"] (spReck K fun H R E u a b => (b.1 = 0 → ErrN K H E "other" u) ∧ (b.1 ≠ 0 → LowOk (a.1 * b.2) (a.2 * b.1) ∧ ∀ H', Same H H' → R (numD (divN a b)) H')) := Dover.prG (fun _ _ _ _ _ _ us hl => match us, hl with | [_, _], _ => rfl) fun f fd F => ok_over F A p_need_ratios p_divided
  have p_sign : PrG P w K mg base "sign" 3 ["one"] (spSign K) := Dsign.prG (fun _ _ _ _ _ _ us hl => match us, hl with | [_], _ => rfl) fun f fd F => ok_sign F A p_is_ratio p_sign_of
  have p_ratio : PrG P w K mg base "ratio" 3 ["top", "bottom"] (spRatio K) := Dratio.prG (fun _ _ _ _ _ _ us hl => match us, hl with | [_, _], _ => rfl) fun f fd F => ok_ratio F A p_is_integer p_in_lowest
  have p_summed : PrG P w K mg base "summed" 2 ["row", "other"] (spSummed K) := Dsummed.prG (fun _ _ _ _ _ _ us hl => match us, hl with | [_, _], _ => rfl) fun f fd F => ok_summed F g_zip p_pair p_in_lowest
  have p_dot : PrG P w K mg base "dot" 3 ["row", "other"] (spDot K) := Ddot.prG (fun _ _ _ _ _ _ us hl => match us, hl with | [_, _], _ => rfl) fun f fd F => ok_dot F A g_isinstance g_list g_tuple g_all g_len p_is_ratio p_summed
  have p__law_is_whole : PrG P w K mg base "_law_is_whole" 1 ["value"] (spDt K 1 fun ds d => ∃ e, ds = [e] ∧ d = .bool (isI e)) := D_law_is_whole.prG (fun _ _ _ _ _ _ us hl => match us, hl with | [_], _ => rfl) fun f fd F => ok__law_is_whole F g_int g_bool g_isinstance
  have p__law_pair : PrG P w K mg base "_law_pair" 1 ["number"] (spDt K 1 fun ds d => ∃ e t b, ds = [e] ∧ Rt e t b ∧ d = .tuple [.int t, .int b]) := D_law_pair.prG (fun _ _ _ _ _ _ us hl => match us, hl with | [_], _ => rfl) fun f fd F => ok__law_pair F g_int g_isinstance
  have p__law_opposite : PrG P w K mg base "_law_opposite" 1 ["number"] (spDt K 1 fun ds d => ∃ e t b, ds = [e] ∧ Rt e t b ∧ d = numD (-t, b)) := D_law_opposite.prG (fun _ _ _ _ _ _ us hl => match us, hl with | [_], _ => rfl) fun f fd F => ok__law_opposite F g_int g_isinstance
  have p__law_is_list : PrG P w K mg base "_law_is_list" 1 ["value"] (spDt K 1 fun ds d => ∃ e, ds = [e] ∧ d = .bool (seqD e).isSome) := D_law_is_list.prG (fun _ _ _ _ _ _ us hl => match us, hl with | [_], _ => rfl) fun f fd F => ok__law_is_list F g_isinstance g_list g_tuple
  have p__law_divisor : PrG P w K mg base "_law_divisor" 1 ["one", "other"] (spDt K 2 fun ds d => ∃ a b, ds = [.int a, .int b] ∧ d = .int (Nat.gcd a.natAbs b.natAbs : Nat)) := D_law_divisor.prG (fun _ _ _ _ _ _ us hl => match us, hl with | [_, _], _ => rfl) fun f fd F => ok__law_divisor F g_abs g_int
  have p__law_low : PrG P w K mg base "_law_low" 2 ["top", "bottom"] (spDt K 2 RLow) := D_law_low.prG (fun _ _ _ _ _ _ us hl => match us, hl with | [_, _], _ => rfl) fun f fd F => ok__law_low F p__law_divisor
  have p__law_plus : PrG P w K mg base "_law_plus" 3 ["one", "other"] (spDt K 2 (RBin addN anyP)) := D_law_plus.prG (fun _ _ _ _ _ _ us hl => match us, hl with | [_, _], _ => rfl) fun f fd F => ok__law_plus F p__law_pair p__law_low
  have p__law_times : PrG P w K mg base "_law_times" 3 ["one", "other"] (spDt K 2 (RBin mulN anyP)) := D_law_times.prG (fun _ _ _ _ _ _ us hl => match us, hl with | [_, _], _ => rfl) fun f fd F => ok__law_times F p__law_pair p__law_low
  have p__law_over : PrG P w K mg base "_law_over" 3 ["one", "other"] (spDt K 2 (RBin divN fun a b => LowOk (a.1 * b.2) (a.2 * b.1))) := D_law_over.prG (fun _ _ _ _ _ _ us hl => match us, hl with | [_, _], _ => rfl) fun f fd F => ok__law_over F p__law_pair p__law_low
  have p__law_less : PrG P w K mg base "_law_less" 2 ["one", "other"] (spDt K 2 fun ds d => ∃ d1 t1 b1 d2 t2 b2, ds = [d1, d2] ∧ Rt d1 t1 b1 ∧ Rt d2 t2 b2 ∧ Sz t1 b1 ∧ Sz t2 b2 ∧ d = .bool (decide (t1 * b2 < t2 * b1))) := D_law_less.prG (fun _ _ _ _ _ _ us hl => match us, hl with | [_, _], _ => rfl) fun f fd F => ok__law_less F p__law_pair
  have p__law_minus : PrG P w K mg base "_law_minus" 4 ["one", "other"] (spDt K 2 (RBin (fun a b => addN a (-b.1, b.2)) anyP)) := D_law_minus.prG (fun _ _ _ _ _ _ us hl => match us, hl with | [_, _], _ => rfl) fun f fd F => ok__law_minus F p__law_plus p__law_opposite
  have p__law_sign : PrG P w K mg base "_law_sign" 2 ["number"] (spDt K 1 fun ds d => ∃ e t b, ds = [e] ∧ Rt e t b ∧ d = .int t.sign) := D_law_sign.prG (fun _ _ _ _ _ _ us hl => match us, hl with | [_], _ => rfl) fun f fd F => ok__law_sign F g_int p__law_pair
  have p__law_is_ratio : PrG P w K mg base "_law_is_ratio" 2 ["value"] (spDt K 1 RIsR) := D_law_is_ratio.prG (fun _ _ _ _ _ _ us hl => match us, hl with | [_], _ => rfl) fun f fd F => ok__law_is_ratio F g_tuple g_isinstance g_len p__law_is_whole p__law_divisor
  have p__law_is_any_row : PrG P w K mg base "_law_is_any_row" 3 ["value", "many"] (spDt K 2 fun ds d => ∃ e es, ds = [e, .int es.length] ∧ seqD e = some es ∧ es.length < 1000 ∧ d = .bool (rowOk e)) := D_law_is_any_row.prG (fun _ _ _ _ _ _ us hl => match us, hl with | [_, _], _ => rfl) fun f fd F => ok__law_is_any_row F g_len p__law_is_list p__law_is_ratio
  have p_is0 : PrG P w K mg base "_law_is" 0 ["told", "due"] (fun _ _ _ _ => False) := D_law_is.prG (fun _ _ _ _ _ _ us hl => match us, hl with | [_, _], _ => rfl) fun f fd F => noFn
  have p_is1 : PrG P w K mg base "_law_is" 1 ["told", "due"] (spDt K 2 (RIs False)) := D_law_is.prG (fun _ _ _ _ _ _ us hl => match us, hl with | [_, _], _ => rfl) fun f fd F => ok__law_is F g_isinstance g_tuple g_len g_range g_str g_int g_bool p_is0 (fun z => z.elim)
  have p__law_is : PrG P w K mg base "_law_is" 2 ["told", "due"] (spDt K 2 (RIs True)) := D_law_is.prG (fun _ _ _ _ _ _ us hl => match us, hl with | [_, _], _ => rfl) fun f fd F => ok__law_is F g_isinstance g_tuple g_len g_range g_str g_int g_bool p_is1 is_int
  have p__law_says : PrG P w K mg base "_law_says" 1 ["told", "due"] (spDt K 2 RSays) := D_law_says.prG (fun _ _ _ _ _ _ us hl => match us, hl with | [_, _], _ => rfl) fun f fd F => ok__law_says F
  have p__law_dot : PrG P w K mg base "_law_dot" 3 ["row", "other"] (spSummed K) := D_law_dot.prG (fun _ _ _ _ _ _ us hl => match us, hl with | [_, _], _ => rfl) fun f fd F => ok__law_dot F g_zip p__law_pair p__law_low
  have p__law_wide : PrG P w K mg base "_law_wide" 2 ["pen", "figures"] (spWide P w) := D_law_wide.prG (fun _ _ _ _ _ _ us hl => match us, hl with | [_, _], _ => rfl) fun f fd F => ok__law_wide F g_range g_int p__law_draw
  have p__law_number : PrG P w K mg base "_law_number" 3 ["pen", "size"] (spNumber P w K) := D_law_number.prG (fun _ _ _ _ _ _ us hl => match us, hl with | [_, _], _ => rfl) fun f fd F => ok__law_number F p__law_draw p__law_wide p__law_low
  have p__law_size : PrG P w K mg base "_law_size" 3 ["pen"] (spSize P w) := D_law_size.prG (fun _ _ _ _ _ _ us hl => match us, hl with | [_], _ => rfl) fun f fd F => ok__law_size F p__law_pick
  have p__law_row : PrG P w K mg base "_law_row" 4 ["pen", "many", "size"] (spRow P w K) := D_law_row.prG (fun _ _ _ _ _ _ us hl => match us, hl with | [_, _, _], _ => rfl) fun f fd F => ok__law_row F g_range g_tuple p__law_draw p__law_number
  have p__law_odd : PrG P w K mg base "_law_odd" 3 ["pen"] (spOdd P w K) := D_law_odd.prG (fun _ _ _ _ _ _ us hl => match us, hl with | [_], _ => rfl) fun f fd F => ok__law_odd F p__law_pick
  have p__law_bent_row : PrG P w K mg base "_law_bent_row" 4 ["pen", "row"] (spBent P w K) := D_law_bent_row.prG (fun _ _ _ _ _ _ us hl => match us, hl with | [_, _], _ => rfl) fun f fd F => ok__law_bent_row F g_len p__law_draw p__law_pick p__law_odd
  have LF : LFx P w K mg base := ⟨D_law_fault, A, g_isinstance, g_ValueError, g_len, p__law_kinds⟩
  have d1 : ∀ {k : Nat} {ps : List Str} {x : Str} {n : Nat} {Rd : List PyData → PyData → Prop}, PrG P w K mg base x k ps (spDt K n Rd) → (∀ ds d, Rd ds d → ds.length = n) → Pd ⟨P, w, K, mg⟩ base (tabT K) x k ps (dfDt Rd) := fun h hl => pd_dt h hl
  have q__law_is := d1 p__law_is (fun ds d h => by
    rcases h.2 with ⟨_, rfl⟩ | ⟨_, _, _, rfl⟩ <;> rfl)
  have q__law_says := d1 p__law_says (fun ds d ⟨_, _, h, _⟩ => by rw [h]; rfl)
  have q__law_low := d1 p__law_low (fun ds d ⟨_, _, h, _⟩ => by rw [h]; rfl)
  have q_is_ratio := d1 p_is_ratio (fun ds d ⟨_, h, _⟩ => by rw [h]; rfl)
  have q__law_is_ratio := d1 p__law_is_ratio (fun ds d ⟨_, h, _⟩ => by rw [h]; rfl)
  have q__law_plus := d1 p__law_plus (fun ds d ⟨_, _, _, _, _, _, h, _⟩ => by rw [h]; rfl)
  have q__law_minus := d1 p__law_minus (fun ds d ⟨_, _, _, _, _, _, h, _⟩ => by rw [h]; rfl)
  have q__law_times := d1 p__law_times (fun ds d ⟨_, _, _, _, _, _, h, _⟩ => by rw [h]; rfl)
  have q__law_over := d1 p__law_over (fun ds d ⟨_, _, _, _, _, _, h, _⟩ => by rw [h]; rfl)
  have q__law_less := d1 p__law_less (fun ds d ⟨_, _, _, _, _, _, h, _⟩ => by rw [h]; rfl)
  have q__law_sign := d1 p__law_sign (fun ds d ⟨_, _, _, h, _⟩ => by rw [h]; rfl)
  have q__law_is_list := d1 p__law_is_list (fun ds d ⟨_, h, _⟩ => by rw [h]; rfl)
  have q__law_is_any_row := d1 p__law_is_any_row (fun ds d ⟨_, _, h, _⟩ => by rw [h]; rfl)
  have q__law_draw := pd_draw (T := tabT K) p__law_draw
  have q__law_pick := pd_pick (T := tabT K) p__law_pick
  have q__law_pen := pd_pen (T := tabT K) p__law_pen
  have q__law_odd := pd_odd (T := tabT K) p__law_odd
  have q__law_number := pd_number (T := tabT K) p__law_number
  have q__law_size := pd_size (T := tabT K) p__law_size
  have q__law_row := pd_row (T := tabT K) p__law_row
  have q__law_bent_row := pd_bent (T := tabT K) p__law_bent_row
  have q_ratio := pd_ratio (T := tabT K) p_ratio
  have q_plus := pd_op (T := tabT K) p_plus
  have q_minus := pd_op (T := tabT K) p_minus
  have q_times := pd_op (T := tabT K) p_times
  have q_below := pd_below (T := tabT K) p_below
  have q_over := pd_over (T := tabT K) p_over
  have q_sign := pd_sign (T := tabT K) p_sign
  have q_dot := pd_dot (T := tabT K) p_dot
  have q__law_dot := pd_sum (T := tabT K) p__law_dot
  have CV : ∀ g ∈ (["plus", "minus", "times", "over", "below"] : List Str), Pd ⟨P, w, K, mg⟩ base (tabT K) g 4 ["one", "other"] (dfReck rNever) := fun g hg => by
    simp only [List.mem_cons, List.not_mem_nil, or_false] at hg
    rcases hg with rfl | rfl | rfl | rfl | rfl
    · exact pd_bad q_plus
    · exact pd_bad q_minus
    · exact pd_bad q_times
    · exact pd_bad q_over
    · exact pd_bad q_below
  have b1 : ∀ {x : Str} {st : Stmt} {fd : FuncData} {k : Nat} {ps : List Str} {f : Df1}, FunD K x x (defArgs st) (defBody st) (defScope st) [] [] (He.fAd K (x, none)) fd → mg x = some (.ref (He.ga K x)) → (∀ (kV doc pm : Value) (an : Option Addr) (cdv ct : Value) (us : List Value), us.length = ps.length → bindArgs (PySem.W.fnOf x x (defArgs st) (defBody st) (defScope st) .none kV doc pm an cdv ct) ⟨us, []⟩ = pure (ps.zip us)) →
      MonoF f → FnG P w K mg base (L2.CX P w) k (He.fAd K (x, none)) fd ps (spD ⟨P, w, K, mg⟩ (tabT K) f) → Pd ⟨P, w, K, mg⟩ base (tabT K) x k ps f := fun F hg hb m h => ⟨m, ⟨_, _, hg, F.kp, F.bindsN hb, h⟩⟩
  have mP : MonoF dfPen := fun rs Q Q' Er Er' hq he ⟨e, q⟩ => ⟨e, hq _ q⟩
  have q__law_made_right := b1 (st := s_law_made_right) F_law_made_right (gl _ (by decide)) (fun _ _ _ _ _ _ us hl => match us, hl with | [_], _ => rfl) mP (ok_made F_law_made_right LF hm g_repr (tabQ x10 hT (by decide)) q__law_pick q__law_draw q__law_odd q__law_number q__law_is q__law_says q__law_low q_ratio q_is_ratio q__law_is_ratio)
  have q__law_reckoned_right := b1 (st := s_law_reckoned_right) F_law_reckoned_right (gl _ (by decide)) (fun _ _ _ _ _ _ us hl => match us, hl with | [_, _], _ => rfl) (fun rs Q Q' Er Er' hq he ⟨a, b, c, d, e, h1, h2, q⟩ => ⟨a, b, c, d, e, h1, h2, hq _ q⟩) (ok_reckoned F_law_reckoned_right LF (tabQ x10 hT (by decide)) True q__law_is q__law_says q_plus q_minus q_times q_below q_over q_sign q__law_plus q__law_minus q__law_times q__law_over q__law_less q__law_sign)
  have q__law_refused_right := b1 (st := s_law_refused_right) F_law_refused_right (gl _ (by decide)) (fun _ _ _ _ _ _ us hl => match us, hl with | [_, _], _ => rfl) (fun rs Q Q' Er Er' hq he ⟨a, b, c, e, h1, h2, q⟩ => ⟨a, b, c, e, h1, h2, hq _ q⟩) (ok_refused F_law_refused_right LF hm g_repr (tabQ x10 hT (by decide)) (gl _ (by decide)) (gl _ (by decide)) (gl _ (by decide)) (gl _ (by decide)) (gl _ (by decide)) CV q_sign)
  have q__law_rows_right := b1 (st := s_law_rows_right) F_law_rows_right (gl _ (by decide)) (fun _ _ _ _ _ _ us hl => match us, hl with | [_], _ => rfl) mP (ok_rows F_law_rows_right LF hm g_repr g_len g_list (tabQ x10 hT (by decide)) q__law_draw q__law_row q__law_size q__law_bent_row q__law_is q_dot q__law_dot q__law_is_list q__law_is_any_row)
  exact ok_law Flaw g_range q__law_pen q__law_number q__law_size q__law_pick q__law_odd q__law_made_right q__law_reckoned_right q__law_refused_right q__law_rows_right
end L02
namespace L02
open PySem PySem.Spec PyProof.Rows L2 Fp RZ PD LamX
theorem spLaw_ok {P : Program} {w : World} {K : PySem.W.Frag} {mg : Str → Option Value} {H : Hp} {a : Addr} {ns : List Int} (hT : ∀ p ∈ tabF.map (He.cT K), H p.2 = some (.tbl #[])) (hS : SqL K H a (ns.map V.int)) :
    spD ⟨P, w, K, mg⟩ (tabT K) dfLaw [.ref a] H (fun v _ => v = .bl true) fun _ _ _ => False := by
  refine ⟨fun p hp => ?_, [.d (.list (ns.map .int))], .cons (R.ofDt (M := ⟨P, w, K, mg⟩) (dt_lst hS dt_ints)) .nil, ns, rfl, fun v H' _ h => R.bool h⟩
  obtain ⟨q, hq, rfl⟩ := List.mem_map.mp hp
  exact TabS.nil (hT _ (List.mem_map.mpr ⟨q, hq, rfl⟩))
end L02
open PySem PySem.W PySem.Calls PyProof.Rows

theorem PySem.Challenge.cw_fieldpapers_k02_ratios_holds : PySem.Challenge.rw_fieldpapers_k02_ratios.Holds := by
  w_on; o_law
  refine HandSHeadRun.head_imp (r := OpenLaw.row PySem.Challenge.rw_fieldpapers_k02_ratios) (q := view (OpenLaw.row PySem.Challenge.rw_fieldpapers_k02_ratios).prog [0, 74]) (H := L02.hk) (ob := L02.ob) (M := 40000) (loose := L02.loose) (d := HandSHeadRun.topDef (OpenLaw.row PySem.Challenge.rw_fieldpapers_k02_ratios).prog 74) (kwd := []) L02.ob_eq
    L02.run (by kernel_rfl) (by kernel_rfl) (by kernel_rfl) (by rfl) (by first | assumption | decide +kernel) (by decide +kernel) ⟨rfl, rfl, rfl, rfl, rfl, by decide +kernel⟩ ?hw ?hc
  case hw => w_witness2
  case hc =>
    refine Fp.walk_lawT (l := PySem.Challenge.rw_fieldpapers_k02_ratios) (n := 63) (k := 8) (x := "script") rfl (by decide) (by kernel_rfl) ⟨⟨rfl, by decide, by decide⟩, rfl⟩ ?F
    intro w mg fa h Y G hmg0
    obtain ⟨K, S⟩ := Y
    have hmg : mg ("law" : PySem.Str) = some (.ref fa) := by
      have e : (HandSHeadRun.topDef (OpenLaw.row PySem.Challenge.rw_fieldpapers_k02_ratios).prog 74).name = ("law" : PySem.Str) := by kernel_rfl
      rw [← e]
      exact hmg0
    obtain ⟨fd, hb, hF⟩ := L02.facts (P := (PySem.Challenge.rw_fieldpapers_k02_ratios).prog) (w := w) S G hmg
    refine ⟨K, fd, L02.tabF.map (He.cT K), _, S.inh, S.md, fun p hp => ?_, fun p hp => ?_, fun p hp => ?_, hb, fun H a ns hl hT hS => L02.spLaw_ok (mg := mg) hT hS, fun base Kb Gb hm hT => hF base Kb Gb hm fun p hp => hT _ (List.mem_map.mpr ⟨p, hp, rfl⟩)⟩
    · obtain ⟨q, hq, rfl⟩ := List.mem_map.mp hp
      exact S.emp q hq
    · obtain ⟨q, hq, rfl⟩ := List.mem_map.mp hp
      exact S.out q hq
    · obtain ⟨q, hq, rfl⟩ := List.mem_map.mp hp
      exact S.hd q hq
