import PyProof.Rows.All
import Wide.All
import OpenK.AllK
import Wide.FinOn
import HandS.ForMost
import HandS.More
import HandS.Style
import HandS.StrMore
import HandS.ListItems
import HandS.Flow
import PyProof.ReprRoads
import PyProof.Rows.SortShellAny
import HandS.Walk
import PyProof.ReprBulk
import PySem.Challenge.RW_pagesatonce_k03_results_of_names
set_option Elab.async false
set_option linter.all false
set_option maxRecDepth 100000
set_option maxHeartbeats 2000000
/-! rules of our own over the hand layer: text times int, sorted of texts at any length, repr of data, a def under no guard -/
namespace Pg
open PySem PySem.Spec PyProof.Rows L2

section
variable {X : Cx}
/-- a text times an int -/
theorem op_mulS : OpR X (binaryOp .Mult) (fun x y H Q => ∃ (z : Str) (i : Int), x = .str z ∧ y = .int i ∧ MulOk z i ∧ Q (.str (Txt.mul z i)) H) := by
  intro pins s σ H x y v u Q I rx ry h
  obtain ⟨z, i, rfl, rfl, ok, q⟩ := h
  obtain ⟨t, rfl⟩ := rx
  obtain ⟨t', rfl⟩ := ry
  exact SB.mul ok fun t2 k => ⟨.str _, H, I.tok _, ⟨_, rfl⟩, q⟩
end

/-! ### sorted of texts, any length -/
section
variable {prog : Program} {w : World} {A : Around} {E : Value → Shared → Prop} {s : Shared}
theorem collect_seqO {l : Addr} {o : Obj} {vs : List Value} {n : Nat} {T : String} {Q : List Value → Shared → Prop} (hT : T = "list" ∨ T = "tuple") (ho : s.heap.get? l = some o) (hc : o.cls = .type T) (hd : o.data = .seq vs.toArray n)
    (hsz : vs.length ≤ sizeLine) (h : ∀ h', (∀ b u, s.heap.get? b = some u → h'.get? b = some u) → Q vs { s with heap := h' }) : wpAny (model prog w) A (collect (.ref l)) Q E s := by
  have hbig : vs.toArray.size = vs.length := List.size_toArray
  unfold collect
  refine wpAny_bind (wpAny_runValue (codeAny_builtin entry_proto_collect' ?_))
  show wpAny _ _ (newList [] >>= fun q => again (.builtin "list.__iadd__" ⟨[q, .ref l], []⟩)) _ _ s
  refine wpAny_bind (wpAny_newList ?_)
  refine wpAny_pure ⟨Code.quiet_builtin _ (by decide +kernel), codeAny_builtin entry_list_iadd' ?_⟩
  show wpAny _ _ (Builtin.List.listExtendWith (.ref s.heap.objs.size) (.ref l) (.ref s.heap.objs.size)) _ _ { s with heap := s.heap.push (seqObj "list" #[] 0) }
  unfold Builtin.List.listExtendWith
  have ho' : (s.heap.push (seqObj "list" #[] 0)).get? l = some o := Heap.get?_push_of_some _ ho
  have hn' : (s.heap.push (seqObj "list" #[] 0)).get? s.heap.objs.size = some (seqObj "list" #[] 0) := Heap.get?_push_size _ rfl
  refine wpAny_bind (wpAny_typeOf (T := T) ⟨o, ho', hc⟩ ?_)
  have ht : (Builtin.List.listSameRef (.ref s.heap.objs.size) (.ref l) || Value.type T == Value.type "list" || Value.type T == Value.type "tuple") = true := by
    have h1 : (Value.type "list" == Value.type "list") = true := by rfl
    have h2 : (Value.type "tuple" == Value.type "tuple") = true := by rfl
    rcases hT with rfl | rfl
    · rw [h1]
      simp
    · rw [h2]
      simp
  rw [if_pos ht]
  refine wpAny_bind (listItems_at ho' hd ?_)
  refine wpAny_bind (listItems_at (xs := #[]) (n := 0) hn' rfl ?_)
  rw [if_neg (by simp)]
  refine wpAny_bind (listUpdate_at (xs := #[]) (n := 0) hn' rfl ?_ (Nat.zero_le _) (by show (#[] ++ vs.toArray).size ≤ sizeLine + 1; rw [Array.size_append, hbig]; simp only [List.size_toArray, List.length_nil]; omega))
  refine wpAny_pure ?_
  refine wpAny_bind (wpAny_load (get?_update_seq hn' _) ?_)
  show wpAny _ _ (pure ((#[] : Array Value) ++ vs.toArray).toList) Q E _
  have e : ((#[] : Array Value) ++ vs.toArray).toList = vs := by simp
  rw [e]
  refine wpAny_pure (h _ fun b u hb => ?_)
  have hlt := Heap.lt_size hb
  exact (Heap.get?_update_ne _ _ _ _ (Nat.ne_of_lt hlt)).trans (Heap.get?_push_of_some _ hb)
end
section
variable {X : Cx}
/-- sorted of what can be collected as texts -/
theorem sorted_of {pins : List (Addr × Obj)} {σ : L2.St} {H : Hp} {s : Shared} {r : Value} {ss : List Str} {Q : VK} (I : Inv X pins σ H s) (hz : ss.length ≤ sizeLine)
    (col : ∀ (R : List Value → Shared → Prop) (A : Around), A.handled = X.A.handled → (∀ (h' : Heap) (tk : Nat) (vs : List Value), (∀ b u, s.heap.get? b = some u → h'.get? b = some u) → StrsAre vs ss → R vs { s with heap := h', toks := tk }) → wpAny (model X.prog X.w) A (collect r) R X.xe s)
    (q : ∀ ys p, ys.Perm ss → sortedS ys = true → H p = none → Q (.ref p) (upd H p (.lst (ys.map V.str)))) : wpAny (model X.prog X.w) X.A (call (.builtin "sorted") [r]) (EP X pins σ Q) X.xe s := by
  refine Calls.call_function_entry PyProof.Rows.kind_sorted PyProof.Rows.plain_sorted PyProof.Rows.entry_sorted (PyProof.Rows.args_sorted1 _) ?_
  unfold Builtin.«sorted»
  refine wpAny_bind (m := checkCount "sorted" 1 1 _) (wpAny_pure ?_)
  refine wpAny_bind (col _ X.A.in1 rfl fun h' tk vs hk hS => ?_)
  have hal : vs.length = ss.length := StrsAre.length hS
  have I1 : Inv X pins σ H { s with heap := h', toks := tk } := I.kept hk
  refine wpAny_bind (wpAny_newList ?_ (by rw [hal, sizeLine_eq] at *; omega))
  have hoL : (h'.push (seqObj "list" vs.toArray 0)).get? h'.objs.size = some (seqObj "list" vs.toArray 0) := Heap.get?_push_size _ rfl
  show wpAny _ _ _ _ _ { s with heap := h'.push (seqObj "list" vs.toArray 0), toks := tk }
  refine wpAny_bind (wpAny_holding (wpAny_call_entry PyProof.Rows.slot_list_sort ⟨_, hoL, rfl⟩ PyProof.Rows.entry_list_sort
    (list_sort_treeKAny strKind_oneLt (s := { s with heap := h'.push (seqObj "list" vs.toArray 0), toks := tk }) hoL hS.keysOf (fun v₁ v₂ rest e => keyKind_strs (by rw [← e]; exact hS)) (by rw [hal]; exact hz) fun st' hp hs => ⟨_, rfl, ?_⟩) (PyProof.Rows.args_list_sort _)))
  obtain ⟨ys, g1, g2, g3⟩ := sorted_out_str hS hp hs
  obtain ⟨e', he'⟩ := PyProof.Rows.sortedHeap_at (vs := vs) (out := (arrOf st').map (·.2)) hoL
  have hlen : (ys.map V.str).length ≤ sizeLine := by rw [List.length_map, g2.length_eq]; exact hz
  refine wpAny_pure ⟨_, rfl, .ref h'.objs.size, upd H h'.objs.size (.lst (ys.map V.str)), I1.laid (t' := tk) (fun b u e => ?_) (Nat.le_refl _)
    (show ObjOk X.prog X.w _ _ _ (.lst (ys.map V.str)) from ⟨hlen, ((arrOf st').map (·.2)).toList, e', vals_of_strs g1, by rw [Array.toArray_toList]; exact he'⟩), rfl, q ys _ g2 g3 (I1.hok.fresh (Nat.le_refl _))⟩
  have hb : b < h'.objs.size := Heap.lt_size e
  rw [PyProof.Rows.sortedHeap_old (Nat.ne_of_lt hb) (by rw [size_push']; exact Nat.lt_succ_of_lt hb)]
  exact Heap.get?_push_of_some _ e
/-- sorted(xs), xs a list or a tuple of texts, or a dict with text keys -/
def rSortT (K : PySem.W.Frag) : List V → Hp → VK → Prop := fun xs H Q => ∃ (a : Addr) (ss : List Str), xs = [.ref a] ∧ ss.length ≤ sizeLine ∧
  (SqL K H a (ss.map V.str) ∨ SqT K H a (ss.map V.str) ∨ ∃ kvs : List (Key × V), Rd H a (.dK kvs) ∧ kvs.map (·.1) = ss.map Sum.inr) ∧
  ∀ ys p, ys.Perm ss → sortedS ys = true → H p = none → Q (.ref p) (upd H p (.lst (ys.map V.str)))
theorem cr_sortT (hcalm : X.calm = true) : CallR X (.builtin "sorted") (rSortT X.K) := by
  intro pins s σ H xs us Q I r q
  obtain ⟨a, ss, ex, hz, hd, q⟩ := q
  subst ex
  obtain ⟨u, eu, rx⟩ := vals1 r
  subst eu
  cases rx
  rcases hd with hd | hd | ⟨kvs, hd, hks⟩
  · obtain ⟨its, rv, pl, hz2⟩ := I.list hd
    have hlen := rv.length
    obtain ⟨o, ho, hc, n, hdt⟩ := pl.isList
    exact sorted_of I hz (fun R A _ k => collect_seqO (.inl rfl) ho hc hdt (by omega) fun h' hk => k h' s.toks its hk rv.strs) q
  · obtain ⟨its, rv, pl, hz2⟩ := I.tuple hd
    have hlen := rv.length
    obtain ⟨o, ho, hc, n, hdt⟩ := pl
    exact sorted_of I hz (fun R A _ k => collect_seqO (.inr rfl) ho hc hdt (by omega) fun h' hk => k h' s.toks its hk rv.strs) q
  · obtain ⟨z, lo, vs, rel, dd⟩ := dk_rd I.hok hd
    obtain ⟨ep, hat⟩ := dd.dictAt
    have hkeys : vs.map (·.1) = ss.map Sum.inr := rel.keys.symm.trans hks
    have hl : vs.length = ss.length := by
      have e := congrArg List.length hkeys
      rw [List.length_map, List.length_map] at e
      exact e
    refine sorted_of I hz (fun R A hA k => PySem.W.kdu_collect (PySem.W.kdl_dict (knd := mixKind X.prog X.w) (kvs := vs) (ep := ep) lo) (hA.trans (I.ok.hd hcalm)) hat (by rw [hl]; exact hz) fun h' tk acc hk hacc => k h' tk acc.toList hk ?_) q
    have hal : acc.toList.length = ss.length := by rw [Array.length_toList, hacc.1, hl]
    refine strs_at hal fun j v e => ?_
    obtain ⟨k, x, e1, e2⟩ := hacc.2 j v (by rw [← Array.getElem?_toList]; exact e)
    have e3 : (vs.map (·.1))[j]? = some k := by rw [List.getElem?_map, e1]; all_goals rfl
    rw [hkeys, List.getElem?_map] at e3
    cases e4 : ss[j]? with
    | none => rw [e4] at e3; cases e3
    | some y =>
      rw [e4] at e3
      have e5 : Sum.inr y = k := Option.some.inj e3
      subst e5
      obtain ⟨t, ev⟩ := Value.isStrOf_shape (x := y) (v := v) e2
      exact ⟨y, t, rfl, ev⟩
end

/-! ### repr of data -/
section
variable {X : Cx}
/-- repr(x) of lists, tuples and texts within one another -/
def rRepr (K : PySem.W.Frag) : List V → Hp → VK → Prop := fun xs H Q => ∃ (a : Addr) (d : PyData), xs = [.ref a] ∧ Dp K H (.ref a) d ∧ d.showable = true ∧ d.hasDict = false ∧ d.depth ≤ 60 ∧ d.shown.length ≤ sizeLine ∧ Q (.str d.shown) H
theorem cr_repr (hg : X.A.guards = some []) (hu : X.A.units + 64 < cLine) : CallR X (.builtin "repr") (rRepr X.K) := by
  intro pins s σ H xs us Q I r q
  obtain ⟨a, d, ex, hd, h1, h2, h3, h4, q⟩ := q
  subst ex
  obtain ⟨u, eu, rx⟩ := vals1 r
  subst eu
  cases rx
  obtain ⟨as, rd⟩ := Dp.reads I d _ _ hd (show RelV (.ref a) (.ref a) from rfl)
  exact repr_of_reads' rd h1 (PyData.noDict_hsm h2) hg (by omega) (fun _ _ e => e) (fun h' t tk hk => ⟨.str d.shown, H, I.kept hk, ⟨t, rfl⟩, q⟩) h4
end
end Pg


set_option Elab.async false
set_option linter.all false
set_option maxRecDepth 100000
set_option maxHeartbeats 2000000
/-! defs of the text by name: where they stand, what they promise, how they are called -/
namespace Pg
open PySem PySem.Spec PyProof.Rows L2

/-- the def x of the text stands in the module -/
def DefAt (K : PySem.W.Frag) (mg : Str → Option Value) (x : Str) (st : Stmt) (ps : List Str) : Prop :=
  ∃ (f : Addr) (fd : FuncData), Fun K x x st f fd ∧ mg x = some (.ref f) ∧ Binds K fd ps []
/-- the name x holds a def that keeps the promise sp -/
def Has (P : Program) (w : World) (K : PySem.W.Frag) (mg : Str → Option Value) (base : Heap) (k : Nat) (x : Str) (ps : List Str) (sp : Sp) : Prop :=
  ∃ (f : Addr) (fd : FuncData), FnOk P w K mg base CX0 k f fd ps sp ∧ mg x = some (.ref f) ∧ PySem.W.keepIn K (.ref f) = true ∧ Binds K fd ps []
section
variable {P : Program} {w : World} {K : PySem.W.Frag} {mg : Str → Option Value} {base : Heap} {x : Str} {st : Stmt} {N ps : List Str} {k : Nat} {sp : Sp}
theorem DefAt.has (D : DefAt K mg x st ps) (S : FnScope N ps (defScope st)) (len : ∀ vs H Q E, sp vs H Q E → vs.length = ps.length)
    (hb : ∀ (f : Addr) (cdv : Value) (A : Around) (outer : List Env) (s : Shared) (H : Hp) (vs : List V) (Q : VK) (E : XK), Room k (A.deeper (envOfC x (defScope st) s.heap.objs.size f cdv)) → sp vs H Q E →
      ∃ t, PSs (cxOf CX0 P w K mg base N x (defScope st) f cdv A outer s H E).nox (defBody st) t ∧ t { nx := fun _ H' => Q .non H', rt := Q } (start N vs) H) : Has P w K mg base (k + 1) x ps sp := by
  obtain ⟨f, fd, F, hm, b⟩ := D
  exact ⟨f, fd, F.ok S len (hb f), hm, F.kp, b⟩
theorem Has.mono {j : Nat} (h : Has P w K mg base j x ps sp) (hjk : j ≤ k) : Has P w K mg base k x ps sp := by
  obtain ⟨f, fd, F, r⟩ := h
  exact ⟨f, fd, F.mono hjk, r⟩
theorem Has.imp {sp' : Sp} (h : Has P w K mg base k x ps sp) (hs : ∀ vs H Q E, sp' vs H Q E → sp vs H Q E) : Has P w K mg base k x ps sp' := by
  obtain ⟨f, fd, F, r⟩ := h
  exact ⟨f, fd, F.imp hs, r⟩
end
section
variable {X : Cx} {k : Nat} {x : Str} {ps : List Str} {sp : Sp} {e : Expr} {es : List Expr} {t : TA} {p pos : Pos}
theorem pe_callH (h : Has X.prog X.w X.K X.mg X.base k x ps sp) (hr : Room k X.A) (hg : Gl X x) (ha : PA X (e :: es) t) (hdb : (x == ("__debug__" : Str)) = false := by decide)
    (he : starEach (e :: es) X.env = (false, eval e X.env) :: starEach es X.env := by rfl) (hpl : (backTo pos (starEach es X.env)).any (·.1) = false := by rfl) : PE X (.Call (.Name x p) (e :: es) [] pos) (tCall sp [] E0 t) := by
  obtain ⟨f, fd, F, hm, kp, b⟩ := h
  exact pe_call F hr hg hm kp b .nil pass0 ha hdb he hpl
end

/-! ### a def that is called where no guard stands on the stack -/
structure FnG (P : Program) (w : World) (K : PySem.W.Frag) (mg : Str → Option Value) (base : Heap) (k : Nat) (f : Addr) (fd : FuncData) (ps : List Str) (sp : Sp) : Prop where
  len : ∀ vs H Q E, sp vs H Q E → vs.length = ps.length
  run : ∀ (A : Around) (outer : List Env) (s : Shared) (H : Hp) (args : Args) (us : List Value) (vs : List V) (Q : VK) (E : XK), A.guards = some [] → Room k A → Env0 P w K mg base A outer s H →
    BindsTo s fd args (ps.zip us) → Vals vs us → sp vs H Q E → codeAny (model P w) A (.call (.ref f) args) (CR CX0 outer P w H s Q E) s
def HasG (P : Program) (w : World) (K : PySem.W.Frag) (mg : Str → Option Value) (base : Heap) (k : Nat) (x : Str) (ps : List Str) (sp : Sp) : Prop :=
  ∃ (f : Addr) (fd : FuncData), FnG P w K mg base k f fd ps sp ∧ mg x = some (.ref f) ∧ PySem.W.keepIn K (.ref f) = true ∧ Binds K fd ps []
section
variable {P : Program} {w : World} {K : PySem.W.Frag} {mg : Str → Option Value} {base : Heap} {x qual : Str} {st : Stmt} {N ps : List Str} {k : Nat} {sp : Sp} {f : Addr} {fd : FuncData}
theorem fnG_of (F : Fun K x qual st f fd) (S : FnScope N ps (defScope st)) (len : ∀ vs H Q E, sp vs H Q E → vs.length = ps.length)
    (hb : ∀ (cdv : Value) (A : Around) (outer : List Env) (s : Shared) (H : Hp) (vs : List V) (Q : VK) (E : XK), A.guards = some [] → Room k (A.deeper (envOfC qual (defScope st) s.heap.objs.size f cdv)) → sp vs H Q E →
      ∃ t, PSs (cxOf CX0 P w K mg base N qual (defScope st) f cdv A outer s H E).nox (defBody st) t ∧ t { nx := fun _ H' => Q .non H', rt := Q } (start N vs) H) : FnG P w K mg base (k + 1) f fd ps sp := by
  obtain ⟨oc, od, kV, doc, pm, an, cdv, ct, osl, efd, lk, hcd⟩ := F.ex
  subst efd
  refine ⟨len, fun A outer s H args us vs Q E hg hr e0 hbd r hsp => ?_⟩
  have keeps : ∀ b o, base.get? b = some o → s.heap.get? b = some o := fun b o e => (e0.bs b o e).1
  have hkind : ∀ y ∈ ps.zip us, (defScope st).names.lookup y.1 = some .local ∨ ((defScope st).names.lookup y.1 = some .cell ∧ ((cellsFrom (s.heap.objs.size + 1) (defScope st).names []).lookup y.1).isSome = true) := by
    rintro ⟨n, v⟩ hy
    exact (S.par n (List.of_mem_zip hy).1).elim .inl fun q => .inr ⟨q, PySem.W.cellsFrom_some _ _ _ (.inl q)⟩
  refine codeAny_call_function hr.depth ((e0.mod.kin.keeps keeps) _ _ lk) rfl S.co S.gen rfl (PySem.W.codeRec_of (e0.mod.kin.keeps keeps) hcd) (hbd _ _ _ _ ?_)
  refine wpAny_newFunctionEnv_cells S.kind hkind fun env he s1 z => ?_
  subst he
  refine ⟨(e0.mod.nolimit.keeps keeps).keeps z.toInCall.keep, codeAny_func ?_⟩
  obtain ⟨t, ht, hq⟩ := hb cdv A outer s H vs Q E hg (hr.deeper _) hsp
  have I : Inv (cxOf CX0 P w K mg base N qual (defScope st) f cdv A outer s H E) [] (start N vs) H s1 := inv_start S hr.hd e0 (len _ _ _ _ hsp) r z
  refine wpAny_mono (ht.nox.run [] s1 (start N vs) H _ I hq) (fun fl s' hs => ?_) fun e s' hs => hs
  cases fl with
  | ret u =>
    obtain ⟨v, σ', H', J, rv, q⟩ := hs
    exact ⟨v, H', J.os, J.bare, J.base, J.hok, rv, q⟩
  | next =>
    obtain ⟨σ', H', J, q⟩ := hs
    exact ⟨V.non, H', J.os, J.bare, J.base, J.hok, rfl, q⟩
  | brk => exact hs.elim fun _ h => h.elim fun _ h => h.2.elim
  | cont => exact hs.elim fun _ h => h.elim fun _ h => h.2.elim
theorem DefAt.hasG (D : DefAt K mg x st ps) (S : FnScope N ps (defScope st)) (len : ∀ vs H Q E, sp vs H Q E → vs.length = ps.length)
    (hb : ∀ (f : Addr) (cdv : Value) (A : Around) (outer : List Env) (s : Shared) (H : Hp) (vs : List V) (Q : VK) (E : XK), A.guards = some [] → Room k (A.deeper (envOfC x (defScope st) s.heap.objs.size f cdv)) → sp vs H Q E →
      ∃ t, PSs (cxOf CX0 P w K mg base N x (defScope st) f cdv A outer s H E).nox (defBody st) t ∧ t { nx := fun _ H' => Q .non H', rt := Q } (start N vs) H) : HasG P w K mg base (k + 1) x ps sp := by
  obtain ⟨f, fd, F, hm, b⟩ := D
  exact ⟨f, fd, fnG_of F S len (hb f), hm, F.kp, b⟩
end
section
variable {X : Cx} {k : Nat} {x : Str} {ps : List Str} {sp : Sp} {e : Expr} {es : List Expr} {t : TA} {p pos : Pos}
theorem pe_callG (h : HasG X.prog X.w X.K X.mg X.base k x ps sp) (hgd : X.A.guards = some []) (hr : Room k X.A) (hg : Gl X x) (ha : PA X (e :: es) t) (hdb : (x == ("__debug__" : Str)) = false := by decide)
    (he : starEach (e :: es) X.env = (false, eval e X.env) :: starEach es X.env := by rfl) (hpl : (backTo pos (starEach es X.env)).any (·.1) = false := by rfl) : PE X (.Call (.Name x p) (e :: es) [] pos) (tCall sp [] E0 t) := by
  obtain ⟨f, fd, F, hm, kp, b⟩ := h
  refine ⟨fun pins s σ H Q I hq => ?_⟩
  refine wpAny_Call_Name_kw (ld_glob I hg hm ?_ hdb)
  refine PySem.W.callWith_K (h₀ := X.base) I.ok.mod.kin kp (thn (ha.run pos pins s σ H _ I hq) fun us s1 ⟨vs, H1, I1, r, q⟩ => ⟨I1.kIn, ?_⟩) he hpl
  have q' : sp vs H1 Q E0 := by
    have q2 : sp (vs ++ []) H1 Q E0 := q
    rwa [List.append_nil] at q2
  have hl : us.length = ps.length := by rw [← r.length]; exact F.len _ _ _ _ q'
  have hb' := b s1 us I1.kIn (by rw [List.append_nil]; exact hl)
  rw [List.append_nil] at hb'
  refine wpAny_call (codeAny_mono (F.run X.A X.stack s1 H1 ⟨us, []⟩ us vs Q E0 hgd hr I1.env0 hb' r q') fun z s' hz => ?_)
  cases z with
  | error err => exact hz.elim
  | ok fl =>
    cases fl with
    | ret u => exact I1.after hz
    | next => exact hz.elim
    | brk => exact hz.elim
    | cont => exact hz.elim
end
end Pg


set_option Elab.async false
set_option linter.all false
set_option maxRecDepth 100000
set_option maxHeartbeats 2000000
/-! the law's end over a promise that asks for no guard on the stack -/
namespace Pg
open PySem PySem.Spec PyProof.Rows L2

/-- the heap as it is read ahead of the law: the script alone may be tracked -/
def H0 (a : Addr) (o : Option Obj) (xs : List V) : Hp := fun b => match o with
  | none => none
  | some u => if b = a then some (.frz u (.lst xs)) else none
theorem H0_only (a : Addr) (o : Option Obj) (xs : List V) : Only (H0 a o xs) := fun b => by
  cases o with
  | none => exact .inl rfl
  | some u =>
    by_cases hb : b = a
    · exact .inr ⟨u, xs, if_pos hb⟩
    · exact .inl (if_neg hb)
theorem H0_at {a b : Addr} {o : Option Obj} {xs : List V} {u : HO} (h : H0 a o xs b = some u) : b = a ∧ ∃ ob, o = some ob ∧ u = .frz ob (.lst xs) := by
  cases o with
  | none => cases h
  | some ob =>
    have h' : (if b = a then some (HO.frz ob (.lst xs)) else none) = some u := h
    by_cases hb : b = a
    · rw [if_pos hb] at h'
      exact ⟨hb, ob, rfl, (Option.some.inj h').symm⟩
    · rw [if_neg hb] at h'
      cases h'

theorem lawG {P : Program} {w : World} {K : PySem.W.Frag} {mg mb : Str → Option Value} {k : Nat} {fa a : Addr} {fd : FuncData} {x : Str} {sp : Sp} {s₁ : Shared} {vs : List Value} {ns : List Int}
    (KX : K.In s₁.heap) (hns : s₁.heap.Ns mainGlobals mg) (hb : s₁.heap.Ns builtinsNs mb) (hbb : ∀ x : Str, x ≠ "__name__" → mb x = bootBuiltins x) (hlim : s₁.heap.NoLimit) (hg : s₁.gens = #[])
    (ha : s₁.heap.get? a = some { cls := .type "list", data := .seq vs.toArray }) (hi : IntsAre vs ns) (hl : ns.length ≤ sizeLine) (hr : Room k callerA)
    (F : ∀ base : Heap, K.In base → base.Ns mainGlobals mg → FnG P w K mg base k fa fd [x] sp) (hbind : ∀ (s : Shared) (u : Value), BindsTo s fd ⟨[u], []⟩ [(x, u)])
    (hsp : ∀ H : Hp, Only H → SqL K H a (ns.map V.int) → sp [.ref a] H (fun v _ => v = .bl true) fun _ _ _ => False) :
    codeAny (model P w) callerA (.call (.ref fa) ⟨[.ref a], []⟩) (fun r s' => r = .ok (.ret (.bool true)) ∧ OldK s₁.heap s'.heap ∧ s'.os = s₁.os ∧ AllBare s'.gens) s₁ := by
  have rv := vals_ints hi
  have lenV := hi.length
  obtain ⟨o, hko, hS⟩ : ∃ o : Option Obj, (o = none ∨ (o = some { cls := .type "list", data := .seq vs.toArray } ∧ K.lookup a = none)) ∧ SqL K (H0 a o (ns.map V.int)) a (ns.map V.int) := by
    cases hk : K.lookup a with
    | none => exact ⟨some _, .inr ⟨rfl, rfl⟩, .inl (.inr ⟨_, if_pos rfl⟩)⟩
    | some ob =>
      have e := KX a ob hk
      rw [ha] at e
      cases e
      exact ⟨none, .inl rfl, .inr ⟨_, vs.toArray, _, hk, rfl, rfl, rfl, by rw [List.size_toArray, lenV]; exact hl, by simpa using rv⟩⟩
  generalize hH : H0 a o (ns.map V.int) = H at hS
  have hO : Only H := hH ▸ H0_only a o _
  have hat : ∀ {b : Addr} {u : HO}, H b = some u → b = a ∧ u = .frz { cls := .type "list", data := .seq vs.toArray } (.lst (ns.map V.int)) ∧ K.lookup a = none := fun {b u} e => by
    rw [← hH] at e
    obtain ⟨e1, ob, e2, e3⟩ := H0_at e
    rcases hko with z | ⟨z, z2⟩
    · rw [z] at e2
      cases e2
    · rw [z] at e2
      cases e2
      exact ⟨e1, e3, z2⟩
  have hok : HOk P w H s₁.heap := fun b u e => by
    obtain ⟨rfl, rfl, _⟩ := hat e
    exact ⟨ha, by rw [List.length_map]; exact hl, vs, _, rv, ha⟩
  have free : ∀ {b : Addr} {ob : Obj}, s₁.heap.get? b = some ob → (b = a → K.lookup a = none → False) → (hidT s₁.heap H).get? b = some ob := fun {b ob} e hn => by
    refine hidT_get e ?_
    cases q : H b with
    | none => rfl
    | some u =>
      obtain ⟨e1, _, e2⟩ := hat q
      exact (hn e1 e2).elim
  have nsK : ∀ {b : Addr} {m : Str → Option Value}, s₁.heap.Ns b m → (hidT s₁.heap H).Ns b m := fun {b m} ⟨ob, es, ep, e, d, r⟩ => by
    refine ⟨ob, es, ep, free e fun z _ => ?_, d, r⟩
    rw [z, ha] at e
    cases e
    have d' : Data.seq vs.toArray _ = Data.dict es ep := d
    cases d'
  have hKb : K.In (hidT s₁.heap H) := fun b ob e => free (KX b ob e) fun z z2 => by
    rw [z, z2] at e
    cases e
  obtain ⟨mc, c1, c2⟩ := hlim
  have hM : Mod K mg (hidT s₁.heap H) := ⟨hKb, nsK hns, ⟨mb, nsK hb, hbb⟩, ⟨mc, nsK c1, c2⟩⟩
  have none_in : ∀ {b : Addr}, b ∈ ([] : List Addr) → False := fun {b} z => absurd z (by simp)
  have e0 : Env0 P w K mg (hidT s₁.heap H) callerA [] s₁ H := ⟨rfl, hM, fun b ob e => of_hidT e, Nat.le_of_eq (hidT_size _ _), trivial, fun b z => (none_in z).elim, hok, .of_eq hg⟩
  refine codeAny_mono ((F _ hKb (nsK hns)).run callerA [] s₁ H ⟨[.ref a], []⟩ [.ref a] [.ref a] _ _ rfl hr e0 (hbind s₁ (.ref a)) (.cons rfl .nil) (hsp H hO hS)) fun r s' h => ?_
  cases r with
  | error e => exact h.elim
  | ok fl =>
    cases fl with
    | next => exact h.elim
    | brk => exact h.elim
    | cont => exact h.elim
    | ret u =>
      obtain ⟨v, H', os, bare, un, hok', r', q⟩ := h
      cases (show v = .bl true from q)
      cases (show u = Value.bool true from r')
      refine ⟨rfl, OldK.of_keep fun b ob e => ?_, os, bare⟩
      cases q : H b with
      | none => exact un.keep b ob e q (fun z => none_in z) (fun z => none_in z)
      | some u =>
        obtain ⟨rfl, rfl, _⟩ := hat q
        obtain ⟨e2, _⟩ := hok' _ _ (un.frzs _ _ _ q)
        rw [ha] at e
        cases e
        exact e2
/-- the goal that the head leaves -/
theorem walkG {l : PySem.W.OpenLaw} {n k : Nat} {q : Program} {loose : List Str} {XP : (Str → Option Value) → Heap → Prop} {YP : World → Heap → Prop} {d : DefRec} {K : Params → PySem.W.Frag} {sp : World → Sp} {x : Str}
    (hn : l.most = some n) (hn2 : n ≤ sizeLine) (hdf : d.params.defaults = []) (hr : Room k callerA) (hY : ∀ (w : World) (h : Heap), YP w h → (K w.params).In h)
    (F : ∀ (w : World) (mg : Str → Option Value) (fa : Addr) (h : Heap), (K w.params).In h → h.Ns mainGlobals mg → mg d.name = some (.ref fa) →
      ∃ fd : FuncData, (∀ (s : Shared) (u : Value), BindsTo s fd ⟨[u], []⟩ [(x, u)]) ∧ ∀ base : Heap, (K w.params).In base → base.Ns mainGlobals mg → FnG l.prog w (K w.params) mg base k fa fd [x] (sp w))
    (hsp : ∀ (w : World) (H : Hp) (a : Addr) (ns : List Int), ns.length ≤ n → Only H → SqL (K w.params) H a (ns.map V.int) → sp w [.ref a] H (fun v _ => v = .bl true) fun _ _ _ => False) :
    PySem.W.WalkO q loose XP YP l.row.toRowW d [] (fun f vs => PySem.call f vs) := by
  refine Att.attach_call hn hdf fun w s₀ s₁ mg mb fa o pm cd doc a vs ns G Y ho hd hcd hmg hobj hints hlen hg => ?_
  obtain ⟨fd, hb, hF⟩ := F w mg fa _ (hY w _ Y) G.T.g hmg
  exact lawG (hY w _ Y) G.T.g G.T.b G.T.builtins G.T.nolimit hg hobj hints (Nat.le_trans hlen hn2) hr hF hb fun H hO hS => hsp w H a ns hlen hO hS
end Pg


set_option Elab.async false
set_option linter.all false
set_option maxRecDepth 100000
set_option maxHeartbeats 2000000
/-! the text by places, the scopes, what the module holds -/
namespace Pg
open PySem PySem.Spec PyProof.Rows L2

def top (i : Nat) : Stmt := PySem.Challenge.pw_pagesatonce_k03_results_of_names.main.body.getD i (.Pass ⟨0, 0, 0, 0⟩)
abbrev sIsName : Stmt := top 3
abbrev sIsAfter : Stmt := top 4
abbrev sFailures : Stmt := top 5
abbrev sSegment : Stmt := top 8
abbrev sSplit : Stmt := top 9
abbrev sTarget : Stmt := top 13
abbrev sFirstFailure : Stmt := top 14
abbrev sJoinSegments : Stmt := top 15
abbrev sJoinResult : Stmt := top 16
abbrev sMInit : Stmt := inClass (top 17) 0
abbrev sMdependencies : Stmt := inClass (top 17) 1
abbrev sMresult : Stmt := inClass (top 17) 2
abbrev sMrequired : Stmt := inClass (top 17) 3
abbrev sDependencies : Stmt := top 18
abbrev sResult : Stmt := top 19
abbrev sRequired : Stmt := top 20
abbrev sLcell : Stmt := top 22
abbrev sLdigits : Stmt := top 23
abbrev sLisName : Stmt := top 24
abbrev sLbracket : Stmt := top 25
abbrev sLsplit : Stmt := top 26
abbrev sLdependencies : Stmt := top 27
abbrev sLresultOf : Stmt := top 28
abbrev sLjoined : Stmt := top 29
abbrev sLrendered : Stmt := top 30
abbrev sLresults : Stmt := top 31
abbrev sLrequired : Stmt := top 32
abbrev sLdraw : Stmt := top 33
abbrev sLname : Stmt := top 34
abbrev sLtext : Stmt := top 35
abbrev sLsources : Stmt := top 36
abbrev sLpages : Stmt := top 37
abbrev sLalike : Stmt := top 38
abbrev sLlong : Stmt := top 39
abbrev sLaw : Stmt := top 40
theorem scIsName : FnScope ["text", "sign"] ["text"] (defScope sIsName) := ⟨rfl, rfl, rfl, by decide +kernel, rfl, by decide +kernel, by decide +kernel⟩
theorem scIsAfter : FnScope ["one", "other"] ["one", "other"] (defScope sIsAfter) := ⟨rfl, rfl, rfl, by decide +kernel, rfl, by decide +kernel, by decide +kernel⟩
theorem scFailures : FnScope ["text"] ["text"] (defScope sFailures) := ⟨rfl, rfl, rfl, by decide +kernel, rfl, by decide +kernel, by decide +kernel⟩
theorem scSegment : FnScope ["name", "text", "at", "end", "inner", "word", "target"] ["name", "text", "at"] (defScope sSegment) := ⟨rfl, rfl, rfl, by decide +kernel, rfl, by decide +kernel, by decide +kernel⟩
theorem scSplit : FnScope ["name", "text", "segments", "plain", "at", "found"] ["name", "text"] (defScope sSplit) := ⟨rfl, rfl, rfl, by decide +kernel, rfl, by decide +kernel, by decide +kernel⟩
theorem scTarget : FnScope ["name", "found"] ["name", "found"] (defScope sTarget) := ⟨rfl, rfl, rfl, by decide +kernel, rfl, by decide +kernel, by decide +kernel⟩
theorem scFirstFailure : FnScope ["name", "text", "attempts", "found", "_", "result_found"] ["name", "text", "attempts", "found"] (defScope sFirstFailure) := ⟨rfl, rfl, rfl, by decide +kernel, rfl, by decide +kernel, by decide +kernel⟩
theorem scJoinSegments : FnScope ["name", "text", "found", "characters", "links", "at", "kind", "inner", "told", "led", "link"] ["name", "text", "found"] (defScope sJoinSegments) := ⟨rfl, rfl, rfl, by decide +kernel, rfl, by decide +kernel, by decide +kernel⟩
theorem scJoinResult : FnScope ["name", "text", "attempts", "found", "failure", "characters", "links"] ["name", "text", "attempts", "found"] (defScope sJoinResult) := ⟨rfl, rfl, rfl, by decide +kernel, rfl, by decide +kernel, by decide +kernel⟩
theorem scMInit : FnScope ["self", "sources", "attempts"] ["self", "sources", "attempts"] (defScope sMInit) := ⟨rfl, rfl, rfl, by decide +kernel, rfl, by decide +kernel, by decide +kernel⟩
theorem scMdependencies : FnScope ["self", "name", "found", "kind", "inner", "told", "led"] ["self", "name"] (defScope sMdependencies) := ⟨rfl, rfl, rfl, by decide +kernel, rfl, by decide +kernel, by decide +kernel⟩
theorem scMresult : FnScope ["self", "name", "found"] ["self", "name"] (defScope sMresult) := ⟨rfl, rfl, rfl, by decide +kernel, rfl, by decide +kernel, by decide +kernel⟩
theorem scMrequired : FnScope ["self", "pages", "names", "waiting", "name", "other", "_"] ["self", "pages"] (defScope sMrequired) := ⟨rfl, rfl, rfl, by decide +kernel, rfl, by decide +kernel, by decide +kernel⟩
theorem scDependencies : FnScope ["sources", "attempts", "name"] ["sources", "attempts", "name"] (defScope sDependencies) := ⟨rfl, rfl, rfl, by decide +kernel, rfl, by decide +kernel, by decide +kernel⟩
theorem scResult : FnScope ["sources", "attempts", "name"] ["sources", "attempts", "name"] (defScope sResult) := ⟨rfl, rfl, rfl, by decide +kernel, rfl, by decide +kernel, by decide +kernel⟩
theorem scRequired : FnScope ["sources", "attempts", "pages"] ["sources", "attempts", "pages"] (defScope sRequired) := ⟨rfl, rfl, rfl, by decide +kernel, rfl, by decide +kernel, by decide +kernel⟩
theorem scLcell : FnScope ["_law_script", "_law_k"] ["_law_script", "_law_k"] (defScope sLcell) := ⟨rfl, rfl, rfl, by decide +kernel, rfl, by decide +kernel, by decide +kernel⟩
theorem scLdigits : FnScope ["_law_script", "_law_first", "_law_last", "_law_digits_here", "_law_k", "_law_cell_here", "_law_turn", "_law_seed"] ["_law_script", "_law_first", "_law_last"] (defScope sLdigits) := ⟨rfl, rfl, rfl, by decide +kernel, rfl, by decide +kernel, by decide +kernel⟩
theorem scLisName : FnScope ["_law_text_here", "_law_sign"] ["_law_text_here"] (defScope sLisName) := ⟨rfl, rfl, rfl, by decide +kernel, rfl, by decide +kernel, by decide +kernel⟩
theorem scLbracket : FnScope ["_law_name_here", "_law_text_here", "_law_at", "_law_end", "_law_skip", "_law_inner"] ["_law_name_here", "_law_text_here", "_law_at"] (defScope sLbracket) := ⟨rfl, rfl, rfl, by decide +kernel, rfl, by decide +kernel, by decide +kernel⟩
theorem scLsplit : FnScope ["_law_name_here", "_law_text_here", "_law_found", "_law_at", "_law_told"] ["_law_name_here", "_law_text_here"] (defScope sLsplit) := ⟨rfl, rfl, rfl, by decide +kernel, rfl, by decide +kernel, by decide +kernel⟩
theorem scLdependencies : FnScope ["_law_results_here", "_law_name_here", "_law_text_here", "_law_found", "_law_word", "_law_other", "_law_told"] ["_law_results_here", "_law_name_here", "_law_text_here"] (defScope sLdependencies) := ⟨rfl, rfl, rfl, by decide +kernel, rfl, by decide +kernel, by decide +kernel⟩
theorem scLresultOf : FnScope ["_law_results_here", "_law_name_here"] ["_law_results_here", "_law_name_here"] (defScope sLresultOf) := ⟨rfl, rfl, rfl, by decide +kernel, rfl, by decide +kernel, by decide +kernel⟩
theorem scLjoined : FnScope ["_law_name_here", "_law_text_here", "_law_found", "_law_parts", "_law_links", "_law_at", "_law_word", "_law_other", "_law_told", "_law_rising", "_law_link"] ["_law_name_here", "_law_text_here", "_law_found"] (defScope sLjoined) := ⟨rfl, rfl, rfl, by decide +kernel, rfl, by decide +kernel, by decide +kernel⟩
theorem scLrendered : FnScope ["_law_name_here", "_law_text_here", "_law_attempts", "_law_found", "_law_other", "_law_told"] ["_law_name_here", "_law_text_here", "_law_attempts", "_law_found"] (defScope sLrendered) := ⟨rfl, rfl, rfl, by decide +kernel, rfl, by decide +kernel, by decide +kernel⟩
theorem scLresults : FnScope ["_law_sources_here", "_law_attempts", "_law_results_here", "_law_name_here", "_law_found"] ["_law_sources_here", "_law_attempts"] (defScope sLresults) := ⟨rfl, rfl, rfl, by decide +kernel, rfl, by decide +kernel, by decide +kernel⟩
theorem scLrequired : FnScope ["_law_sources_here", "_law_attempts", "_law_pages_here", "_law_results_here", "_law_found", "_law_turn", "_law_name_here", "_law_other", "_law_told"] ["_law_sources_here", "_law_attempts", "_law_pages_here"] (defScope sLrequired) := ⟨rfl, rfl, rfl, by decide +kernel, rfl, by decide +kernel, by decide +kernel⟩
theorem scLdraw : FnScope ["_law_box", "_law_many", "_law_at"] ["_law_box", "_law_many"] (defScope sLdraw) := ⟨rfl, rfl, rfl, by decide +kernel, rfl, by decide +kernel, by decide +kernel⟩
theorem scLname : FnScope ["_law_box"] ["_law_box"] (defScope sLname) := ⟨rfl, rfl, rfl, by decide +kernel, rfl, by decide +kernel, by decide +kernel⟩
theorem scLtext : FnScope ["_law_box", "_law_most", "_law_text_here", "_law_turn", "_law_name_here", "_law_kind"] ["_law_box", "_law_most"] (defScope sLtext) := ⟨rfl, rfl, rfl, by decide +kernel, rfl, by decide +kernel, by decide +kernel⟩
theorem scLsources : FnScope ["_law_box", "_law_most", "_law_sources_here", "_law_turn", "_law_name_here"] ["_law_box", "_law_most"] (defScope sLsources) := ⟨rfl, rfl, rfl, by decide +kernel, rfl, by decide +kernel, by decide +kernel⟩
theorem scLpages : FnScope ["_law_box", "_law_pages_here", "_law_turn", "_law_name_here"] ["_law_box"] (defScope sLpages) := ⟨rfl, rfl, rfl, by decide +kernel, rfl, by decide +kernel, by decide +kernel⟩
theorem scLalike : FnScope ["_law_one", "_law_two"] ["_law_one", "_law_two"] (defScope sLalike) := ⟨rfl, rfl, rfl, by decide +kernel, rfl, by decide +kernel, by decide +kernel⟩
theorem scLlong : FnScope ["_law_box", "_law_sources_here"] ["_law_box", "_law_sources_here"] (defScope sLlong) := ⟨rfl, rfl, rfl, by decide +kernel, rfl, by decide +kernel, by decide +kernel⟩
theorem scLaw : FnScope ["_law_script", "_law_box", "_law_turn", "_law_sources_here", "_law_attempts", "_law_before", "_law_results_here", "_law_name_here", "_law_due", "_law_found", "_law_pages_here"] ["_law_script"] (defScope sLaw) := ⟨rfl, rfl, rfl, by decide +kernel, rfl, by decide +kernel, by decide +kernel⟩

def LETT : Str := "abcdefghijklmnopqrstuvwxyz"
/-- addresses and tokens of the module's constants -/
structure Adr where
  tNM : Tok
  tLE : Tok
  tRM : Tok
  aOP : Addr
  es : Array DictEntry
  n : Nat
  t1 : Tok
  t2 : Tok
  aNO : Addr
  aN0 : Addr
  C : Addr
/-- what the walk asks of the module -/
structure Txt (K : PySem.W.Frag) (w : World) (mg : Str → Option Value) (a : Adr) : Prop where
  gNM : mg "NAME_MOST" = some (.int 6 a.tNM)
  gLE : mg "LETTERS" = some (.str LETT a.tLE)
  gRM : mg "RESULT_MOST" = some (.int 200 a.tRM)
  gOP : mg "OPENING" = some (.ref a.aOP)
  op : KDict K w a.aOP a.es a.n
  opIn : ∀ z : Str, PySem.W.nsIn K a.aOP z = some (if z = "<" then some (.str ">" a.t1) else if z = "[" then some (.str "]" a.t2) else none)
  gNO : mg "NOTHING" = some (.ref a.aNO)
  no : ∀ H, SqT K H a.aNO [.str "text", .str "?", .ref a.aN0]
  n0 : ∀ H, SqT K H a.aN0 []
  gRe : mg "Renderer" = some (.ref a.C)
  nlen : mg "len" = none
  nall : mg "all" = none
  nsorted : mg "sorted" = none
  nlist : mg "list" = none
  ntuple : mg "tuple" = none
  nint : mg "int" = none
  nmax : mg "max" = none
  nrepr : mg "repr" = none
  nrange : mg "range" = none
end Pg


set_option Elab.async false
set_option linter.all false
set_option maxRecDepth 100000
set_option maxHeartbeats 2000000
/-! texts, names, brackets: plain functions and their facts -/
namespace Pg
open PySem PySem.Builtin PySem.Builtin.Str PySem.StrLaws

abbrev tl (x : Str) : List Nat := x.cps.toList
theorem len_tl (x : Str) : x.length = (tl x).length := TL.len_tl x
theorem ext_tl {x y : Str} (h : tl x = tl y) : x = y := TL.ext_tl h
theorem tl_append (x y : Str) : tl (x ++ y) = tl x ++ tl y := TL.tl_append x y
theorem len_append (x y : Str) : (x ++ y).length = x.length + y.length := by rw [len_tl, len_tl, len_tl, tl_append, List.length_append]
/-- a text of one sign -/
abbrev ch (c : Nat) : Str := ⟨#[c]⟩
theorem ch_inj {c d : Nat} (h : ch c = ch d) : c = d := by
  have e : tl (ch c) = tl (ch d) := by rw [h]
  simpa [tl] using e

/-! ### order -/
def after (a b : Str) : Bool := decide (tl b < tl a)
theorem after_irrefl (a : Str) : after a a = false := decide_eq_false (List.lt_irrefl _)
theorem after_trans {a b c : Str} (h1 : after a b = true) (h2 : after b c = true) : after a c = true :=
  decide_eq_true (List.lt_trans (of_decide_eq_true h2) (of_decide_eq_true h1))
theorem after_tri {a b : Str} (h1 : after a b = false) (h2 : after b a = false) : a = b := by
  have g1 : ¬ tl b < tl a := of_decide_eq_false h1
  have g2 : ¬ tl a < tl b := of_decide_eq_false h2
  exact ext_tl (List.le_antisymm g1 g2)
theorem after_asymm {a b : Str} (h1 : after a b = true) : after b a = false := by
  cases h : after b a with
  | false => rfl
  | true =>
    have := after_trans h1 h
    rw [after_irrefl] at this
    cases this

/-! ### good texts -/
/-- at most n signs, each plain -/
def Good (n : Nat) (z : Str) : Prop := z.length ≤ n ∧ ∀ c ∈ tl z, c < 128
theorem Good.mono {m n : Nat} {z : Str} (h : Good m z) (k : m ≤ n) : Good n z := ⟨Nat.le_trans h.1 k, h.2⟩
theorem Good.append {m n : Nat} {x y : Str} (h1 : Good m x) (h2 : Good n y) : Good (m + n) (x ++ y) :=
  ⟨by rw [len_append]; exact Nat.add_le_add h1.1 h2.1, fun c hc => by
    rw [tl_append] at hc
    exact (List.mem_append.mp hc).elim (h1.2 c) (h2.2 c)⟩
def goodB (n : Nat) (z : Str) : Bool := decide (z.length ≤ n) && (tl z).all fun c => decide (c < 128)
theorem good_of {n : Nat} {z : Str} (h : goodB n z = true) : Good n z := by
  unfold goodB at h
  rw [Bool.and_eq_true] at h
  exact ⟨of_decide_eq_true h.1, fun c hc => of_decide_eq_true (List.all_eq_true.mp h.2 c hc)⟩

/-! ### pieces of a text -/
def sub (z : Str) (i j : Nat) : Str := ⟨(((tl z).drop i).take (j - i)).toArray⟩
theorem tl_sub (z : Str) (i j : Nat) : tl (sub z i j) = ((tl z).drop i).take (j - i) := rfl
theorem good_sub {n : Nat} {z : Str} (h : Good n z) (i j : Nat) : Good n (sub z i j) := by
  refine ⟨?_, fun c hc => h.2 c ?_⟩
  · rw [len_tl, tl_sub, List.length_take, List.length_drop]
    have := h.1
    rw [len_tl] at this
    omega
  · rw [tl_sub] at hc
    exact List.mem_of_mem_drop (List.mem_of_mem_take hc)
theorem cut_nat (z : Str) (i j : Nat) : L2.cutS z (some (i : Int)) (some (j : Int)) = sub z i j := by
  apply ext_tl
  show ((tl z).drop (HT.sIx z.length 0 (some (i : Int)))).take (HT.sIx z.length z.length (some (j : Int)) - HT.sIx z.length 0 (some (i : Int))) = ((tl z).drop i).take (j - i)
  rw [HT.sIx_nat, HT.sIx_nat, len_tl]
  by_cases hi : i ≤ (tl z).length
  · rw [Nat.min_eq_left hi]
    apply List.ext_getElem?
    intro k
    rw [List.getElem?_take, List.getElem?_take]
    by_cases hk : k < min j (tl z).length - i
    · rw [if_pos hk, if_pos (by omega)]
    · rw [if_neg hk]
      by_cases hk2 : k < j - i
      · rw [if_pos hk2, List.getElem?_drop, List.getElem?_eq_none (by omega)]
      · rw [if_neg hk2]
  · rw [List.drop_eq_nil_of_le (by omega : (tl z).length ≤ min i (tl z).length), List.drop_eq_nil_of_le (by omega : (tl z).length ≤ i)]
    simp
theorem cut_from (z : Str) (i : Nat) : L2.cutS z (some (i : Int)) none = sub z i z.length := by
  rw [← cut_nat z i z.length]
  apply ext_tl
  show ((tl z).drop (HT.sIx z.length 0 (some (i : Int)))).take (z.length - HT.sIx z.length 0 (some (i : Int))) = ((tl z).drop (HT.sIx z.length 0 (some (i : Int)))).take (HT.sIx z.length z.length (some (z.length : Int)) - HT.sIx z.length 0 (some (i : Int)))
  rw [HT.sIx_nat, HT.sIx_nat, Nat.min_self]
theorem cut_to (z : Str) (j : Nat) : L2.cutS z none (some (j : Int)) = sub z 0 j := by
  rw [← cut_nat z 0 j]
  rfl
theorem sub_sub (z : Str) (i j k : Nat) (h : (sub z i j).length ≤ (sub z i j).length) : sub (sub z i j) k (sub z i j).length = sub z (i + k) j := by
  apply ext_tl
  rw [tl_sub, tl_sub, tl_sub, len_tl, tl_sub]
  apply List.ext_getElem?
  intro m
  rw [List.getElem?_take, List.getElem?_drop, List.getElem?_take, List.getElem?_drop, List.getElem?_take, List.getElem?_drop]
  simp only [List.length_take, List.length_drop]
  by_cases h1 : k + m < j - i
  · rw [if_pos h1, if_pos (show m < j - (i + k) by omega), show i + k + m = i + (k + m) by omega]
    by_cases h2 : m < min (j - i) ((tl z).length - i) - k
    · rw [if_pos h2]
    · rw [if_neg h2, List.getElem?_eq_none (by omega)]
  · rw [if_neg h1, if_neg (show ¬ m < j - (i + k) by omega)]
    split <;> rfl

/-! ### find -/
theorem occ_lo (s sb : Str) (hi limit lo : Nat) : ∀ (l : List Nat) (st : Array Nat × Nat), (∀ i ∈ st.fst, lo ≤ i) → (∀ i ∈ l, lo ≤ i) → ∀ i ∈ (forIn l st (occBody s sb hi limit)).run.fst, lo ≤ i
  | [], st, h, _ => h
  | a :: l, st, h, hl => by
    rw [List.forIn_cons]
    unfold occBody
    have hl' : ∀ i ∈ l, lo ≤ i := fun i m => hl i (List.mem_cons_of_mem _ m)
    split
    · refine occ_lo s sb hi limit lo l _ (fun i hi' => ?_) hl'
      simp only [Array.mem_push] at hi'
      exact hi'.elim (h i) fun e => by rw [e]; exact hl a List.mem_cons_self
    · exact occ_lo s sb hi limit lo l _ h hl'
theorem occ_ge (s sb : Str) (lo hi limit : Nat) : ∀ i ∈ occurrences s sb lo hi limit, lo ≤ i := by
  rw [occ_eq]
  intro i h
  refine occ_lo s sb hi limit lo _ _ (fun j hj => absurd hj (Array.not_mem_empty j)) (fun j hj => ?_) i (by simpa using h)
  rw [List.mem_range'] at hj
  obtain ⟨k, _, e⟩ := hj
  omega
/-- the place of the first sign c from i on -/
def fnd (z : Str) (c i : Nat) : Option Nat := if Txt.find3 z (ch c) (i : Int) < 0 then none else some (Txt.find3 z (ch c) (i : Int)).toNat
theorem fnd_spec {z : Str} {c i e : Nat} (hi : i ≤ z.length) (h : fnd z c i = some e) : i ≤ e ∧ e < z.length ∧ (tl z)[e]? = some c := by
  unfold fnd at h
  split at h
  · cases h
  · rename_i hn
    have h' := Option.some.inj h
    unfold Txt.find3 at h' hn
    have hf : fromIndex z.length (i : Int) = i := by
      unfold fromIndex
      rw [if_neg (by omega)]
      omega
    rw [hf] at h' hn
    cases ho : occurrences z (ch c) i z.length 1 with
    | nil =>
      rw [ho] at hn
      exact absurd (by show (-1 : Int) < 0; decide) hn
    | cons k r =>
      rw [ho] at h'
      have hk : k = e := by
        have h2 : ((k : Int)).toNat = e := h'
        omega
      subst hk
      have m : k ∈ occurrences z (ch c) i z.length 1 := by rw [ho]; exact List.mem_cons_self
      have h1 := occ_spec z (ch c) i z.length 1 k m
      have h2 := occ_ge z (ch c) i z.length 1 k m
      have l1 : (ch c).length = 1 := rfl
      rw [l1] at h1
      refine ⟨h2, by omega, ?_⟩
      have h3 := h1.2
      rw [subAt_eq, l1] at h3
      have h4 : ((tl z).drop k).take 1 = [c] := eq_of_beq h3
      have h5 : (((tl z).drop k).take 1)[0]? = some c := by rw [h4]; rfl
      rw [List.getElem?_take, if_pos (by omega), List.getElem?_drop, Nat.add_zero] at h5
      exact h5
theorem fnd_lt {z : Str} {c i : Nat} : Txt.find3 z (ch c) (i : Int) < 0 ↔ fnd z c i = none := by
  unfold fnd
  constructor
  · intro h
    rw [if_pos h]
  · intro h
    split at h
    · assumption
    · cases h
theorem fnd_some {z : Str} {c i e : Nat} (h : fnd z c i = some e) : Txt.find3 z (ch c) (i : Int) = (e : Int) := by
  unfold fnd at h
  split at h
  · cases h
  · have := Option.some.inj h
    omega
end Pg


set_option Elab.async false
set_option linter.all false
set_option maxRecDepth 100000
set_option maxHeartbeats 2000000
/-! names, brackets, segments -/
namespace Pg
open PySem

def isName (z : Str) : Bool := (decide ((1 : Int) ≤ z.length) && decide ((z.length : Int) ≤ 6)) && (tl z).all fun c => decide (c ∈ tl LETT)
theorem isName_len {z : Str} (h : isName z = true) : 1 ≤ z.length ∧ z.length ≤ 6 := by
  unfold isName at h
  rw [Bool.and_eq_true, Bool.and_eq_true] at h
  have h1 := of_decide_eq_true h.1.1
  have h2 := of_decide_eq_true h.1.2
  omega
theorem lett_small : ∀ c ∈ tl LETT, c < 128 := by decide +kernel
theorem isName_good {z : Str} (h : isName z = true) : Good 6 z := by
  refine ⟨(isName_len h).2, fun c hc => ?_⟩
  unfold isName at h
  rw [Bool.and_eq_true] at h
  exact lett_small c (of_decide_eq_true (List.all_eq_true.mp h.2 c hc))
theorem isName_at {z : Str} (h : isName z = true) : ∃ c r, tl z = c :: r ∧ c ∈ tl LETT := by
  have h1 := (isName_len h).1
  rw [len_tl] at h1
  cases e : tl z with
  | nil => rw [e] at h1; exact absurd h1 (by decide)
  | cons c r =>
    refine ⟨c, r, rfl, ?_⟩
    unfold isName at h
    rw [Bool.and_eq_true] at h
    exact of_decide_eq_true (List.all_eq_true.mp h.2 c (by rw [e]; exact List.mem_cons_self))

inductive Kd where
  | txt | lnk | inc | ind
  deriving DecidableEq
def Kd.s : Kd → Str
  | .txt => "text"
  | .lnk => "link"
  | .inc => "include"
  | .ind => "indirect"
abbrev Sg := Kd × Str

/-- does an at sign stand at i -/
def atAt (z : Str) (i : Nat) : Bool := decide ((tl z)[i]? = some 64)
/-- the segment that is no text at a place, and where it ends -/
def seg (name z : Str) (i : Nat) : Option (Kd × Str × Nat) :=
  match (tl z)[i]? with
  | none => none
  | some c =>
    if c = 91 then
      match fnd z 93 i with
      | none => none
      | some e => if isName (sub z (i + 1) e) = true then some (.lnk, sub z (i + 1) e, e + 1) else none
    else if c = 60 then
      match fnd z 62 i with
      | none => none
      | some e =>
        if atAt z (i + 1) = true then
          if isName (sub z (i + 2) e) = true ∧ after (sub z (i + 2) e) name = true then some (.ind, sub z (i + 2) e, e + 1) else none
        else
          if isName (sub z (i + 1) e) = true ∧ after (sub z (i + 1) e) name = true then some (.inc, sub z (i + 1) e, e + 1) else none
    else none
theorem seg_spec {name z : Str} {i e : Nat} {k : Kd} {s : Str} (hi : i ≤ z.length) (h : seg name z i = some (k, s, e)) :
    i < e ∧ e ≤ z.length ∧ isName s = true ∧ k ≠ .txt ∧ (k ≠ .lnk → after s name = true) := by
  unfold seg at h
  split at h
  · cases h
  · split at h
    · split at h
      · cases h
      · rename_i e' hf
        obtain ⟨f1, f2, f3⟩ := fnd_spec hi hf
        split at h
        · rename_i hn
          have h' := Option.some.inj h
          injection h' with a1 a2
          injection a2 with a2 a3
          subst a1 a2 a3
          exact ⟨by omega, by omega, hn, by decide, fun q => absurd rfl q⟩
        · cases h
    · split at h
      · split at h
        · cases h
        · rename_i e' hf
          obtain ⟨f1, f2, f3⟩ := fnd_spec hi hf
          split at h
          · split at h
            · rename_i hn
              have h' := Option.some.inj h
              injection h' with a1 a2
              injection a2 with a2 a3
              subst a1 a2 a3
              exact ⟨by omega, by omega, hn.1, by decide, fun _ => hn.2⟩
            · cases h
          · split at h
            · rename_i hn
              have h' := Option.some.inj h
              injection h' with a1 a2
              injection a2 with a2 a3
              subst a1 a2 a3
              exact ⟨by omega, by omega, hn.1, by decide, fun _ => hn.2⟩
            · cases h
      · cases h

/-! ### segments -/
def flush (p : Str) : List Sg := if p.length = 0 then [] else [(.txt, p)]
/-- the segments from the place i on, p the plain signs that stand ahead; n is enough turns -/
def go (name z : Str) : Nat → Nat → Str → List Sg
  | 0, _, p => flush p
  | n + 1, i, p => match (tl z)[i]? with
    | none => flush p
    | some c => match seg name z i with
      | none => go name z n (i + 1) (p ++ ch c)
      | some (k, s, e) => flush p ++ (k, s) :: go name z n e Str.empty
def split (name z : Str) : List Sg := go name z z.length 0 Str.empty

/-- more turns than enough change nothing -/
theorem go_more (name z : Str) : ∀ (n m i : Nat) (p : Str), z.length ≤ i + n → n ≤ m → go name z m i p = go name z n i p
  | 0, m, i, p, h, _ => by
    have e : (tl z)[i]? = none := List.getElem?_eq_none (by rw [← len_tl]; omega)
    cases m with
    | zero => rfl
    | succ m =>
      show (match (tl z)[i]? with | none => flush p | some c => _) = flush p
      rw [e]
  | n + 1, 0, i, p, _, h => absurd h (by omega)
  | n + 1, m + 1, i, p, h, hm => by
    show (match (tl z)[i]? with | none => flush p | some c => match seg name z i with | none => go name z m (i + 1) (p ++ ch c) | some (k, s, e) => flush p ++ (k, s) :: go name z m e Str.empty) =
      (match (tl z)[i]? with | none => flush p | some c => match seg name z i with | none => go name z n (i + 1) (p ++ ch c) | some (k, s, e) => flush p ++ (k, s) :: go name z n e Str.empty)
    cases hc : (tl z)[i]? with
    | none => rfl
    | some c =>
      have hi : i < z.length := by
        rw [len_tl]
        exact (List.getElem?_eq_some_iff.mp hc).1
      cases hs : seg name z i with
      | none => exact go_more name z n m (i + 1) _ (by omega) (by omega)
      | some q =>
        obtain ⟨k, s, e⟩ := q
        have hsp := seg_spec (by omega) hs
        show flush p ++ (k, s) :: go name z m e Str.empty = flush p ++ (k, s) :: go name z n e Str.empty
        rw [go_more name z n m e _ (by omega) (by omega)]
/-- the segments from i on -/
def rest (name z : Str) (i : Nat) (p : Str) : List Sg := go name z (z.length - i) i p
theorem rest_end {name z : Str} {i : Nat} {p : Str} (h : z.length ≤ i) : rest name z i p = flush p := by
  unfold rest
  rw [show z.length - i = 0 by omega]
  rfl
theorem rest_plain {name z : Str} {i c : Nat} {p : Str} (hc : (tl z)[i]? = some c) (hs : seg name z i = none) : rest name z i p = rest name z (i + 1) (p ++ ch c) := by
  have hi : i < z.length := by
    rw [len_tl]
    exact (List.getElem?_eq_some_iff.mp hc).1
  unfold rest
  obtain ⟨n, hn⟩ : ∃ n, z.length - i = n + 1 := ⟨z.length - i - 1, by omega⟩
  rw [hn, show z.length - (i + 1) = n by omega]
  show (match (tl z)[i]? with | none => flush p | some c => match seg name z i with | none => go name z n (i + 1) (p ++ ch c) | some (k, s, e) => flush p ++ (k, s) :: go name z n e Str.empty) = _
  rw [hc, hs]
theorem rest_seg {name z : Str} {i e : Nat} {k : Kd} {s p : Str} (hi : i < z.length) (hs : seg name z i = some (k, s, e)) : rest name z i p = flush p ++ (k, s) :: rest name z e Str.empty := by
  unfold rest
  obtain ⟨n, hn⟩ : ∃ n, z.length - i = n + 1 := ⟨z.length - i - 1, by omega⟩
  obtain ⟨c, hc⟩ : ∃ c, (tl z)[i]? = some c := ⟨_, List.getElem?_eq_getElem (by rw [← len_tl]; exact hi)⟩
  have hsp := seg_spec (by omega) hs
  rw [hn]
  show (match (tl z)[i]? with | none => flush p | some c => match seg name z i with | none => go name z n (i + 1) (p ++ ch c) | some (k, s, e) => flush p ++ (k, s) :: go name z n e Str.empty) = _
  rw [hc, hs]
  show flush p ++ (k, s) :: go name z n e Str.empty = _
  rw [go_more name z (z.length - e) n e _ (by omega) (by omega)]
theorem split_rest (name z : Str) : split name z = rest name z 0 Str.empty := rfl

/-! ### facts of all segments -/
/-- what holds of a segment of the text of name -/
structure SgOk (n : Nat) (name : Str) (g : Sg) : Prop where
  good : Good n g.2
  nm : g.1 ≠ .txt → isName g.2 = true
  aft : g.1 ≠ .txt → g.1 ≠ .lnk → after g.2 name = true
theorem flush_ok {n : Nat} {name p : Str} (hp : Good n p) : ∀ g ∈ flush p, SgOk n name g := by
  intro g hg
  unfold flush at hg
  split at hg
  · cases hg
  · have e := List.mem_singleton.mp hg
    subst e
    exact ⟨hp, fun q => absurd rfl q, fun q => absurd rfl q⟩
theorem flush_len (p : Str) : (flush p).length ≤ 1 := by
  unfold flush
  split <;> simp
theorem good_ch {n : Nat} {z : Str} {i c : Nat} (h : Good n z) (hc : (tl z)[i]? = some c) : Good 1 (ch c) :=
  ⟨Nat.le_refl _, fun d hd => by
    have e : d = c := by simpa [tl] using hd
    rw [e]
    exact h.2 c (List.mem_of_getElem? hc)⟩
theorem go_ok {m : Nat} (name z : Str) (hz : Good m z) (hm : 6 ≤ m) : ∀ (n i : Nat) (p : Str), i ≤ z.length → Good i p → ∀ g ∈ go name z n i p, SgOk m name g
  | 0, i, p, hi, hp => flush_ok (hp.mono (Nat.le_trans hi hz.1))
  | n + 1, i, p, hi, hp => by
    intro g hg
    have hf := flush_ok (name := name) (hp.mono (Nat.le_trans hi hz.1))
    have hg : g ∈ (match (tl z)[i]? with | none => flush p | some c => match seg name z i with | none => go name z n (i + 1) (p ++ ch c) | some (k, s, e) => flush p ++ (k, s) :: go name z n e Str.empty) := hg
    cases hc : (tl z)[i]? with
    | none =>
      rw [hc] at hg
      exact hf g hg
    | some c =>
      rw [hc] at hg
      have hi' : i < z.length := by
        rw [len_tl]
        exact (List.getElem?_eq_some_iff.mp hc).1
      cases hs : seg name z i with
      | none =>
        rw [hs] at hg
        exact go_ok name z hz hm n (i + 1) _ hi' (hp.append (good_ch hz hc)) g hg
      | some q =>
        obtain ⟨k, s, e⟩ := q
        rw [hs] at hg
        obtain ⟨s1, s2, s3, s4, s5⟩ := seg_spec hi hs
        rcases List.mem_append.mp hg with hg | hg
        · exact hf g hg
        · rcases List.mem_cons.mp hg with e1 | hg
          · subst e1
            exact ⟨(isName_good s3).mono hm, fun _ => s3, fun _ h => s5 h⟩
          · exact go_ok name z hz hm n e Str.empty s2 ⟨Nat.zero_le _, fun c hc => by cases hc⟩ g hg
theorem go_len (name z : Str) : ∀ (n i : Nat) (p : Str), (go name z n i p).length ≤ 2 * n + 1
  | 0, i, p => Nat.le_trans (flush_len p) (by omega)
  | n + 1, i, p => by
    have hf := flush_len p
    show (match (tl z)[i]? with | none => flush p | some c => match seg name z i with | none => go name z n (i + 1) (p ++ ch c) | some (k, s, e) => flush p ++ (k, s) :: go name z n e Str.empty).length ≤ _
    cases hc : (tl z)[i]? with
    | none => exact Nat.le_trans hf (by omega)
    | some c =>
      cases hs : seg name z i with
      | none =>
        have := go_len name z n (i + 1) (p ++ ch c)
        show (go name z n (i + 1) (p ++ ch c)).length ≤ _
        omega
      | some q =>
        obtain ⟨k, s, e⟩ := q
        have := go_len name z n e Str.empty
        show (flush p ++ (k, s) :: go name z n e Str.empty).length ≤ _
        rw [List.length_append, List.length_cons]
        omega
theorem split_ok {m : Nat} {name z : Str} (hz : Good m z) (hm : 6 ≤ m) : ∀ g ∈ split name z, SgOk m name g :=
  go_ok name z hz hm _ 0 _ (Nat.zero_le _) ⟨Nat.zero_le _, fun c hc => by cases hc⟩
theorem split_len (name z : Str) : (split name z).length ≤ 2 * z.length + 1 := go_len name z _ _ _
end Pg


set_option Elab.async false
set_option linter.all false
set_option maxRecDepth 100000
set_option maxHeartbeats 2000000
/-! rising lists, results, dependencies, what a name renders to -/
namespace Pg
open PySem PySem.Spec PyProof.Rows

/-! ### rising lists -/
/-- strictly rising -/
def Rise (l : List Str) : Prop := l.Pairwise fun a b => after b a = true
def ins (x : Str) : List Str → List Str
  | [] => [x]
  | y :: r => if after y x = true then x :: y :: r else if after x y = true then y :: ins x r else y :: r
def rise (l : List Str) : List Str := l.foldr ins []
theorem mem_ins {x z : Str} : ∀ {l : List Str}, z ∈ ins x l ↔ z = x ∨ z ∈ l
  | [] => by simp [ins]
  | y :: r => by
    unfold ins
    split
    · simp
    · split
      · rw [List.mem_cons, mem_ins, List.mem_cons]
        constructor
        · rintro (h | h | h)
          · exact .inr (.inl h)
          · exact .inl h
          · exact .inr (.inr h)
        · rintro (h | h | h)
          · exact .inr (.inl h)
          · exact .inl h
          · exact .inr (.inr h)
      · rename_i h1 h2
        have e : x = y := after_tri (Bool.eq_false_iff.mpr h2) (Bool.eq_false_iff.mpr h1)
        subst e
        constructor
        · exact .inr
        · rintro (h | h)
          · rw [h]
            exact List.mem_cons_self
          · exact h
theorem rise_ins {x : Str} : ∀ {l : List Str}, Rise l → Rise (ins x l)
  | [], _ => List.pairwise_singleton _ _
  | y :: r, h => by
    have h' := List.pairwise_cons.mp h
    unfold ins
    split
    · rename_i h1
      refine List.pairwise_cons.mpr ⟨fun z hz => ?_, h⟩
      rcases List.mem_cons.mp hz with e | hz
      · rw [e]
        exact h1
      · exact after_trans (h'.1 z hz) h1
    · split
      · rename_i h1 h2
        refine List.pairwise_cons.mpr ⟨fun z hz => ?_, rise_ins h'.2⟩
        rcases mem_ins.mp hz with e | hz
        · rw [e]
          exact h2
        · exact h'.1 z hz
      · exact h
theorem rise_rise : ∀ l : List Str, Rise (rise l)
  | [] => List.Pairwise.nil
  | x :: r => rise_ins (rise_rise r)
theorem mem_rise {z : Str} : ∀ {l : List Str}, z ∈ rise l ↔ z ∈ l
  | [] => Iff.rfl
  | x :: r => by
    show z ∈ ins x (rise r) ↔ _
    rw [mem_ins, mem_rise, List.mem_cons]
theorem Rise.uniq : ∀ {l m : List Str}, Rise l → Rise m → (∀ z, z ∈ l ↔ z ∈ m) → l = m
  | [], [], _, _, _ => rfl
  | [], y :: m, _, _, h => absurd ((h y).mpr List.mem_cons_self) (by simp)
  | x :: l, [], _, _, h => absurd ((h x).mp List.mem_cons_self) (by simp)
  | x :: l, y :: m, hl, hm, h => by
    have hl' := List.pairwise_cons.mp hl
    have hm' := List.pairwise_cons.mp hm
    have e : x = y := by
      rcases List.mem_cons.mp ((h x).mp List.mem_cons_self) with e | hx
      · exact e
      · rcases List.mem_cons.mp ((h y).mpr List.mem_cons_self) with e | hy
        · exact e.symm
        · have h1 := hm'.1 x hx
          have h2 := hl'.1 y hy
          rw [after_asymm h1] at h2
          cases h2
    subst e
    have self : ∀ {z : Str}, (∀ w ∈ l, after w x = true) → z ∈ l → z ≠ x := fun {z} k hz e => by
      have := k z hz
      rw [e, after_irrefl] at this
      cases this
    have self' : ∀ {z : Str}, z ∈ m → z ≠ x := fun {z} hz e => by
      have := hm'.1 z hz
      rw [e, after_irrefl] at this
      cases this
    rw [Rise.uniq hl'.2 hm'.2 fun z => ⟨fun hz => (List.mem_cons.mp ((h z).mp (List.mem_cons_of_mem _ hz))).resolve_left (self hl'.1 hz), fun hz => (List.mem_cons.mp ((h z).mpr (List.mem_cons_of_mem _ hz))).resolve_left (self' hz)⟩]
theorem Rise.nodup {l : List Str} (h : Rise l) : l.Nodup := List.Pairwise.imp (fun {a b} (q : after b a = true) e => by rw [e, after_irrefl] at q; cases q) h
/-- not falling -/
def Up (l : List Str) : Prop := l.Pairwise fun a b => after a b = false
theorem up_of : ∀ {l : List Str}, PyProof.Rows.sortedS l = true → Up l := by
  have lt : ∀ {a b : Str}, (!ltCps (tl b) (tl a)) = true → after a b = false := fun {a b} h => by
    show decide (tl b < tl a) = false
    rw [ltCps_eq] at h
    simpa using h
  have tr : ∀ {a b c : Str}, after a b = false → after b c = false → after a c = false := fun {a b c} h1 h2 => by
    cases h : after a c with
    | false => rfl
    | true =>
      cases hb : after b a with
      | true =>
        have := after_trans hb h
        rw [h2] at this
        cases this
      | false =>
        rw [after_tri h1 hb] at h
        rw [h2] at h
        cases h
  have go : ∀ (l : List Str) (p : Str), PyProof.Rows.risingS p l = true → (∀ z ∈ l, after p z = false) ∧ Up l := by
    intro l
    induction l with
    | nil => exact fun p _ => ⟨fun z hz => (by cases hz), List.Pairwise.nil⟩
    | cons x r ih =>
      intro p h
      have h' : (!ltCps (tl x) (tl p)) = true ∧ PyProof.Rows.risingS x r = true := Bool.and_eq_true_iff.mp h
      obtain ⟨i1, i2⟩ := ih x h'.2
      have e := lt h'.1
      refine ⟨fun z hz => ?_, List.pairwise_cons.mpr ⟨i1, i2⟩⟩
      rcases List.mem_cons.mp hz with e1 | hz
      · rw [e1]
        exact e
      · exact tr e (i1 z hz)
  intro l h
  cases l with
  | nil => exact List.Pairwise.nil
  | cons x r =>
    obtain ⟨i1, i2⟩ := go r x h
    exact List.pairwise_cons.mpr ⟨i1, i2⟩
/-- texts in order, none twice -/
theorem Up.rise {l : List Str} (h : Up l) (hn : l.Nodup) : Rise l := by
  refine List.Pairwise.imp₂ (fun a b h1 h2 => ?_) h hn
  cases e : after b a with
  | true => rfl
  | false => exact absurd (after_tri h1 e) h2
/-- sorted(d) of different texts -/
theorem sorted_rise {ys ss : List Str} (hp : ys.Perm ss) (hs : PyProof.Rows.sortedS ys = true) (hn : ss.Nodup) : ys = rise ss :=
  Rise.uniq ((up_of hs).rise (hp.nodup_iff.mpr hn)) (rise_rise ss) fun z => (hp.mem_iff).trans mem_rise.symm
theorem nodup_sub : ∀ {l m : List Str}, l.Nodup → (∀ z ∈ l, z ∈ m) → l.length ≤ m.length
  | [], m, _, _ => Nat.zero_le _
  | x :: l, m, hn, h => by
    have hn' := List.nodup_cons.mp hn
    have hx := h x List.mem_cons_self
    have h2 := nodup_sub (m := m.erase x) hn'.2 fun z hz => (List.mem_erase_of_ne fun e => hn'.1 (by rw [← e]; exact hz)).mpr (h z (List.mem_cons_of_mem _ hz))
    rw [List.length_erase_of_mem hx] at h2
    have := List.length_pos_of_mem hx
    rw [List.length_cons]
    omega

/-! ### results -/
inductive Res where
  | text (c : Str) (ls : List Str)
  | failed (n : Str)
  | long (n : Str)
  deriving DecidableEq
def nothing : Res := .text "?" []
def Res.isT : Res → Bool
  | .text _ _ => true
  | _ => false
def Res.ch : Res → Str
  | .text c _ => c
  | _ => Str.empty
def Res.ls : Res → List Str
  | .text _ l => l
  | _ => []
theorem Res.eta {r : Res} (h : r.isT = true) : r = .text r.ch r.ls := by
  cases r <;> first | rfl | cases h
/-- the name to which an indirect inclusion leads -/
def leads (name : Str) : Res → Option Str
  | .text c _ => if isName c = true ∧ after c name = true then some c else none
  | _ => none
theorem leads_spec {name t : Str} {r : Res} (h : leads name r = some t) : r.isT = true ∧ r.ch = t ∧ isName t = true ∧ after t name = true := by
  cases r with
  | text c l =>
    have h : (if isName c = true ∧ after c name = true then some c else none) = some t := h
    by_cases hc : isName c = true ∧ after c name = true
    · rw [if_pos hc] at h
      have e := Option.some.inj h
      subst e
      exact ⟨rfl, rfl, hc.1, hc.2⟩
    · rw [if_neg hc] at h
      cases h
  | failed n => cases h
  | long n => cases h
abbrev Dep := Str × Res
section
variable (R : Str → Res) (name : Str)
def dep1 : Sg → List Dep
  | (.inc, s) => [(s, R s)]
  | (.ind, s) => (s, R s) :: (match leads name (R s) with
    | none => []
    | some t => [(t, R t)])
  | _ => []
def deps (gs : List Sg) : List Dep := gs.flatMap (dep1 R name)
/-- the result that a segment takes -/
def chosen : Sg → Res
  | (.ind, s) => match leads name (R s) with
    | none => nothing
    | some t => R t
  | (_, s) => R s
def stepC (acc : Str) : Sg → Str
  | (.txt, s) => acc ++ s
  | (.lnk, s) => acc ++ "[" ++ s ++ "]"
  | g => acc ++ (chosen R name g).ch
def linksOf : Sg → List Str
  | (.txt, _) => []
  | (.lnk, s) => [s]
  | g => (chosen R name g).ls
def chars (gs : List Sg) : Str := gs.foldl (stepC R name) Str.empty
def links (gs : List Sg) : List Str := gs.flatMap (linksOf R name)
def fails (z : Str) : Int := Txt.count z "!"
/-- what a name with a text renders to -/
def rend (att : Int) (z : Str) : Res :=
  if att ≤ fails z then .failed name
  else match (deps R name (split name z)).find? (fun d => !d.2.isT) with
    | some d => d.2
    | none => if 200 < (chars R name (split name z)).length then .long name else .text (chars R name (split name z)) (rise (links R name (split name z)))
end

theorem deps_nil (R : Str → Res) (name : Str) : deps R name [] = [] := rfl
theorem deps_snoc (R : Str → Res) (name : Str) (gs : List Sg) (g : Sg) : deps R name (gs ++ [g]) = deps R name gs ++ dep1 R name g := by
  unfold deps
  rw [List.flatMap_append]
  simp
theorem chars_snoc (R : Str → Res) (name : Str) (gs : List Sg) (g : Sg) : chars R name (gs ++ [g]) = stepC R name (chars R name gs) g := by
  unfold chars
  rw [List.foldl_append]
  rfl
theorem links_snoc (R : Str → Res) (name : Str) (gs : List Sg) (g : Sg) : links R name (gs ++ [g]) = links R name gs ++ linksOf R name g := by
  unfold links
  rw [List.flatMap_append]
  simp
theorem take_snoc {α : Type} {l : List α} {i : Nat} {x : α} (h : l[i]? = some x) : l.take (i + 1) = l.take i ++ [x] := by
  rw [List.take_add_one, h]
  rfl
theorem dep1_len (R : Str → Res) (name : Str) (g : Sg) : (dep1 R name g).length ≤ 2 := by
  obtain ⟨k, s⟩ := g
  cases k with
  | txt => exact Nat.zero_le _
  | lnk => exact Nat.zero_le _
  | inc => exact Nat.le_succ _
  | ind =>
    show ((s, R s) :: _).length ≤ 2
    cases leads name (R s) <;> simp
theorem deps_len (R : Str → Res) (name : Str) : ∀ gs : List Sg, (deps R name gs).length ≤ 2 * gs.length
  | [] => Nat.le_refl _
  | g :: r => by
    have h1 := dep1_len R name g
    have h2 := deps_len R name r
    show (dep1 R name g ++ deps R name r).length ≤ _
    rw [List.length_append, List.length_cons]
    omega

/-- every dependency is a name after this one with its result -/
theorem dep1_spec {R : Str → Res} {name : Str} {n : Nat} {g : Sg} (hg : SgOk n name g) : ∀ d ∈ dep1 R name g, d.2 = R d.1 ∧ isName d.1 = true ∧ after d.1 name = true := by
  obtain ⟨k, s⟩ := g
  intro d hd
  cases k with
  | txt => cases hd
  | lnk => cases hd
  | inc =>
    have e := List.mem_singleton.mp hd
    subst e
    exact ⟨rfl, hg.nm (by simp), hg.aft (by simp) (by simp)⟩
  | ind =>
    have hd : d ∈ (s, R s) :: (match leads name (R s) with | none => [] | some t => [(t, R t)]) := hd
    rcases List.mem_cons.mp hd with e | hd
    · subst e
      exact ⟨rfl, hg.nm (by simp), hg.aft (by simp) (by simp)⟩
    · cases e : leads name (R s) with
      | none =>
        rw [e] at hd
        cases hd
      | some t =>
        rw [e] at hd
        have e2 := List.mem_singleton.mp hd
        subst e2
        obtain ⟨_, _, h1, h2⟩ := leads_spec e
        exact ⟨rfl, h1, h2⟩
theorem deps_spec {R : Str → Res} {name : Str} {n : Nat} {gs : List Sg} (hg : ∀ g ∈ gs, SgOk n name g) : ∀ d ∈ deps R name gs, d.2 = R d.1 ∧ isName d.1 = true ∧ after d.1 name = true := by
  intro d hd
  obtain ⟨g, h1, h2⟩ := List.mem_flatMap.mp hd
  exact dep1_spec (hg g h1) d h2

/-! ### what is asked of names after this one alone -/
section
variable {R R' : Str → Res} {name : Str} {n : Nat}
theorem dep1_congr {g : Sg} (hg : SgOk n name g) (h : ∀ x, after x name = true → R x = R' x) : dep1 R name g = dep1 R' name g ∧ ((g.1 = .inc ∨ g.1 = .ind) → chosen R name g = chosen R' name g) := by
  obtain ⟨k, s⟩ := g
  cases k with
  | txt => exact ⟨rfl, fun q => by rcases q with q | q <;> cases q⟩
  | lnk => exact ⟨rfl, fun q => by rcases q with q | q <;> cases q⟩
  | inc =>
    have e := h s (hg.aft (by simp) (by simp))
    exact ⟨by show [(s, R s)] = [(s, R' s)]; rw [e], fun _ => e⟩
  | ind =>
    have e := h s (hg.aft (by simp) (by simp))
    constructor
    · show (s, R s) :: _ = (s, R' s) :: _
      rw [e]
      cases e2 : leads name (R' s) with
      | none => rfl
      | some t =>
        have e3 := h t (leads_spec e2).2.2.2
        show _ :: [(t, R t)] = _ :: [(t, R' t)]
        rw [e3]
    · intro _
      show (match leads name (R s) with | none => nothing | some t => R t) = (match leads name (R' s) with | none => nothing | some t => R' t)
      rw [e]
      cases e2 : leads name (R' s) with
      | none => rfl
      | some t => exact h t (leads_spec e2).2.2.2
theorem deps_congr (h : ∀ x, after x name = true → R x = R' x) : ∀ {gs : List Sg}, (∀ g ∈ gs, SgOk n name g) → deps R name gs = deps R' name gs
  | [], _ => rfl
  | g :: r, hg => by
    show dep1 R name g ++ deps R name r = dep1 R' name g ++ deps R' name r
    rw [(dep1_congr (hg g List.mem_cons_self) h).1, deps_congr h fun x hx => hg x (List.mem_cons_of_mem _ hx)]
theorem stepC_congr (h : ∀ x, after x name = true → R x = R' x) {g : Sg} (hg : SgOk n name g) (acc : Str) : stepC R name acc g = stepC R' name acc g := by
  obtain ⟨k, s⟩ := g
  cases k with
  | txt => rfl
  | lnk => rfl
  | inc =>
    show acc ++ _ = acc ++ _
    rw [(dep1_congr hg h).2 (.inl rfl)]
  | ind =>
    show acc ++ _ = acc ++ _
    rw [(dep1_congr hg h).2 (.inr rfl)]
theorem linksOf_congr (h : ∀ x, after x name = true → R x = R' x) {g : Sg} (hg : SgOk n name g) : linksOf R name g = linksOf R' name g := by
  obtain ⟨k, s⟩ := g
  cases k with
  | txt => rfl
  | lnk => rfl
  | inc => exact congrArg Res.ls ((dep1_congr hg h).2 (.inl rfl))
  | ind => exact congrArg Res.ls ((dep1_congr hg h).2 (.inr rfl))
theorem chars_congr (h : ∀ x, after x name = true → R x = R' x) : ∀ {gs : List Sg} (acc : Str), (∀ g ∈ gs, SgOk n name g) → gs.foldl (stepC R name) acc = gs.foldl (stepC R' name) acc
  | [], _, _ => rfl
  | g :: r, acc, hg => by
    rw [List.foldl_cons, List.foldl_cons, stepC_congr h (hg g List.mem_cons_self), chars_congr h _ fun x hx => hg x (List.mem_cons_of_mem _ hx)]
theorem links_congr (h : ∀ x, after x name = true → R x = R' x) : ∀ {gs : List Sg}, (∀ g ∈ gs, SgOk n name g) → links R name gs = links R' name gs
  | [], _ => rfl
  | g :: r, hg => by
    show linksOf R name g ++ links R name r = linksOf R' name g ++ links R' name r
    rw [linksOf_congr h (hg g List.mem_cons_self), links_congr h fun x hx => hg x (List.mem_cons_of_mem _ hx)]
theorem rend_congr {z : Str} {att : Int} (hz : Good n z) (hn : 6 ≤ n) (h : ∀ x, after x name = true → R x = R' x) : rend R name att z = rend R' name att z := by
  have hg := split_ok (name := name) hz hn
  unfold rend
  rw [deps_congr h hg, show chars R name (split name z) = chars R' name (split name z) from chars_congr h _ hg, links_congr h hg]
end
end Pg


set_option Elab.async false
set_option linter.all false
set_option maxRecDepth 100000
set_option maxHeartbeats 2000000
/-! sources, the results of all names, what is required -/
namespace Pg
open PySem

abbrev Src := List (Str × Str)
def lk (src : Src) (n : Str) : Option Str := (src.find? fun p => decide (p.1 = n)).map (·.2)
theorem lk_mem {src : Src} {n z : Str} (h : lk src n = some z) : (n, z) ∈ src := by
  obtain ⟨p, hp, e⟩ := Option.map_eq_some_iff.mp h
  have h1 := List.find?_some hp
  have h2 := List.mem_of_find?_eq_some hp
  have e1 : p.1 = n := of_decide_eq_true h1
  rw [← e1, ← e]
  exact h2
theorem lk_none {src : Src} {n : Str} : lk src n = none ↔ n ∉ src.map (·.1) := by
  unfold lk
  rw [Option.map_eq_none_iff, List.find?_eq_none]
  constructor
  · intro h m
    obtain ⟨p, hp, e⟩ := List.mem_map.mp m
    exact h p hp (decide_eq_true e)
  · intro h p hp e
    exact h (List.mem_map.mpr ⟨p, hp, of_decide_eq_true e⟩)
theorem lk_in {src : Src} {n z : Str} (h : lk src n = some z) : n ∈ src.map (·.1) := List.mem_map.mpr ⟨_, lk_mem h, rfl⟩
theorem lk_of {src : Src} {n : Str} (h : n ∈ src.map (·.1)) : ∃ z, lk src n = some z := by
  cases e : lk src n with
  | none => exact absurd h (lk_none.mp e)
  | some z => exact ⟨z, rfl⟩
theorem lk_nodup {src : Src} (hn : (src.map (·.1)).Nodup) {n z : Str} (h : (n, z) ∈ src) : lk src n = some z := by
  obtain ⟨y, hy⟩ := lk_of (List.mem_map.mpr ⟨_, h, rfl⟩)
  have h2 := lk_mem hy
  have e : y = z := by
    clear hy
    induction src with
    | nil => cases h
    | cons p r ih =>
      have hn' := List.nodup_cons.mp hn
      rcases List.mem_cons.mp h with h | h
      · rcases List.mem_cons.mp h2 with h2 | h2
        · rw [← h] at h2
          exact (Prod.mk.inj h2).2
        · exact absurd (List.mem_map.mpr ⟨_, h2, by rw [← h]⟩) hn'.1
      · rcases List.mem_cons.mp h2 with h2 | h2
        · exact absurd (List.mem_map.mpr ⟨_, h, by rw [← h2]⟩) hn'.1
        · exact ih hn'.2 h h2
  rw [hy, e]

/-- sources as the law makes them -/
structure SrcOk (src : Src) : Prop where
  nd : (src.map (·.1)).Nodup
  len : src.length ≤ 13
  good : ∀ p ∈ src, Good 6 p.1 ∧ Good 60 p.2
/-- R tells the results -/
structure Fix (src : Src) (att : Int) (R : Str → Res) : Prop where
  fx : ∀ n z, lk src n = some z → R n = rend R n att z
  nx : ∀ n, lk src n = none → R n = nothing

/-! ### how many sources come after a name -/
def rk (src : Src) (n : Str) : Nat := (src.filter fun p => after p.1 n).length
theorem rk_lt {src : Src} {n m : Str} (hm : m ∈ src.map (·.1)) (h : after m n = true) : rk src m < rk src n := by
  obtain ⟨p, hp, e⟩ := List.mem_map.mp hm
  subst e
  unfold rk
  induction src with
  | nil => cases hp
  | cons q r ih =>
    have mono : (r.filter fun x => after x.1 p.1).length ≤ (r.filter fun x => after x.1 n).length := by
      clear ih hp hm
      induction r with
      | nil => exact Nat.le_refl _
      | cons x r ih =>
        rw [List.filter_cons, List.filter_cons]
        by_cases h1 : after x.1 p.1 = true
        · rw [if_pos h1, if_pos (after_trans h1 h)]
          exact Nat.succ_le_succ ih
        · rw [if_neg h1]
          split
          · exact Nat.le_succ_of_le ih
          · exact ih
    rw [List.filter_cons, List.filter_cons]
    rcases List.mem_cons.mp hp with e | hp
    · subst e
      rw [if_neg (by rw [after_irrefl]; exact Bool.false_ne_true), if_pos h, List.length_cons]
      omega
    · have ih' := ih hp (List.mem_map.mpr ⟨_, hp, rfl⟩)
      by_cases h1 : after q.1 p.1 = true
      · rw [if_pos h1, if_pos (after_trans h1 h), List.length_cons, List.length_cons]
        omega
      · rw [if_neg h1]
        split
        · rw [List.length_cons]
          omega
        · exact ih'
theorem rk_le (src : Src) (n : Str) : rk src n ≤ src.length := List.length_filter_le _ _

/-! ### bounds of all results -/
def allLinks (src : Src) : List Str := src.flatMap fun p => ((split p.1 p.2).filter fun g => decide (g.1 = .lnk)).map (·.2)
structure ResOk (src : Src) (r : Res) : Prop where
  ch : r.isT = true → Good 200 r.ch
  sub : ∀ x ∈ r.ls, x ∈ allLinks src
  ri : Rise r.ls
  nm : ∀ n, (r = .failed n ∨ r = .long n) → Good 6 n
theorem nothing_ok (src : Src) : ResOk src nothing := ⟨fun _ => good_of (by decide +kernel), fun x hx => (by cases hx), List.Pairwise.nil, fun n h => (by rcases h with h | h <;> cases h)⟩
theorem chosen_or (R : Str → Res) {name : Str} {n : Nat} {g : Sg} (hg : SgOk n name g) (h : g.1 = .inc ∨ g.1 = .ind) : chosen R name g = nothing ∨ ∃ x, after x name = true ∧ chosen R name g = R x := by
  obtain ⟨k, s⟩ := g
  rcases h with h | h
  · have h : k = .inc := h
    subst h
    exact .inr ⟨s, hg.aft (by simp) (by simp), rfl⟩
  · have h : k = .ind := h
    subst h
    show (match leads name (R s) with | none => nothing | some t => R t) = _ ∨ _
    cases e : leads name (R s) with
    | none => exact .inl rfl
    | some t =>
      refine .inr ⟨t, (leads_spec e).2.2.2, ?_⟩
      show (match leads name (R s) with | none => nothing | some t => R t) = _
      rw [e]
theorem chars_good {R : Str → Res} {name : Str} {n : Nat} (hc : ∀ x, after x name = true → ∀ c ∈ tl (R x).ch, c < 128) : ∀ (gs : List Sg) (acc : Str), (∀ g ∈ gs, SgOk n name g) → (∀ c ∈ tl acc, c < 128) → ∀ c ∈ tl (gs.foldl (stepC R name) acc), c < 128
  | [], _, _, h => h
  | g :: r, acc, hg, h => by
    refine chars_good hc r _ (fun x hx => hg x (List.mem_cons_of_mem _ hx)) ?_
    have hg0 := hg g List.mem_cons_self
    have app : ∀ {x y : Str}, (∀ c ∈ tl x, c < 128) → (∀ c ∈ tl y, c < 128) → ∀ c ∈ tl (x ++ y), c < 128 := fun {x y} a b c hc => by
      rw [tl_append] at hc
      exact (List.mem_append.mp hc).elim (a c) (b c)
    obtain ⟨k, s⟩ := g
    have ch0 : k = .inc ∨ k = .ind → ∀ c ∈ tl (chosen R name (k, s)).ch, c < 128 := fun hk => by
      rcases chosen_or R hg0 hk with e | ⟨x, hx, e⟩
      · rw [e]
        exact (good_of (n := 1) (by decide +kernel) : Good 1 nothing.ch).2
      · rw [e]
        exact hc x hx
    cases k with
    | txt => exact app h hg0.good.2
    | lnk => exact app (app (app h (good_of (n := 1) (by decide +kernel) : Good 1 ("[" : Str)).2) hg0.good.2) (good_of (n := 1) (by decide +kernel) : Good 1 ("]" : Str)).2
    | inc => exact app h (ch0 (.inl rfl))
    | ind => exact app h (ch0 (.inr rfl))
theorem resOk_all {src : Src} {att : Int} {R : Str → Res} (S : SrcOk src) (F : Fix src att R) : ∀ (k : Nat) (n : Str), rk src n < k → ResOk src (R n)
  | 0, _, h => absurd h (Nat.not_lt_zero _)
  | k + 1, n, h => by
    cases e : lk src n with
    | none =>
      rw [F.nx n e]
      exact nothing_ok src
    | some z =>
      have hz := S.good _ (lk_mem e)
      have hg := split_ok (name := n) hz.2 (by decide : 6 ≤ 60)
      have ih : ∀ x, after x n = true → ResOk src (R x) := fun x hx => by
        cases e2 : lk src x with
        | none =>
          rw [F.nx x e2]
          exact nothing_ok src
        | some y => exact resOk_all S F k x (Nat.lt_of_lt_of_le (rk_lt (lk_in e2) hx) (Nat.le_of_lt_succ h))
      rw [F.fx n z e]
      unfold rend
      split
      · exact ⟨fun q => (by cases q), fun x hx => (by cases hx), List.Pairwise.nil, fun m hm => by
          rcases hm with hm | hm
          · cases hm
            exact hz.1
          · cases hm⟩
      · cases ef : (deps R n (split n z)).find? (fun d => !d.2.isT) with
        | some d =>
          have hd := deps_spec hg d (List.mem_of_find?_eq_some ef)
          show ResOk src d.2
          rw [hd.1]
          exact ih _ hd.2.2
        | none =>
          show ResOk src (if 200 < (chars R n (split n z)).length then .long n else .text (chars R n (split n z)) (rise (links R n (split n z))))
          split
          · exact ⟨fun q => (by cases q), fun x hx => (by cases hx), List.Pairwise.nil, fun m hm => by
              rcases hm with hm | hm
              · cases hm
              · cases hm
                exact hz.1⟩
          · rename_i hl
            refine ⟨fun _ => ⟨by show (chars R n (split n z)).length ≤ 200; omega, chars_good (fun x hx c hc => ?_) _ _ hg fun c hc => by cases hc⟩, fun x hx => ?_, rise_rise _, fun m hm => by rcases hm with hm | hm <;> cases hm⟩
            · cases hT : (R x).isT with
              | true => exact ((ih x hx).ch hT).2 c hc
              | false =>
                have : (R x).ch = Str.empty := by
                  revert hT
                  cases R x <;> simp [Res.isT, Res.ch]
                rw [this] at hc
                cases hc
            · have hx : x ∈ rise (links R n (split n z)) := hx
              rw [mem_rise] at hx
              obtain ⟨g, g1, g2⟩ := List.mem_flatMap.mp hx
              have sg := hg g g1
              obtain ⟨kd, s⟩ := g
              have chos : kd = .inc ∨ kd = .ind → x ∈ (chosen R n (kd, s)).ls → x ∈ allLinks src := fun hk hxx => by
                rcases chosen_or R sg hk with e1 | ⟨y, hy, e1⟩
                · rw [e1] at hxx
                  cases hxx
                · rw [e1] at hxx
                  exact (ih y hy).sub x hxx
              cases kd with
              | txt => cases g2
              | lnk =>
                have e1 : x = s := List.mem_singleton.mp g2
                rw [e1]
                exact List.mem_flatMap.mpr ⟨(n, z), lk_mem e, List.mem_map.mpr ⟨(.lnk, s), List.mem_filter.mpr ⟨g1, decide_eq_true rfl⟩, rfl⟩⟩
              | inc => exact chos (.inl rfl) g2
              | ind => exact chos (.inr rfl) g2
theorem Fix.ok {src : Src} {att : Int} {R : Str → Res} (F : Fix src att R) (S : SrcOk src) (n : Str) : ResOk src (R n) := resOk_all S F _ n (Nat.lt_succ_self _)
theorem allLinks_len {src : Src} (S : SrcOk src) : (allLinks src).length ≤ 1600 := by
  have h : ∀ l : Src, (∀ p ∈ l, Good 60 p.2) → (allLinks l).length ≤ l.length * 121 := by
    intro l
    induction l with
    | nil => exact fun _ => Nat.le_refl _
    | cons p r ih =>
      intro hp
      have h1 := ih fun q hq => hp q (List.mem_cons_of_mem _ hq)
      have h2 := split_len p.1 p.2
      have h3 := (hp p List.mem_cons_self).1
      have h4 := List.length_filter_le (fun g : Sg => decide (g.1 = .lnk)) (split p.1 p.2)
      show ((((split p.1 p.2).filter fun g => decide (g.1 = .lnk)).map (·.2)) ++ allLinks r).length ≤ _
      rw [List.length_append, List.length_map, List.length_cons]
      omega
  have := h src fun p hp => (S.good p hp).2
  have := S.len
  omega
theorem allLinks_good {src : Src} (S : SrcOk src) : ∀ x ∈ allLinks src, Good 6 x := by
  intro x hx
  obtain ⟨p, hp, h⟩ := List.mem_flatMap.mp hx
  obtain ⟨g, hg, e⟩ := List.mem_map.mp h
  obtain ⟨g1, g2⟩ := List.mem_filter.mp hg
  have sg := split_ok (name := p.1) (S.good p hp).2 (by decide : 6 ≤ 60) g g1
  rw [← e]
  exact isName_good (sg.nm (by rw [of_decide_eq_true g2]; simp))
theorem ResOk.len {src : Src} (S : SrcOk src) {r : Res} (h : ResOk src r) : r.ls.length ≤ 1600 := Nat.le_trans (nodup_sub h.ri.nodup h.sub) (allLinks_len S)
theorem ResOk.good {src : Src} (S : SrcOk src) {r : Res} (h : ResOk src r) : ∀ x ∈ r.ls, Good 6 x := fun x hx => allLinks_good S x (h.sub x hx)

/-! ### the law's way: from the last name back -/
abbrev RD := List (Str × Res)
def lkR (D : RD) (n : Str) : Res := ((D.find? fun p => decide (p.1 = n)).map (·.2)).getD nothing
theorem lkR_snoc {D : RD} {n m : Str} {r : Res} (hn : n ∉ D.map (·.1)) : lkR (D ++ [(n, r)]) m = if m = n then r else lkR D m := by
  unfold lkR
  rw [List.find?_append]
  by_cases e : m = n
  · rw [if_pos e]
    have h : D.find? (fun p => decide (p.1 = m)) = none := List.find?_eq_none.mpr fun p hp q => hn (List.mem_map.mpr ⟨p, hp, (of_decide_eq_true q).trans e⟩)
    rw [h]
    simp [e]
  · rw [if_neg e]
    cases D.find? (fun p => decide (p.1 = m)) with
    | some p => rfl
    | none => simp [Ne.symm e]
theorem lkR_none {D : RD} {n : Str} (hn : n ∉ D.map (·.1)) : lkR D n = nothing := by
  unfold lkR
  rw [List.find?_eq_none.mpr fun p hp q => hn (List.mem_map.mpr ⟨p, hp, of_decide_eq_true q⟩)]
  rfl
/-- what has been worked out so far: of names, each with its text -/
structure Part (src : Src) (att : Int) (done : List Str) (D : RD) : Prop where
  keys : D.map (·.1) = done
  fx : ∀ n ∈ done, ∀ z, lk src n = some z → lkR D n = rend (lkR D) n att z
theorem Part.nil (src : Src) (att : Int) : Part src att [] [] := ⟨rfl, fun n h => by cases h⟩
theorem Part.snoc {src : Src} {att : Int} {done : List Str} {D : RD} (S : SrcOk src) (P : Part src att done D) {n z : Str} (hz : lk src n = some z) (hn : ∀ m ∈ done, after m n = true) :
    Part src att (done ++ [n]) (D ++ [(n, rend (lkR D) n att z)]) := by
  have nd : n ∉ D.map (·.1) := fun h => by
    rw [P.keys] at h
    have := hn n h
    rw [after_irrefl] at this
    cases this
  have same : ∀ m, m ≠ n → lkR (D ++ [(n, rend (lkR D) n att z)]) m = lkR D m := fun m hm => by rw [lkR_snoc nd, if_neg hm]
  refine ⟨by rw [List.map_append, P.keys]; rfl, fun m hm y hy => ?_⟩
  have gy := (S.good _ (lk_mem hy)).2
  rcases List.mem_append.mp hm with hm | hm
  · have h1 := hn m hm
    have e : m ≠ n := fun e => by
      rw [e, after_irrefl] at h1
      cases h1
    rw [same m e, P.fx m hm y hy]
    refine rend_congr gy (by decide) fun x hx => (same x fun e => ?_).symm
    rw [e] at hx
    rw [after_asymm h1] at hx
    cases hx
  · have e := List.mem_singleton.mp hm
    subst e
    have e2 : y = z := Option.some.inj (hy.symm.trans hz)
    subst e2
    rw [lkR_snoc nd, if_pos rfl]
    refine rend_congr gy (by decide) fun x hx => (same x fun e => ?_).symm
    rw [e, after_irrefl] at hx
    cases hx
theorem Part.fix {src : Src} {att : Int} {done : List Str} {D : RD} (P : Part src att done D) (h : ∀ n, n ∈ done ↔ n ∈ src.map (·.1)) : Fix src att (lkR D) :=
  ⟨fun n z hz => P.fx n ((h n).mpr (lk_in hz)) z hz, fun n hn => lkR_none fun q => lk_none.mp hn ((h n).mp (by rw [← P.keys]; exact q))⟩

/-! ### what is required -/
def Closed (src : Src) (R : Str → Res) (T : List Str) : Prop := ∀ n ∈ T, ∀ z, lk src n = some z → ∀ d ∈ deps R n (split n z), d.1 ∈ T
structure Req (src : Src) (R : Str → Res) (pages T : List Str) : Prop where
  pg : ∀ p ∈ pages, p ∈ T
  cl : Closed src R T
  least : ∀ T', (∀ p ∈ pages, p ∈ T') → Closed src R T' → ∀ n ∈ T, n ∈ T'
theorem Req.uniq {src : Src} {R : Str → Res} {pages T T' : List Str} (h : Req src R pages T) (h' : Req src R pages T') : ∀ n, n ∈ T ↔ n ∈ T' :=
  fun n => ⟨h.least T' h'.pg h'.cl n, h'.least T h.pg h.cl n⟩
end Pg


set_option Elab.async false
set_option linter.all false
set_option maxRecDepth 100000
set_option maxHeartbeats 2000000
/-! data in the heap: what is read, what stays -/
namespace Pg
open PySem PySem.Spec PyProof.Rows L2

/-! ### data of segments, results, dependencies -/
def Sg.d (g : Sg) : PyData := .tuple [.str g.1.s, .str g.2]
def txts (l : List Str) : List PyData := l.map .str
def Res.d : Res → PyData
  | .text c l => .tuple [.str "text", .str c, .tuple (txts l)]
  | .failed n => .tuple [.str "failed", .str n]
  | .long n => .tuple [.str "long", .str n]
def Dep.d (x : Dep) : PyData := .tuple [.str x.1, x.2.d]

/-! ### reading -/
section
variable {K : PySem.W.Frag} {H H' : Hp}
theorem dp_str {v : V} {x : Str} (h : Dp K H v (.str x)) : v = .str x := by cases h; rfl
theorem dpa_nil {vs : List V} (h : DpAll K H vs []) : vs = [] := by cases h; rfl
theorem dpa_cons {vs : List V} {d : PyData} {ds : List PyData} (h : DpAll K H vs (d :: ds)) : ∃ v r, vs = v :: r ∧ Dp K H v d ∧ DpAll K H r ds := by
  cases h with
  | cons a b => exact ⟨_, _, rfl, a, b⟩
theorem dp_tup {v : V} {ds : List PyData} (h : Dp K H v (.tuple ds)) : ∃ a xs, v = .ref a ∧ SqT K H a xs ∧ DpAll K H xs ds := by
  cases h with
  | tup a b => exact ⟨_, _, rfl, a, b⟩
theorem dp_lst {v : V} {ds : List PyData} (h : Dp K H v (.list ds)) : ∃ a xs, v = .ref a ∧ SqL K H a xs ∧ DpAll K H xs ds := by
  cases h with
  | lst a b => exact ⟨_, _, rfl, a, b⟩
theorem dpa_txts_eq : ∀ {l : List Str} {vs : List V}, DpAll K H vs (txts l) → vs = l.map V.str
  | [], _, h => dpa_nil h
  | x :: l, _, h => by
    obtain ⟨v, r, rfl, h1, h2⟩ := dpa_cons h
    rw [dp_str h1, dpa_txts_eq h2]
    rfl
theorem dpa_txts : ∀ l : List Str, DpAll K H (l.map V.str) (txts l)
  | [] => .nil
  | x :: l => .cons (.str x) (dpa_txts l)
theorem dpa_len : ∀ {vs : List V} {ds : List PyData}, DpAll K H vs ds → vs.length = ds.length
  | _, _, .nil => rfl
  | _, _, .cons _ h => congrArg Nat.succ (dpa_len h)
theorem dpa_get : ∀ {vs : List V} {ds : List PyData} {i : Nat} {v : V}, DpAll K H vs ds → vs[i]? = some v → ∃ d, ds[i]? = some d ∧ Dp K H v d
  | _, _, i, v, .nil, e => by cases e
  | _, _, 0, v, .cons h _, e => by
    cases e
    exact ⟨_, rfl, h⟩
  | _, _, i + 1, v, .cons _ h, e => dpa_get (i := i) h (by simpa using e)
theorem dpa_at : ∀ {vs : List V} {ds : List PyData} {i : Nat} {d : PyData}, DpAll K H vs ds → ds[i]? = some d → ∃ v, vs[i]? = some v ∧ Dp K H v d
  | _, _, i, d, .nil, e => by cases e
  | _, _, 0, d, .cons h _, e => by
    cases e
    exact ⟨_, rfl, h⟩
  | _, _, i + 1, d, .cons _ h, e => dpa_at (i := i) h (by simpa using e)
theorem dpa_append : ∀ {vs ws : List V} {ds es : List PyData}, DpAll K H vs ds → DpAll K H ws es → DpAll K H (vs ++ ws) (ds ++ es)
  | _, _, _, _, .nil, h => h
  | _, _, _, _, .cons a b, h => .cons a (dpa_append b h)
theorem dpa_snoc {vs : List V} {ds : List PyData} {v : V} {d : PyData} (h : DpAll K H vs ds) (h1 : Dp K H v d) : DpAll K H (vs ++ [v]) (ds ++ [d]) := dpa_append h (.cons h1 .nil)
theorem sg_at {v : V} {g : Sg} (h : Dp K H v (Sg.d g)) : ∃ a, v = .ref a ∧ SqT K H a [.str g.1.s, .str g.2] := by
  obtain ⟨a, xs, rfl, ht, hd⟩ := dp_tup h
  obtain ⟨v1, r1, rfl, h1, hd⟩ := dpa_cons hd
  obtain ⟨v2, r2, rfl, h2, hd⟩ := dpa_cons hd
  rw [dpa_nil hd, dp_str h1, dp_str h2] at ht
  exact ⟨a, rfl, ht⟩
theorem sg_of {a : Addr} {g : Sg} (h : SqT K H a [.str g.1.s, .str g.2]) : Dp K H (.ref a) (Sg.d g) := .tup h (.cons (.str _) (.cons (.str _) .nil))
theorem dep_at {v : V} {x : Dep} (h : Dp K H v (Dep.d x)) : ∃ a u, v = .ref a ∧ SqT K H a [.str x.1, u] ∧ Dp K H u x.2.d := by
  obtain ⟨a, xs, rfl, ht, hd⟩ := dp_tup h
  obtain ⟨v1, r1, rfl, h1, hd⟩ := dpa_cons hd
  obtain ⟨v2, r2, rfl, h2, hd⟩ := dpa_cons hd
  rw [dpa_nil hd, dp_str h1] at ht
  exact ⟨a, v2, rfl, ht, h2⟩
theorem dep_of {a : Addr} {u : V} {x : Dep} (h : SqT K H a [.str x.1, u]) (h2 : Dp K H u x.2.d) : Dp K H (.ref a) (Dep.d x) := .tup h (.cons (.str _) (.cons h2 .nil))
/-- the word of a result -/
def Res.w : Res → Str
  | .text _ _ => "text"
  | .failed _ => "failed"
  | .long _ => "long"
theorem Res.w_text (r : Res) : decide (V.str r.w = V.str "text") = r.isT := by
  cases r with
  | text c l => exact (by decide +kernel : decide (V.str "text" = V.str "text") = true)
  | failed n => exact (by decide +kernel : decide (V.str "failed" = V.str "text") = false)
  | long n => exact (by decide +kernel : decide (V.str "long" = V.str "text") = false)
theorem res_at {v : V} {r : Res} (h : Dp K H v r.d) : ∃ a u xs, v = .ref a ∧ SqT K H a (.str r.w :: u :: xs) ∧ (r.isT = true → ∃ b, u = .str r.ch ∧ xs = [.ref b] ∧ SqT K H b (r.ls.map V.str)) := by
  cases r with
  | text c l =>
    obtain ⟨a, xs, rfl, ht, hd⟩ := dp_tup h
    obtain ⟨v1, r1, rfl, h1, hd⟩ := dpa_cons hd
    obtain ⟨v2, r2, rfl, h2, hd⟩ := dpa_cons hd
    obtain ⟨v3, r3, rfl, h3, hd⟩ := dpa_cons hd
    rw [dpa_nil hd, dp_str h1, dp_str h2] at ht
    obtain ⟨b, ys, rfl, hb, hy⟩ := dp_tup h3
    rw [dpa_txts_eq hy] at hb
    exact ⟨a, _, _, rfl, ht, fun _ => ⟨b, rfl, rfl, hb⟩⟩
  | failed n =>
    obtain ⟨a, xs, rfl, ht, hd⟩ := dp_tup h
    obtain ⟨v1, r1, rfl, h1, hd⟩ := dpa_cons hd
    obtain ⟨v2, r2, rfl, h2, hd⟩ := dpa_cons hd
    rw [dp_str h1] at ht
    exact ⟨a, _, _, rfl, ht, fun q => by cases q⟩
  | long n =>
    obtain ⟨a, xs, rfl, ht, hd⟩ := dp_tup h
    obtain ⟨v1, r1, rfl, h1, hd⟩ := dpa_cons hd
    obtain ⟨v2, r2, rfl, h2, hd⟩ := dpa_cons hd
    rw [dp_str h1] at ht
    exact ⟨a, _, _, rfl, ht, fun q => by cases q⟩
theorem res_of {a b : Addr} {c : Str} {l : List Str} (h : SqT K H a [.str "text", .str c, .ref b]) (hb : SqT K H b (l.map V.str)) : Dp K H (.ref a) (Res.d (.text c l)) :=
  .tup h (.cons (.str _) (.cons (.str _) (.cons (.tup hb (dpa_txts l)) .nil)))

/-! ### what stays -/
theorem same_rd {a : Addr} {u : HO} (e : Same H H') (h : Rd H a u) : Rd H' a u := by
  rcases h with h | ⟨o, h⟩
  · exact .inl (e _ _ h)
  · exact .inr ⟨o, e _ _ h⟩
theorem same_sqT {a : Addr} {xs : List V} (e : Same H H') (h : SqT K H a xs) : SqT K H' a xs := h.imp (same_rd e) id
theorem same_new {p : Addr} (o : HO) (h : H p = none) : Same H (upd H p o) := fun b u q => by
  rw [upd_ne (ne_of_none q h)]
  exact q
/-- what was not known may change -/
theorem same_hid {p : Addr} (e : Same H H') (h : H p = none) (o : HO) : Same H (upd H' p o) := fun b u q => by
  rw [upd_ne (ne_of_none q h)]
  exact e b u q
mutual
theorem dp_same (e : Same H H') : ∀ (d : PyData) (v : V), Dp K H v d → Dp K H' v d
  | .none, _, h => by cases h; exact .non
  | .bool b, _, h => by cases h; exact .bl b
  | .int i, _, h => by cases h; exact .int i
  | .str x, _, h => by cases h; exact .str x
  | .list ds, _, h => by
    cases h with
    | lst a b => exact .lst (e.seq a) (dpa_same e ds _ b)
  | .tuple ds, _, h => by
    cases h with
    | tup a b => exact .tup (same_sqT e a) (dpa_same e ds _ b)
  | .dict _, _, h => by cases h
theorem dpa_same (e : Same H H') : ∀ (ds : List PyData) (vs : List V), DpAll K H vs ds → DpAll K H' vs ds
  | [], _, h => by cases h; exact .nil
  | d :: ds, _, h => by
    cases h with
    | cons a b => exact .cons (dp_same e d _ a) (dpa_same e ds _ b)
end
/-- the tuples stay -/
def TS (H H' : Hp) : Prop := ∀ a xs, Rd H a (.tup xs) → Rd H' a (.tup xs)
theorem TS.refl (H : Hp) : TS H H := fun _ _ h => h
theorem TS.trans {H1 H2 H3 : Hp} (a : TS H1 H2) (b : TS H2 H3) : TS H1 H3 := fun x xs h => b x xs (a x xs h)
theorem TS.same (e : Same H H') : TS H H' := fun _ _ h => same_rd e h
theorem TS.sqT {a : Addr} {xs : List V} (e : TS H H') (h : SqT K H a xs) : SqT K H' a xs := h.imp (e _ _) id
/-- all but what stands at d stays -/
def But (d : Addr) (H H' : Hp) : Prop := ∀ b o, H b = some o → b ≠ d → H' b = some o
theorem But.of_same {d : Addr} (e : Same H H') : But d H H' := fun b o h _ => e b o h
theorem But.trans {d : Addr} {H1 H2 H3 : Hp} (a : But d H1 H2) (b : But d H2 H3) : But d H1 H3 := fun c o h n => b c o (a c o h n) n
theorem But.set (d : Addr) (o : HO) : But d H (upd H d o) := fun b u h n => by
  rw [upd_ne n]
  exact h
theorem But.none {d p : Addr} (e : But d H H') (h : H' p = .none) (hp : p ≠ d) : H p = .none := by
  cases q : H p with
  | none => rfl
  | some o =>
    rw [e p o q hp] at h
    cases h
/-- no tuple, read or locked -/
def notTup : HO → Bool
  | .tup _ => false
  | .frz _ _ => false
  | _ => true
theorem But.rdT {d a : Addr} {u : HO} {xs : List V} (e : But d H H') (h : H d = some u) (hu : notTup u = true) (hr : Rd H a (.tup xs)) : Rd H' a (.tup xs) := by
  have ne : ∀ {o : HO}, H a = some o → notTup o = false → a ≠ d := fun {o} q n z => by
    rw [z, h] at q
    cases q
    rw [hu] at n
    cases n
  rcases hr with hr | ⟨o, hr⟩
  · exact .inl (e _ _ hr (ne hr rfl))
  · exact .inr ⟨o, e _ _ hr (ne hr rfl)⟩
theorem TS.but {d : Addr} {u : HO} (e : But d H H') (h : H d = some u) (hu : notTup u = true) : TS H H' := fun _ _ hr => But.rdT e h hu hr
theorem TS.set {d : Addr} {u : HO} (o : HO) (h : H d = some u) (hu : notTup u = true) : TS H (upd H d o) := TS.but (But.set d o) h hu
theorem TS.new {p : Addr} (o : HO) (h : H p = none) : TS H (upd H p o) := TS.same (same_new o h)
mutual
/-- no list within -/
def noL : PyData → Bool
  | .list _ => false
  | .dict _ => false
  | .tuple ds => noLs ds
  | _ => true
def noLs : List PyData → Bool
  | [] => true
  | d :: ds => noL d && noLs ds
end
mutual
theorem dp_ts (e : TS H H') : ∀ (d : PyData) (v : V), noL d = true → Dp K H v d → Dp K H' v d
  | .none, _, _, h => by cases h; exact .non
  | .bool b, _, _, h => by cases h; exact .bl b
  | .int i, _, _, h => by cases h; exact .int i
  | .str x, _, _, h => by cases h; exact .str x
  | .list ds, _, n, h => by cases n
  | .tuple ds, _, n, h => by
    cases h with
    | tup a b => exact .tup (e.sqT a) (dpa_ts e ds _ n b)
  | .dict _, _, _, h => by cases h
theorem dpa_ts (e : TS H H') : ∀ (ds : List PyData) (vs : List V), noLs ds = true → DpAll K H vs ds → DpAll K H' vs ds
  | [], _, _, h => by cases h; exact .nil
  | d :: ds, _, n, h => by
    cases h with
    | cons a b =>
      have n' : (noL d && noLs ds) = true := n
      rw [Bool.and_eq_true] at n'
      exact .cons (dp_ts e d _ n'.1 a) (dpa_ts e ds _ n'.2 b)
end
theorem noLs_txts : ∀ l : List Str, noLs (txts l) = true
  | [] => rfl
  | x :: l => noLs_txts l
theorem noL_sg (g : Sg) : noL (Sg.d g) = true := rfl
theorem noL_res (r : Res) : noL r.d = true := by
  cases r with
  | text c l =>
    show (noL (.str "text") && (noL (.str c) && (noLs (txts l) && noLs []))) = true
    rw [noLs_txts]
    rfl
  | failed n => rfl
  | long n => rfl
theorem noL_dep (x : Dep) : noL (Dep.d x) = true := by
  show (noL (.str x.1) && (noL x.2.d && noLs [])) = true
  rw [noL_res]
  rfl
theorem noLs_map {α : Type} {f : α → PyData} (h : ∀ x, noL (f x) = true) : ∀ l : List α, noLs (l.map f) = true
  | [] => rfl
  | x :: l => by
    show (noL (f x) && noLs (l.map f)) = true
    rw [h, noLs_map h]
    rfl

/-! ### a list on the way -/
/-- l is new since H0 and holds vs; what stood in H0 stands -/
structure Made (H0 H : Hp) (l : Addr) (vs : List V) : Prop where
  same : Same H0 H
  new : H0 l = none
  at_ : H l = some (.lst vs)
theorem Made.mk0 {H0 H : Hp} {l : Addr} (e : Same H0 H) (h : H l = none) : Made H0 (upd H l (.lst [])) l [] := ⟨same_hid e (e.free h) _, e.free h, upd_same⟩
theorem Made.app {H0 : Hp} {l : Addr} {vs : List V} (m : Made H0 H l vs) (ws : List V) : Made H0 (upd H l (.lst ws)) l ws := ⟨same_hid m.same m.new _, m.new, upd_same⟩
theorem Made.go {H0 : Hp} {l : Addr} {vs : List V} (m : Made H0 H l vs) (e : Same H H') : Made H0 H' l vs := ⟨m.same.trans e, m.new, e _ _ m.at_⟩
theorem Made.ts {H0 : Hp} {l : Addr} {vs : List V} (m : Made H0 H l vs) (o : HO) : TS H (L2.upd H l o) := TS.set o m.at_ rfl
/-- another list stays when l changes -/
theorem Made.sqL {H0 : Hp} {l a : Addr} {vs xs : List V} (m : Made H0 H l vs) (h : SqL K H a xs) (hn : a ≠ l) (o : HO) : SqL K (L2.upd H l o) a xs := by
  rcases h with (h | ⟨ob, h⟩) | h
  · exact .inl (.inl (by rw [upd_ne hn]; exact h))
  · exact .inl (.inr ⟨ob, by rw [upd_ne hn]; exact h⟩)
  · exact .inr h
theorem sqL_but {d a : Addr} {xs : List V} (e : But d H H') (h : SqL K H a xs) (hn : a ≠ d) : SqL K H' a xs := by
  rcases h with (h | ⟨ob, h⟩) | h
  · exact .inl (.inl (e _ _ h hn))
  · exact .inl (.inr ⟨ob, e _ _ h hn⟩)
  · exact .inr h
/-- what a def hands back: a new list; data that stands; a plain value -/
def RetL (K : PySem.W.Frag) (H : Hp) (ds : List PyData) (Q : VK) : Prop := ∀ p vs H', H p = .none → Same H H' → H' p = some (.lst vs) → DpAll K H' vs ds → Q (.ref p) H'
def RetD (K : PySem.W.Frag) (H : Hp) (d : PyData) (Q : VK) : Prop := ∀ v H', Same H H' → Dp K H' v d → Q v H'
def RetV (H : Hp) (v : V) (Q : VK) : Prop := ∀ H', Same H H' → Q v H'
end
end Pg


set_option Elab.async false
set_option linter.all false
set_option maxRecDepth 100000
set_option maxHeartbeats 2000000
/-! the walk: names -/
namespace Pg
open PySem PySem.Spec PyProof.Rows L2

theorem line_of {n : Nat} (h : n ≤ 100000) : n ≤ sizeLine := Nat.le_trans h (by decide)
theorem line_lt {n : Nat} (h : n < 100000) : n < sizeLine := Nat.lt_of_lt_of_le h (by decide)
/-- one text in, a bool out -/
def spIsName : Sp := fun vs H Q _ => ∃ z : Str, vs = [.str z] ∧ z.length ≤ 1000 ∧ RetV H (.bl (isName z)) Q
def spIsAfter : Sp := fun vs H Q _ => ∃ x y : Str, vs = [.str x, .str y] ∧ RetV H (.bl (after x y)) Q
def spFailures : Sp := fun vs H Q _ => ∃ z : Str, vs = [.str z] ∧ RetV H (.int (fails z)) Q
/-- bools of the signs -/
def letB (z : Str) : List Bool := (tl z).map fun c => decide (c ∈ tl LETT)
theorem letB_all (z : Str) : (letB z).all id = (tl z).all fun c => decide (c ∈ tl LETT) := by
  unfold letB
  rw [List.all_map]
  rfl
section
variable {P : Program} {w : World} {K : PySem.W.Frag} {mg : Str → Option Value} {base : Heap} {a : Adr}
theorem has_is_after (D : DefAt K mg "is_after" sIsAfter ["one", "other"]) : Has P w K mg base 1 "is_after" ["one", "other"] spIsAfter := by
  refine D.has (k := 0) scIsAfter (fun vs H Q E h => ?_) (fun f cdv A outer s H vs Q E hr h => ?_)
  · obtain ⟨x, y, rfl, _⟩ := h
    rfl
  obtain ⟨x, y, rfl, q⟩ := h
  refine ⟨_, (pss_one (ps_ret (pe_cmpR op_gt_str (pv 0) (pv 1) (nomark _)))), ?_⟩
  exact ⟨_, rfl, _, rfl, _, _, rfl, rfl, q _ (Same.refl H)⟩
theorem has_failures (D : DefAt K mg "failures" sFailures ["text"]) : Has P w K mg base 1 "failures" ["text"] spFailures := by
  refine D.has (k := 0) scFailures (fun vs H Q E h => ?_) (fun f cdv A outer s H vs Q E hr h => ?_)
  · obtain ⟨x, rfl, _⟩ := h
    rfl
  obtain ⟨x, rfl, q⟩ := h
  refine ⟨_, (pss_one (ps_ret (pe_bm PySem.F.plainAttrs_str PySem.F.slot_str_count PySem.F.type_str_count mt_count (pv 0) (pa_cons pe_str pa_nil)))), ?_⟩
  exact ⟨_, rfl, rfl, _, _, rfl, rfl, q _ (Same.refl H)⟩
theorem has_is_name (D : DefAt K mg "is_name" sIsName ["text"]) (T : Txt K w mg a) : Has P w K mg base 1 "is_name" ["text"] spIsName := by
  refine D.has (k := 0) scIsName (fun vs H Q E h => ?_) (fun f cdv A outer s H vs Q E hr h => ?_)
  · obtain ⟨x, rfl, _⟩ := h
    rfl
  obtain ⟨z, rfl, hz, q⟩ := h
  refine ⟨_, (pss_one (ps_ret (pe_and (pe_chain op_le op_le pe_int (pe_callB call_len_str rfl T.nlen (by decide +kernel) (pa_cons (pv 0) pa_nil)) (pe_glob (v := .int 6) rfl T.gNM ⟨_, rfl⟩)) (pe_one (pe_callB (cr_all rfl) rfl T.nall (by decide +kernel) (pa_cons (pe_lc (own := [("sign", 1)]) (g := (gName 1)) (tt := tYes) rfl scIsName.nd (pi_str (pv 0)) (blkOk_by (own := [("sign", 1)]) (N := ["text", "sign"]) (sc := defScope sIsName) (by decide +kernel)) (fun _ _ _ _ _ => pg_name (i := 1) scIsName.nd rfl (Or.inl rfl)) (fun _ _ _ _ _ => pts_nil) (fun _ _ _ _ _ => (pe_cmpR op_in_sign (pv 1) (pe_glob (v := .str LETT) rfl T.gLE ⟨_, rfl⟩) rfl))) pa_nil)))))), ?_⟩
  refine ⟨_, rfl, z, rfl, line_of (by omega), _, _, rfl, rfl, _, rfl, ?_⟩
  have fin : ∀ {b : Bool} {H' : Hp}, Same H H' → b = isName z → Q (.bl b) H' := fun {b H'} e eb => by
    rw [eb]
    exact q H' e
  refine ite2 (fun c1 => ?_) (fun c1 => ?_)
  · refine ⟨_, _, rfl, rfl, _, rfl, ?_⟩
    refine ite2 (fun c2 => ?_) (fun c2 => ?_)
    · have e12 : isName z = (letB z).all id := by
        rw [letB_all]
        unfold isName
        rw [c1, c2]
        rfl
      refine ⟨_, rfl, z, rfl, fun Dl hD => ?_⟩
      refine lc_it walk_str (fun i H' => Made H H' Dl (((letB z).take i).map V.bl)) ?_ (fun _ _ _ _ => trivial) ?_ ?_
      · exact Made.mk0 (Same.refl H) hD
      · rintro i x H' H'' hi m ⟨rfl, c, hc, rfl⟩
        have hc' : (tl z)[i]? = some c := by rw [Array.getElem?_toList]; exact hc
        refine ⟨rfl, ?_⟩
        refine ⟨_, rfl, c, LETT, rfl, rfl, _, m.at_, ?_, ?_⟩
        · refine line_lt ?_
          have hl := len_tl z
          rw [List.length_map, List.length_take]
          unfold letB
          rw [List.length_map]
          omega
        · have e : (letB z).take (i + 1) = (letB z).take i ++ [decide (c ∈ tl LETT)] := take_snoc (by unfold letB; rw [List.getElem?_map, hc']; rfl)
          rw [e, List.map_append]
          exact m.app _
      · intro H' m
        have full : (letB z).take z.cps.size = letB z := List.take_of_length_le (by unfold letB; rw [List.length_map, Array.length_toList]; exact Nat.le_refl _)
        rw [full] at m
        exact ⟨Dl, letB z, rfl, SqL.of m.at_, fin m.same e12.symm⟩
    · refine fin (Same.refl H) ?_
      unfold isName
      rw [c1, Bool.eq_false_iff.mpr c2]
      rfl
  · refine ⟨_, rfl, ?_⟩
    refine iteF (fin (Same.refl H) ?_)
    unfold isName
    rw [Bool.eq_false_iff.mpr c1]
    rfl
end
end Pg


set_option Elab.async false
set_option linter.all false
set_option maxRecDepth 100000
set_option maxHeartbeats 2000000
/-! the walk: brackets, segments, where an indirect inclusion leads -/
namespace Pg
open PySem PySem.Spec PyProof.Rows L2

theorem at0 {x : V} {xs : List V} : atI (x :: xs) 0 = some x := atI_nat (j := 0) rfl
theorem at1 {x y : V} {xs : List V} : atI (x :: y :: xs) 1 = some y := atI_nat (j := 1) rfl
theorem at2 {x y z : V} {xs : List V} : atI (x :: y :: z :: xs) 2 = some z := atI_nat (j := 2) rfl
theorem two_line : (2 : Nat) ≤ sizeLine := by decide
theorem three_line : (3 : Nat) ≤ sizeLine := by decide
theorem sign_at {z : Str} {i c : Nat} (h : (tl z)[i]? = some c) : atI (tl z) (i : Int) = some c := atI_nat h
theorem cut_nat1 (z : Str) (i e : Nat) : cutS z (some ((i : Int) + 1)) (some (e : Int)) = sub z (i + 1) e := cut_nat z (i + 1) e
def nonOr : Option Str → V
  | none => .non
  | some t => .str t
def spTarget (K : PySem.W.Frag) : Sp := fun vs H Q _ => ∃ (name : Str) (v : V) (r : Res), vs = [.str name, v] ∧ Dp K H v r.d ∧ (r.isT = true → r.ch.length ≤ 1000) ∧ RetV H (nonOr (leads name r)) Q
/-- what _segment hands back -/
def SegRet (K : PySem.W.Frag) (H : Hp) : Option (Kd × Str × Nat) → VK → Prop
  | none, Q => RetV H .non Q
  | some (k, s, e), Q => ∀ p1 p2 H', Same H H' → SqT K H' p1 [.ref p2, .int (e : Int)] → SqT K H' p2 [.str k.s, .str s] → Q (.ref p1) H'
def spSegment (K : PySem.W.Frag) : Sp := fun vs H Q _ => ∃ (name z : Str) (i : Nat), vs = [.str name, .str z, .int (i : Int)] ∧ i < z.length ∧ z.length ≤ 1000 ∧ SegRet K H (seg name z i) Q
theorem seg_c {name z : Str} {i c : Nat} (hc : (tl z)[i]? = some c) : seg name z i = (if c = 91 then
      match fnd z 93 i with
      | none => none
      | some e => if isName (sub z (i + 1) e) = true then some (.lnk, sub z (i + 1) e, e + 1) else none
    else if c = 60 then
      match fnd z 62 i with
      | none => none
      | some e =>
        if atAt z (i + 1) = true then
          if isName (sub z (i + 2) e) = true ∧ after (sub z (i + 2) e) name = true then some (.ind, sub z (i + 2) e, e + 1) else none
        else
          if isName (sub z (i + 1) e) = true ∧ after (sub z (i + 1) e) name = true then some (.inc, sub z (i + 1) e, e + 1) else none
    else none) := by
  unfold seg
  rw [hc]
  all_goals rfl
/-- an at sign ahead -/
theorem starts_at {z : Str} {i e : Nat} (h1 : i < e) (h2 : (tl z)[e]? = some 62) : Txt.startswith (sub z (i + 1) e) "@" = atAt z (i + 1) := by
  have key : Txt.startswith (sub z (i + 1) e) (ch 64) = decide ((tl (sub z (i + 1) e)).take 1 = [64]) := by
    unfold Txt.startswith
    rw [StrLaws.subAt_eq, len_tl (sub z (i + 1) e)]
    show (decide (1 ≤ (tl (sub z (i + 1) e)).length) && (((tl (sub z (i + 1) e)).drop 0).take 1 == [64])) = _
    cases tl (sub z (i + 1) e) with
    | nil => rfl
    | cons d r => by_cases hd : d = 64 <;> simp [hd]
  have e64 : ("@" : Str) = ch 64 := by decide +kernel
  rw [e64, key]
  unfold atAt
  rw [tl_sub, List.take_take]
  by_cases hlt : i + 1 < e
  · have e1 : min 1 (e - (i + 1)) = 1 := by omega
    rw [e1]
    cases hd : (tl z)[i + 1]? with
    | none =>
      have := List.getElem?_eq_none_iff.mp hd
      rw [List.drop_eq_nil_of_le this]
      rfl
    | some d =>
      obtain ⟨hl, hv⟩ := List.getElem?_eq_some_iff.mp hd
      rw [List.drop_eq_getElem_cons hl, hv]
      simp
  · have e1 : e = i + 1 := by omega
    subst e1
    rw [h2]
    simp
section
variable {P : Program} {w : World} {K : PySem.W.Frag} {mg : Str → Option Value} {base : Heap} {a : Adr}
theorem has_target (D : DefAt K mg "target" sTarget ["name", "found"]) (HIsName : Has P w K mg base 1 "is_name" ["text"] spIsName) (HIsAfter : Has P w K mg base 1 "is_after" ["one", "other"] spIsAfter) :
    Has P w K mg base 2 "target" ["name", "found"] (spTarget K) := by
  refine D.has (k := 1) scTarget (fun vs H Q E h => ?_) (fun f cdv A outer s H vs Q E hr h => ?_)
  · obtain ⟨name, v, r, rfl, _⟩ := h
    rfl
  obtain ⟨name, v, r, rfl, hd, hl, q⟩ := h
  obtain ⟨p, u, xs, rfl, ht, hT⟩ := res_at hd
  refine ⟨_, (pss_cons (ps_if (PW.pt (pw_and (pt_cmpR op_eq (pe_ix ix_tup (pv 1) pe_int (fun _ _ => rfl)) pe_str (nomark _)) (pw_and (pt_val (pe_callH HIsName (hr.mono (by omega)) rfl (pa_cons (pe_ix ix_tup (pv 1) pe_int (fun _ _ => rfl)) pa_nil))) (pw_and1 (pt_val (pe_callH HIsAfter (hr.mono (by omega)) rfl (pa_cons (pe_ix ix_tup (pv 1) pe_int (fun _ _ => rfl)) (pa_cons (pv 0) pa_nil)))))))) (pss_one (ps_ret (pe_ix ix_tup (pv 1) pe_int (fun _ _ => rfl)))) pss_nil)
      (pss_one (ps_ret pe_non))), ?_⟩
  refine ⟨_, rfl, p, _, _, _, rfl, rfl, ht, at0, rfl, _, rfl, ?_⟩
  refine ite2 (fun c => ?_) (fun c => ?_)
  · rw [Res.w_text] at c
    obtain ⟨b, rfl, rfl, hb⟩ := hT c
    have er := Res.eta c
    refine ⟨_, rfl, p, _, _, _, rfl, rfl, ht, at1, r.ch, rfl, hl c, fun H1 e1 => ⟨_, rfl, ?_⟩⟩
    refine ite2 (fun c2 => ?_) (fun c2 => ?_)
    · refine ⟨_, rfl, p, _, _, _, rfl, rfl, same_sqT e1 ht, at1, _, rfl, r.ch, name, rfl, fun H2 e2 => ⟨_, rfl, ?_⟩⟩
      refine ite2 (fun c3 => ?_) (fun c3 => ?_)
      · refine ⟨_, rfl, p, _, _, _, rfl, rfl, same_sqT (e1.trans e2) ht, at1, ?_⟩
        have el : leads name r = some r.ch := by
          rw [er]
          exact if_pos ⟨c2, c3⟩
        rw [el] at q
        exact q _ (e1.trans e2)
      · have el : leads name r = none := by
          rw [er]
          exact if_neg fun h => c3 h.2
        rw [el] at q
        exact q _ (e1.trans e2)
    · have el : leads name r = none := by
        rw [er]
        exact if_neg fun h => c2 h.1
      rw [el] at q
      refine iteF ?_
      exact q _ e1
  · rw [Res.w_text] at c
    have el : leads name r = none := by
      cases r with
      | text c' l => exact absurd rfl c
      | failed n => rfl
      | long n => rfl
    rw [el] at q
    refine iteF ?_
    exact q _ (Same.refl H)
theorem op_lt_ (T : Txt K w mg a) : PySem.W.nsIn K a.aOP (ch 60) = some (some (.str (ch 62) a.t1)) := by
  rw [T.opIn, if_pos (by decide +kernel)]
  exact congrArg (fun x => some (some (Value.str x a.t1))) (by decide +kernel)
theorem op_sq_ (T : Txt K w mg a) : PySem.W.nsIn K a.aOP (ch 91) = some (some (.str (ch 93) a.t2)) := by
  rw [T.opIn, if_neg (by decide +kernel), if_pos (by decide +kernel)]
  exact congrArg (fun x => some (some (Value.str x a.t2))) (by decide +kernel)
theorem op_no_ (T : Txt K w mg a) {c : Nat} (h1 : c ≠ 60) (h2 : c ≠ 91) : PySem.W.nsIn K a.aOP (ch c) = some none := by
  have e1 : ("<" : Str) = ch 60 := by decide +kernel
  have e2 : ("[" : Str) = ch 91 := by decide +kernel
  rw [T.opIn, if_neg fun e => h1 (ch_inj (e.trans e1)), if_neg fun e => h2 (ch_inj (e.trans e2))]
/-- a pair in a pair, both new -/
theorem pair2 {H H1 : Hp} {p1 p2 : Addr} {x y : V} {n : V} (e : Same H H1) (h2 : H1 p2 = none) (h1 : upd H1 p2 (.tup [x, y]) p1 = none) :
    Same H (upd (upd H1 p2 (.tup [x, y])) p1 (.tup [.ref p2, n])) ∧ SqT K (upd (upd H1 p2 (.tup [x, y])) p1 (.tup [.ref p2, n])) p1 [.ref p2, n] ∧ SqT K (upd (upd H1 p2 (.tup [x, y])) p1 (.tup [.ref p2, n])) p2 [x, y] := by
  have g := (e.trans (same_new (.tup [x, y]) h2)).trans (same_new (.tup [.ref p2, n]) h1)
  refine ⟨g, SqT.of upd_same, SqT.of ?_⟩
  exact same_new (.tup [.ref p2, n]) h1 _ _ upd_same
theorem has_segment (D : DefAt K mg "_segment" sSegment ["name", "text", "at"]) (T : Txt K w mg a) (HIsName : Has P w K mg base 1 "is_name" ["text"] spIsName) (HIsAfter : Has P w K mg base 1 "is_after" ["one", "other"] spIsAfter) :
    Has P w K mg base 2 "_segment" ["name", "text", "at"] (spSegment K) := by
  refine D.has (k := 1) scSegment (fun vs H Q E h => ?_) (fun f cdv A outer s H vs Q E hr h => ?_)
  · obtain ⟨name, z, i, rfl, _⟩ := h
    rfl
  obtain ⟨name, z, i, rfl, hi, hz, q⟩ := h
  have hln : z.length ≤ sizeLine := line_of (by omega)
  obtain ⟨c, hc⟩ : ∃ c, (tl z)[i]? = some c := ⟨_, List.getElem?_eq_getElem (by rw [← len_tl]; exact hi)⟩
  have hat := sign_at hc
  rw [seg_c hc] at q
  refine ⟨_, (pss_cons (ps_if (pt_cmpR (op_notIn_kd T.op) (pe_ix ix_str (pv 1) (pv 2) (fun _ _ => rfl)) (pe_glob (v := .ref a.aOP) rfl T.gOP rfl) rfl) (pss_one (ps_ret pe_non)) pss_nil)
      (pss_cons (ps_set (i := 3) scSegment.nd rfl (Or.inl rfl) (pe_bm PySem.F.plainAttrs_str PySem.F.slot_str_find PySem.F.type_str_find mt_find3 (pv 1) (pa_cons (pe_ix ix_kdict (pe_glob (v := .ref a.aOP) rfl T.gOP rfl) (pe_ix ix_str (pv 1) (pv 2) (fun _ _ => rfl)) (fun _ _ => rfl)) (pa_cons (pv 2) pa_nil))))
      (pss_cons (ps_if (pt_cmpR op_lt (pv 3) pe_int (nomark _)) (pss_one (ps_ret pe_non)) pss_nil)
      (pss_cons (ps_set (i := 4) scSegment.nd rfl (Or.inl rfl) (pe_slice sl_str (pv 1) (po_some (pe_op op_add (pv 2) pe_int)) (po_some (pv 3))))
      (pss_cons (ps_if (pt_cmpR op_eq (pe_ix ix_str (pv 1) (pv 2) (fun _ _ => rfl)) pe_str (nomark _)) (pss_one (ps_ret (pe_ifExp (pt_val (pe_callH HIsName (hr.mono (by omega)) rfl (pa_cons (pv 4) pa_nil))) (pe_tup (pa_cons (pe_tup (pa_cons pe_str (pa_cons (pv 4) pa_nil))) (pa_cons (pe_op op_add (pv 3) pe_int) pa_nil))) pe_non))) pss_nil)
      (pss_cons (ps_set (i := 5) scSegment.nd rfl (Or.inl rfl) (pe_ifExp (pt_val (pe_bm PySem.F.plainAttrs_str PySem.F.slot_str_startswith PySem.F.type_str_startswith mt_startswith (pv 4) (pa_cons pe_str pa_nil))) pe_str pe_str))
      (pss_cons (ps_set (i := 6) scSegment.nd rfl (Or.inl rfl) (pe_ifExp (pt_val (pe_bm PySem.F.plainAttrs_str PySem.F.slot_str_startswith PySem.F.type_str_startswith mt_startswith (pv 4) (pa_cons pe_str pa_nil))) (pe_slice sl_str (pv 4) (po_some pe_int) po_none) (pv 4)))
      (pss_cons (ps_if (PW.pt (pw_or (pt_not (pt_val (pe_callH HIsName (hr.mono (by omega)) rfl (pa_cons (pv 6) pa_nil)))) (pw_or1 (pt_not (pt_val (pe_callH HIsAfter (hr.mono (by omega)) rfl (pa_cons (pv 6) (pa_cons (pv 0) pa_nil)))))))) (pss_one (ps_ret pe_non)) pss_nil)
      (pss_one (ps_ret (pe_tup (pa_cons (pe_tup (pa_cons (pv 5) (pa_cons (pv 6) pa_nil))) (pa_cons (pe_op op_add (pv 3) pe_int) pa_nil))))))))))))), ?_⟩
  -- if text[at] not in OPENING
  by_cases c1 : c = 91
  · subst c1
    rw [if_pos rfl] at q
    refine ⟨_, rfl, _, rfl, z, _, _, rfl, rfl, hln, hat, _, _, rfl, rfl, op_sq_ T, _, rfl, ?_⟩
    refine iteF ?_
    refine ⟨_, rfl, rfl, _, rfl, _, rfl, z, _, _, rfl, rfl, hln, hat, _, _, V.str (ch 93), rfl, rfl, ⟨_, _, _, T.op.at_, T.op.lit, op_sq_ T, ⟨_, rfl⟩⟩, _, rfl, z, _, _, rfl, rfl, ?_⟩
    refine ⟨_, rfl, _, _, rfl, rfl, _, rfl, ?_⟩
    cases hf : fnd z 93 i with
    | none =>
      rw [hf] at q
      have hneg := fnd_lt.mpr hf
      refine ite2 (fun _ => q _ (Same.refl H)) (fun n => absurd (decide_eq_true hneg) n)
    | some e =>
      rw [hf] at q
      have he := fnd_some hf
      refine ite2 (fun n => absurd (of_decide_eq_true n) (by rw [he]; omega)) (fun _ => ?_)
      rw [he]
      refine ⟨_, rfl, _, rfl, _, _, rfl, rfl, _, rfl, _, rfl, _, rfl, z, rfl, hln, ?_⟩
      rw [cut_nat1]
      refine ⟨_, rfl, _, rfl, z, _, _, rfl, rfl, hln, hat, rfl, _, rfl, ?_⟩
      refine ite2 (fun _ => ?_) (fun n => absurd (by decide +kernel) n)
      have hsub : (sub z (i + 1) e).length ≤ z.length := by
        rw [len_tl, len_tl, tl_sub, List.length_take, List.length_drop]
        omega
      refine ⟨_, rfl, sub z (i + 1) e, rfl, by omega, fun H1 e1 => ⟨_, rfl, ?_⟩⟩
      refine ite2 (fun c2 => ?_) (fun c2 => ?_)
      · refine ⟨_, rfl, two_line, fun p2 h2 => ⟨_, rfl, _, _, rfl, rfl, two_line, fun p1 h1 => ?_⟩⟩
        have q' : SegRet K H (some (.lnk, sub z (i + 1) e, e + 1)) Q := by
          have q2 : SegRet K H (if isName (sub z (i + 1) e) = true then some (.lnk, sub z (i + 1) e, e + 1) else none) Q := q
          rwa [if_pos c2] at q2
        obtain ⟨g1, g2, g3⟩ := pair2 (K := K) (n := .int ((e : Int) + 1)) e1 h2 h1
        exact q' p1 p2 _ g1 g2 g3
      · have q' : SegRet K H none Q := by
          have q2 : SegRet K H (if isName (sub z (i + 1) e) = true then some (.lnk, sub z (i + 1) e, e + 1) else none) Q := q
          rwa [if_neg c2] at q2
        exact q' _ e1
  · rw [if_neg c1] at q
    by_cases c2 : c = 60
    · subst c2
      rw [if_pos rfl] at q
      refine ⟨_, rfl, _, rfl, z, _, _, rfl, rfl, hln, hat, _, _, rfl, rfl, op_lt_ T, _, rfl, ?_⟩
      refine iteF ?_
      refine ⟨_, rfl, rfl, _, rfl, _, rfl, z, _, _, rfl, rfl, hln, hat, _, _, V.str (ch 62), rfl, rfl, ⟨_, _, _, T.op.at_, T.op.lit, op_lt_ T, ⟨_, rfl⟩⟩, _, rfl, z, _, _, rfl, rfl, ?_⟩
      refine ⟨_, rfl, _, _, rfl, rfl, _, rfl, ?_⟩
      cases hf : fnd z 62 i with
      | none =>
        rw [hf] at q
        have hneg := fnd_lt.mpr hf
        refine ite2 (fun _ => q _ (Same.refl H)) (fun n => absurd (decide_eq_true hneg) n)
      | some e =>
        rw [hf] at q
        have he := fnd_some hf
        obtain ⟨f1, f2, f3⟩ := fnd_spec (Nat.le_of_lt hi) hf
        have hie : i < e := by
          rcases Nat.lt_or_ge i e with h | h
          · exact h
          · have e0 : e = i := by omega
            rw [e0, hc] at f3
            exact absurd (Option.some.inj f3) (by decide)
        have hst := starts_at hie f3
        refine ite2 (fun n => absurd (of_decide_eq_true n) (by rw [he]; omega)) (fun _ => ?_)
        rw [he]
        refine ⟨_, rfl, _, rfl, _, _, rfl, rfl, _, rfl, _, rfl, _, rfl, z, rfl, hln, ?_⟩
        rw [cut_nat1]
        refine ⟨_, rfl, _, rfl, z, _, _, rfl, rfl, hln, hat, rfl, _, rfl, ?_⟩
        refine ite2 (fun n => absurd n (by decide +kernel)) (fun _ => ?_)
        have hsub : ∀ m, (sub z m e).length ≤ z.length := fun m => by
          rw [len_tl, len_tl, tl_sub, List.length_take, List.length_drop]
          omega
        -- word, target: by the at sign
        have tail : ∀ (kd : Kd) (t : Str) (q' : SegRet K H (if isName t = true ∧ after t name = true then some (kd, t, e + 1) else none) Q) (ht : t.length ≤ 1000) (σ : L2.St),
            σ[0]? = some (some (.str name)) → σ[3]? = some (some (.int (e : Int))) → σ[5]? = some (some (.str kd.s)) → σ[6]? = some (some (.str t)) →
            tSeq (tIfS (tOr (tNot (tB (tCall spIsName [] E0 (tCons (tVar 6) tNil)))) (tNot (tB (tCall spIsAfter [] E0 (tCons (tVar 6) (tCons (tVar 0) tNil)))))) (tRet (tC .non)) tNext)
              (tRet (tTup (tCons (tTup (tCons (tVar 5) (tCons (tVar 6) tNil))) (tCons (tOp (rI0 fun i j => .int (i + j)) (tVar 3) (tC (.int 1))) tNil)))) { nx := fun _ H' => Q .non H', rt := Q } σ H := by
          intro kd t q' ht σ s0 s3 s5 s6
          refine ⟨_, s6, t, rfl, ht, fun H1 e1 => ⟨_, rfl, ?_⟩⟩
          cases n1 : isName t with
          | false =>
            have q2 : SegRet K H none Q := by rwa [if_neg fun h => by rw [n1] at h; exact Bool.noConfusion h.1] at q'
            exact iteT (iteT (q2 _ e1))
          | true =>
            refine iteF ?_
            refine ⟨_, s6, _, s0, t, name, rfl, fun H2 e2 => ⟨_, rfl, ?_⟩⟩
            cases n2 : after t name with
            | false =>
              have q2 : SegRet K H none Q := by rwa [if_neg fun h => by rw [n2] at h; exact Bool.noConfusion h.2] at q'
              exact iteT (q2 _ (e1.trans e2))
            | true =>
              have q2 : SegRet K H (some (kd, t, e + 1)) Q := by rwa [if_pos ⟨n1, n2⟩] at q'
              refine iteF ?_
              refine ⟨_, s5, _, s6, two_line, fun p2 h2 => ⟨_, s3, _, _, rfl, rfl, two_line, fun p1 h1 => ?_⟩⟩
              obtain ⟨g1, g2, g3⟩ := pair2 (K := K) (n := .int ((e : Int) + 1)) (e1.trans e2) h2 h1
              exact q2 p1 p2 _ g1 g2 g3
        refine ⟨_, rfl, rfl, _, _, rfl, rfl, _, rfl, ?_⟩
        rw [hst]
        cases ha : atAt z (i + 1) with
        | true =>
          have q' : SegRet K H (if isName (sub z (i + 2) e) = true ∧ after (sub z (i + 2) e) name = true then some (.ind, sub z (i + 2) e, e + 1) else none) Q := by
            have q2 : SegRet K H (if atAt z (i + 1) = true then (if isName (sub z (i + 2) e) = true ∧ after (sub z (i + 2) e) name = true then some (.ind, sub z (i + 2) e, e + 1) else none)
              else (if isName (sub z (i + 1) e) = true ∧ after (sub z (i + 1) e) name = true then some (.inc, sub z (i + 1) e, e + 1) else none)) Q := q
            rwa [if_pos ha] at q2
          refine iteT ?_
          refine ⟨_, rfl, rfl, _, _, rfl, rfl, _, rfl, ?_⟩
          rw [hst, ha]
          refine iteT ?_
          refine ⟨_, rfl, _, rfl, sub z (i + 1) e, rfl, line_of (by have := hsub (i + 1); omega), ?_⟩
          have ecut : cutS (sub z (i + 1) e) (some 1) none = sub z (i + 2) e := by
            have h1 := cut_from (sub z (i + 1) e) 1
            have h2 := sub_sub z (i + 1) e 1 (Nat.le_refl _)
            exact h1.trans h2
          rw [ecut]
          exact tail .ind _ q' (by have := hsub (i + 2); omega) _ rfl rfl rfl rfl
        | false =>
          have q' : SegRet K H (if isName (sub z (i + 1) e) = true ∧ after (sub z (i + 1) e) name = true then some (.inc, sub z (i + 1) e, e + 1) else none) Q := by
            have q2 : SegRet K H (if atAt z (i + 1) = true then (if isName (sub z (i + 2) e) = true ∧ after (sub z (i + 2) e) name = true then some (.ind, sub z (i + 2) e, e + 1) else none)
              else (if isName (sub z (i + 1) e) = true ∧ after (sub z (i + 1) e) name = true then some (.inc, sub z (i + 1) e, e + 1) else none)) Q := q
            rwa [if_neg (by rw [ha]; exact Bool.false_ne_true)] at q2
          refine iteF ?_
          refine ⟨_, rfl, rfl, _, _, rfl, rfl, _, rfl, ?_⟩
          rw [hst, ha]
          refine iteF ?_
          refine ⟨_, rfl, ?_⟩
          exact tail .inc _ q' (by have := hsub (i + 1); omega) _ rfl rfl rfl rfl
    · rw [if_neg c2] at q
      refine ⟨_, rfl, _, rfl, z, _, _, rfl, rfl, hln, hat, _, _, rfl, rfl, op_no_ T c2 c1, _, rfl, ?_⟩
      exact iteT (q _ (Same.refl H))
end
end Pg


set_option Elab.async false
set_option linter.all false
set_option maxRecDepth 100000
set_option maxHeartbeats 2000000
/-! the walk: split -/
namespace Pg
open PySem PySem.Spec PyProof.Rows L2

/-- one more item -/
theorem push {K : PySem.W.Frag} {H0 H H1 : Hp} {l : Addr} {vs : List V} {ds : List PyData} {v : V} {d : PyData} (m : Made H0 H l vs) (hd : DpAll K H vs ds) (e : Same H H1) (h : Dp K H1 v d) (n : noLs ds = true) (n1 : noL d = true) :
    Made H0 (upd H1 l (.lst (vs ++ [v]))) l (vs ++ [v]) ∧ DpAll K (upd H1 l (.lst (vs ++ [v]))) (vs ++ [v]) (ds ++ [d]) := by
  have m1 := m.go e
  have t := m1.ts (.lst (vs ++ [v]))
  exact ⟨m1.app _, dpa_snoc (dpa_ts ((TS.same e).trans t) ds vs n hd) (dp_ts t d v n1 h)⟩
theorem iteB {c : Bool} {A B : Prop} (h1 : c = true → A) (h2 : c = false → B) : if c = true then A else B := by
  cases c with
  | true => exact iteT (h1 rfl)
  | false => exact iteF (h2 rfl)
theorem tru_len {p : Str} : ((p.length : Int) != 0) = !decide (p.length = 0) := by
  by_cases h : p.length = 0
  · rw [h]
    rfl
  · rw [decide_eq_false h]
    exact bne_iff_ne.mpr (by omega)
def spSplit (K : PySem.W.Frag) : Sp := fun vs H Q _ => ∃ name z : Str, vs = [.str name, .str z] ∧ z.length ≤ 1000 ∧ RetL K H ((split name z).map Sg.d) Q
section
variable {P : Program} {w : World} {K : PySem.W.Frag} {mg : Str → Option Value} {base : Heap} {a : Adr}
theorem has_split (D : DefAt K mg "split" sSplit ["name", "text"]) (T : Txt K w mg a) (HSegment : Has P w K mg base 2 "_segment" ["name", "text", "at"] (spSegment K)) :
    Has P w K mg base 3 "split" ["name", "text"] (spSplit K) := by
  refine D.has (k := 2) scSplit (fun vs H Q E h => ?_) (fun f cdv A outer s H vs Q E hr h => ?_)
  · obtain ⟨name, z, rfl, _⟩ := h
    rfl
  obtain ⟨name, z, rfl, hz, q⟩ := h
  have hln : z.length ≤ sizeLine := line_of (by omega)
  have hspl : (split name z).length ≤ 2001 := Nat.le_trans (split_len name z) (by omega)
  refine ⟨_, (pss_cons (ps_set (i := 2) scSplit.nd rfl (Or.inl rfl) (pe_lst pa_nil))
      (pss_cons (ps_set (i := 3) scSplit.nd rfl (Or.inl rfl) pe_str)
      (pss_cons (ps_set (i := 4) scSplit.nd rfl (Or.inl rfl) pe_int)
      (pss_cons (ps_while PassesOwn.never (pt_cmpR op_lt (pv 4) (pe_callB call_len_str rfl T.nlen (by decide +kernel) (pa_cons (pv 1) pa_nil)) (nomark _)) (pss_cons (ps_set (i := 5) scSplit.nd rfl (Or.inl rfl) (pe_callH HSegment (hr.mono (by omega)) rfl (pa_cons (pv 0) (pa_cons (pv 1) (pa_cons (pv 4) pa_nil)))))
      (pss_one (ps_if (pt_cmpR op_isN (pv 5) pe_non (nomark _)) (pss_cons (ps_set (i := 3) scSplit.nd rfl (Or.inl rfl) (pe_op op_add_str (pv 3) (pe_ix ix_str (pv 1) (pv 4) (fun _ _ => rfl))))
      (pss_one (ps_set (i := 4) scSplit.nd rfl (Or.inl rfl) (pe_op op_add (pv 4) pe_int)))) (pss_cons (ps_if (pt_truth (pv 3) (by intro _; rfl)) (pss_one (ps_expr (pe_bm PySem.F.plainAttrs_list PySem.F.slot_list_append PySem.F.type_list_append mt_append (pv 2) (pa_cons (pe_tup (pa_cons pe_str (pa_cons (pv 3) pa_nil))) pa_nil)))) pss_nil)
      (pss_cons (ps_set (i := 3) scSplit.nd rfl (Or.inl rfl) pe_str)
      (pss_cons (ps_expr (pe_bm PySem.F.plainAttrs_list PySem.F.slot_list_append PySem.F.type_list_append mt_append (pv 2) (pa_cons (pe_ix ix_tup (pv 5) pe_int (fun _ _ => rfl)) pa_nil)))
      (pss_one (ps_set (i := 4) scSplit.nd rfl (Or.inl rfl) (pe_ix ix_tup (pv 5) pe_int (fun _ _ => rfl)))))))))))
      (pss_cons (ps_if (pt_truth (pv 3) (by intro _; rfl)) (pss_one (ps_expr (pe_bm PySem.F.plainAttrs_list PySem.F.slot_list_append PySem.F.type_list_append mt_append (pv 2) (pa_cons (pe_tup (pa_cons pe_str (pa_cons (pv 3) pa_nil))) pa_nil)))) pss_nil)
      (pss_one (ps_ret (pv 2)))))))), ?_⟩
  refine ⟨Nat.zero_le _, fun l hl => ?_⟩
  refine ⟨fun m σ H' => ∃ (i : Nat) (p : Str) (gs : List Sg) (vs : List V) (v5 : Option V), σ = [some (.str name), some (.str z), some (.ref l), some (.str p), some (.int (i : Int)), v5] ∧ m = z.length - i ∧ i ≤ z.length ∧ p.length ≤ i ∧
    Made H H' l vs ∧ DpAll K H' vs (gs.map Sg.d) ∧ gs ++ rest name z i p = split name z, ⟨_, 0, Str.empty, [], [], none, rfl, rfl, Nat.zero_le _, Nat.le_refl _, Made.mk0 (Same.refl H) hl, .nil, rfl⟩, ?_⟩
  rintro m σ H1 ⟨i, p, gs, vs, v5, rfl, rfl, hi, hp, md, hd, hsp⟩
  have hgs : gs.length ≤ 2001 := by
    have e := congrArg List.length hsp
    rw [List.length_append] at e
    omega
  have hvs : vs.length = gs.length := by rw [dpa_len hd, List.length_map]
  refine ⟨_, rfl, _, rfl, z, rfl, hln, _, _, rfl, rfl, _, rfl, ?_⟩
  refine iteB (fun c => ?_) (fun c => ?_)
  · have hlt : i < z.length := by
      have := of_decide_eq_true c
      omega
    obtain ⟨cc, hc⟩ : ∃ c, (tl z)[i]? = some c := ⟨_, List.getElem?_eq_getElem (by rw [← len_tl]; exact hlt)⟩
    refine ⟨_, fun σ' H' h => h, ?_⟩
    refine ⟨_, rfl, _, rfl, _, rfl, name, z, i, rfl, hlt, hz, ?_⟩
    cases hs : seg name z i with
    | none =>
      intro H2 e2
      refine ⟨_, rfl, rfl, _, rfl, ?_⟩
      refine iteB (fun _ => ?_) (fun n => absurd n (by decide))
      refine ⟨_, rfl, _, rfl, _, rfl, z, _, _, rfl, rfl, hln, sign_at hc, _, _, rfl, rfl, ?_, ?_⟩
      · refine line_of ?_
        have : (ch cc).length = 1 := rfl
        show p.length + (ch cc).length ≤ _
        omega
      refine ⟨_, rfl, _, _, rfl, rfl, ?_⟩
      refine ⟨z.length - (i + 1), by omega, i + 1, p ++ ch cc, gs, vs, _, rfl, rfl, hlt, ?_, md.go e2, dpa_same e2 _ _ hd, ?_⟩
      · rw [len_append]
        exact Nat.succ_le_succ hp
      · rw [← rest_plain hc hs]
        exact hsp
    | some r =>
      obtain ⟨k, t, e⟩ := r
      obtain ⟨s1, s2, s3, s4, s5⟩ := seg_spec hi hs
      intro p1 p2 H2 e2 t1 t2
      refine ⟨_, rfl, rfl, _, rfl, ?_⟩
      refine iteB (fun n => absurd (of_decide_eq_true n) (fun h => nomatch h)) (fun _ => ?_)
      -- what follows the plain signs
      have next : ∀ (H3 : Hp) (ws : List V), TS H2 H3 → Made H H3 l ws → DpAll K H3 ws ((gs ++ flush p).map Sg.d) → ws.length ≤ 3000 →
          tSeq (tAsg (tC (.str "")) (gName 3)) (tSeq (tDrop (tBM K "list" rAppend (tVar 2) (tCons (tOp (rIxT K) (tVar 5) (tC (.int 0))) tNil))) (tAsg (tOp (rIxT K) (tVar 5) (tC (.int 1))) (gName 4)))
            { nx := fun σ' H' => ∃ m', m' < z.length - i ∧ ∃ (i : Nat) (p : Str) (gs : List Sg) (vs : List V) (v5 : Option V), σ' = [some (.str name), some (.str z), some (.ref l), some (.str p), some (.int (i : Int)), v5] ∧ m' = z.length - i ∧ i ≤ z.length ∧ p.length ≤ i ∧
                Made H H' l vs ∧ DpAll K H' vs (gs.map Sg.d) ∧ gs ++ rest name z i p = split name z, rt := Q } [some (.str name), some (.str z), some (.ref l), some (.str p), some (.int (i : Int)), some (.ref p1)] H3 := by
        intro H3 ws t23 m3 d3 hw
        have t1' : SqT K H3 p1 [.ref p2, .int (e : Int)] := t23.sqT t1
        have t2' : Dp K H3 (.ref p2) (Sg.d (k, t)) := sg_of (t23.sqT t2)
        refine ⟨_, rfl, .inl ⟨rfl, _, SqL.of m3.at_⟩, _, rfl, p1, _, _, _, rfl, rfl, t1', at0, l, ws, _, rfl, rfl, m3.at_, line_lt (by omega), ?_⟩
        obtain ⟨m4, d4⟩ := push m3 d3 (Same.refl H3) t2' (noLs_map noL_sg _) (noL_sg (k, t))
        refine ⟨_, rfl, p1, _, _, _, rfl, rfl, (m3.ts _).sqT t1', at1, ?_⟩
        refine ⟨z.length - e, by omega, e, Str.empty, gs ++ flush p ++ [(k, t)], _, _, rfl, rfl, s2, Nat.zero_le _, m4, ?_, ?_⟩
        · rw [List.map_append]
          exact d4
        · rw [← hsp, rest_seg hlt hs]
          simp
      have m2 := md.go e2
      have d2 := dpa_same e2 _ _ hd
      refine ⟨_, rfl, _, ⟨line_of (by omega), rfl⟩, ?_⟩
      rw [tru_len]
      refine iteB (fun c3 => ?_) (fun c3 => ?_)
      · have hpl : ¬ p.length = 0 := fun h0 => by
          rw [h0] at c3
          cases c3
        have hfl : flush p = [(.txt, p)] := if_neg hpl
        refine ⟨_, rfl, .inl ⟨rfl, _, SqL.of m2.at_⟩, _, rfl, two_line, fun pt hpt => ⟨l, vs, _, rfl, rfl, same_new _ hpt _ _ m2.at_, line_lt (by omega), ?_⟩⟩
        have ep := same_new (.tup [.str "text", .str p]) hpt
        obtain ⟨m4, d4⟩ := push m2 d2 ep (sg_of (g := (.txt, p)) (SqT.of upd_same)) (noLs_map noL_sg _) (noL_sg (.txt, p))
        refine next _ _ ?_ m4 ?_ ?_
        · exact (TS.same ep).trans ((m2.go ep).ts _)
        · rw [hfl, List.map_append]
          exact d4
        · rw [List.length_append]
          show vs.length + 1 ≤ 3000
          omega
      · have hpl : p.length = 0 := by
          cases h0 : decide (p.length = 0) with
          | true => exact of_decide_eq_true h0
          | false =>
            rw [h0] at c3
            cases c3
        have hfl : flush p = [] := if_pos hpl
        refine next _ _ (TS.refl _) m2 ?_ (by omega)
        rw [hfl, List.append_nil]
        exact d2
  · have hge : z.length ≤ i := by
      have := of_decide_eq_false c
      omega
    rw [rest_end hge] at hsp
    have fin : ∀ (H3 : Hp) (ws : List V), Made H H3 l ws → DpAll K H3 ws ((split name z).map Sg.d) → Q (.ref l) H3 := fun H3 ws m3 d3 => q l ws H3 m3.new m3.same m3.at_ d3
    refine ⟨_, rfl, _, ⟨line_of (by omega), rfl⟩, ?_⟩
    rw [tru_len]
    refine iteB (fun c3 => ?_) (fun c3 => ?_)
    · have hpl : ¬ p.length = 0 := fun h0 => by
        rw [h0] at c3
        cases c3
      have hfl : flush p = [(.txt, p)] := if_neg hpl
      refine ⟨_, rfl, .inl ⟨rfl, _, SqL.of md.at_⟩, _, rfl, two_line, fun pt hpt => ⟨l, vs, _, rfl, rfl, same_new _ hpt _ _ md.at_, line_lt (by omega), ?_⟩⟩
      have ep := same_new (.tup [.str "text", .str p]) hpt
      obtain ⟨m4, d4⟩ := push md hd ep (sg_of (g := (.txt, p)) (SqT.of upd_same)) (noLs_map noL_sg _) (noL_sg (.txt, p))
      refine ⟨_, rfl, fin _ _ m4 ?_⟩
      rw [← hsp, hfl, List.map_append]
      exact d4
    · have hpl : p.length = 0 := by
        cases h0 : decide (p.length = 0) with
        | true => exact of_decide_eq_true h0
        | false =>
          rw [h0] at c3
          cases c3
      have hfl : flush p = [] := if_pos hpl
      refine ⟨_, rfl, fin _ _ md ?_⟩
      rw [← hsp, hfl, List.append_nil]
      exact hd
end
end Pg


set_option Elab.async false
set_option linter.all false
set_option maxRecDepth 100000
set_option maxHeartbeats 4000000
/-! the walk: join_result and what it calls -/
namespace Pg
open PySem PySem.Spec PyProof.Rows L2

theorem big_of {n : Nat} (h : n ≤ 10000000) : n ≤ sizeLine := Nat.le_trans h (by decide)
theorem big_lt {n : Nat} (h : n < 10000000) : n < sizeLine := Nat.lt_of_lt_of_le h (by decide)

/-! ### dicts with text keys -/
theorem putK_old {kvs : List (Key × V)} {k : Key} (v : V) (h : (valV kvs k).isSome = true) : (putK kvs k v).map (·.1) = kvs.map (·.1) := by
  unfold putK
  rw [valV_any, h, if_pos rfl, List.map_map]
  refine List.map_congr_left fun p _ => ?_
  show (if p.1 = k then (p.1, v) else p).1 = p.1
  split <;> rfl
theorem valV_mem {kvs : List (Key × V)} {k : Key} : (valV kvs k).isSome = true ↔ k ∈ kvs.map (·.1) := by
  rw [← valV_any, List.any_eq_true, List.mem_map]
  constructor
  · rintro ⟨p, hp, e⟩
    exact ⟨p, hp, of_decide_eq_true e⟩
  · rintro ⟨p, hp, e⟩
    exact ⟨p, hp, decide_eq_true e⟩
theorem inr_mem {ks : List Str} {y : Str} : (Sum.inr y : Key) ∈ ks.map Sum.inr ↔ y ∈ ks := by
  rw [List.mem_map]
  constructor
  · rintro ⟨x, hx, e⟩
    rw [← Sum.inr.inj e]
    exact hx
  · exact fun h => ⟨y, h, rfl⟩
/-- the keys of the dict are the texts xs -/
structure KeyD (kvs : List (Key × V)) (ks xs : List Str) (B : Nat) : Prop where
  ek : kvs.map (·.1) = ks.map Sum.inr
  nd : ks.Nodup
  mm : ∀ x, x ∈ ks ↔ x ∈ xs
  sz : ks.length ≤ B
theorem KeyD.len {kvs : List (Key × V)} {ks xs : List Str} {B : Nat} (h : KeyD kvs ks xs B) : kvs.length = ks.length := by
  have e := congrArg List.length h.ek
  rwa [List.length_map, List.length_map] at e
theorem KeyD.nil : KeyD [] [] [] 0 := ⟨rfl, List.nodup_nil, fun _ => Iff.rfl, Nat.le_refl _⟩
theorem KeyD.mono {kvs : List (Key × V)} {ks xs : List Str} {B C : Nat} (h : KeyD kvs ks xs B) (hb : B ≤ C) : KeyD kvs ks xs C := ⟨h.ek, h.nd, h.mm, Nat.le_trans h.sz hb⟩
theorem KeyD.put {kvs : List (Key × V)} {ks xs : List Str} {B : Nat} (h : KeyD kvs ks xs B) (y : Str) (v : V) : ∃ ks', KeyD (putK kvs (Sum.inr y) v) ks' (xs ++ [y]) (B + 1) := by
  cases hv : valV kvs (Sum.inr y : Key) with
  | some u =>
    have hs : (valV kvs (Sum.inr y : Key)).isSome = true := by rw [hv]; rfl
    have hm : y ∈ ks := inr_mem.mp (by rw [← h.ek]; exact valV_mem.mp hs)
    refine ⟨ks, by rw [putK_old v hs]; exact h.ek, h.nd, fun x => ?_, Nat.le_succ_of_le h.sz⟩
    rw [List.mem_append, List.mem_singleton, h.mm]
    constructor
    · exact .inl
    · rintro (q | q)
      · exact q
      · rw [q]
        exact (h.mm y).mp hm
  | none =>
    have hm : y ∉ ks := fun m => by
      have := valV_mem.mpr (by rw [h.ek]; exact inr_mem.mpr m)
      rw [hv] at this
      cases this
    refine ⟨ks ++ [y], by rw [putK_new v hv, List.map_append, h.ek, List.map_append]; rfl, nd_snoc h.nd hm, fun x => ?_, by rw [List.length_append]; exact Nat.succ_le_succ h.sz⟩
    rw [List.mem_append, List.mem_singleton, List.mem_append, List.mem_singleton, h.mm]
/-- a new dict of texts at d -/
structure DictX (H0 H : Hp) (d : Addr) (xs : List Str) (B : Nat) : Prop where
  new : H0 d = none
  at_ : ∃ kvs ks, H d = some (.dK kvs) ∧ KeyD kvs ks xs B
theorem DictX.put {H0 H : Hp} {d : Addr} {xs : List Str} {B : Nat} (h : DictX H0 H d xs B) (hB : B < 1000000) (y : Str) (v : V) : ∃ H', DPut H d (.str y) v H' ∧ DictX H0 H' d (xs ++ [y]) (B + 1) ∧ But d H H' ∧ TS H H' ∧ (∀ (K : PySem.W.Frag) (a : Addr) (ys : List V), SqL K H a ys → SqL K H' a ys) := by
  obtain ⟨kvs, ks, ha, hk⟩ := h.at_
  obtain ⟨ks', hk'⟩ := hk.put y v
  refine ⟨_, DPut.k (k := Sum.inr y) ha (by rw [hk.len]; have := hk.sz; exact big_lt (by omega)), ⟨h.new, _, ks', upd_same, hk'⟩, But.set _ _, TS.set _ ha rfl, fun K a ys hq => ?_⟩
  rcases hq with (q | ⟨ob, q⟩) | q
  · exact .inl (.inl (by rw [upd_ne (ne_of q ha (by intro z; cases z))]; exact q))
  · exact .inl (.inr ⟨ob, by rw [upd_ne (ne_of q ha (by intro z; cases z))]; exact q⟩)
  · exact .inr q
theorem DictX.go {H0 H H' : Hp} {d : Addr} {xs : List Str} {B : Nat} (h : DictX H0 H d xs B) (e : Same H H') : DictX H0 H' d xs B := by
  obtain ⟨kvs, ks, ha, hk⟩ := h.at_
  exact ⟨h.new, kvs, ks, e _ _ ha, hk⟩
theorem DictX.same {H0 H H' : Hp} {d : Addr} {xs : List Str} {B : Nat} (h : DictX H0 H d xs B) (e : Same H0 H) (b : But d H H') : Same H0 H' := fun c o q =>
  b c o (e c o q) (fun z => by rw [z, h.new] at q; cases q)

/-! ### dependencies in their places -/
theorem deps_split (R : Str → Res) (name : Str) {gs : List Sg} {i : Nat} {g : Sg} (h : gs[i]? = some g) : ∃ tail, deps R name gs = deps R name (gs.take i) ++ (dep1 R name g ++ tail) := by
  refine ⟨deps R name (gs.drop (i + 1)), ?_⟩
  have e : gs = gs.take i ++ g :: gs.drop (i + 1) := by
    obtain ⟨hl, hv⟩ := List.getElem?_eq_some_iff.mp h
    rw [← hv, ← List.drop_eq_getElem_cons hl, List.take_append_drop]
  have e2 : deps R name gs = deps R name (gs.take i ++ g :: gs.drop (i + 1)) := congrArg _ e
  rw [e2]
  unfold deps
  rw [List.flatMap_append, List.flatMap_cons]
theorem app_at {α : Type} {l m : List α} {x : α} {n : Nat} (h : m[n]? = some x) : (l ++ m)[l.length + n]? = some x := by
  rw [List.getElem?_append_right (Nat.le_add_right _ _), Nat.add_sub_cancel_left]
  exact h

/-- the first failure -/
def firstF (name z : Str) (att : Int) (ds : List Dep) : Option Res := if att ≤ fails z then some (.failed name) else (ds.find? fun d => !d.2.isT).map (·.2)
def OptRet (K : PySem.W.Frag) (H : Hp) : Option Res → VK → Prop
  | none, Q => RetV H .non Q
  | some r, Q => RetD K H r.d Q
def spFirst (K : PySem.W.Frag) : Sp := fun vs H Q _ => ∃ (name z : Str) (att : Int) (v : V) (ds : List Dep), vs = [.str name, .str z, .int att, v] ∧ Dp K H v (.list (ds.map Dep.d)) ∧ OptRet K H (firstF name z att ds) Q
section
variable {P : Program} {w : World} {K : PySem.W.Frag} {mg : Str → Option Value} {base : Heap} {a : Adr}
theorem res_flat {v : V} {H : Hp} {r : Res} (h : Dp K H v r.d) : ∃ p, v = .ref p := by
  obtain ⟨p, _, _, e, _⟩ := res_at h
  exact ⟨p, e⟩
theorem failed_of {H : Hp} {p : Addr} {n : Str} (h : SqT K H p [.str "failed", .str n]) : Dp K H (.ref p) (Res.failed n).d := .tup h (.cons (.str _) (.cons (.str _) .nil))
theorem long_of {H : Hp} {p : Addr} {n : Str} (h : SqT K H p [.str "long", .str n]) : Dp K H (.ref p) (Res.long n).d := .tup h (.cons (.str _) (.cons (.str _) .nil))
theorem find_take {ds : List Dep} {p : Dep → Bool} {i : Nat} {d : Dep} (h : ds[i]? = some d) (hn : ∀ x ∈ ds.take i, p x = false) (hp : p d = true) : ds.find? p = some d := by
  have e : ds = ds.take i ++ d :: ds.drop (i + 1) := by
    obtain ⟨hl, hv⟩ := List.getElem?_eq_some_iff.mp h
    rw [← hv, ← List.drop_eq_getElem_cons hl, List.take_append_drop]
  have e2 : ds.find? p = (ds.take i ++ d :: ds.drop (i + 1)).find? p := congrArg _ e
  rw [e2, List.find?_append, List.find?_eq_none.mpr fun x hx => by rw [hn x hx]; exact Bool.false_ne_true, List.find?_cons, hp]
  rfl
theorem has_first (D : DefAt K mg "_first_failure" sFirstFailure ["name", "text", "attempts", "found"]) (HFailures : Has P w K mg base 1 "failures" ["text"] spFailures) :
    Has P w K mg base 2 "_first_failure" ["name", "text", "attempts", "found"] (spFirst K) := by
  refine D.has (k := 1) scFirstFailure (fun vs H Q E h => ?_) (fun f cdv A outer s H vs Q E hr h => ?_)
  · obtain ⟨name, z, att, v, ds, rfl, _⟩ := h
    rfl
  obtain ⟨name, z, att, v, ds, rfl, hv, q⟩ := h
  obtain ⟨lf, fs, rfl, hl, hd⟩ := dp_lst hv
  refine ⟨_, (pss_cons (ps_if (pt_cmpR op_ge (pe_callH HFailures (hr.mono (by omega)) rfl (pa_cons (pv 1) pa_nil)) (pv 2) (nomark _)) (pss_one (ps_ret (pe_tup (pa_cons pe_str (pa_cons (pv 0) pa_nil))))) pss_nil)
      (pss_cons (ps_for PassesOwn.never rfl (pi_list (pv 3)) (pg_tup rfl (pgs_cons (pg_name (i := 4) scFirstFailure.nd rfl (Or.inl rfl)) (pgs_cons (pg_name (i := 5) scFirstFailure.nd rfl (Or.inl rfl)) pgs_nil))) (pss_one (ps_if (pt_cmpR op_ne (pe_ix ix_tup (pv 5) pe_int (fun _ _ => rfl)) pe_str (nomark _)) (pss_one (ps_ret (pv 5))) pss_nil)))
      (pss_one (ps_ret pe_non)))), ?_⟩
  refine ⟨_, rfl, z, rfl, fun H1 e1 => ⟨_, rfl, _, _, rfl, rfl, _, rfl, ?_⟩⟩
  unfold firstF at q
  refine iteB (fun c => ?_) (fun c => ?_)
  · rw [if_pos (of_decide_eq_true c)] at q
    refine ⟨_, rfl, two_line, fun p hp => ?_⟩
    exact q _ _ (e1.trans (same_new _ hp)) (failed_of (SqT.of upd_same))
  · rw [if_neg (of_decide_eq_false c)] at q
    refine ⟨_, rfl, lf, rfl, ⟨_, e1.seq hl⟩, for_list (K := K) (a := lf) (xs := fs) (fun i σ H' => ∃ v4 v5 : Option V, σ = [some (.str name), some (.str z), some (.int att), some (.ref lf), v4, v5] ∧ Same H H' ∧ ∀ d ∈ ds.take i, d.2.isT = true)
      ⟨none, none, rfl, e1, fun d h => (by cases h)⟩ (fun i σ H' _ ⟨_, _, _, e, _⟩ => e.seq hl) ?_ ?_⟩
    · rintro i x σ H' hx ⟨v4, v5, rfl, e, ht⟩
      obtain ⟨dd, g1, g2⟩ := dpa_get hd hx
      rw [List.getElem?_map] at g1
      obtain ⟨d, g3, g4⟩ := Option.map_eq_some_iff.mp g1
      subst g4
      obtain ⟨pd, u, rfl, hp, hu⟩ := dep_at (dp_same e _ _ g2)
      obtain ⟨pr, u1, xs1, rfl, hr1, hT⟩ := res_at hu
      refine ⟨pd, _, rfl, hp, rfl, _, _, rfl, _, _, rfl, rfl, ?_⟩
      refine ⟨_, rfl, pr, _, _, _, rfl, rfl, hr1, at0, rfl, _, rfl, ?_⟩
      rw [Res.w_text]
      cases hT2 : d.2.isT with
      | true =>
        refine iteF ⟨_, _, rfl, e, fun d' hd' => ?_⟩
        rw [take_snoc g3] at hd'
        rcases List.mem_append.mp hd' with h | h
        · exact ht d' h
        · rw [List.mem_singleton.mp h]
          exact hT2
      | false =>
        refine iteT ⟨_, rfl, ?_⟩
        rw [find_take g3 (p := fun d => !d.2.isT) (fun x hx => by rw [ht x hx]; rfl) (by rw [hT2]; rfl)] at q
        exact q _ _ e hu
    · rintro σ H' ⟨v4, v5, rfl, e, ht⟩
      have hlen : fs.length = ds.length := by rw [dpa_len hd, List.length_map]
      rw [hlen, List.take_length] at ht
      rw [List.find?_eq_none.mpr fun x hx => by rw [ht x hx]; simp] at q
      exact q _ e
end
end Pg


set_option Elab.async false
set_option linter.all false
set_option maxRecDepth 100000
set_option maxHeartbeats 4000000
/-! the walk: _join_segments, join_result -/
namespace Pg
open PySem PySem.Spec PyProof.Rows L2

/-- bounds of results -/
def RB (R : Str → Res) : Prop := ∀ x, (R x).ch.length ≤ 200 ∧ (R x).ls.length ≤ 1600
theorem chosen_len {R : Str → Res} (hb : RB R) {name : Str} {n : Nat} {g : Sg} (hg : SgOk n name g) (h : g.1 = .inc ∨ g.1 = .ind) : (chosen R name g).ch.length ≤ 200 ∧ (chosen R name g).ls.length ≤ 1600 := by
  rcases chosen_or R hg h with e | ⟨x, _, e⟩
  · rw [e]
    exact ⟨by decide +kernel, Nat.zero_le _⟩
  · rw [e]
    exact hb x
theorem stepC_len {R : Str → Res} (hb : RB R) {name : Str} {g : Sg} (hg : SgOk 60 name g) (acc : Str) : (stepC R name acc g).length ≤ acc.length + 200 := by
  have hs := hg.good.1
  obtain ⟨k, s⟩ := g
  have hs : s.length ≤ 60 := hs
  cases k with
  | txt =>
    show (acc ++ s).length ≤ _
    rw [len_append]
    omega
  | lnk =>
    show (acc ++ "[" ++ s ++ "]").length ≤ _
    rw [len_append, len_append, len_append, show ("[" : Str).length = 1 by decide +kernel, show ("]" : Str).length = 1 by decide +kernel]
    omega
  | inc =>
    have := (chosen_len hb hg (.inl rfl)).1
    show (acc ++ (chosen R name (.inc, s)).ch).length ≤ _
    rw [len_append]
    omega
  | ind =>
    have := (chosen_len hb hg (.inr rfl)).1
    show (acc ++ (chosen R name (.ind, s)).ch).length ≤ _
    rw [len_append]
    omega
theorem chars_len {R : Str → Res} (hb : RB R) {name : Str} : ∀ (gs : List Sg) (acc : Str), (∀ g ∈ gs, SgOk 60 name g) → (gs.foldl (stepC R name) acc).length ≤ acc.length + gs.length * 200
  | [], acc, _ => by simp
  | g :: r, acc, hg => by
    have h1 := stepC_len hb (hg g List.mem_cons_self) acc
    have h2 := chars_len hb r (stepC R name acc g) fun x hx => hg x (List.mem_cons_of_mem _ hx)
    rw [List.foldl_cons, List.length_cons]
    omega
theorem w_isT {r : Res} (h : r.isT = true) : r.w = "text" := by cases r <;> first | rfl | cases h
/-- the model's sum of texts -/
abbrev rCatS : R2 := fun x y H Q => ∃ i j, x = V.str i ∧ y = V.str j ∧ i.length + j.length ≤ sizeLine ∧ Q (V.str (i ++ j)) H
def spJoinSeg (K : PySem.W.Frag) : Sp := fun vs H Q _ => ∃ (R : Str → Res) (name z : Str) (v : V), vs = [.str name, .str z, v] ∧ Good 60 z ∧ RB R ∧ Dp K H v (.list ((deps R name (split name z)).map Dep.d)) ∧ (∀ d ∈ deps R name (split name z), d.2.isT = true) ∧
  ∀ p b H', Same H H' → SqT K H' p [.str (chars R name (split name z)), .ref b] → SqT K H' b ((rise (links R name (split name z))).map V.str) → Q (.ref p) H'
section
variable {P : Program} {w : World} {K : PySem.W.Frag} {mg : Str → Option Value} {base : Heap} {a : Adr}
theorem has_join_segments (D : DefAt K mg "_join_segments" sJoinSegments ["name", "text", "found"]) (T : Txt K w mg a) (HSplit : Has P w K mg base 3 "split" ["name", "text"] (spSplit K)) (HTarget : Has P w K mg base 2 "target" ["name", "found"] (spTarget K)) :
    Has P w K mg base 4 "_join_segments" ["name", "text", "found"] (spJoinSeg K) := by
  refine D.has (k := 3) scJoinSegments (fun vs H Q E h => ?_) (fun f cdv A outer s H vs Q E hr h => ?_)
  · obtain ⟨R, name, z, v, rfl, _⟩ := h
    rfl
  obtain ⟨R, name, z, v, rfl, hz, hb, hv, hT, q⟩ := h
  obtain ⟨lf, fs, rfl, hl, hd⟩ := dp_lst hv
  have hgs := split_ok (name := name) hz (by decide : 6 ≤ 60)
  have hlen : (split name z).length ≤ 121 := Nat.le_trans (split_len name z) (by have := hz.1; omega)
  generalize hG : split name z = gs at *
  have charsB : ∀ i, i ≤ gs.length → (chars R name (gs.take i)).length ≤ i * 200 := fun i hi => by
    have h1 := chars_len hb (gs.take i) Str.empty fun g hg => hgs g (List.mem_of_mem_take hg)
    rw [List.length_take, Nat.min_eq_left hi] at h1
    exact Nat.le_trans h1 (by show 0 + _ ≤ _; omega)
  refine ⟨_, (pss_cons (ps_set (i := 3) scJoinSegments.nd rfl (Or.inl rfl) pe_str)
      (pss_cons (ps_set (i := 4) scJoinSegments.nd rfl (Or.inl rfl) pe_dnewK)
      (pss_cons (ps_set (i := 5) scJoinSegments.nd rfl (Or.inl rfl) pe_int)
      (pss_cons (ps_for PassesOwn.never rfl (pi_list (pe_callH HSplit (hr.mono (by omega)) rfl (pa_cons (pv 0) (pa_cons (pv 1) pa_nil)))) (pg_tup rfl (pgs_cons (pg_name (i := 6) scJoinSegments.nd rfl (Or.inl rfl)) (pgs_cons (pg_name (i := 7) scJoinSegments.nd rfl (Or.inl rfl)) pgs_nil))) (pss_one (ps_if (pt_cmpR op_eq (pv 6) pe_str (nomark _)) (pss_one (ps_set (i := 3) scJoinSegments.nd rfl (Or.inl rfl) (pe_op op_add_str (pv 3) (pv 7)))) (pss_one (ps_if (pt_cmpR op_eq (pv 6) pe_str (nomark _)) (pss_cons (ps_set (i := 3) scJoinSegments.nd rfl (Or.inl rfl) (pe_op op_add_str (pe_op op_add_str (pe_op op_add_str (pv 3) pe_str) (pv 7)) pe_str))
      (pss_one (ps_dput (hu_of hr) (pv 4) (pv 7) pe_bl rfl))) (pss_cons (ps_set (i := 8) scJoinSegments.nd rfl (Or.inl rfl) (pe_ix ix_tup (pe_ix ix_list (pv 2) (pv 5) (fun _ _ => rfl)) pe_int (fun _ _ => rfl)))
      (pss_cons (ps_set (i := 5) scJoinSegments.nd rfl (Or.inl rfl) (pe_op op_add (pv 5) pe_int))
      (pss_cons (ps_if (pt_cmpR op_eq (pv 6) pe_str (nomark _)) (pss_cons (ps_set (i := 9) scJoinSegments.nd rfl (Or.inl rfl) (pe_callH HTarget (hr.mono (by omega)) rfl (pa_cons (pv 0) (pa_cons (pv 8) pa_nil))))
      (pss_cons (ps_set (i := 8) scJoinSegments.nd rfl (Or.inl rfl) (pe_ifExp (pt_cmpR op_isN (pv 9) pe_non (nomark _)) (pe_glob (v := .ref a.aNO) rfl T.gNO rfl) (pe_ix ix_tup (pe_ix ix_list (pv 2) (pv 5) (fun _ _ => rfl)) pe_int (fun _ _ => rfl))))
      (pss_one (ps_set (i := 5) scJoinSegments.nd rfl (Or.inl rfl) (pe_op op_add (pv 5) (pe_ifExp (pt_cmpR op_isN (pv 9) pe_non (nomark _)) pe_int pe_int)))))) pss_nil)
      (pss_cons (ps_set (i := 3) scJoinSegments.nd rfl (Or.inl rfl) (pe_op op_add_str (pv 3) (pe_ix ix_tup (pv 8) pe_int (fun _ _ => rfl))))
      (pss_one (ps_for PassesOwn.never rfl (pi_tup (pe_ix ix_tup (pv 8) pe_int (fun _ _ => rfl))) (pg_name (i := 10) scJoinSegments.nd rfl (Or.inl rfl)) (pss_one (ps_dput (hu_of hr) (pv 4) (pv 10) pe_bl rfl)))))))))))))
      (pss_one (ps_ret (pe_tup (pa_cons (pv 3) (pa_cons (pe_callTy call_tuple_of rfl T.ntuple (by decide +kernel) (pa_cons (pe_callB (cr_sortT rfl) rfl T.nsorted (by decide +kernel) (pa_cons (pv 4) pa_nil)) pa_nil)) pa_nil))))))))), ?_⟩
  intro dl hdl
  refine ⟨_, rfl, _, rfl, name, z, rfl, by have := hz.1; omega, fun p vs H1 np e1 h1 d1 => ?_⟩
  rw [hG] at d1
  have hdl1 : H dl = none := hdl
  have D0 : DictX H (upd H dl (.dK [])) dl [] 0 := ⟨hdl1, [], [], upd_same, KeyD.nil⟩
  have hvs : vs.length = gs.length := by rw [dpa_len d1, List.length_map]
  generalize hPv : (fun (i : Nat) (σ : L2.St) (H' : Hp) => ∃ v6 v7 v8 v9 v10 : Option V, σ = [some (V.str name), some (.str z), some (.ref lf), some (.str (chars R name (gs.take i))), some (.ref dl), some (.int ((deps R name (gs.take i)).length : Int)), v6, v7, v8, v9, v10] ∧
    Same H H' ∧ SqL K H' p vs ∧ DpAll K H' vs (gs.map Sg.d) ∧ DictX H H' dl (links R name (gs.take i)) (i * 1600)) = Pv
  refine ⟨p, rfl, ⟨_, SqL.of h1⟩, for_list (K := K) (a := p) (xs := vs) Pv ?_ ?_ ?_ ?_⟩
  · subst hPv
    exact ⟨none, none, none, none, none, rfl, (same_new _ hdl1).trans e1, SqL.of h1, d1, D0.go e1⟩
  · subst hPv
    exact fun i σ H' _ ⟨_, _, _, _, _, _, _, h, _⟩ => h
  · rintro i x σ H' hx hp
    have hp' := hp
    rw [← hPv] at hp'
    obtain ⟨v6, v7, v8, v9, v10, rfl, e, hpl, dv, DX⟩ := hp'
    obtain ⟨dd, g1, g2⟩ := dpa_get dv hx
    rw [List.getElem?_map] at g1
    obtain ⟨g, g3, g4⟩ := Option.map_eq_some_iff.mp g1
    subst g4
    have hi : i < gs.length := (List.getElem?_eq_some_iff.mp g3).1
    have sg := hgs g (List.mem_of_getElem? g3)
    have sgl := sg.good.1
    obtain ⟨pa, rfl, hpa⟩ := sg_at g2
    have et := take_snoc g3
    have cB := charsB i (Nat.le_of_lt hi)
    obtain ⟨tail, hdt⟩ := deps_split R name g3
    have hdlen : (deps R name (gs.take i)).length ≤ 1000 := by
      have h1 := deps_len R name (gs.take i)
      rw [List.length_take] at h1
      omega
    -- a turn's end
    have fin : ∀ (c : Str) (n : Nat) (ls : List Str) (H2 : Hp) (B : Nat) (v6 v7 v8 v9 v10 : Option V), c = stepC R name (chars R name (gs.take i)) g → n = (deps R name (gs.take i)).length + (dep1 R name g).length → ls = linksOf R name g → Same H H2 → TS H' H2 → SqL K H2 p vs →
        DictX H H2 dl (links R name (gs.take i) ++ ls) B → B ≤ (i + 1) * 1600 → Pv (i + 1) [some (V.str name), some (.str z), some (.ref lf), some (.str c), some (.ref dl), some (.int (n : Int)), v6, v7, v8, v9, v10] H2 := by
      intro c n ls H2 B v6 v7 v8 v9 v10 ec en el e2 t2 p2 D2 hB
      rw [← hPv]
      refine ⟨v6, v7, v8, v9, v10, ?_, e2, p2, dpa_ts t2 _ _ (noLs_map noL_sg _) dv, ?_⟩
      · rw [et, chars_snoc, deps_snoc, List.length_append, ec, en]
      · rw [et, links_snoc, ← el]
        obtain ⟨n1, kvs, ks, k1, k2⟩ := D2
        exact ⟨n1, kvs, ks, k1, k2.mono hB⟩
    -- the characters and the links of a result that is taken
    have take : ∀ (D : Ends) (pr b : Addr) (c : Str) (ls : List Str) (n : Nat) (H2 : Hp) (v6 v7 v9 v10 : Option V), (∀ σ H3, Pv (i + 1) σ H3 → D.nx σ H3) → SqT K H2 pr [.str "text", .str c, .ref b] → SqT K H2 b (ls.map V.str) → c = (chosen R name g).ch → ls = (chosen R name g).ls →
        (g.1 = .inc ∨ g.1 = .ind) → n = (deps R name (gs.take i)).length + (dep1 R name g).length → Same H H2 → TS H' H2 → SqL K H2 p vs → DictX H H2 dl (links R name (gs.take i)) (i * 1600) →
        tSeq (tAsg (tOp rCatS (tVar 3) (tOp (rIxT K) (tVar 8) (tC (.int 1)))) (gName 3)) (tFor (iTup K (tOp (rIxT K) (tVar 8) (tC (.int 2)))) (gName 10) (sDPut (tVar 4) (tVar 10) (tC (.bl true)))) D
          [some (V.str name), some (.str z), some (.ref lf), some (.str (chars R name (gs.take i))), some (.ref dl), some (.int (n : Int)), v6, v7, some (.ref pr), v9, v10] H2 := by
      intro D pr b c ls n H2 v6 v7 v9 v10 hD t1 t2 ec el hk en e2 ts2 p2 D2
      have hcl := chosen_len hb sg hk
      rw [← ec, ← el] at hcl
      refine ⟨_, rfl, _, rfl, pr, _, _, _, rfl, rfl, t1, at1, _, _, rfl, rfl, big_of (by omega), ?_⟩
      refine ⟨_, rfl, pr, _, _, _, rfl, rfl, t1, at2, b, rfl, ⟨_, t2⟩, for_tup (K := K) (a := b) (xs := ls.map V.str) (fun j σ H3 => ∃ v10 : Option V, σ = [some (V.str name), some (.str z), some (.ref lf), some (.str (chars R name (gs.take i) ++ c)), some (.ref dl), some (.int (n : Int)), v6, v7, some (.ref pr), v9, v10] ∧
        Same H H3 ∧ TS H2 H3 ∧ SqL K H3 p vs ∧ DictX H H3 dl (links R name (gs.take i) ++ ls.take j) (i * 1600 + j)) ?_ ?_ ?_ ?_⟩
      · exact ⟨v10, rfl, e2, TS.refl _, p2, by rw [List.take_zero, List.append_nil]; exact D2⟩
      · exact fun j σ H3 _ ⟨_, _, _, t, _⟩ => t.sqT t2
      · rintro j y σ H3 hy ⟨w10, rfl, e3, t3, p3, D3⟩
        rw [List.getElem?_map] at hy
        obtain ⟨x, hx, rfl⟩ := Option.map_eq_some_iff.mp hy
        have hj : j < ls.length := (List.getElem?_eq_some_iff.mp hx).1
        obtain ⟨H4, hput, D4, b4, t4, s4⟩ := D3.put (by omega) x (.bl true)
        refine ⟨_, rfl, _, rfl, dl, H4, rfl, hput, _, rfl, D3.same e3 b4, t3.trans t4, s4 K _ _ p3, ?_⟩
        rw [take_snoc hx, ← List.append_assoc]
        exact D4
      · rintro σ H3 ⟨w10, rfl, e3, t3, p3, D3⟩
        rw [List.length_map, List.take_length] at D3
        refine hD _ _ (fin _ n ls H3 _ _ _ _ _ _ ?_ en ?_ e3 (ts2.trans t3) p3 D3 (by omega))
        · obtain ⟨k, s'⟩ := g
          rw [ec]
          rcases hk with h | h
          · have h : k = .inc := h
            subst h
            rfl
          · have h : k = .ind := h
            subst h
            rfl
        · obtain ⟨k, s'⟩ := g
          rw [el]
          rcases hk with h | h
          · have h : k = .inc := h
            subst h
            rfl
          · have h : k = .ind := h
            subst h
            rfl
    -- a dependency in its place
    have dep : ∀ (n : Nat) (x : Dep), (dep1 R name g)[n]? = some x → ∃ v, fs[(deps R name (gs.take i)).length + n]? = some v ∧ Dp K H v (Dep.d x) ∧ x.2.isT = true := by
      intro n x hx
      have hn : n < (dep1 R name g).length := (List.getElem?_eq_some_iff.mp hx).1
      have g5 : (deps R name gs)[(deps R name (gs.take i)).length + n]? = some x := by
        rw [hdt]
        refine app_at ?_
        rw [List.getElem?_append_left hn]
        exact hx
      obtain ⟨v, hv1, hv2⟩ := dpa_at hd (i := (deps R name (gs.take i)).length + n) (d := Dep.d x) (by rw [List.getElem?_map, g5]; rfl)
      exact ⟨v, hv1, hv2, hT x (List.mem_of_getElem? g5)⟩
    refine ⟨pa, _, rfl, hpa, rfl, _, _, rfl, _, _, rfl, rfl, ?_⟩
    obtain ⟨k, s'⟩ := g
    have sgl : s'.length ≤ 60 := sgl
    cases k with
    | txt =>
      refine ⟨_, rfl, rfl, _, rfl, ?_⟩
      refine iteB (fun _ => ?_) (fun n => absurd (n.symm.trans (by decide +kernel : decide (V.str Kd.txt.s = V.str "text") = true)) Bool.false_ne_true)
      refine ⟨_, rfl, _, rfl, _, _, rfl, rfl, big_of (by omega), ?_⟩
      exact fin _ _ [] H' _ _ _ _ _ _ rfl rfl rfl e (TS.refl _) hpl (by rw [List.append_nil]; exact DX) (by omega)
    | lnk =>
      refine ⟨_, rfl, rfl, _, rfl, ?_⟩
      refine iteB (fun n => absurd (n.symm.trans (by decide +kernel : decide (V.str Kd.lnk.s = V.str "text") = false)) (fun h => Bool.false_ne_true h.symm)) (fun _ => ?_)
      refine ⟨_, rfl, rfl, _, rfl, ?_⟩
      refine iteB (fun _ => ?_) (fun n => absurd (n.symm.trans (by decide +kernel : decide (V.str Kd.lnk.s = V.str "link") = true)) Bool.false_ne_true)
      have l1 : ("[" : Str).length = 1 := by decide +kernel
      have l2 : ("]" : Str).length = 1 := by decide +kernel
      refine ⟨_, rfl, _, _, rfl, rfl, big_of (by rw [l1]; omega), _, rfl, _, _, rfl, rfl, big_of (by rw [len_append, l1]; omega), _, _, rfl, rfl, big_of (by rw [len_append, len_append, l1, l2]; omega), ?_⟩
      obtain ⟨H4, hput, D4, b4, t4, s4⟩ := DX.put (by omega) s' (.bl true)
      refine ⟨_, rfl, _, rfl, dl, H4, rfl, hput, ?_⟩
      exact fin _ _ [s'] H4 _ _ _ _ _ _ rfl rfl rfl (DX.same e b4) t4 (s4 K _ _ hpl) D4 (by omega)
    | inc =>
      refine ⟨_, rfl, rfl, _, rfl, ?_⟩
      refine iteB (fun n => absurd (n.symm.trans (by decide +kernel : decide (V.str Kd.inc.s = V.str "text") = false)) (fun h => Bool.false_ne_true h.symm)) (fun _ => ?_)
      refine ⟨_, rfl, rfl, _, rfl, ?_⟩
      refine iteB (fun n => absurd (n.symm.trans (by decide +kernel : decide (V.str Kd.inc.s = V.str "link") = false)) (fun h => Bool.false_ne_true h.symm)) (fun _ => ?_)
      obtain ⟨u, hu1, hu2, hu3⟩ := dep 0 (s', R s') rfl
      obtain ⟨pd, u2, rfl, hpd, hpr⟩ := dep_at (dp_same e _ _ hu2)
      obtain ⟨pr, u3, xs3, rfl, ht3, hT3⟩ := res_at hpr
      obtain ⟨b, rfl, rfl, hb3⟩ := hT3 hu3
      have ew : Res.w (R s') = "text" := w_isT hu3
      rw [show ((s', R s') : Dep).2 = R s' from rfl] at ht3
      rw [ew] at ht3
      refine ⟨_, rfl, _, rfl, lf, _, _, _, rfl, rfl, e.seq hl, atI_nat (by rw [Nat.add_zero] at hu1; exact hu1), pd, _, _, _, rfl, rfl, hpd, at1, ?_⟩
      refine ⟨_, rfl, _, _, rfl, rfl, ?_⟩
      refine ⟨_, rfl, rfl, _, rfl, ?_⟩
      refine iteB (fun n => absurd (n.symm.trans (by decide +kernel : decide (V.str Kd.inc.s = V.str "indirect") = false)) (fun h => Bool.false_ne_true h.symm)) (fun _ => ?_)
      exact take _ pr b _ _ ((deps R name (gs.take i)).length + 1) H' _ _ _ _ (fun _ _ h => h) ht3 hb3 rfl rfl (.inl rfl) rfl e (TS.refl _) hpl DX
    | ind =>
      refine ⟨_, rfl, rfl, _, rfl, ?_⟩
      refine iteB (fun n => absurd (n.symm.trans (by decide +kernel : decide (V.str Kd.ind.s = V.str "text") = false)) (fun h => Bool.false_ne_true h.symm)) (fun _ => ?_)
      refine ⟨_, rfl, rfl, _, rfl, ?_⟩
      refine iteB (fun n => absurd (n.symm.trans (by decide +kernel : decide (V.str Kd.ind.s = V.str "link") = false)) (fun h => Bool.false_ne_true h.symm)) (fun _ => ?_)
      obtain ⟨u, hu1, hu2, hu3⟩ := dep 0 (s', R s') rfl
      obtain ⟨pd, u2, rfl, hpd, hpr⟩ := dep_at (dp_same e _ _ hu2)
      refine ⟨_, rfl, _, rfl, lf, _, _, _, rfl, rfl, e.seq hl, atI_nat (by rw [Nat.add_zero] at hu1; exact hu1), pd, _, _, _, rfl, rfl, hpd, at1, ?_⟩
      refine ⟨_, rfl, _, _, rfl, rfl, ?_⟩
      refine ⟨_, rfl, rfl, _, rfl, ?_⟩
      refine iteB (fun _ => ?_) (fun n => absurd (n.symm.trans (by decide +kernel : decide (V.str Kd.ind.s = V.str "indirect") = true)) Bool.false_ne_true)
      refine ⟨_, rfl, _, rfl, name, u2, R s', rfl, hpr, fun _ => Nat.le_trans (hb s').1 (by decide), fun H2 e2 => ?_⟩
      cases hle : leads name (R s') with
      | none =>
        refine ⟨_, rfl, rfl, _, rfl, ?_⟩
        refine iteB (fun _ => ?_) (fun n => absurd n (by decide))
        refine ⟨_, rfl, _, rfl, rfl, _, rfl, ?_⟩
        refine iteB (fun _ => ?_) (fun n => absurd n (by decide))
        refine ⟨_, _, rfl, rfl, ?_⟩
        have ech : chosen R name (.ind, s') = nothing := by
          show (match leads name (R s') with | none => nothing | some t => R t) = _
          rw [hle]
        have ed : (dep1 R name (.ind, s')).length = 1 := by
          show ((s', R s') :: (match leads name (R s') with | none => [] | some t => [(t, R t)])).length = 1
          rw [hle]
          rfl
        refine take _ a.aNO a.aN0 "?" [] ((deps R name (gs.take i)).length + 1) H2 _ _ _ _ (fun _ _ h => h) (T.no H2) (T.n0 H2) ?_ ?_ (.inr rfl) ?_ (e.trans e2) (TS.same e2) (e2.seq hpl) (DX.go e2)
        · rw [ech]
          rfl
        · rw [ech]
          rfl
        · rw [ed]
      | some t =>
        refine ⟨_, rfl, rfl, _, rfl, ?_⟩
        refine iteB (fun n => absurd (of_decide_eq_true n) (fun h => nomatch h)) (fun _ => ?_)
        have ed : dep1 R name (.ind, s') = [(s', R s'), (t, R t)] := by
          show (s', R s') :: (match leads name (R s') with | none => [] | some t => [(t, R t)]) = _
          rw [hle]
        have ech : chosen R name (.ind, s') = R t := by
          show (match leads name (R s') with | none => nothing | some t => R t) = _
          rw [hle]
        obtain ⟨y, hy1, hy2, hy3⟩ := dep 1 (t, R t) (by rw [ed]; rfl)
        obtain ⟨pe, u4, rfl, hpe, hpf⟩ := dep_at (dp_same (e.trans e2) _ _ hy2)
        obtain ⟨pr, u3, xs3, rfl, ht3, hT3⟩ := res_at hpf
        obtain ⟨b, rfl, rfl, hb3⟩ := hT3 hy3
        have ew : Res.w (R t) = "text" := w_isT hy3
        rw [show ((t, R t) : Dep).2 = R t from rfl] at ht3
        rw [ew] at ht3
        refine ⟨_, rfl, _, rfl, lf, _, _, _, rfl, rfl, (e.trans e2).seq hl, atI_nat (j := (deps R name (gs.take i)).length + 1) hy1, pe, _, _, _, rfl, rfl, hpe, at1, ?_⟩
        refine ⟨_, rfl, _, rfl, rfl, _, rfl, ?_⟩
        refine iteB (fun n => absurd (of_decide_eq_true n) (fun h => nomatch h)) (fun _ => ?_)
        refine ⟨_, _, rfl, rfl, ?_⟩
        refine take _ pr b _ _ ((deps R name (gs.take i)).length + 2) H2 _ _ _ _ (fun _ _ h => h) ht3 hb3 ?_ ?_ (.inr rfl) ?_ (e.trans e2) (TS.same e2) (e2.seq hpl) (DX.go e2)
        · rw [ech]
        · rw [ech]
        · rw [ed]
          rfl
  · rintro σ H' hp
    rw [← hPv] at hp
    obtain ⟨v6, v7, v8, v9, v10, rfl, e, hpl, dv, DX⟩ := hp
    rw [hvs, List.take_length] at DX ⊢
    obtain ⟨_, kvs, ks, hat, hk⟩ := DX
    refine ⟨_, rfl, _, rfl, dl, ks, rfl, big_of (by have := hk.sz; omega), .inr (.inr ⟨kvs, .inl hat, hk.ek⟩), fun ys ps hpm hso hps => ?_⟩
    refine ⟨ps, _, rfl, .inl ⟨SqL.of upd_same, fun b hb' => ⟨two_line, fun p' hp' => ?_⟩⟩⟩
    have er : ys = rise (links R name gs) := by
      rw [sorted_rise hpm hso hk.nd]
      exact Rise.uniq (rise_rise _) (rise_rise _) fun x => by rw [mem_rise, mem_rise, hk.mm]
    rw [er] at hb' hp' ⊢
    have s1 := same_new (.lst ((rise (links R name gs)).map V.str)) hps
    have s2 := same_new (.tup ((rise (links R name gs)).map V.str)) hb'
    have s3 := same_new (.tup [.str (chars R name gs), .ref b]) hp'
    exact q p' b _ (((e.trans s1).trans s2).trans s3) (SqT.of upd_same) (SqT.of (s3 _ _ upd_same))
end
end Pg


set_option Elab.async false
set_option linter.all false
set_option maxRecDepth 100000
set_option maxHeartbeats 4000000
/-! the walk: join_result -/
namespace Pg
open PySem PySem.Spec PyProof.Rows L2

theorem rend_first (R : Str → Res) (name : Str) (att : Int) (z : Str) : rend R name att z = match firstF name z att (deps R name (split name z)) with
    | some r => r
    | none => if 200 < (chars R name (split name z)).length then .long name else .text (chars R name (split name z)) (rise (links R name (split name z))) := by
  unfold rend firstF
  by_cases h : att ≤ fails z
  · rw [if_pos h, if_pos h]
  · rw [if_neg h, if_neg h]
    cases (deps R name (split name z)).find? fun d => !d.2.isT <;> rfl
theorem first_none {name z : Str} {att : Int} {ds : List Dep} (h : firstF name z att ds = none) : ∀ d ∈ ds, d.2.isT = true := by
  unfold firstF at h
  split at h
  · cases h
  · have h' := Option.map_eq_none_iff.mp h
    intro d hd
    have := List.find?_eq_none.mp h' d hd
    cases hT : d.2.isT with
    | true => rfl
    | false =>
      rw [hT] at this
      exact absurd rfl this
def spJoinRes (K : PySem.W.Frag) : Sp := fun vs H Q _ => ∃ (R : Str → Res) (name z : Str) (att : Int) (v : V), vs = [.str name, .str z, .int att, v] ∧ Good 60 z ∧ RB R ∧ Dp K H v (.list ((deps R name (split name z)).map Dep.d)) ∧ RetD K H (rend R name att z).d Q
section
variable {P : Program} {w : World} {K : PySem.W.Frag} {mg : Str → Option Value} {base : Heap} {a : Adr}
theorem has_join_result (D : DefAt K mg "join_result" sJoinResult ["name", "text", "attempts", "found"]) (T : Txt K w mg a) (HFirstFailure : Has P w K mg base 2 "_first_failure" ["name", "text", "attempts", "found"] (spFirst K))
    (HJoinSegments : Has P w K mg base 4 "_join_segments" ["name", "text", "found"] (spJoinSeg K)) : Has P w K mg base 5 "join_result" ["name", "text", "attempts", "found"] (spJoinRes K) := by
  refine D.has (k := 4) scJoinResult (fun vs H Q E h => ?_) (fun f cdv A outer s H vs Q E hr h => ?_)
  · obtain ⟨R, name, z, att, v, rfl, _⟩ := h
    rfl
  obtain ⟨R, name, z, att, v, rfl, hz, hb, hv, q⟩ := h
  have hgs := split_ok (name := name) hz (by decide : 6 ≤ 60)
  have hlen : (split name z).length ≤ 121 := Nat.le_trans (split_len name z) (by have := hz.1; omega)
  have cB : (chars R name (split name z)).length ≤ 121 * 200 := Nat.le_trans (chars_len hb (split name z) Str.empty hgs) (by show 0 + _ ≤ _; omega)
  refine ⟨_, (pss_cons (ps_set (i := 4) scJoinResult.nd rfl (Or.inl rfl) (pe_callH HFirstFailure (hr.mono (by omega)) rfl (pa_cons (pv 0) (pa_cons (pv 1) (pa_cons (pv 2) (pa_cons (pv 3) pa_nil))))))
      (pss_cons (ps_if (pt_cmpR op_notN (pv 4) pe_non (nomark _)) (pss_one (ps_ret (pv 4))) pss_nil)
      (pss_cons (ps_asg (pe_callH HJoinSegments (hr.mono (by omega)) rfl (pa_cons (pv 0) (pa_cons (pv 1) (pa_cons (pv 3) pa_nil)))) (pg_tup rfl (pgs_cons (pg_name (i := 5) scJoinResult.nd rfl (Or.inl rfl)) (pgs_cons (pg_name (i := 6) scJoinResult.nd rfl (Or.inl rfl)) pgs_nil))))
      (pss_cons (ps_if (pt_cmpR op_gt (pe_callB call_len_str rfl T.nlen (by decide +kernel) (pa_cons (pv 5) pa_nil)) (pe_glob (v := .int 200) rfl T.gRM ⟨_, rfl⟩) (nomark _)) (pss_one (ps_ret (pe_tup (pa_cons pe_str (pa_cons (pv 0) pa_nil))))) pss_nil)
      (pss_one (ps_ret (pe_tup (pa_cons pe_str (pa_cons (pv 5) (pa_cons (pv 6) pa_nil)))))))))), ?_⟩
  refine ⟨_, rfl, _, rfl, _, rfl, _, rfl, name, z, att, v, deps R name (split name z), rfl, hv, ?_⟩
  rw [rend_first] at q
  cases hf : firstF name z att (deps R name (split name z)) with
  | some r =>
    rw [hf] at q
    intro u H1 e1 d1
    obtain ⟨p, rfl⟩ := res_flat d1
    refine ⟨_, rfl, rfl, _, rfl, ?_⟩
    refine iteB (fun _ => ⟨_, rfl, q _ _ e1 d1⟩) (fun n => ?_)
    have e : decide (V.ref p = V.non) = false := decide_eq_false fun h => nomatch h
    rw [e] at n
    cases n
  | none =>
    rw [hf] at q
    intro H1 e1
    refine ⟨_, rfl, rfl, _, rfl, ?_⟩
    refine iteB (fun n => absurd n (by decide)) (fun _ => ?_)
    refine ⟨_, rfl, _, rfl, _, rfl, R, name, z, v, rfl, hz, hb, dp_same e1 _ _ hv, first_none hf, fun p b H2 e2 t1 t2 => ?_⟩
    refine ⟨p, _, rfl, t1, rfl, _, _, rfl, _, _, rfl, rfl, ?_⟩
    refine ⟨_, rfl, _, rfl, big_of (by omega), _, _, rfl, rfl, _, rfl, ?_⟩
    refine iteB (fun c => ?_) (fun c => ?_)
    · have hc : 200 < (chars R name (split name z)).length := by
        have := of_decide_eq_true c
        omega
      have q2 : RetD K H (Res.d (if 200 < (chars R name (split name z)).length then .long name else .text (chars R name (split name z)) (rise (links R name (split name z))))) Q := q
      rw [if_pos hc] at q2
      refine ⟨_, rfl, two_line, fun p' hp' => ?_⟩
      exact q2 _ _ ((e1.trans e2).trans (same_new _ hp')) (long_of (SqT.of upd_same))
    · have hc : ¬ 200 < (chars R name (split name z)).length := by
        have := of_decide_eq_false c
        omega
      have q2 : RetD K H (Res.d (if 200 < (chars R name (split name z)).length then .long name else .text (chars R name (split name z)) (rise (links R name (split name z))))) Q := q
      rw [if_neg hc] at q2
      refine ⟨_, rfl, _, rfl, three_line, fun p' hp' => ?_⟩
      have s3 := same_new (.tup [.str "text", .str (chars R name (split name z)), .ref b]) hp'
      exact q2 _ _ ((e1.trans e2).trans s3) (res_of (SqT.of upd_same) (same_sqT s3 t2))
end
end Pg


set_option Elab.async false
set_option linter.all false
set_option maxRecDepth 100000
set_option maxHeartbeats 4000000
/-! the walk: the Renderer, its state, __init__, dependencies -/
namespace Pg
open PySem PySem.Spec PyProof.Rows L2

/-- the class -/
structure CTxt (K : PySem.W.Frag) (C : Addr) : Prop where
  cc : Cls K C
  nS : NoAttr K C "_sources"
  nA : NoAttr K C "_attempts"
  nR : NoAttr K C "_results"
/-- a method of the text -/
def DefM (K : PySem.W.Frag) (C : Addr) (m qual : Str) (st : Stmt) (ps : List Str) : Prop := ∃ (f : Addr) (fd : FuncData), Fun K m qual st f fd ∧ Meth K C m f ∧ Binds K fd ps []
def HasM (P : Program) (w : World) (K : PySem.W.Frag) (mg : Str → Option Value) (base : Heap) (C : Addr) (k : Nat) (m : Str) (ps : List Str) (sp : Sp) : Prop :=
  ∃ (f : Addr) (fd : FuncData), FnOk P w K mg base CX0 k f fd ps sp ∧ Meth K C m f ∧ Binds K fd ps []
def DefI (K : PySem.W.Frag) (C : Addr) (qual : Str) (st : Stmt) (ps : List Str) : Prop := ∃ (f : Addr) (fd : FuncData), Fun K "__init__" qual st f fd ∧ Mk K C f ∧ Binds K fd ps []
def HasI (P : Program) (w : World) (K : PySem.W.Frag) (mg : Str → Option Value) (base : Heap) (C : Addr) (k : Nat) (ps : List Str) (sp : Sp) : Prop :=
  ∃ (f : Addr) (fd : FuncData), FnOk P w K mg base CX0 k f fd ps sp ∧ Mk K C f ∧ Binds K fd ps []
section
variable {P : Program} {w : World} {K : PySem.W.Frag} {mg : Str → Option Value} {base : Heap} {C : Addr} {m qual : Str} {st : Stmt} {N ps : List Str} {k : Nat} {sp : Sp}
theorem DefM.has (D : DefM K C m qual st ps) (S : FnScope N ps (defScope st)) (len : ∀ vs H Q E, sp vs H Q E → vs.length = ps.length)
    (hb : ∀ (f : Addr) (cdv : Value) (A : Around) (outer : List Env) (s : Shared) (H : Hp) (vs : List V) (Q : VK) (E : XK), Room k (A.deeper (envOfC qual (defScope st) s.heap.objs.size f cdv)) → sp vs H Q E →
      ∃ t, PSs (cxOf CX0 P w K mg base N qual (defScope st) f cdv A outer s H E).nox (defBody st) t ∧ t { nx := fun _ H' => Q .non H', rt := Q } (start N vs) H) : HasM P w K mg base C (k + 1) m ps sp := by
  obtain ⟨f, fd, F, hm, b⟩ := D
  exact ⟨f, fd, F.ok S len (hb f), hm, b⟩
theorem DefM.no (D : DefM K C m qual st ps) : HasM P w K mg base C k m ps (fun _ _ _ _ => False) := by
  obtain ⟨f, fd, F, hm, b⟩ := D
  exact ⟨f, fd, ⟨fun _ _ _ _ h => h.elim, fun _ _ _ _ _ _ _ _ _ _ _ _ _ h => h.elim⟩, hm, b⟩
theorem DefI.has (D : DefI K C qual st ps) (S : FnScope N ps (defScope st)) (len : ∀ vs H Q E, sp vs H Q E → vs.length = ps.length)
    (hb : ∀ (f : Addr) (cdv : Value) (A : Around) (outer : List Env) (s : Shared) (H : Hp) (vs : List V) (Q : VK) (E : XK), Room k (A.deeper (envOfC qual (defScope st) s.heap.objs.size f cdv)) → sp vs H Q E →
      ∃ t, PSs (cxOf CX0 P w K mg base N qual (defScope st) f cdv A outer s H E).nox (defBody st) t ∧ t { nx := fun _ H' => Q .non H', rt := Q } (start N vs) H) : HasI P w K mg base C (k + 1) ps sp := by
  obtain ⟨f, fd, F, hm, b⟩ := D
  exact ⟨f, fd, F.ok S len (hb f), hm, b⟩
theorem HasM.imp {sp' : Sp} (h : HasM P w K mg base C k m ps sp) (hs : ∀ vs H Q E, sp' vs H Q E → sp vs H Q E) : HasM P w K mg base C k m ps sp' := by
  obtain ⟨f, fd, F, r⟩ := h
  exact ⟨f, fd, F.imp hs, r⟩
theorem HasM.mono {j : Nat} (h : HasM P w K mg base C j m ps sp) (hj : j ≤ k) : HasM P w K mg base C k m ps sp := by
  obtain ⟨f, fd, F, r⟩ := h
  exact ⟨f, fd, F.mono hj, r⟩
end
section
variable {X : Cx} {C : Addr} {k : Nat} {m x : Str} {ps : List Str} {sp : Sp} {e o : Expr} {es : List Expr} {ta : TE} {t : TA} {p pos apos : Pos}
theorem pe_methH (he : PE X o ta) (c : Cls X.K C) (h : HasM X.prog X.w X.K X.mg X.base C k m ps sp) (hr : Room k X.A) (ha : PA X (e :: es) t)
    {pl : Sem Bool} (hst : starEach (e :: es) X.env = (false, eval e X.env) :: starEach es X.env := by rfl) (hpl : (backTo pos (starEach es X.env)).any (·.1) = false := by rfl)
    (ht : eval (.Call (.Attribute o m apos) (e :: es) [] pos) X.env = (do
      let ov ← eval o X.env
      standAt apos.atName
      let (f, first) ← holding [ov] (getMethod ov m pl)
      callWith pos f first (backTo pos (starEach (e :: es) X.env)) (backToKw pos (keywordEach [] X.env))) := by rfl) : PE X (.Call (.Attribute o m apos) (e :: es) [] pos) (tMeth C m sp [] E0 ta t) := by
  obtain ⟨f, fd, F, hm, b⟩ := h
  exact pe_meth he c hm F hr b .nil pass0 ha hst hpl ht
theorem pe_makeH (h : HasI X.prog X.w X.K X.mg X.base C k ps sp) (hr : Room (k + 1) X.A) (hg : Gl X x) (hm : X.mg x = some (.ref C)) (ha : PA X (e :: es) t) (hdb : (x == ("__debug__" : Str)) = false := by decide)
    (he : starEach (e :: es) X.env = (false, eval e X.env) :: starEach es X.env := by rfl) (hpl : (backTo pos (starEach es X.env)).any (·.1) = false := by rfl) : PE X (.Call (.Name x p) (e :: es) [] pos) (tMake C sp [] E0 t) := by
  obtain ⟨f, fd, F, M, b⟩ := h
  exact pe_make M F hr hg hm b .nil pass0 ha hdb he hpl
end

/-! ### the state -/
def srcK (src : Src) : List (Key × V) := src.map fun p => (Sum.inr p.1, V.str p.2)
theorem valV_src (n : Str) : ∀ src : Src, valV (srcK src) (Sum.inr n) = (lk src n).map V.str
  | [] => rfl
  | p :: r => by
    show valV ((Sum.inr p.1, V.str p.2) :: srcK r) (Sum.inr n) = _
    unfold lk
    rw [List.find?_cons]
    by_cases e : p.1 = n
    · rw [valV_pos (congrArg Sum.inr e), decide_eq_true e]
      rfl
    · rw [valV_neg fun h => e (Sum.inr.inj h), decide_eq_false e, valV_src n r]
      rfl
def flds (ds : Addr) (att : Int) (dr : Addr) : List (Str × V) := putF "_results" (.ref dr) (putF "_attempts" (.int att) (putF "_sources" (.ref ds) []))
theorem k1 : ¬ (("_sources" : Str) = "_attempts") := by decide +kernel
theorem k2 : ¬ (("_sources" : Str) = "_results") := by decide +kernel
theorem k3 : ¬ (("_attempts" : Str) = "_results") := by decide +kernel
theorem flds_s (ds : Addr) (att : Int) (dr : Addr) : (flds ds att dr).lookup ("_sources" : Str) = some (.ref ds) := by
  unfold flds
  rw [lookup_putF, if_neg k2, lookup_putF, if_neg k1, lookup_putF, if_pos rfl]
theorem flds_a (ds : Addr) (att : Int) (dr : Addr) : (flds ds att dr).lookup ("_attempts" : Str) = some (.int att) := by
  unfold flds
  rw [lookup_putF, if_neg k3, lookup_putF, if_pos rfl]
theorem flds_r (ds : Addr) (att : Int) (dr : Addr) : (flds ds att dr).lookup ("_results" : Str) = some (.ref dr) := by
  unfold flds
  rw [lookup_putF, if_pos rfl]
theorem flds_no (ds : Addr) (att : Int) (dr : Addr) {m : Str} (h1 : ¬ m = "_results") (h2 : ¬ m = "_attempts") (h3 : ¬ m = "_sources") : (flds ds att dr).lookup m = none := by
  unfold flds
  rw [lookup_putF, if_neg h1, lookup_putF, if_neg h2, lookup_putF, if_neg h3]
  rfl
/-- a Renderer: its object, the sources, the results so far -/
structure RSt (K : PySem.W.Frag) (C : Addr) (src : Src) (att : Int) (R : Str → Res) (p ds dr : Addr) (H : Hp) : Prop where
  ob : ∃ dx, H p = some (.ins C dx (flds ds att dr))
  so : H ds = some (.dK (srcK src))
  ca : ∃ (ca : List (Key × V)) (ks : List Str), H dr = some (.dK ca) ∧ ca.map (·.1) = ks.map Sum.inr ∧ ks.Nodup ∧ (∀ n ∈ ks, n ∈ src.map (·.1)) ∧ ∀ n v, valV ca (Sum.inr n) = some v → Dp K H v (R n).d
  ne : ds ≠ dr
section
variable {K : PySem.W.Frag} {C : Addr} {src : Src} {att : Int} {R : Str → Res} {p ds dr : Addr} {H H' : Hp}
theorem RSt.same (r : RSt K C src att R p ds dr H) (e : Same H H') : RSt K C src att R p ds dr H' := by
  obtain ⟨⟨dx, h1⟩, h2, ⟨ca, ks, c1, c2, c3, c4, c5⟩, h4⟩ := r
  exact ⟨⟨dx, e _ _ h1⟩, e _ _ h2, ⟨ca, ks, e _ _ c1, c2, c3, c4, fun n v q => dp_same e _ _ (c5 n v q)⟩, h4⟩
/-- a list changes -/
theorem RSt.list (r : RSt K C src att R p ds dr H) {l : Addr} {vs : List V} (hl : H l = some (.lst vs)) (e : But l H H') : RSt K C src att R p ds dr H' := by
  obtain ⟨⟨dx, h1⟩, h2, ⟨ca, ks, c1, c2, c3, c4, c5⟩, h4⟩ := r
  have t := TS.but e hl rfl
  exact ⟨⟨dx, e _ _ h1 (ne_of h1 hl (by intro z; cases z))⟩, e _ _ h2 (ne_of h2 hl (by intro z; cases z)), ⟨ca, ks, e _ _ c1 (ne_of c1 hl (by intro z; cases z)), c2, c3, c4, fun n v q => dp_ts t _ _ (noL_res _) (c5 n v q)⟩, h4⟩
theorem RSt.ts (r : RSt K C src att R p ds dr H) (e : But dr H H') : TS H H' := by
  obtain ⟨_, _, ⟨ca, ks, c1, _⟩, _⟩ := r
  exact TS.but e c1 rfl
theorem RSt.ndr (r : RSt K C src att R p ds dr H) {l : Addr} {vs : List V} (hl : H l = some (.lst vs)) : l ≠ dr := by
  obtain ⟨_, _, ⟨ca, ks, c1, _⟩, _⟩ := r
  exact ne_of hl c1 (by intro z; cases z)
theorem RSt.sqL (r : RSt K C src att R p ds dr H) (e : But dr H H') {l : Addr} {vs : List V} (h : SqL K H l vs) : SqL K H' l vs := by
  obtain ⟨_, _, ⟨ca, ks, c1, _⟩, _⟩ := r
  rcases h with (h | ⟨ob, h⟩) | h
  · exact .inl (.inl (e _ _ h (ne_of h c1 (by intro z; cases z))))
  · exact .inl (.inr ⟨ob, e _ _ h (ne_of h c1 (by intro z; cases z))⟩)
  · exact .inr h
end
/-- the text of a name, nothing where it has none -/
def txt (src : Src) (n : Str) : Str := (lk src n).getD ""
theorem txt_some {src : Src} {n z : Str} (h : lk src n = some z) : txt src n = z := by unfold txt; rw [h]; rfl
theorem txt_none {src : Src} {n : Str} (h : lk src n = none) : txt src n = "" := by unfold txt; rw [h]; rfl
theorem split_nil (n : Str) : split n "" = [] := by
  have e : ("" : Str).length = 0 := by decide +kernel
  unfold split
  rw [e]
  unfold go flush
  rw [if_pos (by decide +kernel)]
theorem txt_good {src : Src} (S : SrcOk src) (n : Str) : Good 60 (txt src n) := by
  cases e : lk src n with
  | none =>
    rw [txt_none e]
    exact good_of (by decide +kernel)
  | some z =>
    rw [txt_some e]
    exact (S.good _ (lk_mem e)).2

/-! ### promises -/
def spInit (C : Addr) : Sp := fun vs H Q _ => ∃ (p dx ds : Addr) (att : Int), vs = [.ref p, .ref ds, .int att] ∧ H p = some (.ins C dx []) ∧ H ds ≠ none ∧ p ≠ ds ∧ ∀ (dr : Addr) (H' : Hp), H dr = none → H' p = some (.ins C dx (flds ds att dr)) → H' dr = some (.dK []) →
  (∀ b o, H b = some o → b ≠ p → H' b = some o) → Q .non H'
/-- result: of names before which at most m sources stand -/
def spRes (K : PySem.W.Frag) (C : Addr) (m : Nat) : Sp := fun vs H Q _ => ∃ (src : Src) (att : Int) (R : Str → Res) (p ds dr : Addr) (name : Str), vs = [.ref p, .str name] ∧ SrcOk src ∧ Fix src att R ∧ RB R ∧ RSt K C src att R p ds dr H ∧ ((∃ z, lk src name = some z) → rk src name < m) ∧
  ∀ v H', But dr H H' → RSt K C src att R p ds dr H' → Dp K H' v (R name).d → Q v H'
/-- dependencies -/
def spDep (K : PySem.W.Frag) (C : Addr) (m : Nat) : Sp := fun vs H Q _ => ∃ (src : Src) (att : Int) (R : Str → Res) (p ds dr : Addr) (name : Str), vs = [.ref p, .str name] ∧ SrcOk src ∧ Fix src att R ∧ RB R ∧ RSt K C src att R p ds dr H ∧
  (∀ x z, lk src x = some z → after x name = true → rk src x < m) ∧
  ∀ l vs' H', H l = none → But dr H H' → RSt K C src att R p ds dr H' → H' l = some (.lst vs') → DpAll K H' vs' ((deps R name (split name (txt src name))).map Dep.d) → Q (.ref l) H'
section
variable {P : Program} {w : World} {K : PySem.W.Frag} {mg : Str → Option Value} {base : Heap} {a : Adr}
theorem has_init (D : DefI K a.C "Renderer.__init__" sMInit ["self", "sources", "attempts"]) (CT : CTxt K a.C) : HasI P w K mg base a.C 1 ["self", "sources", "attempts"] (spInit a.C) := by
  refine D.has (k := 0) scMInit (fun vs H Q E h => ?_) (fun f cdv A outer s H vs Q E hr h => ?_)
  · obtain ⟨p, dx, ds, att, rfl, _⟩ := h
    rfl
  obtain ⟨p, dx, ds, att, rfl, hp, hds, hne, q⟩ := h
  refine ⟨_, (pss_cons (ps_fld (pv 0) (pv 1) rfl)
      (pss_cons (ps_fld (pv 0) (pv 2) rfl)
      (pss_one (ps_fld (pv 0) pe_dnewK rfl)))), ?_⟩
  refine ⟨_, rfl, _, rfl, p, a.C, dx, [], rfl, hp, CT.cc, CT.nS, (by show 0 < 1000; decide), ?_⟩
  refine ⟨_, rfl, _, rfl, p, a.C, dx, _, rfl, upd_same, CT.cc, CT.nA, (by show 1 < 1000; decide), ?_⟩
  intro dr hdr
  have npd : p ≠ dr := fun z => by
    rw [← z, upd_same] at hdr
    cases hdr
  rw [upd_ne npd.symm, upd_ne npd.symm] at hdr
  refine ⟨_, rfl, p, a.C, dx, _, rfl, (by rw [upd_ne npd]; exact upd_same), CT.cc, CT.nR, (by show 2 < 1000; decide), ?_⟩
  refine q dr _ hdr upd_same (by rw [upd_ne npd.symm]; exact upd_same) fun b o e hb => ?_
  rw [upd_ne hb, upd_ne (ne_of_none e hdr), upd_ne hb, upd_ne hb]
  exact e
theorem has_dep (m : Nat) (D : DefM K a.C "dependencies" "Renderer.dependencies" sMdependencies ["self", "name"]) (T : Txt K w mg a) (CT : CTxt K a.C) (HSplit : Has P w K mg base 3 "split" ["name", "text"] (spSplit K))
    (HTarget : Has P w K mg base 2 "target" ["name", "found"] (spTarget K)) (HMresult : HasM P w K mg base a.C (2 * m + 6) "result" ["self", "name"] (spRes K a.C m)) :
    HasM P w K mg base a.C (2 * m + 7) "dependencies" ["self", "name"] (spDep K a.C m) := by
  refine D.has (k := 2 * m + 6) scMdependencies (fun vs H Q E h => ?_) (fun f cdv A outer s H vs Q E hr h => ?_)
  · obtain ⟨src, att, R, p, ds, dr, name, rfl, _⟩ := h
    rfl
  obtain ⟨src, att, R, p, ds, dr, name, rfl, S, F, hb, st, hrk, q⟩ := h
  have hz := txt_good S name
  have hgs := split_ok (name := name) hz (by decide : 6 ≤ 60)
  have hlen : (split name (txt src name)).length ≤ 121 := Nat.le_trans (split_len _ _) (by have := hz.1; omega)
  generalize hG : split name (txt src name) = gs at *
  refine ⟨_, (pss_cons (ps_set (i := 2) scMdependencies.nd rfl (Or.inl rfl) (pe_lst pa_nil))
      (pss_cons (ps_for PassesOwn.never rfl (pi_list (pe_callH HSplit (hr.mono (by omega)) rfl (pa_cons (pv 1) (pa_cons (pe_dget2 (hu_of hr) (pe_fld (pv 0) rfl) (pv 1) pe_str ⟨rfl, rfl, rfl, rfl⟩) pa_nil)))) (pg_tup rfl (pgs_cons (pg_name (i := 3) scMdependencies.nd rfl (Or.inl rfl)) (pgs_cons (pg_name (i := 4) scMdependencies.nd rfl (Or.inl rfl)) pgs_nil))) (pss_one (ps_if (PW.pt (pw_or (pt_cmpR op_eq (pv 3) pe_str (nomark _)) (pw_or1 (pt_cmpR op_eq (pv 3) pe_str (nomark _))))) (pss_cons (ps_set (i := 5) scMdependencies.nd rfl (Or.inl rfl) (pe_methH (pv 0) CT.cc HMresult (hr.mono (by omega)) (pa_cons (pv 4) pa_nil)))
      (pss_cons (ps_expr (pe_bm PySem.F.plainAttrs_list PySem.F.slot_list_append PySem.F.type_list_append mt_append (pv 2) (pa_cons (pe_tup (pa_cons (pv 4) (pa_cons (pv 5) pa_nil))) pa_nil)))
      (pss_cons (ps_set (i := 6) scMdependencies.nd rfl (Or.inl rfl) (pe_ifExp (pt_cmpR op_eq (pv 3) pe_str (nomark _)) (pe_callH HTarget (hr.mono (by omega)) rfl (pa_cons (pv 1) (pa_cons (pv 5) pa_nil))) pe_non))
      (pss_one (ps_if (pt_cmpR op_notN (pv 6) pe_non (nomark _)) (pss_one (ps_expr (pe_bm PySem.F.plainAttrs_list PySem.F.slot_list_append PySem.F.type_list_append mt_append (pv 2) (pa_cons (pe_tup (pa_cons (pv 6) (pa_cons (pe_methH (pv 0) CT.cc HMresult (hr.mono (by omega)) (pa_cons (pv 6) pa_nil)) pa_nil))) pa_nil)))) pss_nil))))) pss_nil)))
      (pss_one (ps_ret (pv 2))))), ?_⟩
  refine ⟨Nat.zero_le _, fun l hl => ?_⟩
  have e0 := same_new (.lst []) hl
  have st0 := st.same e0
  obtain ⟨dx, hob⟩ := st0.ob
  refine ⟨_, rfl, _, rfl, p, a.C, dx, _, _, rfl, hob, CT.cc, CT.nS, flds_s _ _ _, ds, rfl, .inl ⟨_, .inl st0.so⟩, _, rfl, _, DGet.k (k := Sum.inr name) st0.so, name, txt src name, ?_, by have := hz.1; omega, fun ps svs H1 np e1 h1 d1 => ?_⟩
  · rw [valV_src]
    unfold txt
    cases lk src name <;> rfl
  rw [hG] at d1
  have pne : ps ≠ l := fun z => by
    rw [z, upd_same] at np
    cases np
  generalize hPv : (fun (i : Nat) (σ : L2.St) (H' : Hp) => ∃ (vs : List V) (v3 v4 v5 v6 : Option V), σ = [some (V.ref p), some (.str name), some (.ref l), v3, v4, v5, v6] ∧ But dr H H' ∧ RSt K a.C src att R p ds dr H' ∧ H' l = some (.lst vs) ∧
    DpAll K H' vs ((deps R name (gs.take i)).map Dep.d) ∧ SqL K H' ps svs ∧ DpAll K H' svs (gs.map Sg.d)) = Pv
  have hl0 : H l = none := hl
  have svl : svs.length = gs.length := by rw [dpa_len d1, List.length_map]
  refine ⟨ps, rfl, ⟨_, SqL.of h1⟩, for_list (K := K) (a := ps) (xs := svs) Pv ?_ ?_ ?_ ?_⟩
  · subst hPv
    exact ⟨[], none, none, none, none, rfl, But.of_same (e0.trans e1), st0.same e1, e1 _ _ upd_same, .nil, SqL.of h1, d1⟩
  · subst hPv
    exact fun i σ H' _ ⟨_, _, _, _, _, _, _, _, _, _, h, _⟩ => h
  · rintro i x σ H' hx hp
    rw [← hPv] at hp
    obtain ⟨vs, v3, v4, v5, v6, rfl, b, st', hl', dv, sp', sd⟩ := hp
    obtain ⟨dd, g1, g2⟩ := dpa_get sd hx
    rw [List.getElem?_map] at g1
    obtain ⟨g, g3, g4⟩ := Option.map_eq_some_iff.mp g1
    subst g4
    have hi : i < gs.length := (List.getElem?_eq_some_iff.mp g3).1
    have sg := hgs g (List.mem_of_getElem? g3)
    obtain ⟨pa, rfl, hpa⟩ := sg_at g2
    have et := take_snoc g3
    have vl : vs.length ≤ 242 := by
      have h1 := deps_len R name (gs.take i)
      rw [List.length_take] at h1
      rw [dpa_len dv, List.length_map]
      omega
    -- the list grows by one dependency
    have grow : ∀ (H2 H3 : Hp) (vs : List V) (ds' : List Dep) (x : Dep) (v : V), But dr H H2 → RSt K a.C src att R p ds dr H2 → H2 l = some (.lst vs) → DpAll K H2 vs (ds'.map Dep.d) → SqL K H2 ps svs → DpAll K H2 svs (gs.map Sg.d) → Same H2 H3 → Dp K H3 v (Dep.d x) →
        ∃ H4, H4 = upd H3 l (.lst (vs ++ [v])) ∧ But dr H H4 ∧ RSt K a.C src att R p ds dr H4 ∧ H4 l = some (.lst (vs ++ [v])) ∧ DpAll K H4 (vs ++ [v]) ((ds' ++ [x]).map Dep.d) ∧ SqL K H4 ps svs ∧ DpAll K H4 svs (gs.map Sg.d) ∧ TS H3 H4 := by
      intro H2 H3 vs ds' x v b2 st2 l2 d2 s2 sd2 e3 hx
      have l3 := e3 _ _ l2
      have t34 := TS.set (.lst (vs ++ [v])) l3 rfl
      refine ⟨_, rfl, fun c o hc hcn => ?_, (st2.same e3).list l3 (But.set _ _), upd_same, ?_, sqL_but (But.set _ _) (e3.seq s2) pne, dpa_ts ((TS.same e3).trans t34) _ _ (noLs_map noL_sg _) sd2, t34⟩
      · rw [upd_ne (ne_of_none hc hl0)]
        exact e3 _ _ (b2 c o hc hcn)
      · rw [List.map_append]
        exact dpa_snoc (dpa_ts ((TS.same e3).trans t34) _ _ (noLs_map noL_dep _) d2) (dp_ts t34 _ _ (noL_dep _) hx)
    refine ⟨pa, _, rfl, hpa, rfl, _, _, rfl, _, _, rfl, rfl, ?_⟩
    obtain ⟨k, s'⟩ := g
    -- an inclusion or an indirect one
    have incl : ∀ (hk : k = .inc ∨ k = .ind) (D : Ends), (∀ σ H3, Pv (i + 1) σ H3 → D.nx σ H3) →
        tSeq (tAsg (tMeth a.C "result" (spRes K a.C m) [] E0 (tVar 0) (tCons (tVar 4) tNil)) (gName 5))
          (tSeq (tDrop (tBM K "list" rAppend (tVar 2) (tCons (tTup (tCons (tVar 4) (tCons (tVar 5) tNil))) tNil)))
            (tSeq (tAsg (tIf (tTest (tOp rEq (tVar 3) (tC (.str "indirect")))) (tCall (spTarget K) [] E0 (tCons (tVar 1) (tCons (tVar 5) tNil))) (tC .non)) (gName 6))
              (tIfS (tTest (tOp (fun x y H Q => y = .non ∧ Q (.bl (!decide (x = .non))) H) (tVar 6) (tC .non)))
                (tDrop (tBM K "list" rAppend (tVar 2) (tCons (tTup (tCons (tVar 6) (tCons (tMeth a.C "result" (spRes K a.C m) [] E0 (tVar 0) (tCons (tVar 6) tNil)) tNil))) tNil))) tNext))) D
          [some (V.ref p), some (.str name), some (.ref l), some (.str k.s), some (.str s'), v5, v6] H' := by
      intro hk D hD
      have aft : after s' name = true := sg.aft (by rcases hk with h | h <;> rw [h] <;> simp) (by rcases hk with h | h <;> rw [h] <;> simp)
      obtain ⟨dx1, ob1⟩ := st'.ob
      refine ⟨_, rfl, p, dx1, _, rfl, ob1, flds_no _ _ _ (by decide +kernel) (by decide +kernel) (by decide +kernel), _, rfl, src, att, R, p, ds, dr, s', rfl, S, F, hb, st', fun ⟨z, hz⟩ => hrk s' z hz aft, fun v H2 b2 st2 dv2 => ?_⟩
      have t2 := st'.ts b2
      have lne := st'.ndr hl'
      have b02 : But dr H H2 := b.trans b2
      have l2 := b2 _ _ hl' lne
      have d2 := dpa_ts t2 _ _ (noLs_map noL_dep _) dv
      have s2 := st'.sqL b2 sp'
      have sd2 := dpa_ts t2 _ _ (noLs_map noL_sg _) sd
      refine ⟨_, rfl, .inl ⟨rfl, _, SqL.of l2⟩, _, rfl, _, rfl, two_line, fun pt hpt => ?_⟩
      have e3 := same_new (.tup [.str s', v]) hpt
      obtain ⟨H4, e4, b4, st4, l4, d4, s4, sd4, t34⟩ := grow H2 _ vs _ (s', R s') (.ref pt) b02 st2 l2 d2 s2 sd2 e3 (dep_of (SqT.of upd_same) (dp_same e3 _ _ dv2))
      refine ⟨l, vs, _, rfl, rfl, e3 _ _ l2, line_lt (by omega), ?_⟩
      rw [← e4]
      have dv4 : Dp K H4 v (R s').d := dp_ts ((TS.same e3).trans t34) _ _ (noL_res _) dv2
      -- the end where nothing more is led to
      have stop : (dep1 R name (k, s') = [(s', R s')]) → ∀ (H5 : Hp) (v6 : Option V), Same H4 H5 → D.nx [some (V.ref p), some (.str name), some (.ref l), some (.str k.s), some (.str s'), some v, v6] H5 := by
        intro hd1 H5 v6 e5
        refine hD _ _ ?_
        rw [← hPv]
        refine ⟨_, _, _, _, _, rfl, b4.trans (But.of_same e5), st4.same e5, e5 _ _ l4, ?_, e5.seq s4, dpa_same e5 _ _ sd4⟩
        rw [et, deps_snoc, hd1]
        exact dpa_same e5 _ _ d4
      refine ⟨_, rfl, rfl, _, rfl, ?_⟩
      rcases hk with hk | hk
      · subst hk
        refine iteB (fun n => absurd (n.symm.trans (by decide +kernel : decide (V.str Kd.inc.s = V.str "indirect") = false)) (fun h => Bool.false_ne_true h.symm)) (fun _ => ?_)
        refine ⟨_, rfl, rfl, _, rfl, ?_⟩
        refine iteB (fun n => absurd n (by decide)) (fun _ => ?_)
        exact stop rfl H4 _ (Same.refl _)
      · subst hk
        refine iteB (fun _ => ?_) (fun n => absurd (n.symm.trans (by decide +kernel : decide (V.str Kd.ind.s = V.str "indirect") = true)) Bool.false_ne_true)
        refine ⟨_, rfl, _, rfl, name, v, R s', rfl, dv4, fun _ => Nat.le_trans (hb s').1 (by decide), fun H5 e5 => ?_⟩
        cases hle : leads name (R s') with
        | none =>
          refine ⟨_, rfl, rfl, _, rfl, ?_⟩
          refine iteB (fun n => absurd n (by decide)) (fun _ => ?_)
          exact stop (by show (s', R s') :: (match leads name (R s') with | none => [] | some t => [(t, R t)]) = _; rw [hle]) H5 _ e5
        | some t =>
          have ht := leads_spec hle
          refine ⟨_, rfl, rfl, _, rfl, ?_⟩
          refine iteB (fun _ => ?_) (fun n => ?_)
          · have st5 := st4.same e5
            obtain ⟨dx5, ob5⟩ := st5.ob
            have l5 := e5 _ _ l4
            refine ⟨_, rfl, .inl ⟨rfl, _, SqL.of l5⟩, _, rfl, _, rfl, p, dx5, _, rfl, ob5, flds_no _ _ _ (by decide +kernel) (by decide +kernel) (by decide +kernel), _, rfl, src, att, R, p, ds, dr, t, rfl, S, F, hb, st5, fun ⟨z, hz⟩ => hrk t z hz ht.2.2.2, fun v7 H6 b6 st6 dv6 => ⟨two_line, fun pt2 hpt2 => ?_⟩⟩
            have t6 := st5.ts b6
            have e7 := same_new (.tup [.str t, v7]) hpt2
            have l6 := b6 _ _ l5 (st5.ndr l5)
            obtain ⟨H8, e8, b8, st8, l8, d8, s8, sd8, t78⟩ := grow H6 _ (vs ++ [.ref pt]) _ (t, R t) (.ref pt2) ((b4.trans (But.of_same e5)).trans b6) st6 l6 (dpa_ts t6 _ _ (noLs_map noL_dep _) (dpa_same e5 _ _ d4)) (st5.sqL b6 (e5.seq s4)) (dpa_ts t6 _ _ (noLs_map noL_sg _) (dpa_same e5 _ _ sd4)) e7
              (dep_of (SqT.of upd_same) (dp_same e7 _ _ dv6))
            refine ⟨l, vs ++ [.ref pt], _, rfl, rfl, e7 _ _ l6, line_lt (by rw [List.length_append]; show vs.length + 1 < _; omega), ?_⟩
            subst e8
            refine hD _ _ ?_
            rw [← hPv]
            refine ⟨_, _, _, _, _, rfl, b8, st8, l8, ?_, s8, sd8⟩
            have hd2 : dep1 R name (.ind, s') = [(s', R s'), (t, R t)] := by
              show (s', R s') :: (match leads name (R s') with | none => [] | some t => [(t, R t)]) = _
              rw [hle]
            rw [et, deps_snoc, hd2, show deps R name (gs.take i) ++ [(s', R s'), (t, R t)] = deps R name (gs.take i) ++ [(s', R s')] ++ [(t, R t)] by simp]
            exact d8
          · have e : decide (V.str t = V.non) = false := decide_eq_false fun h => nomatch h
            rw [show (nonOr (some t)) = V.str t from rfl, e] at n
            cases n
    -- a segment that is none
    have skip : (k = .txt ∨ k = .lnk) → ∀ v5 v6, Pv (i + 1) [some (V.ref p), some (.str name), some (.ref l), some (.str k.s), some (.str s'), v5, v6] H' := by
      intro hk v5 v6
      rw [← hPv]
      refine ⟨vs, _, _, _, _, rfl, b, st', hl', ?_, sp', sd⟩
      have : dep1 R name (k, s') = [] := by rcases hk with h | h <;> subst h <;> rfl
      rw [et, deps_snoc, this, List.append_nil]
      exact dv
    cases k with
    | txt =>
      refine ⟨_, rfl, rfl, _, rfl, ?_⟩
      refine iteB (fun n => absurd (n.symm.trans (by decide +kernel : decide (V.str Kd.txt.s = V.str "include") = false)) (fun h => Bool.false_ne_true h.symm)) (fun _ => ?_)
      refine ⟨_, rfl, rfl, _, rfl, ?_⟩
      refine iteB (fun n => absurd (n.symm.trans (by decide +kernel : decide (V.str Kd.txt.s = V.str "indirect") = false)) (fun h => Bool.false_ne_true h.symm)) (fun _ => ?_)
      exact skip (.inl rfl) _ _
    | lnk =>
      refine ⟨_, rfl, rfl, _, rfl, ?_⟩
      refine iteB (fun n => absurd (n.symm.trans (by decide +kernel : decide (V.str Kd.lnk.s = V.str "include") = false)) (fun h => Bool.false_ne_true h.symm)) (fun _ => ?_)
      refine ⟨_, rfl, rfl, _, rfl, ?_⟩
      refine iteB (fun n => absurd (n.symm.trans (by decide +kernel : decide (V.str Kd.lnk.s = V.str "indirect") = false)) (fun h => Bool.false_ne_true h.symm)) (fun _ => ?_)
      exact skip (.inr rfl) _ _
    | inc =>
      refine ⟨_, rfl, rfl, _, rfl, ?_⟩
      refine iteB (fun _ => ?_) (fun n => absurd (n.symm.trans (by decide +kernel : decide (V.str Kd.inc.s = V.str "include") = true)) Bool.false_ne_true)
      exact iteT (incl (.inl rfl) _ fun _ _ h => h)
    | ind =>
      refine ⟨_, rfl, rfl, _, rfl, ?_⟩
      refine iteB (fun n => absurd (n.symm.trans (by decide +kernel : decide (V.str Kd.ind.s = V.str "include") = false)) (fun h => Bool.false_ne_true h.symm)) (fun _ => ?_)
      refine ⟨_, rfl, rfl, _, rfl, ?_⟩
      refine iteB (fun _ => ?_) (fun n => absurd (n.symm.trans (by decide +kernel : decide (V.str Kd.ind.s = V.str "indirect") = true)) Bool.false_ne_true)
      exact incl (.inr rfl) _ fun _ _ h => h
  · rintro σ H' hp
    rw [← hPv] at hp
    obtain ⟨vs, v3, v4, v5, v6, rfl, b, st', hl', dv, sp', sd⟩ := hp
    rw [svl, List.take_length] at dv
    exact ⟨_, rfl, q l vs H' hl0 b st' hl' dv⟩
end
end Pg


set_option Elab.async false
set_option linter.all false
set_option maxRecDepth 100000
set_option maxHeartbeats 4000000
/-! the walk: result, the recursion -/
namespace Pg
open PySem PySem.Spec PyProof.Rows L2

theorem nothing_at {K : PySem.W.Frag} {w : World} {mg : Str → Option Value} {a : Adr} (T : Txt K w mg a) (H : Hp) : Dp K H (.ref a.aNO) nothing.d := res_of (T.no H) (T.n0 H)
theorem srcK_len (src : Src) : (srcK src).length = src.length := List.length_map _
section
variable {P : Program} {w : World} {K : PySem.W.Frag} {mg : Str → Option Value} {base : Heap} {a : Adr}
/-- one level of result, over a level of dependencies (or none) -/
theorem has_res (k m : Nat) (hk : 5 ≤ k) (spd : Sp) (D : DefM K a.C "result" "Renderer.result" sMresult ["self", "name"]) (T : Txt K w mg a) (CT : CTxt K a.C) (HJoinResult : Has P w K mg base 5 "join_result" ["name", "text", "attempts", "found"] (spJoinRes K))
    (HMdependencies : HasM P w K mg base a.C k "dependencies" ["self", "name"] spd)
    (hd : ∀ (src : Src) (att : Int) (R : Str → Res) (p ds dr : Addr) (name z : Str) (H : Hp) (Q : VK) (E : XK), SrcOk src → Fix src att R → RB R → RSt K a.C src att R p ds dr H → lk src name = some z → rk src name < m →
      (∀ l vs' H', H l = none → But dr H H' → RSt K a.C src att R p ds dr H' → H' l = some (.lst vs') → DpAll K H' vs' ((deps R name (split name (txt src name))).map Dep.d) → Q (.ref l) H') → spd [.ref p, .str name] H Q E) :
    HasM P w K mg base a.C (k + 1) "result" ["self", "name"] (spRes K a.C m) := by
  refine D.has (k := k) scMresult (fun vs H Q E h => ?_) (fun f cdv A outer s H vs Q E hr h => ?_)
  · obtain ⟨src, att, R, p, ds, dr, name, rfl, _⟩ := h
    rfl
  obtain ⟨src, att, R, p, ds, dr, name, rfl, S, F, hb, st, hrk, q⟩ := h
  obtain ⟨dx, hob⟩ := st.ob
  refine ⟨_, (pss_cons (ps_if (pt_cmp (pc_dnotin (hu_of hr) (pv 1) (pe_fld (pv 0) rfl)) rfl) (pss_one (ps_ret (pe_glob (v := .ref a.aNO) rfl T.gNO rfl))) pss_nil)
      (pss_cons (ps_if (pt_cmp (pc_dnotin (hu_of hr) (pv 1) (pe_fld (pv 0) rfl)) rfl) (pss_cons (ps_set (i := 2) scMresult.nd rfl (Or.inl rfl) (pe_methH (pv 0) CT.cc HMdependencies (hr.mono (by omega)) (pa_cons (pv 1) pa_nil)))
      (pss_one (ps_dput (hu_of hr) (pe_fld (pv 0) rfl) (pv 1) (pe_callH HJoinResult (hr.mono (by omega)) rfl (pa_cons (pv 1) (pa_cons (pe_dget (hu_of hr) (pe_fld (pv 0) rfl) (pv 1) (fun _ _ => rfl)) (pa_cons (pe_fld (pv 0) rfl) (pa_cons (pv 2) pa_nil))))) rfl))) pss_nil)
      (pss_one (ps_ret (pe_dget (hu_of hr) (pe_fld (pv 0) rfl) (pv 1) (fun _ _ => rfl)))))), ?_⟩
  refine ⟨_, rfl, _, rfl, p, a.C, dx, _, _, rfl, hob, CT.cc, CT.nS, flds_s _ _ _, ds, _, rfl, DGet.k (k := Sum.inr name) st.so, _, rfl, ?_⟩
  rw [valV_src]
  cases hl : lk src name with
  | none =>
    refine iteT ?_
    exact q _ H (But.of_same (Same.refl H)) st (by rw [F.nx name hl]; exact nothing_at T H)
  | some z =>
    refine iteF ?_
    have gz := (S.good _ (lk_mem hl)).2
    obtain ⟨ca, ks, c1, c2, c3, c4, c5⟩ := st.ca
    refine ⟨_, rfl, _, rfl, p, a.C, dx, _, _, rfl, hob, CT.cc, CT.nR, flds_r _ _ _, dr, _, rfl, DGet.k (k := Sum.inr name) c1, _, rfl, ?_⟩
    cases hv : valV ca (Sum.inr name) with
    | some v =>
      refine iteF ?_
      refine ⟨_, rfl, p, a.C, dx, _, _, rfl, hob, CT.cc, CT.nR, flds_r _ _ _, _, rfl, dr, v, rfl, ?_, q v H (But.of_same (Same.refl H)) st (c5 name v hv)⟩
      rw [← hv]
      exact DGet.k (k := Sum.inr name) c1
    | none =>
      refine iteT ?_
      refine ⟨_, rfl, p, dx, _, rfl, hob, flds_no _ _ _ (by decide +kernel) (by decide +kernel) (by decide +kernel), _, rfl, ?_⟩
      refine hd src att R p ds dr name z H _ _ S F hb st hl (hrk ⟨z, hl⟩) fun l vs' H1 hln b1 st1 hl1 dl1 => ?_
      rw [txt_some hl] at dl1
      obtain ⟨dx1, hob1⟩ := st1.ob
      refine ⟨_, rfl, _, rfl, p, a.C, dx1, _, _, rfl, hob1, CT.cc, CT.nS, flds_s _ _ _, _, rfl, ds, .str z, rfl, ?_, _, rfl, p, a.C, dx1, _, _, rfl, hob1, CT.cc, CT.nA, flds_a _ _ _, _, rfl, R, name, z, att, .ref l, rfl, gz, hb, .lst (SqL.of hl1) dl1, fun v H2 e2 d2 => ?_⟩
      · have e := DGet.k (k := Sum.inr name) st1.so
        rw [valV_src, hl] at e
        exact e
      have st2 := st1.same e2
      obtain ⟨dx2, hob2⟩ := st2.ob
      obtain ⟨ca2, ks2, g1, g2, g3, g4, g5⟩ := st2.ca
      have hlen : ca2.length ≤ 13 := by
        have e := congrArg List.length g2
        rw [List.length_map, List.length_map] at e
        rw [e]
        have := nodup_sub g3 g4
        rw [List.length_map] at this
        exact Nat.le_trans this S.len
      refine ⟨_, rfl, p, a.C, dx2, _, _, rfl, hob2, CT.cc, CT.nR, flds_r _ _ _, _, rfl, dr, _, rfl, DPut.k (k := Sum.inr name) g1 (line_lt (by omega)), ?_⟩
      have ndr : p ≠ dr := ne_of hob2 g1 (by intro z; cases z)
      have t3 : TS H2 (upd H2 dr (.dK (putK ca2 (Sum.inr name) v))) := TS.set _ g1 rfl
      have dv3 : Dp K (upd H2 dr (.dK (putK ca2 (Sum.inr name) v))) v (R name).d := by
        rw [F.fx name z hl]
        exact dp_ts t3 _ _ (noL_res _) d2
      have st3 : RSt K a.C src att R p ds dr (upd H2 dr (.dK (putK ca2 (Sum.inr name) v))) := by
        refine ⟨⟨dx2, by rw [upd_ne ndr]; exact hob2⟩, by rw [upd_ne st2.ne]; exact st2.so, ?_, st2.ne⟩
        obtain ⟨ks3, kd⟩ := (show KeyD ca2 ks2 ks2 ks2.length from ⟨g2, g3, fun _ => Iff.rfl, Nat.le_refl _⟩).put name v
        refine ⟨_, ks3, upd_same, kd.ek, kd.nd, fun n hn => ?_, fun n u hu => ?_⟩
        · rcases List.mem_append.mp ((kd.mm n).mp hn) with h | h
          · exact g4 n h
          · rw [List.mem_singleton.mp h]
            exact lk_in hl
        · rw [valV_put] at hu
          by_cases e : (Sum.inr n : Key) = Sum.inr name
          · rw [if_pos e] at hu
            have e1 : n = name := Sum.inr.inj e
            have e2 : v = u := Option.some.inj hu
            rw [e1, ← e2]
            exact dv3
          · rw [if_neg e] at hu
            exact dp_ts t3 _ _ (noL_res _) (g5 n u hu)
      have b3 : But dr H (upd H2 dr (.dK (putK ca2 (Sum.inr name) v))) := (b1.trans (But.of_same e2)).trans (But.set _ _)
      refine ⟨_, rfl, p, a.C, dx2, _, _, rfl, (by rw [upd_ne ndr]; exact hob2), CT.cc, CT.nR, flds_r _ _ _, _, rfl, dr, v, rfl, ?_, q v _ b3 st3 dv3⟩
      have e := DGet.k (a := dr) (kvs := putK ca2 (Sum.inr name) v) (k := Sum.inr name) (H := upd H2 dr (.dK (putK ca2 (Sum.inr name) v))) upd_same
      rw [valV_put, if_pos rfl] at e
      exact e
/-- both, at every level -/
theorem has_both (DR : DefM K a.C "result" "Renderer.result" sMresult ["self", "name"]) (DD : DefM K a.C "dependencies" "Renderer.dependencies" sMdependencies ["self", "name"]) (T : Txt K w mg a) (CT : CTxt K a.C)
    (HSplit : Has P w K mg base 3 "split" ["name", "text"] (spSplit K)) (HTarget : Has P w K mg base 2 "target" ["name", "found"] (spTarget K)) (HJoinResult : Has P w K mg base 5 "join_result" ["name", "text", "attempts", "found"] (spJoinRes K)) :
    ∀ m : Nat, HasM P w K mg base a.C (2 * m + 6) "result" ["self", "name"] (spRes K a.C m) ∧ HasM P w K mg base a.C (2 * m + 7) "dependencies" ["self", "name"] (spDep K a.C m)
  | 0 => by
    have h := has_res 5 0 (by omega) (fun _ _ _ _ => False) DR T CT HJoinResult (DD.no (k := 5)) fun src att R p ds dr name z H Q E _ _ _ _ _ h => absurd h (Nat.not_lt_zero _)
    exact ⟨h, has_dep 0 DD T CT HSplit HTarget h⟩
  | m + 1 => by
    have ih := (has_both DR DD T CT HSplit HTarget HJoinResult m).2
    have h := has_res (2 * m + 7) (m + 1) (by omega) (spDep K a.C m) DR T CT HJoinResult ih fun src att R p ds dr name z H Q E S F hb st hl hrk k =>
      ⟨src, att, R, p, ds, dr, name, rfl, S, F, hb, st, fun x y hx ha => Nat.lt_of_lt_of_le (rk_lt (lk_in hx) ha) (Nat.le_of_lt_succ hrk), k⟩
    exact ⟨h, has_dep (m + 1) DD T CT HSplit HTarget h⟩
end
end Pg


set_option Elab.async false
set_option linter.all false
set_option maxRecDepth 100000
set_option maxHeartbeats 4000000
/-! the walk: required; the three functions of the module -/
namespace Pg
open PySem PySem.Spec PyProof.Rows L2

def univ (src : Src) (R : Str → Res) (pages : List Str) : List Str := pages ++ src.flatMap fun p => (deps R p.1 (split p.1 p.2)).map (·.1)
theorem univ_pg {src : Src} {R : Str → Res} {pages : List Str} : ∀ p ∈ pages, p ∈ univ src R pages := fun p h => List.mem_append_left _ h
theorem univ_cl (src : Src) (R : Str → Res) (pages : List Str) : Closed src R (univ src R pages) := fun n _ z hz d hd =>
  List.mem_append_right _ (List.mem_flatMap.mpr ⟨(n, z), lk_mem hz, List.mem_map.mpr ⟨d, hd, rfl⟩⟩)
theorem univ_len {src : Src} (S : SrcOk src) (R : Str → Res) (pages : List Str) : (univ src R pages).length ≤ pages.length + 13 * 242 := by
  have h : ∀ l : Src, (∀ p ∈ l, Good 60 p.2) → (l.flatMap fun p => (deps R p.1 (split p.1 p.2)).map (·.1)).length ≤ l.length * 242 := by
    intro l
    induction l with
    | nil => exact fun _ => Nat.le_refl _
    | cons p r ih =>
      intro hp
      have h1 := ih fun q hq => hp q (List.mem_cons_of_mem _ hq)
      have h2 := split_len p.1 p.2
      have h3 := (hp p List.mem_cons_self).1
      have h4 := deps_len R p.1 (split p.1 p.2)
      rw [List.flatMap_cons, List.length_append, List.length_map, List.length_cons]
      omega
  have h1 := h src fun p hp => (S.good p hp).2
  have h2 := S.len
  unfold univ
  rw [List.length_append]
  have : src.length * 242 ≤ 13 * 242 := Nat.mul_le_mul_right _ h2
  omega
/-- on the way: names seen, names that wait -/
structure Way (src : Src) (R : Str → Res) (pages ks wl : List Str) : Prop where
  nd : ks.Nodup
  pg : ∀ p ∈ pages, p ∈ ks ∨ p ∈ wl
  cl : ∀ n ∈ ks, ∀ z, lk src n = some z → ∀ d ∈ deps R n (split n z), d.1 ∈ ks ∨ d.1 ∈ wl
  ls : ∀ T', (∀ p ∈ pages, p ∈ T') → Closed src R T' → ∀ n, (n ∈ ks ∨ n ∈ wl) → n ∈ T'
theorem Way.start (src : Src) (R : Str → Res) (pages : List Str) : Way src R pages [] pages :=
  ⟨List.nodup_nil, fun p h => .inr h, fun n h => (by cases h), fun T' h _ n hn => hn.elim (fun q => by cases q) (h n)⟩
theorem Way.old {src : Src} {R : Str → Res} {pages ks wl : List Str} {n : Str} (h : Way src R pages ks (wl ++ [n])) (hn : n ∈ ks) : Way src R pages ks wl := by
  have sw : ∀ {x : Str}, (x ∈ ks ∨ x ∈ wl ++ [n]) → x ∈ ks ∨ x ∈ wl := fun {x} hx => by
    rcases hx with q | q
    · exact .inl q
    · rcases List.mem_append.mp q with q | q
      · exact .inr q
      · rw [List.mem_singleton.mp q]
        exact .inl hn
  exact ⟨h.nd, fun p hp => sw (h.pg p hp), fun m hm z hz d hd => sw (h.cl m hm z hz d hd), fun T' h1 h2 m hm => h.ls T' h1 h2 m (hm.imp id (List.mem_append_left _))⟩
theorem Way.step {src : Src} {R : Str → Res} {pages ks wl : List Str} {n : Str} (h : Way src R pages ks (wl ++ [n])) (hn : n ∉ ks) : Way src R pages (ks ++ [n]) (wl ++ (deps R n (split n (txt src n))).map (·.1)) := by
  have sw : ∀ {x : Str}, (x ∈ ks ∨ x ∈ wl ++ [n]) → x ∈ ks ++ [n] ∨ x ∈ wl ++ (deps R n (split n (txt src n))).map (·.1) := fun {x} hx => by
    rcases hx with q | q
    · exact .inl (List.mem_append_left _ q)
    · rcases List.mem_append.mp q with q | q
      · exact .inr (List.mem_append_left _ q)
      · exact .inl (List.mem_append_right _ q)
  refine ⟨nd_snoc h.nd hn, fun p hp => sw (h.pg p hp), fun m hm z hz d hd => ?_, fun T' h1 h2 m hm => ?_⟩
  · rcases List.mem_append.mp hm with hm | hm
    · exact sw (h.cl m hm z hz d hd)
    · have e := List.mem_singleton.mp hm
      subst e
      rw [← txt_some hz] at hd
      exact .inr (List.mem_append_right _ (List.mem_map.mpr ⟨d, hd, rfl⟩))
  · have key := h.ls T' h1 h2
    rcases hm with hm | hm
    · rcases List.mem_append.mp hm with hm | hm
      · exact key m (.inl hm)
      · exact key m (.inr (List.mem_append_right _ hm))
    · rcases List.mem_append.mp hm with hm | hm
      · exact key m (.inr (List.mem_append_left _ hm))
      · obtain ⟨d, hd, e⟩ := List.mem_map.mp hm
        rw [← e]
        cases hl : lk src n with
        | none =>
          rw [txt_none hl, split_nil] at hd
          cases hd
        | some z =>
          rw [txt_some hl] at hd
          exact h2 n (key n (.inr (List.mem_append_right _ List.mem_cons_self))) z hl d hd
theorem Way.done {src : Src} {R : Str → Res} {pages ks : List Str} (h : Way src R pages ks []) : Req src R pages ks :=
  ⟨fun p hp => (h.pg p hp).resolve_right (by simp), fun n hn z hz d hd => (h.cl n hn z hz d hd).resolve_right (by simp), fun T' h1 h2 n hn => h.ls T' h1 h2 n (.inl hn)⟩

def spReqM (K : PySem.W.Frag) (C : Addr) : Sp := fun vs H Q _ => ∃ (src : Src) (att : Int) (R : Str → Res) (p ds dr pg : Addr) (pages : List Str), vs = [.ref p, .ref pg] ∧ SrcOk src ∧ Fix src att R ∧ RB R ∧ RSt K C src att R p ds dr H ∧ SqT K H pg (pages.map V.str) ∧ pages.length ≤ 100 ∧
  ∀ T l H', Req src R pages T → H l = none → But dr H H' → H' l = some (.lst ((rise T).map V.str)) → Q (.ref l) H'
section
variable {P : Program} {w : World} {K : PySem.W.Frag} {mg : Str → Option Value} {base : Heap} {a : Adr}
theorem has_req (D : DefM K a.C "required" "Renderer.required" sMrequired ["self", "pages"]) (T : Txt K w mg a) (CT : CTxt K a.C) (HMdependencies : HasM P w K mg base a.C 35 "dependencies" ["self", "name"] (spDep K a.C 14)) :
    HasM P w K mg base a.C 36 "required" ["self", "pages"] (spReqM K a.C) := by
  refine D.has (k := 35) scMrequired (fun vs H Q E h => ?_) (fun f cdv A outer s H vs Q E hr h => ?_)
  · obtain ⟨src, att, R, p, ds, dr, pg, pages, rfl, _⟩ := h
    rfl
  obtain ⟨src, att, R, p, ds, dr, pg, pages, rfl, S, F, hb, st, hpg, hpl, q⟩ := h
  have hU := univ_len S R pages
  refine ⟨_, (pss_cons (ps_set (i := 2) scMrequired.nd rfl (Or.inl rfl) pe_dnewK)
      (pss_cons (ps_set (i := 3) scMrequired.nd rfl (Or.inl rfl) (pe_callTy call_list_of rfl T.nlist (by decide +kernel) (pa_cons (pv 1) pa_nil)))
      (pss_cons (ps_while PassesOwn.never (pt_truth (pv 3) (by intro _; rfl)) (pss_cons (ps_set (i := 4) scMrequired.nd rfl (Or.inl rfl) (pe_bm0 PySem.F.plainAttrs_list PySem.F.slot_list_pop PySem.F.type_list_pop mt_pop (pv 3)))
      (pss_one (ps_if (pt_cmp (pc_dnotin (hu_of hr) (pv 4) (pv 2)) rfl) (pss_cons (ps_dput (hu_of hr) (pv 2) (pv 4) pe_bl rfl)
      (pss_one (ps_expr (pe_bm PySem.F.plainAttrs_list PySem.F.slot_list_extend PySem.F.type_list_extend mt_extend (pv 3) (pa_cons (pe_lc (own := [("other", 5), ("_", 6)]) (g := (gTup K 2 (gCons (gName 5) (gCons (gName 6) gNil)))) (tt := tYes) rfl scMrequired.nd (pi_list (pe_methH (pv 0) CT.cc HMdependencies (hr.mono (by omega)) (pa_cons (pv 4) pa_nil))) (blkOk_by (own := [("other", 5), ("_", 6)]) (N := ["self", "pages", "names", "waiting", "name", "other", "_"]) (sc := defScope sMrequired) (by decide +kernel)) (fun _ _ _ _ _ => pg_tup rfl (pgs_cons (pg_name (i := 5) scMrequired.nd rfl (Or.inl rfl)) (pgs_cons (pg_name (i := 6) scMrequired.nd rfl (Or.inl rfl)) pgs_nil))) (fun _ _ _ _ _ => pts_nil) (fun _ _ _ _ _ => (pv 5))) pa_nil))))) pss_nil))))
      (pss_one (ps_ret (pe_callB (cr_sortT rfl) rfl T.nsorted (by decide +kernel) (pa_cons (pv 2) pa_nil))))))), ?_⟩
  intro dn hdn
  have e1 := same_new (.dK []) hdn
  refine ⟨_, rfl, pg, _, rfl, .inr (same_sqT e1 hpg), fun lw hlw => ?_⟩
  have e2 := same_new (.lst (pages.map V.str)) hlw
  have dn0 : H dn = none := hdn
  have lw0 : H lw = none := e1.free hlw
  refine ⟨fun m σ H' => ∃ (ks wl : List Str) (kvs : List (Key × V)) (v4 v5 v6 : Option V), σ = [some (.ref p), some (.ref pg), some (.ref dn), some (.ref lw), v4, v5, v6] ∧ m = ((univ src R pages).length - ks.length) * 243 + wl.length ∧ m ≤ (univ src R pages).length * 243 + 100 ∧
    But dr H H' ∧ RSt K a.C src att R p ds dr H' ∧ H' dn = some (.dK kvs) ∧ kvs.map (·.1) = ks.map Sum.inr ∧ H' lw = some (.lst (wl.map V.str)) ∧ Way src R pages ks wl,
    ⟨_, [], pages, [], none, none, none, rfl, rfl, by rw [List.length_nil, Nat.sub_zero]; omega, But.of_same (e1.trans e2), (st.same e1).same e2, e2 _ _ upd_same, rfl, upd_same, Way.start src R pages⟩, ?_⟩
  rintro m σ H1 ⟨ks, wl, kvs, v4, v5, v6, rfl, rfl, hm, b1, st1, hdk, hek, hlw1, way⟩
  have hkl : kvs.length = ks.length := by
    have e := congrArg List.length hek
    rwa [List.length_map, List.length_map] at e
  have hin : ∀ n, (n ∈ ks ∨ n ∈ wl) → n ∈ univ src R pages := way.ls _ univ_pg (univ_cl src R pages)
  have hks : ks.length ≤ (univ src R pages).length := nodup_sub way.nd fun z hz => hin z (.inl hz)
  refine ⟨_, rfl, _, .inl ⟨_, SqL.of hlw1, rfl⟩, ?_⟩
  rcases List.eq_nil_or_concat wl with rfl | ⟨wl', n, rfl⟩
  · refine iteF ?_
    refine ⟨_, rfl, dn, ks, rfl, big_of (by omega), .inr (.inr ⟨kvs, .inl hdk, hek⟩), fun ys ps hpm hso hps => ?_⟩
    rw [sorted_rise hpm hso way.nd]
    have e3 := same_new (.lst ((rise ks).map V.str)) hps
    exact q ks ps _ way.done (b1.none hps fun z => by rw [z] at hps; obtain ⟨_, _, ⟨ca, _, c1, _⟩, _⟩ := st1; rw [c1] at hps; cases hps) (b1.trans (But.of_same e3)) upd_same
  · rw [List.concat_eq_append] at *
    have hne : (!((wl' ++ [n]).map V.str).isEmpty) = true := by simp
    rw [hne]
    refine iteT ?_
    refine ⟨_, fun σ' H' h => h, ?_⟩
    have hwl : (wl' ++ [n]).length = wl'.length + 1 := by simp
    refine ⟨_, rfl, .inl ⟨rfl, _, SqL.of hlw1⟩, lw, _, .str n, rfl, rfl, hlw1, by simp, ?_⟩
    have edl : ((wl' ++ [n]).map V.str).dropLast = wl'.map V.str := by rw [List.map_append]; exact List.dropLast_concat
    rw [edl]
    -- behind the pop
    have b2 := But.set (H := H1) lw (.lst (wl'.map V.str))
    have st2 := st1.list hlw1 b2
    have ndl : dn ≠ lw := ne_of hdk hlw1 (by intro z; cases z)
    have hdk2 : upd H1 lw (.lst (wl'.map V.str)) dn = some (.dK kvs) := by rw [upd_ne ndl]; exact hdk
    have bb2 : But dr H (upd H1 lw (.lst (wl'.map V.str))) := fun c o hc hcn => by
      rw [upd_ne (ne_of_none hc lw0)]
      exact b1 c o hc hcn
    refine ⟨_, rfl, _, rfl, dn, _, rfl, DGet.k (k := Sum.inr n) hdk2, _, rfl, ?_⟩
    cases hv : valV kvs (Sum.inr n : Key) with
    | some v =>
      have hmem : n ∈ ks := inr_mem.mp (by rw [← hek]; exact valV_mem.mp (by rw [hv]; rfl))
      refine iteF ?_
      refine ⟨_, ?_, ks, wl', kvs, _, _, _, rfl, rfl, ?_, bb2, st2, hdk2, hek, upd_same, way.old hmem⟩
      · rw [hwl]
        omega
      · rw [hwl] at hm
        omega
    | none =>
      have hmem : n ∉ ks := fun h => by
        have := valV_mem.mpr (by rw [hek]; exact inr_mem.mpr h)
        rw [hv] at this
        cases this
      have hks1 : ks.length + 1 ≤ (univ src R pages).length := by
        have h1 := nodup_sub (nd_snoc way.nd hmem) (m := univ src R pages) fun z hz => by
          rcases List.mem_append.mp hz with h | h
          · exact hin z (.inl h)
          · rw [List.mem_singleton.mp h]
            exact hin n (.inr (List.mem_append_right _ List.mem_cons_self))
        rw [List.length_append] at h1
        exact h1
      refine iteT ?_
      -- names[name] = True
      refine ⟨_, rfl, _, rfl, dn, _, rfl, DPut.k (k := Sum.inr n) hdk2 (big_lt (by omega)), ?_⟩
      have hek3 : (putK kvs (Sum.inr n) (V.bl true)).map (·.1) = (ks ++ [n]).map Sum.inr := by
        rw [putK_new _ hv, List.map_append, hek, List.map_append]
        rfl
      generalize hkvs3 : putK kvs (Sum.inr n) (V.bl true) = kvs3 at hek3 ⊢
      have b3 := But.set (H := upd H1 lw (.lst (wl'.map V.str))) dn (.dK kvs3)
      generalize hH2 : upd H1 lw (.lst (wl'.map V.str)) = H2 at *
      have lw2 : H2 lw = some (.lst (wl'.map V.str)) := by rw [← hH2]; exact upd_same
      have dnp : dn ≠ p := fun z => by
        obtain ⟨dx, ob⟩ := st.ob
        rw [← z, dn0] at ob
        cases ob
      have dnd : dn ≠ ds := fun z => by
        have := st.so
        rw [← z, dn0] at this
        cases this
      have dnr : dn ≠ dr := fun z => by
        obtain ⟨_, _, ⟨ca, _, c1, _⟩, _⟩ := st
        rw [← z, dn0] at c1
        cases c1
      have t3 : TS H2 (upd H2 dn (.dK kvs3)) := TS.set _ hdk2 rfl
      have st3 : RSt K a.C src att R p ds dr (upd H2 dn (.dK kvs3)) := by
        obtain ⟨⟨dx, h1⟩, h2, ⟨ca, cs, c1, c2, c3, c4, c5⟩, h4⟩ := st2
        exact ⟨⟨dx, by rw [upd_ne dnp.symm]; exact h1⟩, by rw [upd_ne dnd.symm]; exact h2, ⟨ca, cs, by rw [upd_ne dnr.symm]; exact c1, c2, c3, c4, fun x v hx => dp_ts t3 _ _ (noL_res _) (c5 x v hx)⟩, h4⟩
      have bb3 : But dr H (upd H2 dn (.dK kvs3)) := fun c o hc hcn => by
        rw [upd_ne (ne_of_none hc dn0)]
        exact bb2 c o hc hcn
      have lw3 : upd H2 dn (.dK kvs3) lw = some (.lst (wl'.map V.str)) := by rw [upd_ne ndl.symm]; exact lw2
      have dn3 : upd H2 dn (.dK kvs3) dn = some (.dK kvs3) := upd_same
      generalize hH3 : upd H2 dn (.dK kvs3) = H3 at *
      obtain ⟨dx3, ob3⟩ := st3.ob
      refine ⟨_, rfl, .inl ⟨rfl, _, SqL.of lw3⟩, ?_⟩
      refine ⟨_, rfl, p, dx3, _, rfl, ob3, flds_no _ _ _ (by decide +kernel) (by decide +kernel) (by decide +kernel), _, rfl, src, att, R, p, ds, dr, n, rfl, S, F, hb, st3, fun x z _ _ => Nat.lt_succ_of_le (Nat.le_trans (rk_le src x) S.len), fun l vs' H4 hln b4 st4 hl4 dl4 => ⟨l, rfl, ⟨_, SqL.of hl4⟩, fun Dl hD => ?_⟩⟩
      have hdl : (deps R n (split n (txt src n))).length ≤ 242 := by
        have h1 := deps_len R n (split n (txt src n))
        have h2 := split_len n (txt src n)
        have h3 := (txt_good S n).1
        omega
      generalize hdn' : deps R n (split n (txt src n)) = dd at *
      refine lc_list (K := K) (a := l) (xs := vs') (fun i H' => Made H4 H' Dl ((dd.take i).map fun d => V.str d.1)) (Made.mk0 (Same.refl _) hD) (fun i H' _ m => m.same.seq (SqL.of hl4)) ?_ ?_
      · rintro i x H' hx m
        obtain ⟨d0, g1, g2⟩ := dpa_get dl4 hx
        rw [List.getElem?_map] at g1
        obtain ⟨d, g3, g4⟩ := Option.map_eq_some_iff.mp g1
        subst g4
        obtain ⟨pa, u, rfl, hpa, _⟩ := dep_at (dp_same m.same _ _ g2)
        refine ⟨pa, _, rfl, hpa, rfl, _, _, rfl, _, _, rfl, rfl, rfl, ?_⟩
        refine ⟨_, rfl, _, m.at_, line_lt ?_, ?_⟩
        · rw [List.length_map, List.length_take]
          omega
        · rw [take_snoc g3, List.map_append]
          exact m.app _
      · intro H5 m
        have lvs : vs'.length = dd.length := by rw [dpa_len dl4, List.length_map]
        rw [lvs, List.take_length] at m
        have lw4 := b4 _ _ lw3 (fun z => by
          obtain ⟨_, _, ⟨ca, _, c1, _⟩, _⟩ := st3
          rw [z, c1] at lw3
          cases lw3)
        have lw5 := m.same _ _ lw4
        have dn4 := b4 _ _ dn3 dnr
        have dn5 := m.same _ _ dn4
        have st5 := st4.same m.same
        refine ⟨lw, Dl, _, _, rfl, rfl, lw5, m.at_, big_of ?_, ?_⟩
        · rw [List.length_map, List.length_map]
          rw [hwl] at hm
          omega
        refine ⟨_, ?_, ks ++ [n], wl' ++ dd.map (·.1), kvs3, _, _, _, rfl, rfl, ?_, ?_, st5.list lw5 (But.set _ _), ?_, hek3, ?_, ?_⟩
        · rw [List.length_append, List.length_append, List.length_map, hwl, List.length_singleton]
          omega
        · rw [List.length_append, List.length_append, List.length_map, List.length_singleton]
          rw [hwl] at hm
          omega
        · exact fun c o hc hcn => by
            rw [upd_ne (ne_of_none hc lw0)]
            exact m.same _ _ (b4 c o (bb3 c o hc hcn) hcn)
        · rw [upd_ne ndl]
          exact dn5
        · rw [upd_same, List.map_append, List.map_map]
          rfl
        · have h := way.step hmem
          rw [hdn'] at h
          exact h
end
end Pg


set_option Elab.async false
set_option linter.all false
set_option maxRecDepth 100000
set_option maxHeartbeats 4000000
/-! the walk: dependencies, result, required of the module -/
namespace Pg
open PySem PySem.Spec PyProof.Rows L2

/-- behind Renderer(sources, attempts) -/
theorem made_state {K : PySem.W.Frag} {C : Addr} {src : Src} {att : Int} {R : Str → Res} {x dx ds dr : Addr} {H H1 : Hp} (nx : H x = none) (ndx : H dx = none) (hds : H ds = some (.dK (srcK src)))
    (ndr : upd (upd H dx (.own x)) x (.ins C dx []) dr = none) (h1 : H1 x = some (.ins C dx (flds ds att dr))) (h2 : H1 dr = some (.dK [])) (keep : ∀ b o, upd (upd H dx (.own x)) x (.ins C dx []) b = some o → b ≠ x → H1 b = some o) :
    Same H H1 ∧ RSt K C src att R x ds dr H1 ∧ H dr = none := by
  have e : Same H H1 := fun b o hb => keep b o (by rw [upd_ne (ne_of_none hb nx), upd_ne (ne_of_none hb ndx)]; exact hb) (ne_of_none hb nx)
  have hdr : H dr = none := by
    cases q : H dr with
    | none => rfl
    | some o =>
      rw [upd_ne (ne_of_none q nx), upd_ne (ne_of_none q ndx), q] at ndr
      cases ndr
  exact ⟨e, ⟨⟨dx, h1⟩, e _ _ hds, ⟨[], [], h2, rfl, List.nodup_nil, fun n hn => (by cases hn), fun n v hv => (by cases hv)⟩, ne_of_none hds hdr⟩, hdr⟩
theorem same_but {dr : Addr} {H H1 H2 : Hp} (e : Same H H1) (hdr : H dr = none) (b : But dr H1 H2) : Same H H2 := fun c o hc => b c o (e c o hc) (ne_of_none hc hdr)
def spDependencies (K : PySem.W.Frag) : Sp := fun vs H Q _ => ∃ (src : Src) (att : Int) (R : Str → Res) (ds : Addr) (name : Str), vs = [.ref ds, .int att, .str name] ∧ SrcOk src ∧ Fix src att R ∧ RB R ∧ H ds = some (.dK (srcK src)) ∧
  RetL K H ((deps R name (split name (txt src name))).map Dep.d) Q
def spResult (K : PySem.W.Frag) : Sp := fun vs H Q _ => ∃ (src : Src) (att : Int) (R : Str → Res) (ds : Addr) (name : Str), vs = [.ref ds, .int att, .str name] ∧ SrcOk src ∧ Fix src att R ∧ RB R ∧ H ds = some (.dK (srcK src)) ∧ RetD K H (R name).d Q
def spRequired (K : PySem.W.Frag) : Sp := fun vs H Q _ => ∃ (src : Src) (att : Int) (R : Str → Res) (ds pg : Addr) (pages : List Str), vs = [.ref ds, .int att, .ref pg] ∧ SrcOk src ∧ Fix src att R ∧ RB R ∧ H ds = some (.dK (srcK src)) ∧ SqT K H pg (pages.map V.str) ∧ pages.length ≤ 100 ∧
  ∀ T l H', Req src R pages T → H l = none → Same H H' → H' l = some (.lst ((rise T).map V.str)) → Q (.ref l) H'
section
variable {P : Program} {w : World} {K : PySem.W.Frag} {mg : Str → Option Value} {base : Heap} {a : Adr}
theorem has_dependencies (D : DefAt K mg "dependencies" sDependencies ["sources", "attempts", "name"]) (T : Txt K w mg a) (CT : CTxt K a.C) (HMInit : HasI P w K mg base a.C 1 ["self", "sources", "attempts"] (spInit a.C))
    (HMdependencies : HasM P w K mg base a.C 35 "dependencies" ["self", "name"] (spDep K a.C 14)) : Has P w K mg base 37 "dependencies" ["sources", "attempts", "name"] (spDependencies K) := by
  refine D.has (k := 36) scDependencies (fun vs H Q E h => ?_) (fun f cdv A outer s H vs Q E hr h => ?_)
  · obtain ⟨src, att, R, ds, name, rfl, _⟩ := h
    rfl
  obtain ⟨src, att, R, ds, name, rfl, S, F, hb, hds, q⟩ := h
  refine ⟨_, (pss_one (ps_ret (pe_methH (pe_makeH HMInit (hr.mono (by omega)) rfl T.gRe (pa_cons (pv 0) (pa_cons (pv 1) pa_nil))) CT.cc HMdependencies (hr.mono (by omega)) (pa_cons (pv 2) pa_nil)))), ?_⟩
  refine ⟨_, rfl, _, rfl, fun x dx nx ndx nex => ⟨x, dx, ds, att, rfl, upd_same, ?_, (ne_of_none hds nx).symm, fun dr H1 ndr h1 h2 keep => ⟨rfl, ?_⟩⟩⟩
  · rw [upd_ne (ne_of_none hds nx), upd_ne (ne_of_none hds ndx), hds]
    simp
  obtain ⟨e, st, hdr⟩ := made_state (K := K) (R := R) nx ndx hds ndr h1 h2 keep
  refine ⟨x, dx, _, rfl, h1, flds_no _ _ _ (by decide +kernel) (by decide +kernel) (by decide +kernel), _, rfl, src, att, R, x, ds, dr, name, rfl, S, F, hb, st, fun y z _ _ => Nat.lt_succ_of_le (Nat.le_trans (rk_le src y) S.len), fun l vs' H2 hl b st2 hl2 dl => ?_⟩
  exact q l vs' H2 (e.free hl) (same_but e hdr b) hl2 dl
theorem has_result (D : DefAt K mg "result" sResult ["sources", "attempts", "name"]) (T : Txt K w mg a) (CT : CTxt K a.C) (HMInit : HasI P w K mg base a.C 1 ["self", "sources", "attempts"] (spInit a.C))
    (HMresult : HasM P w K mg base a.C 34 "result" ["self", "name"] (spRes K a.C 14)) : Has P w K mg base 37 "result" ["sources", "attempts", "name"] (spResult K) := by
  refine D.has (k := 36) scResult (fun vs H Q E h => ?_) (fun f cdv A outer s H vs Q E hr h => ?_)
  · obtain ⟨src, att, R, ds, name, rfl, _⟩ := h
    rfl
  obtain ⟨src, att, R, ds, name, rfl, S, F, hb, hds, q⟩ := h
  refine ⟨_, (pss_one (ps_ret (pe_methH (pe_makeH HMInit (hr.mono (by omega)) rfl T.gRe (pa_cons (pv 0) (pa_cons (pv 1) pa_nil))) CT.cc HMresult (hr.mono (by omega)) (pa_cons (pv 2) pa_nil)))), ?_⟩
  refine ⟨_, rfl, _, rfl, fun x dx nx ndx nex => ⟨x, dx, ds, att, rfl, upd_same, ?_, (ne_of_none hds nx).symm, fun dr H1 ndr h1 h2 keep => ⟨rfl, ?_⟩⟩⟩
  · rw [upd_ne (ne_of_none hds nx), upd_ne (ne_of_none hds ndx), hds]
    simp
  obtain ⟨e, st, hdr⟩ := made_state (K := K) (R := R) nx ndx hds ndr h1 h2 keep
  refine ⟨x, dx, _, rfl, h1, flds_no _ _ _ (by decide +kernel) (by decide +kernel) (by decide +kernel), _, rfl, src, att, R, x, ds, dr, name, rfl, S, F, hb, st, fun _ => Nat.lt_succ_of_le (Nat.le_trans (rk_le src name) S.len), fun v H2 b st2 dv => ?_⟩
  exact q v H2 (same_but e hdr b) dv
theorem has_required (D : DefAt K mg "required" sRequired ["sources", "attempts", "pages"]) (T : Txt K w mg a) (CT : CTxt K a.C) (HMInit : HasI P w K mg base a.C 1 ["self", "sources", "attempts"] (spInit a.C))
    (HMrequired : HasM P w K mg base a.C 36 "required" ["self", "pages"] (spReqM K a.C)) : Has P w K mg base 37 "required" ["sources", "attempts", "pages"] (spRequired K) := by
  refine D.has (k := 36) scRequired (fun vs H Q E h => ?_) (fun f cdv A outer s H vs Q E hr h => ?_)
  · obtain ⟨src, att, R, ds, pg, pages, rfl, _⟩ := h
    rfl
  obtain ⟨src, att, R, ds, pg, pages, rfl, S, F, hb, hds, hpg, hpl, q⟩ := h
  refine ⟨_, (pss_one (ps_ret (pe_methH (pe_makeH HMInit (hr.mono (by omega)) rfl T.gRe (pa_cons (pv 0) (pa_cons (pv 1) pa_nil))) CT.cc HMrequired (hr.mono (by omega)) (pa_cons (pv 2) pa_nil)))), ?_⟩
  refine ⟨_, rfl, _, rfl, fun x dx nx ndx nex => ⟨x, dx, ds, att, rfl, upd_same, ?_, (ne_of_none hds nx).symm, fun dr H1 ndr h1 h2 keep => ⟨rfl, ?_⟩⟩⟩
  · rw [upd_ne (ne_of_none hds nx), upd_ne (ne_of_none hds ndx), hds]
    simp
  obtain ⟨e, st, hdr⟩ := made_state (K := K) (R := R) nx ndx hds ndr h1 h2 keep
  refine ⟨x, dx, _, rfl, h1, flds_no _ _ _ (by decide +kernel) (by decide +kernel) (by decide +kernel), _, rfl, src, att, R, x, ds, dr, pg, pages, rfl, S, F, hb, st, same_sqT e hpg, hpl, fun T l H2 hT hl b hl2 => ?_⟩
  exact q T l H2 hT (e.free hl) (same_but e hdr b) hl2
end
end Pg


set_option Elab.async false
set_option linter.all false
set_option maxRecDepth 100000
set_option maxHeartbeats 4000000
/-! the law's side: what is drawn -/
namespace Pg
open PySem PySem.Spec PyProof.Rows L2

/-- the names that are drawn -/
def NMS : List Str := ["a", "b", "c", "d", "e", "ab", "bc", "cd"]
theorem nms_good {x : Str} (h : x ∈ NMS) : Good 6 x := by
  have g : ∀ y ∈ NMS, goodB 6 y = true := by decide +kernel
  exact good_of (g x h)
/-- the box: the digits and where one stands -/
structure Box (H : Hp) (b dg : Addr) : Prop where
  ex : ∃ (ds : List Int) (i : Nat), H b = some (.lst [.ref dg, .int (i : Int)]) ∧ H dg = some (.lst (ds.map V.int)) ∧ dg ≠ b
section
variable {K : PySem.W.Frag} {H H' : Hp} {b d dg : Addr}
theorem Box.same (h : Box H b dg) (e : Same H H') : Box H' b dg := by
  obtain ⟨ds, i, h1, h2, h3⟩ := h.ex
  exact ⟨ds, i, e _ _ h1, e _ _ h2, h3⟩
theorem Box.but (h : Box H b dg) (e : But d H H') (n1 : b ≠ d) (n2 : dg ≠ d) : Box H' b dg := by
  obtain ⟨ds, i, h1, h2, h3⟩ := h.ex
  exact ⟨ds, i, e _ _ h1 n1, e _ _ h2 n2, h3⟩
theorem Box.dict {kvs : List (Key × V)} (h : Box H b dg) (hd : H d = some (.dK kvs)) (e : But d H H') : Box H' b dg := by
  obtain ⟨ds, i, h1, h2, h3⟩ := h.ex
  exact ⟨ds, i, e _ _ h1 (ne_of h1 hd (by intro z; cases z)), e _ _ h2 (ne_of h2 hd (by intro z; cases z)), h3⟩
theorem Box.ne (h : Box H b dg) (hd : H d = none) : b ≠ d ∧ dg ≠ d := by
  obtain ⟨ds, i, h1, h2, h3⟩ := h.ex
  exact ⟨ne_of_none h1 hd, ne_of_none h2 hd⟩
theorem but_new {p : Addr} (e : But b H H') (hp : H p = none) (o : HO) : But b H (upd H' p o) := fun c u hc hn => by
  rw [upd_ne (ne_of_none hc hp)]
  exact e c u hc hn
theorem at_list {l : List Str} {i : Nat} (h : i < l.length) : ∃ y, y ∈ l ∧ atI (l.map V.str) (i : Int) = some (.str y) := by
  refine ⟨l[i], List.getElem_mem h, atI_nat ?_⟩
  rw [List.getElem?_map, List.getElem?_eq_getElem h]
  rfl
/-- sources on the way -/
structure SrcL (src : Src) : Prop where
  nd : (src.map (·.1)).Nodup
  nm : ∀ p ∈ src, p.1 ∈ NMS
  good : ∀ p ∈ src, Good 60 p.2
theorem SrcL.len {src : Src} (h : SrcL src) : src.length ≤ 8 := by
  have := nodup_sub h.nd (m := NMS) fun z hz => by
    obtain ⟨p, hp, e⟩ := List.mem_map.mp hz
    rw [← e]
    exact h.nm p hp
  rw [List.length_map] at this
  exact this
theorem SrcL.ok {src : Src} (h : SrcL src) : SrcOk src := ⟨h.nd, Nat.le_trans h.len (by decide), fun p hp => ⟨nms_good (h.nm p hp), h.good p hp⟩⟩
theorem SrcL.nil : SrcL [] := ⟨List.nodup_nil, fun p h => (by cases h), fun p h => (by cases h)⟩
theorem SrcL.put {src : Src} (h : SrcL src) {n z : Str} (hn : n ∈ NMS) (hz : Good 60 z) : ∃ src', putK (srcK src) (Sum.inr n) (V.str z) = srcK src' ∧ SrcL src' := by
  cases hv : valV (srcK src) (Sum.inr n : Key) with
  | some u =>
    have e : putK (srcK src) (Sum.inr n) (V.str z) = srcK (src.map fun p => if p.1 = n then (p.1, z) else p) := by
      unfold putK
      rw [valV_any, hv]
      rw [show (some u).isSome = true from rfl, if_pos rfl]
      unfold srcK
      rw [List.map_map, List.map_map]
      refine List.map_congr_left fun p _ => ?_
      show (if (Sum.inr p.1 : Key) = Sum.inr n then ((Sum.inr p.1 : Key), V.str z) else (Sum.inr p.1, V.str p.2)) = _
      by_cases e : p.1 = n
      · rw [if_pos (by rw [e])]
        show _ = ((Sum.inr (if p.1 = n then (p.1, z) else p).1 : Key), V.str (if p.1 = n then (p.1, z) else p).2)
        rw [if_pos e]
      · rw [if_neg fun q => e (Sum.inr.inj q)]
        show _ = ((Sum.inr (if p.1 = n then (p.1, z) else p).1 : Key), V.str (if p.1 = n then (p.1, z) else p).2)
        rw [if_neg e]
    refine ⟨_, e, ?_, fun q hq => ?_, fun q hq => ?_⟩
    · rw [List.map_map]
      have e2 : src.map ((fun q : Str × Str => q.1) ∘ fun p => if p.1 = n then (p.1, z) else p) = src.map (·.1) := List.map_congr_left fun p _ => by
        show (if p.1 = n then (p.1, z) else p).1 = p.1
        split <;> rfl
      rw [e2]
      exact h.nd
    · obtain ⟨p, hp, rfl⟩ := List.mem_map.mp hq
      split
      · exact h.nm p hp
      · exact h.nm p hp
    · obtain ⟨p, hp, rfl⟩ := List.mem_map.mp hq
      split
      · exact hz
      · exact h.good p hp
  | none =>
    have hm : n ∉ src.map (·.1) := fun m => by
      have := valV_mem.mpr (show (Sum.inr n : Key) ∈ (srcK src).map (·.1) by
        unfold srcK
        rw [List.map_map]
        obtain ⟨p, hp, e⟩ := List.mem_map.mp m
        exact List.mem_map.mpr ⟨p, hp, by show (Sum.inr p.1 : Key) = _; rw [e]⟩)
      rw [hv] at this
      cases this
    refine ⟨src ++ [(n, z)], by rw [putK_new _ hv]; unfold srcK; rw [List.map_append]; rfl, ?_, fun q hq => ?_, fun q hq => ?_⟩
    · rw [List.map_append]
      exact nd_snoc h.nd hm
    · rcases List.mem_append.mp hq with hq | hq
      · exact h.nm q hq
      · rw [List.mem_singleton.mp hq]
        exact hn
    · rcases List.mem_append.mp hq with hq | hq
      · exact h.good q hq
      · rw [List.mem_singleton.mp hq]
        exact hz
end
/-- the pieces of a drawn text -/
def pcs (nm : Str) : List Str := ["<" ++ nm ++ ">", "<" ++ nm ++ ">", "<@" ++ nm ++ ">", "<@" ++ nm ++ ">", "[" ++ nm ++ "]", "[" ++ nm ++ "]", "x", nm, "y z", "!", "<", "[>]"]
theorem pcs_good {nm : Str} (h : Good 6 nm) : ∀ y ∈ pcs nm, Good 9 y := by
  have c : ∀ u v : Str, goodB 2 u = true → goodB 1 v = true → Good 9 (u ++ nm ++ v) := fun u v hu hv => ((good_of hu).append h).append (good_of hv)
  have f : ∀ u : Str, goodB 9 u = true → Good 9 u := fun u hu => good_of hu
  intro y hy
  simp only [pcs, List.mem_cons, List.not_mem_nil, or_false] at hy
  rcases hy with rfl | rfl | rfl | rfl | rfl | rfl | rfl | rfl | rfl | rfl | rfl | rfl
  · exact c _ _ (by decide +kernel) (by decide +kernel)
  · exact c _ _ (by decide +kernel) (by decide +kernel)
  · exact c _ _ (by decide +kernel) (by decide +kernel)
  · exact c _ _ (by decide +kernel) (by decide +kernel)
  · exact c _ _ (by decide +kernel) (by decide +kernel)
  · exact c _ _ (by decide +kernel) (by decide +kernel)
  · exact f _ (by decide +kernel)
  · exact h.mono (by decide)
  · exact f _ (by decide +kernel)
  · exact f _ (by decide +kernel)
  · exact f _ (by decide +kernel)
  · exact f _ (by decide +kernel)
def spLcell (K : PySem.W.Frag) : Sp := fun vs H Q _ => ∃ (s : Addr) (ns : List Int) (k : Nat), vs = [.ref s, .int (k : Int)] ∧ SqL K H s (ns.map V.int) ∧ ∀ (i : Int) H', Same H H' → Q (.int i) H'
def spLdigits (K : PySem.W.Frag) : Sp := fun vs H Q _ => ∃ (s : Addr) (ns : List Int), vs = [.ref s, .int 0, .int 63] ∧ SqL K H s (ns.map V.int) ∧ ∀ p (ds : List Int) H', Made H H' p (ds.map V.int) → Q (.ref p) H'
def spLdraw (K : PySem.W.Frag) : Sp := fun vs H Q _ => ∃ (b dg : Addr) (m : Int), vs = [.ref b, .int m] ∧ 0 < m ∧ Box H b dg ∧ ∀ (d : Nat) H', (d : Int) < m → But b H H' → Box H' b dg → Q (.int (d : Int)) H'
def spLname (K : PySem.W.Frag) : Sp := fun vs H Q _ => ∃ (b dg : Addr), vs = [.ref b] ∧ Box H b dg ∧ ∀ x H', x ∈ NMS → But b H H' → Box H' b dg → Q (.str x) H'
def spLtext (K : PySem.W.Frag) : Sp := fun vs H Q _ => ∃ (b dg : Addr), vs = [.ref b, .int 5] ∧ Box H b dg ∧ ∀ x H', Good 60 x → But b H H' → Box H' b dg → Q (.str x) H'
def spLsources (K : PySem.W.Frag) : Sp := fun vs H Q _ => ∃ (b dg : Addr), vs = [.ref b, .int 10] ∧ Box H b dg ∧ ∀ ds src H', SrcL src → Box H' b dg → H' ds = some (.dK (srcK src)) → Q (.ref ds) H'
def spLpages (K : PySem.W.Frag) : Sp := fun vs H Q _ => ∃ (b dg : Addr), vs = [.ref b] ∧ Box H b dg ∧ ∀ p (ps : List Str) H', ps.Nodup → (∀ x ∈ ps, x ∈ NMS) → But b H H' → Box H' b dg → SqT K H' p (ps.map V.str) → Q (.ref p) H'
def spLlong (K : PySem.W.Frag) : Sp := fun vs H Q _ => ∃ (b dg ds : Addr) (src : Src), vs = [.ref b, .ref ds] ∧ Box H b dg ∧ SrcL src ∧ H ds = some (.dK (srcK src)) ∧ ∀ src' H', SrcL src' → Box H' b dg → H' ds = some (.dK (srcK src')) → Q .non H'
section
variable {P : Program} {w : World} {K : PySem.W.Frag} {mg : Str → Option Value} {base : Heap} {a : Adr}
theorem has_lcell (D : DefAt K mg "_law_cell" sLcell ["_law_script", "_law_k"]) (T : Txt K w mg a) : Has P w K mg base 1 "_law_cell" ["_law_script", "_law_k"] (spLcell K) := by
  refine D.has (k := 0) scLcell (fun vs H Q E h => ?_) (fun f cdv A outer s H vs Q E hr h => ?_)
  · obtain ⟨s, ns, k, rfl, _⟩ := h
    rfl
  obtain ⟨s, ns, k, rfl, hs, q⟩ := h
  refine ⟨_, (pss_cons (ps_if (pt_cmpR op_lt (pv 1) (pe_callB call_len_seq rfl T.nlen (by decide +kernel) (pa_cons (pv 0) pa_nil)) (nomark _)) (pss_one (ps_ret (pe_ix ix_list (pv 0) (pv 1) (fun _ _ => rfl)))) pss_nil)
      (pss_one (ps_ret pe_int))), ?_⟩
  refine ⟨_, rfl, _, rfl, s, _, rfl, .inl hs, _, _, rfl, rfl, _, rfl, ?_⟩
  refine iteB (fun c => ?_) (fun c => ?_)
  · have hk : k < (ns.map V.int).length := by
      have := of_decide_eq_true c
      omega
    rw [List.length_map] at hk
    refine ⟨_, rfl, _, rfl, s, _, _, .int ns[k], rfl, rfl, hs, atI_nat ?_, q _ _ (Same.refl H)⟩
    rw [List.getElem?_map, List.getElem?_eq_getElem hk]
    rfl
  · exact q _ _ (Same.refl H)
theorem has_ldigits (D : DefAt K mg "_law_digits" sLdigits ["_law_script", "_law_first", "_law_last"]) (T : Txt K w mg a) (HLcell : Has P w K mg base 1 "_law_cell" ["_law_script", "_law_k"] (spLcell K)) :
    Has P w K mg base 2 "_law_digits" ["_law_script", "_law_first", "_law_last"] (spLdigits K) := by
  refine D.has (k := 1) scLdigits (fun vs H Q E h => ?_) (fun f cdv A outer s H vs Q E hr h => ?_)
  · obtain ⟨s, ns, rfl, _⟩ := h
    rfl
  obtain ⟨s, ns, rfl, hs, q⟩ := h
  refine ⟨_, (pss_cons (ps_set (i := 3) scLdigits.nd rfl (Or.inl rfl) (pe_lst pa_nil))
      (pss_cons (ps_for PassesOwn.never rfl (pi_range2 rfl T.nrange (pa_cons (pv 1) (pa_cons (pv 2) pa_nil))) (pg_name (i := 4) scLdigits.nd rfl (Or.inl rfl)) (pss_cons (ps_set (i := 5) scLdigits.nd rfl (Or.inl rfl) (pe_callH HLcell (hr.mono (by omega)) rfl (pa_cons (pv 0) (pa_cons (pv 4) pa_nil))))
      (pss_cons (ps_if (pt_cmpR op_lt (pv 5) pe_int (nomark _)) (pss_one (ps_set (i := 5) scLdigits.nd rfl (Or.inl rfl) (pe_op op_sub pe_int (pe_op op_mul pe_int (pv 5))))) pss_nil)
      (pss_one (ps_if (pt_cmpR op_ge (pv 5) pe_int (nomark _)) (pss_one (ps_for PassesOwn.never rfl (pi_range1 rfl T.nrange (pa_cons pe_int pa_nil)) (pg_name (i := 6) scLdigits.nd rfl (Or.inl rfl)) (pss_one (ps_if (pt_cmpR op_gt (pv 5) pe_int (nomark _)) (pss_cons (ps_expr (pe_bm PySem.F.plainAttrs_list PySem.F.slot_list_append PySem.F.type_list_append mt_append (pv 3) (pa_cons (pe_op op_mod (pe_callTy call_int1 rfl T.nint (by decide +kernel) (pa_cons (pv 5) pa_nil)) pe_int) pa_nil)))
      (pss_one (ps_set (i := 5) scLdigits.nd rfl (Or.inl rfl) (pe_op op_fdivN (pv 5) pe_int)))) pss_nil)))) (pss_cons (ps_set (i := 7) scLdigits.nd rfl (Or.inl rfl) (pe_op op_mod (pe_callTy call_int1 rfl T.nint (by decide +kernel) (pa_cons (pe_op op_add (pe_op op_add (pe_op op_mul (pv 5) pe_int) (pe_op op_mul (pv 4) pe_int)) pe_int) pa_nil)) pe_int))
      (pss_one (ps_for PassesOwn.never rfl (pi_range1 rfl T.nrange (pa_cons pe_int pa_nil)) (pg_name (i := 6) scLdigits.nd rfl (Or.inl rfl)) (pss_cons (ps_set (i := 7) scLdigits.nd rfl (Or.inl rfl) (pe_op op_mod (pe_callTy call_int1 rfl T.nint (by decide +kernel) (pa_cons (pe_op op_add (pe_op op_add (pe_op op_mul (pv 7) pe_int) (pe_op op_mul pe_int (pv 6))) pe_int) pa_nil)) pe_int))
      (pss_one (ps_expr (pe_bm PySem.F.plainAttrs_list PySem.F.slot_list_append PySem.F.type_list_append mt_append (pv 3) (pa_cons (pe_op op_mod (pe_callTy call_int1 rfl T.nint (by decide +kernel) (pa_cons (pe_op op_fdivN (pv 7) pe_int) pa_nil)) pe_int) pa_nil)))))))))))))
      (pss_one (ps_ret (pv 3))))), ?_⟩
  refine ⟨Nat.zero_le _, fun l hl => ?_⟩
  generalize hPv : (fun (i : Nat) (σ : L2.St) (H' : Hp) => ∃ (v4 v5 v6 v7 : Option V) (ds : List Int), σ = [some (.ref s), some (.int 0), some (.int 63), some (.ref l), v4, v5, v6, v7] ∧ Made H H' l (ds.map V.int) ∧ ds.length ≤ 60 * i) = Pv
  refine ⟨_, rfl, _, rfl, 0, 63, rfl, by decide, for_range (lo := 0) (n := 63) Pv ?_ ?_ ?_⟩
  · subst hPv
    exact ⟨none, none, none, none, [], rfl, Made.mk0 (Same.refl H) hl, Nat.le_refl _⟩
  · intro i σ H1 hi hp
    rw [← hPv] at hp
    obtain ⟨v4, v5, v6, v7, ds, rfl, m, hl1⟩ := hp
    rw [Int.zero_add]
    refine ⟨_, rfl, _, rfl, s, ns, i, rfl, m.same.seq hs, fun c0 H2 e2 => ?_⟩
    have m2 := m.go e2
    have fin : ∀ (ds' : List Int) (H3 : Hp) (v4 v5 v6 v7 : Option V), Made H H3 l (ds'.map V.int) → ds'.length ≤ 60 * (i + 1) → Pv (i + 1) [some (.ref s), some (.int 0), some (.int 63), some (.ref l), v4, v5, v6, v7] H3 := fun ds' H3 v4 v5 v6 v7 m3 h3 => by
      rw [← hPv]
      exact ⟨v4, v5, v6, v7, ds', rfl, m3, h3⟩
    have push1 : ∀ {ds' : List Int} {H3 : Hp} (x : Int), Made H H3 l (ds'.map V.int) → Made H (upd H3 l (.lst (ds'.map V.int ++ [.int x]))) l ((ds' ++ [x]).map V.int) := fun {ds' H3} x m3 => by
      rw [List.map_append]
      exact m3.app _
    have neg : ∀ (G : L2.St → Hp → Prop) (D : Ends), (∀ c : Int, G [some (.ref s), some (.int 0), some (.int 63), some (.ref l), some (.int (i : Int)), some (.int c), v6, v7] H2) →
        (tIfS (tTest (tOp (rI0 fun i j => V.bl (decide (i < j))) (tVar 5) (tC (V.int 0)))) (tAsg (tOp (rI0 fun i j => V.int (i - j)) (tC (V.int 1)) (tOp (rI CMul fun i j => V.int (i * j)) (tC (V.int 2)) (tVar 5))) (gName 5)) tNext) { D with nx := G }
          [some (.ref s), some (.int 0), some (.int 63), some (.ref l), some (.int (i : Int)), some (.int c0), v6, v7] H2 := fun G D hG => by
      refine ⟨_, rfl, _, _, rfl, rfl, _, rfl, ?_⟩
      refine iteB (fun _ => ?_) (fun _ => hG _)
      exact ⟨_, rfl, _, _, rfl, rfl, .inl ⟨by decide, by decide⟩, _, _, rfl, rfl, hG _⟩
    refine neg _ ⟨_, _, _, _⟩ fun c => ?_
    clear neg
    refine ⟨_, rfl, _, _, rfl, rfl, _, rfl, ?_⟩
    refine iteB (fun _ => ?_) (fun _ => ?_)
    · refine ⟨60, rfl, by decide, by decide, for_range (lo := 0) (n := 60) (fun j σ H' => ∃ (c : Int) (v6 v7 : Option V) (ds' : List Int), σ = [some (.ref s), some (.int 0), some (.int 63), some (.ref l), some (.int (i : Int)), some (.int c), v6, v7] ∧ Made H H' l (ds'.map V.int) ∧ ds'.length ≤ 60 * i + j) ?_ ?_ ?_⟩
      · exact ⟨c, v6, v7, ds, rfl, m2, hl1⟩
      · rintro j σ H3 hj ⟨c, v6, v7, ds', rfl, m3, h3⟩
        refine ⟨_, rfl, _, _, rfl, rfl, _, rfl, ?_⟩
        refine iteB (fun _ => ?_) (fun _ => ⟨c, _, v7, ds', rfl, m3, by omega⟩)
        refine ⟨_, rfl, .inl ⟨rfl, _, SqL.of m3.at_⟩, _, rfl, .inl ⟨_, rfl, _, _, rfl, rfl, (by show (0:Int) < _; decide), l, _, _, rfl, rfl, m3.at_, line_lt (by rw [List.length_map]; omega), ?_⟩⟩
        refine ⟨_, rfl, _, _, rfl, rfl, ⟨by decide, by decide⟩, ?_⟩
        exact ⟨_, _, v7, _, rfl, push1 _ m3, by rw [List.length_append, List.length_singleton]; omega⟩
      · rintro σ H3 ⟨c, v6, v7, ds', rfl, m3, h3⟩
        exact fin ds' H3 _ _ _ _ m3 (by omega)
    · refine ⟨_, rfl, _, _, rfl, rfl, .inr ⟨by decide, by decide⟩, _, rfl, _, _, rfl, rfl, .inr ⟨by decide, by decide⟩, _, _, rfl, rfl, _, _, rfl, rfl, .inl ⟨_, rfl, _, _, rfl, rfl, (by show (0:Int) < _; decide), ?_⟩⟩
      refine ⟨12, rfl, by decide, by decide, for_range (lo := 0) (n := 12) (fun j σ H' => ∃ (c d : Int) (v6 : Option V) (ds' : List Int), σ = [some (.ref s), some (.int 0), some (.int 63), some (.ref l), some (.int (i : Int)), some (.int c), v6, some (.int d)] ∧ Made H H' l (ds'.map V.int) ∧ ds'.length ≤ 60 * i + j) ?_ ?_ ?_⟩
      · exact ⟨c, _, v6, ds, rfl, m2, hl1⟩
      · rintro j σ H3 hj ⟨c, d, v6, ds', rfl, m3, h3⟩
        refine ⟨_, rfl, _, _, rfl, rfl, .inr ⟨by decide, by decide⟩, _, rfl, _, _, rfl, rfl, .inl ⟨by decide, by decide⟩, _, _, rfl, rfl, _, _, rfl, rfl, .inl ⟨_, rfl, _, _, rfl, rfl, (by show (0:Int) < _; decide), ?_⟩⟩
        refine ⟨_, rfl, .inl ⟨rfl, _, SqL.of m3.at_⟩, _, rfl, _, _, rfl, rfl, ⟨by decide, by decide⟩, .inl ⟨_, rfl, _, _, rfl, rfl, (by show (0:Int) < _; decide), l, _, _, rfl, rfl, m3.at_, line_lt (by rw [List.length_map]; omega), ?_⟩⟩
        exact ⟨c, _, _, _, rfl, push1 _ m3, by rw [List.length_append, List.length_singleton]; omega⟩
      · rintro σ H3 ⟨c, d, v6, ds', rfl, m3, h3⟩
        exact fin ds' H3 _ _ _ _ m3 (by omega)
  · intro σ H1 hp
    rw [← hPv] at hp
    obtain ⟨v4, v5, v6, v7, ds, rfl, m, hl1⟩ := hp
    exact ⟨_, rfl, q l ds _ m⟩
theorem has_ldraw (D : DefAt K mg "_law_draw" sLdraw ["_law_box", "_law_many"]) (T : Txt K w mg a) : Has P w K mg base 1 "_law_draw" ["_law_box", "_law_many"] (spLdraw K) := by
  refine D.has (k := 0) scLdraw (fun vs H Q E h => ?_) (fun f cdv A outer s H vs Q E hr h => ?_)
  · obtain ⟨b, dg, m, rfl, _⟩ := h
    rfl
  obtain ⟨b, dg, m, rfl, hm, hb, q⟩ := h
  obtain ⟨ds, i, h1, h2, h3⟩ := hb.ex
  refine ⟨_, (pss_cons (ps_set (i := 2) scLdraw.nd rfl (Or.inl rfl) (pe_ix ix_list (pv 0) pe_int (fun _ _ => rfl)))
      (pss_cons (ps_asg (pe_op op_add (pv 2) pe_int) (pg_sub (pv 0) pe_int set_list))
      (pss_cons (ps_if (pt_cmpR op_lt (pv 2) (pe_callB call_len_seq rfl T.nlen (by decide +kernel) (pa_cons (pe_ix ix_list (pv 0) pe_int (fun _ _ => rfl)) pa_nil)) (nomark _)) (pss_one (ps_ret (pe_op op_mod (pe_callTy call_int1 rfl T.nint (by decide +kernel) (pa_cons (pe_ix ix_list (pe_ix ix_list (pv 0) pe_int (fun _ _ => rfl)) (pv 2) (fun _ _ => rfl)) pa_nil)) (pv 1)))) pss_nil)
      (pss_one (ps_ret (pe_op op_mod (pe_callTy call_int1 rfl T.nint (by decide +kernel) (pa_cons (pe_op op_add (pe_op op_mul (pv 2) pe_int) pe_int) pa_nil)) (pv 1))))))), ?_⟩
  refine ⟨_, rfl, b, _, _, _, rfl, rfl, SqL.of h1, at1, ?_⟩
  refine ⟨_, rfl, _, _, rfl, rfl, _, rfl, b, _, 1, 1, rfl, rfl, h1, rfl, ?_⟩
  have b1 := But.set (H := H) b (.lst [.ref dg, .int ((i : Int) + 1)])
  have a1 : upd H b (.lst [.ref dg, .int ((i : Int) + 1)]) b = some (.lst [.ref dg, .int ((i : Int) + 1)]) := upd_same
  have h4 := b1 _ _ h2 h3
  have bx : Box (upd H b (.lst [.ref dg, .int ((i : Int) + 1)])) b dg := ⟨ds, i + 1, a1, h4, h3⟩
  have fin : ∀ z : Int, Q (.int (z % m)) (upd H b (.lst [.ref dg, .int ((i : Int) + 1)])) := fun z => by
    have e1 := Int.emod_nonneg z (show m ≠ 0 by omega)
    have e2 := Int.emod_lt_of_pos z hm
    have e3 : z % m = ((z % m).toNat : Int) := (Int.toNat_of_nonneg e1).symm
    rw [e3]
    exact q _ _ (by omega) b1 bx
  refine ⟨_, rfl, _, rfl, b, _, _, _, rfl, rfl, SqL.of a1, at0, dg, _, rfl, .inl (SqL.of h4), _, _, rfl, rfl, _, rfl, ?_⟩
  refine iteB (fun c => ?_) (fun c => ?_)
  · have hk : i < (ds.map V.int).length := by
      have := of_decide_eq_true c
      omega
    rw [List.length_map] at hk
    refine ⟨_, rfl, b, _, _, _, rfl, rfl, SqL.of a1, at0, _, rfl, dg, _, _, .int ds[i], rfl, rfl, SqL.of h4, atI_nat ?_, .inl ⟨_, rfl, _, rfl, _, _, rfl, rfl, hm, fin _⟩⟩
    rw [List.getElem?_map, List.getElem?_eq_getElem hk]
    rfl
  · exact ⟨_, rfl, _, _, rfl, rfl, .inr ⟨by decide, by decide⟩, _, _, rfl, rfl, .inl ⟨_, rfl, _, rfl, _, _, rfl, rfl, hm, fin _⟩⟩
theorem has_lname (D : DefAt K mg "_law_name" sLname ["_law_box"]) (T : Txt K w mg a) (HLdraw : Has P w K mg base 1 "_law_draw" ["_law_box", "_law_many"] (spLdraw K)) : Has P w K mg base 2 "_law_name" ["_law_box"] (spLname K) := by
  refine D.has (k := 1) scLname (fun vs H Q E h => ?_) (fun f cdv A outer s H vs Q E hr h => ?_)
  · obtain ⟨b, dg, rfl, _⟩ := h
    rfl
  obtain ⟨b, dg, rfl, hb, q⟩ := h
  refine ⟨_, (pss_one (ps_ret (pe_ix ix_list (pe_lst (pa_cons pe_str (pa_cons pe_str (pa_cons pe_str (pa_cons pe_str (pa_cons pe_str (pa_cons pe_str (pa_cons pe_str (pa_cons pe_str pa_nil))))))))) (pe_callH HLdraw (hr.mono (by omega)) rfl (pa_cons (pv 0) (pa_cons pe_int pa_nil))) (fun _ _ => rfl)))), ?_⟩
  refine ⟨big_of (by decide), fun l hl => ⟨_, rfl, b, dg, 8, rfl, by decide, hb.same (same_new _ hl), fun d H2 hd b2 bx => ?_⟩⟩
  obtain ⟨y, hy, e⟩ := at_list (l := NMS) (i := d) (show d < 8 by omega)
  have nl : l ≠ b := fun z => by
    exact (hb.ne hl).1 z.symm
  exact ⟨l, _, d, _, rfl, rfl, SqL.of (b2 _ _ upd_same nl), e, q y H2 hy ((But.of_same (same_new _ hl)).trans b2) bx⟩
theorem has_ltext (D : DefAt K mg "_law_text" sLtext ["_law_box", "_law_most"]) (T : Txt K w mg a) (HLdraw : Has P w K mg base 1 "_law_draw" ["_law_box", "_law_many"] (spLdraw K)) (HLname : Has P w K mg base 2 "_law_name" ["_law_box"] (spLname K)) :
    Has P w K mg base 3 "_law_text" ["_law_box", "_law_most"] (spLtext K) := by
  refine D.has (k := 2) scLtext (fun vs H Q E h => ?_) (fun f cdv A outer s H vs Q E hr h => ?_)
  · obtain ⟨b, dg, rfl, _⟩ := h
    rfl
  obtain ⟨b, dg, rfl, hb, q⟩ := h
  refine ⟨_, (pss_cons (ps_set (i := 2) scLtext.nd rfl (Or.inl rfl) pe_str)
      (pss_cons (ps_for PassesOwn.never rfl (pi_range1 rfl T.nrange (pa_cons (pe_callH HLdraw (hr.mono (by omega)) rfl (pa_cons (pv 0) (pa_cons (pe_op op_add (pv 1) pe_int) pa_nil))) pa_nil)) (pg_name (i := 3) scLtext.nd rfl (Or.inl rfl)) (pss_cons (ps_set (i := 4) scLtext.nd rfl (Or.inl rfl) (pe_callH HLname (hr.mono (by omega)) rfl (pa_cons (pv 0) pa_nil)))
      (pss_cons (ps_set (i := 5) scLtext.nd rfl (Or.inl rfl) (pe_callH HLdraw (hr.mono (by omega)) rfl (pa_cons (pv 0) (pa_cons pe_int pa_nil))))
      (pss_one (ps_set (i := 2) scLtext.nd rfl (Or.inl rfl) (pe_op op_add_str (pv 2) (pe_ix ix_list (pe_lst (pa_cons (pe_op op_add_str (pe_op op_add_str pe_str (pv 4)) pe_str) (pa_cons (pe_op op_add_str (pe_op op_add_str pe_str (pv 4)) pe_str) (pa_cons (pe_op op_add_str (pe_op op_add_str pe_str (pv 4)) pe_str) (pa_cons (pe_op op_add_str (pe_op op_add_str pe_str (pv 4)) pe_str) (pa_cons (pe_op op_add_str (pe_op op_add_str pe_str (pv 4)) pe_str) (pa_cons (pe_op op_add_str (pe_op op_add_str pe_str (pv 4)) pe_str) (pa_cons pe_str (pa_cons (pv 4) (pa_cons pe_str (pa_cons pe_str (pa_cons pe_str (pa_cons pe_str pa_nil))))))))))))) (pv 5) (fun _ _ => rfl))))))))
      (pss_one (ps_ret (pe_slice sl_str (pv 2) po_none (po_some pe_int)))))), ?_⟩
  refine ⟨_, rfl, _, rfl, _, _, rfl, rfl, b, dg, 6, rfl, by decide, hb, fun n H1 hn b1 bx1 => ⟨(n : Int), rfl, by omega, by omega, ?_⟩⟩
  rw [Int.toNat_natCast]
  refine for_range (lo := 0) (n := n) (fun i σ H' => ∃ (x : Str) (v3 v4 v5 : Option V), σ = [some (.ref b), some (.int 5), some (.str x), v3, v4, v5] ∧ Good (i * 9) x ∧ But b H H' ∧ Box H' b dg) ?_ ?_ ?_
  · exact ⟨_, _, _, _, rfl, ⟨Nat.zero_le _, fun c hc => (by cases hc)⟩, b1, bx1⟩
  · rintro i σ H2 hi ⟨x, v3, v4, v5, rfl, hx, b2, bx2⟩
    refine ⟨_, rfl, b, dg, rfl, bx2, fun nm H3 hnm b3 bx3 => ⟨_, rfl, b, dg, 12, rfl, by decide, bx3, fun d H4 hd b4 bx4 => ?_⟩⟩
    have gn := nms_good hnm
    have bb := (b2.trans b3).trans b4
    have hxl := hx.1
    have hnl := gn.1
    have l1 : ("<" : Str).length ≤ 2 := by decide +kernel
    have l2 : (">" : Str).length ≤ 2 := by decide +kernel
    have l3 : ("<@" : Str).length ≤ 2 := by decide +kernel
    have l4 : ("[" : Str).length ≤ 2 := by decide +kernel
    have l5 : ("]" : Str).length ≤ 2 := by decide +kernel
    have ok1 : ∀ u : Str, u.length ≤ 2 → u.length + nm.length ≤ sizeLine := fun u hu => big_of (by omega)
    have ok2 : ∀ u v : Str, u.length ≤ 2 → v.length ≤ 2 → (u ++ nm).length + v.length ≤ sizeLine := fun u v hu hv => big_of (by rw [len_append]; omega)
    refine ⟨_, rfl, _, rfl, _, _, rfl, rfl, ok1 _ l1, _, _, rfl, rfl, ok2 _ _ l1 l2, _, rfl, _, _, rfl, rfl, ok1 _ l1, _, _, rfl, rfl, ok2 _ _ l1 l2, _, rfl, _, _, rfl, rfl, ok1 _ l3, _, _, rfl, rfl, ok2 _ _ l3 l2, _, rfl, _, _, rfl, rfl, ok1 _ l3, _, _, rfl, rfl, ok2 _ _ l3 l2, _, rfl, _, _, rfl, rfl, ok1 _ l4, _, _, rfl, rfl, ok2 _ _ l4 l5, _, rfl, _, _, rfl, rfl, ok1 _ l4, _, _, rfl, rfl, ok2 _ _ l4 l5, _, rfl, big_of (by show 12 ≤ 10000000; decide), fun l hl => ?_⟩
    obtain ⟨y, hy, e⟩ := at_list (l := pcs nm) (i := d) (show d < 12 by omega)
    have gy := pcs_good gn y hy
    have gyl := gy.1
    refine ⟨_, rfl, l, _, d, _, rfl, rfl, SqL.of upd_same, e, _, _, rfl, rfl, big_of (by omega), ?_⟩
    have el := same_new (.lst ((pcs nm).map V.str)) hl
    exact ⟨x ++ y, _, _, _, rfl, by rw [Nat.succ_mul]; exact hx.append gy, bb.trans (But.of_same el), bx4.same el⟩
  · rintro σ H2 ⟨x, v3, v4, v5, rfl, hx, b2, bx2⟩
    have g45 : Good 60 x := hx.mono (by omega)
    refine ⟨_, rfl, 60, rfl, x, rfl, big_of (by have := g45.1; omega), ?_⟩
    rw [show cutS x none (some 60) = sub x 0 60 from cut_to x 60]
    exact q _ H2 (good_sub g45 0 60) b2 bx2
theorem has_lsources (D : DefAt K mg "_law_sources" sLsources ["_law_box", "_law_most"]) (T : Txt K w mg a) (HLdraw : Has P w K mg base 1 "_law_draw" ["_law_box", "_law_many"] (spLdraw K)) (HLname : Has P w K mg base 2 "_law_name" ["_law_box"] (spLname K))
    (HLtext : Has P w K mg base 3 "_law_text" ["_law_box", "_law_most"] (spLtext K)) : Has P w K mg base 4 "_law_sources" ["_law_box", "_law_most"] (spLsources K) := by
  refine D.has (k := 3) scLsources (fun vs H Q E h => ?_) (fun f cdv A outer s H vs Q E hr h => ?_)
  · obtain ⟨b, dg, rfl, _⟩ := h
    rfl
  obtain ⟨b, dg, rfl, hb, q⟩ := h
  refine ⟨_, (pss_cons (ps_set (i := 2) scLsources.nd rfl (Or.inl rfl) pe_dnewK)
      (pss_cons (ps_for PassesOwn.never rfl (pi_range1 rfl T.nrange (pa_cons (pe_callH HLdraw (hr.mono (by omega)) rfl (pa_cons (pv 0) (pa_cons (pe_op op_add (pv 1) pe_int) pa_nil))) pa_nil)) (pg_name (i := 3) scLsources.nd rfl (Or.inl rfl)) (pss_cons (ps_set (i := 4) scLsources.nd rfl (Or.inl rfl) (pe_callH HLname (hr.mono (by omega)) rfl (pa_cons (pv 0) pa_nil)))
      (pss_cons (ps_dput (hu_of hr) (pv 2) (pv 4) (pe_callH HLtext (hr.mono (by omega)) rfl (pa_cons (pv 0) (pa_cons pe_int pa_nil))) rfl)
      (pss_one (ps_if (pt_cmpR op_eq (pe_callH HLdraw (hr.mono (by omega)) rfl (pa_cons (pv 0) (pa_cons pe_int pa_nil))) pe_int (nomark _)) (pss_one (ps_dput (hu_of hr) (pv 2) (pv 4) (pe_callH HLname (hr.mono (by omega)) rfl (pa_cons (pv 0) pa_nil)) rfl)) pss_nil)))))
      (pss_one (ps_ret (pv 2))))), ?_⟩
  intro ds hds
  have nb : ds ≠ b := (hb.ne hds).1.symm
  refine ⟨_, rfl, _, rfl, _, _, rfl, rfl, b, dg, 11, rfl, by decide, hb.same (same_new _ hds), fun n H1 hn b1 bx1 => ⟨(n : Int), rfl, by omega, by omega, ?_⟩⟩
  rw [Int.toNat_natCast]
  refine for_range (lo := 0) (n := n) (fun i σ H' => ∃ (src : Src) (v3 v4 : Option V), σ = [some (.ref b), some (.int 10), some (.ref ds), v3, v4] ∧ SrcL src ∧ Box H' b dg ∧ H' ds = some (.dK (srcK src))) ?_ ?_ ?_
  · exact ⟨[], _, _, rfl, SrcL.nil, bx1, b1 _ _ upd_same nb⟩
  · rintro i σ H2 hi ⟨src, v3, v4, rfl, hs, bx2, d2⟩
    refine ⟨_, rfl, b, dg, rfl, bx2, fun nm H3 hnm b3 bx3 => ?_⟩
    have d3 := b3 _ _ d2 nb
    refine ⟨_, rfl, b, dg, rfl, bx3, fun z H4 hz b4 bx4 => ?_⟩
    have d4 := b4 _ _ d3 nb
    have put : ∀ {src : Src} {H : Hp} {z : Str}, SrcL src → Box H b dg → H ds = some (.dK (srcK src)) → Good 60 z → ∃ src' H', DPut H ds (.str nm) (.str z) H' ∧ SrcL src' ∧ Box H' b dg ∧ H' ds = some (.dK (srcK src')) := fun {src H z} hs bx hd hz => by
      obtain ⟨src', e, hs'⟩ := hs.put hnm hz
      have hl := hs.len
      refine ⟨src', upd H ds (.dK (srcK src')), ?_, hs', bx.dict hd (But.set _ _), upd_same⟩
      rw [← e]
      exact DPut.k (k := Sum.inr nm) hd (by rw [srcK_len]; exact big_lt (by omega))
    obtain ⟨src5, H5, p5, s5, bx5, d5⟩ := put hs bx4 d4 hz
    refine ⟨_, rfl, _, rfl, ds, H5, rfl, p5, ?_⟩
    refine ⟨_, rfl, b, dg, 4, rfl, by decide, bx5, fun k H6 _ b6 bx6 => ?_⟩
    have d6 := b6 _ _ d5 nb
    refine ⟨rfl, _, rfl, ?_⟩
    refine iteB (fun _ => ?_) (fun _ => ⟨src5, _, _, rfl, s5, bx6, d6⟩)
    refine ⟨_, rfl, b, dg, rfl, bx6, fun z7 H7 hz7 b7 bx7 => ?_⟩
    have d7 := b7 _ _ d6 nb
    obtain ⟨src8, H8, p8, s8, bx8, d8⟩ := put s5 bx7 d7 ((nms_good hz7).mono (by decide))
    exact ⟨_, rfl, _, rfl, ds, H8, rfl, p8, src8, _, _, rfl, s8, bx8, d8⟩
  · rintro σ H2 ⟨src, v3, v4, rfl, hs, bx2, d2⟩
    exact ⟨_, rfl, q ds src H2 hs bx2 d2⟩
theorem inV_str {x : Str} : ∀ {ps : List Str}, inV (.str x) (ps.map V.str) = decide (x ∈ ps)
  | [] => rfl
  | y :: r => by
    have ih := inV_str (x := x) (ps := r)
    show (eqV (.str y) (.str x) || inV (.str x) (r.map V.str)) = _
    rw [ih]
    show ((y == x) || decide (x ∈ r)) = _
    by_cases e : y = x
    · subst e
      simp
    · have e' : ¬ x = y := fun q => e q.symm
      simp [e, e']
theorem flat_str : ∀ ps : List Str, (ps.map V.str).all flatV = true
  | [] => rfl
  | _ :: r => flat_str r
theorem has_lpages (D : DefAt K mg "_law_pages" sLpages ["_law_box"]) (T : Txt K w mg a) (HLdraw : Has P w K mg base 1 "_law_draw" ["_law_box", "_law_many"] (spLdraw K)) (HLname : Has P w K mg base 2 "_law_name" ["_law_box"] (spLname K)) :
    Has P w K mg base 3 "_law_pages" ["_law_box"] (spLpages K) := by
  refine D.has (k := 2) scLpages (fun vs H Q E h => ?_) (fun f cdv A outer s H vs Q E hr h => ?_)
  · obtain ⟨b, dg, rfl, _⟩ := h
    rfl
  obtain ⟨b, dg, rfl, hb, q⟩ := h
  refine ⟨_, (pss_cons (ps_set (i := 1) scLpages.nd rfl (Or.inl rfl) (pe_lst pa_nil))
      (pss_cons (ps_for PassesOwn.never rfl (pi_range1 rfl T.nrange (pa_cons (pe_callH HLdraw (hr.mono (by omega)) rfl (pa_cons (pv 0) (pa_cons pe_int pa_nil))) pa_nil)) (pg_name (i := 2) scLpages.nd rfl (Or.inl rfl)) (pss_cons (ps_set (i := 3) scLpages.nd rfl (Or.inl rfl) (pe_callH HLname (hr.mono (by omega)) rfl (pa_cons (pv 0) pa_nil)))
      (pss_one (ps_if (pt_cmpR op_notIn_seq (pv 3) (pv 1) rfl) (pss_one (ps_expr (pe_bm PySem.F.plainAttrs_list PySem.F.slot_list_append PySem.F.type_list_append mt_append (pv 1) (pa_cons (pv 3) pa_nil)))) pss_nil))))
      (pss_one (ps_ret (pe_callTy call_tuple_of rfl T.ntuple (by decide +kernel) (pa_cons (pv 1) pa_nil)))))), ?_⟩
  refine ⟨Nat.zero_le _, fun l hl => ?_⟩
  have nb : l ≠ b := (hb.ne hl).1.symm
  refine ⟨_, rfl, b, dg, 7, rfl, by decide, hb.same (same_new _ hl), fun n H1 hn b1 bx1 => ⟨(n : Int), rfl, by omega, by omega, ?_⟩⟩
  rw [Int.toNat_natCast]
  refine for_range (lo := 0) (n := n) (fun i σ H' => ∃ (ps : List Str) (v2 v3 : Option V), σ = [some (.ref b), some (.ref l), v2, v3] ∧ ps.Nodup ∧ (∀ x ∈ ps, x ∈ NMS) ∧ But b H H' ∧ Box H' b dg ∧ H' l = some (.lst (ps.map V.str)) ∧ ps.length ≤ i) ?_ ?_ ?_
  · exact ⟨[], _, _, rfl, List.nodup_nil, fun x h => (by cases h), (But.of_same (same_new _ hl)).trans b1, bx1, b1 _ _ upd_same nb, Nat.le_refl _⟩
  · rintro i σ H2 hi ⟨ps, v2, v3, rfl, nd, sub, b2, bx2, l2, hlen⟩
    refine ⟨_, rfl, b, dg, rfl, bx2, fun nm H3 hnm b3 bx3 => ?_⟩
    have l3 := b3 _ _ l2 nb
    refine ⟨_, rfl, _, rfl, l, _, rfl, .inl (SqL.of l3), rfl, flat_str ps, ?_⟩
    rw [inV_str]
    refine ⟨_, rfl, ?_⟩
    refine iteB (fun c => ?_) (fun c => ⟨ps, _, _, rfl, nd, sub, b2.trans b3, bx3, l3, Nat.le_succ_of_le hlen⟩)
    have hmem : nm ∉ ps := fun h => by
      rw [decide_eq_true h] at c
      cases c
    refine ⟨_, rfl, .inl ⟨rfl, _, SqL.of l3⟩, _, rfl, l, _, _, rfl, rfl, l3, big_lt (by rw [List.length_map]; omega), ?_⟩
    have nd' := (hb.ne hl).2
    refine ⟨ps ++ [nm], _, _, rfl, nd_snoc nd hmem, fun x hx => ?_, but_new (b2.trans b3) hl _, ?_, by rw [upd_same, List.map_append]; rfl, by rw [List.length_append]; exact Nat.succ_le_succ hlen⟩
    · rcases List.mem_append.mp hx with h | h
      · exact sub x h
      · rw [List.mem_singleton.mp h]
        exact hnm
    · exact bx3.but (But.set _ _) nb.symm nd'
  · rintro σ H2 ⟨ps, v2, v3, rfl, nd, sub, b2, bx2, l2, hlen⟩
    refine ⟨_, rfl, l, _, rfl, .inl ⟨SqL.of l2, fun p hp => ?_⟩⟩
    have e := same_new (.tup (ps.map V.str)) hp
    exact q p ps _ nd sub (b2.trans (But.of_same e)) (bx2.same e) (SqT.of upd_same)
theorem mul_ok1 : ∀ d : Nat, d < 21 → MulOk "x" ((40 + d : Nat) : Int) := by
  unfold MulOk
  decide +kernel
theorem mul_ok2 : ∀ d : Nat, d < 3 → MulOk "<e>" ((3 + d : Nat) : Int) := by
  unfold MulOk
  decide +kernel
theorem has_llong (D : DefAt K mg "_law_long" sLlong ["_law_box", "_law_sources_here"]) (T : Txt K w mg a) (HLdraw : Has P w K mg base 1 "_law_draw" ["_law_box", "_law_many"] (spLdraw K)) :
    Has P w K mg base 2 "_law_long" ["_law_box", "_law_sources_here"] (spLlong K) := by
  refine D.has (k := 1) scLlong (fun vs H Q E h => ?_) (fun f cdv A outer s H vs Q E hr h => ?_)
  · obtain ⟨b, dg, ds, src, rfl, _⟩ := h
    rfl
  obtain ⟨b, dg, ds, src, rfl, hb, hs, hd, q⟩ := h
  have nb : ds ≠ b := fun z => by
    obtain ⟨_, _, h1, _⟩ := hb.ex
    rw [← z, hd] at h1
    cases h1
  have put : ∀ {src : Src} {H : Hp} {n z : Str}, n ∈ NMS → SrcL src → Box H b dg → H ds = some (.dK (srcK src)) → Good 60 z → ∃ src' H', DPut H ds (.str n) (.str z) H' ∧ SrcL src' ∧ Box H' b dg ∧ H' ds = some (.dK (srcK src')) := fun {src H n z} hnm hs bx hd hz => by
    obtain ⟨src', e, hs'⟩ := hs.put hnm hz
    have hl := hs.len
    refine ⟨src', upd H ds (.dK (srcK src')), ?_, hs', bx.dict hd (But.set _ _), upd_same⟩
    rw [← e]
    exact DPut.k (k := Sum.inr n) hd (by rw [srcK_len]; exact big_lt (by omega))
  have g1 : ∀ d, d < 21 → goodB 60 (Txt.mul "x" ((40 + d : Nat) : Int)) = true := by decide +kernel
  have g2 : ∀ d, d < 3 → goodB 50 (Txt.mul "<e>" ((3 + d : Nat) : Int)) = true := by decide +kernel
  have g3 : ∀ x ∈ (["<d>", "<d><@d>", "<e><d>"] : List Str), goodB 60 x = true := by decide +kernel
  refine ⟨_, (pss_cons (ps_dput (hu_of hr) (pv 1) pe_str (pe_op op_mulS pe_str (pe_op op_add pe_int (pe_callH HLdraw (hr.mono (by omega)) rfl (pa_cons (pv 0) (pa_cons pe_int pa_nil))))) rfl)
      (pss_cons (ps_dput (hu_of hr) (pv 1) pe_str (pe_op op_add_str (pe_op op_mulS pe_str (pe_op op_add pe_int (pe_callH HLdraw (hr.mono (by omega)) rfl (pa_cons (pv 0) (pa_cons pe_int pa_nil))))) pe_str) rfl)
      (pss_one (ps_dput (hu_of hr) (pv 1) pe_str (pe_ix ix_list (pe_lst (pa_cons pe_str (pa_cons pe_str (pa_cons pe_str pa_nil)))) (pe_callH HLdraw (hr.mono (by omega)) rfl (pa_cons (pv 0) (pa_cons pe_int pa_nil))) (fun _ _ => rfl)) rfl)))), ?_⟩
  refine ⟨_, rfl, b, dg, 21, rfl, by decide, hb, fun d1 H1 hd1 b1 bx1 => ⟨_, _, rfl, rfl, "x", _, rfl, rfl, mul_ok1 d1 (by omega), ?_⟩⟩
  obtain ⟨src2, H2, p2, s2, bx2, d2⟩ := put (n := "e") (by decide +kernel) hs bx1 (b1 _ _ hd nb) (good_of (g1 d1 (by omega)))
  refine ⟨_, rfl, ds, H2, rfl, p2, ?_⟩
  refine ⟨_, rfl, b, dg, 3, rfl, by decide, bx2, fun d3 H3 hd3 b3 bx3 => ⟨_, _, rfl, rfl, "<e>", _, rfl, rfl, mul_ok2 d3 (by omega), ?_⟩⟩
  have gg := good_of (g2 d3 (by omega))
  have ga : Good 3 ("[a]" : Str) := good_of (by decide +kernel)
  refine ⟨_, _, rfl, rfl, big_of (Nat.le_trans (Nat.add_le_add gg.1 ga.1) (by decide)), ?_⟩
  obtain ⟨src4, H4, p4, s4, bx4, d4⟩ := put (n := "d") (by decide +kernel) s2 bx3 (b3 _ _ d2 nb) ((gg.append ga).mono (by decide))
  refine ⟨_, rfl, ds, H4, rfl, p4, ?_⟩
  refine ⟨big_of (by decide), fun l hl => ?_⟩
  have el := same_new (.lst ((["<d>", "<d><@d>", "<e><d>"] : List Str).map V.str)) hl
  refine ⟨_, rfl, b, dg, 3, rfl, by decide, bx4.same el, fun d5 H5 hd5 b5 bx5 => ?_⟩
  obtain ⟨y, hy, e⟩ := at_list (l := ["<d>", "<d><@d>", "<e><d>"]) (i := d5) (show d5 < 3 by omega)
  refine ⟨l, _, d5, _, rfl, rfl, SqL.of (b5 _ _ upd_same (bx4.ne hl).1.symm), e, ?_⟩
  obtain ⟨src6, H6, p6, s6, bx6, d6⟩ := put (n := "c") (by decide +kernel) s4 bx5 (b5 _ _ (el _ _ d4) nb) (good_of (g3 y hy))
  exact ⟨_, rfl, ds, H6, rfl, p6, q src6 H6 s6 bx6 d6⟩
end
end Pg


set_option Elab.async false
set_option linter.all false
set_option maxRecDepth 100000
set_option maxHeartbeats 4000000
/-! the law's side: brackets, split -/
namespace Pg
open PySem PySem.Spec PyProof.Rows L2

def SegRetL (K : PySem.W.Frag) (H : Hp) : Option (Kd × Str × Nat) → VK → Prop
  | none, Q => RetV H .non Q
  | some (k, s, e), Q => ∀ p H', H p = .none → Same H H' → SqL K H' p [.str k.s, .str s, .int (e : Int)] → Q (.ref p) H'
def spLbracket (K : PySem.W.Frag) : Sp := fun vs H Q _ => ∃ (name z : Str) (i : Nat), vs = [.str name, .str z, .int (i : Int)] ∧ i < z.length ∧ z.length ≤ 1000 ∧ SegRetL K H (seg name z i) Q
def spLsplit (K : PySem.W.Frag) : Sp := fun vs H Q _ => ∃ name z : Str, vs = [.str name, .str z] ∧ Good 60 z ∧ RetL K H ((split name z).map Sg.d) Q
theorem sub_len (z : Str) (i j : Nat) : (sub z i j).length ≤ z.length := by
  rw [len_tl, len_tl, tl_sub, List.length_take, List.length_drop]
  omega
/-- is the sign behind an at sign -/
theorem at_sign {z : Str} {i : Nat} : decide (V.str (sub z (i + 1) (i + 2)) = V.str "@") = atAt z (i + 1) := by
  have e64 : ("@" : Str) = ch 64 := by decide +kernel
  unfold atAt
  refine decide_eq_decide.mpr ⟨fun h => ?_, fun h => ?_⟩
  · have h1 : sub z (i + 1) (i + 2) = ch 64 := by
      rw [← e64]
      injection h
    have h2 := congrArg tl h1
    rw [tl_sub, show i + 2 - (i + 1) = 1 by omega] at h2
    cases hd : (tl z)[i + 1]? with
    | none =>
      rw [List.drop_eq_nil_of_le (List.getElem?_eq_none_iff.mp hd)] at h2
      cases h2
    | some d =>
      obtain ⟨hl, hv⟩ := List.getElem?_eq_some_iff.mp hd
      rw [List.drop_eq_getElem_cons hl, hv] at h2
      injection h2 with h3 _
      rw [h3]
  · obtain ⟨hl, hv⟩ := List.getElem?_eq_some_iff.mp h
    rw [e64]
    refine congrArg V.str (ext_tl ?_)
    rw [tl_sub, show i + 2 - (i + 1) = 1 by omega, List.drop_eq_getElem_cons hl, hv]
    rfl
section
variable {P : Program} {w : World} {K : PySem.W.Frag} {mg : Str → Option Value} {base : Heap} {a : Adr}
theorem has_lisname (D : DefAt K mg "_law_is_name" sLisName ["_law_text_here"]) (T : Txt K w mg a) : Has P w K mg base 1 "_law_is_name" ["_law_text_here"] spIsName := by
  refine D.has (k := 0) scLisName (fun vs H Q E h => ?_) (fun f cdv A outer s H vs Q E hr h => ?_)
  · obtain ⟨x, rfl, _⟩ := h
    rfl
  obtain ⟨z, rfl, hz, q⟩ := h
  refine ⟨_, (pss_cons (ps_for PassesOwn.never rfl (pi_str (pv 0)) (pg_name (i := 1) scLisName.nd rfl (Or.inl rfl)) (pss_one (ps_if (pt_cmpR op_notIn_sign (pv 1) pe_str rfl) (pss_one (ps_ret pe_bl)) pss_nil)))
      (pss_one (ps_ret (pe_chain op_le op_le pe_int (pe_callB call_len_str rfl T.nlen (by decide +kernel) (pa_cons (pv 0) pa_nil)) pe_int)))), ?_⟩
  refine ⟨_, rfl, z, rfl, ?_⟩
  refine for_it walk_str (fun i σ H' => ∃ v1 : Option V, σ = [some (.str z), v1] ∧ H' = H ∧ ∀ c ∈ (tl z).take i, c ∈ tl LETT) ?_ (fun _ _ _ _ _ => trivial) ?_ ?_
  · exact ⟨none, rfl, rfl, fun c h => (by cases h)⟩
  · rintro i x σ H1 H2 hi ⟨v1, rfl, rfl, hc⟩ ⟨rfl, c, hc2, rfl⟩
    have hc' : (tl z)[i]? = some c := by rw [Array.getElem?_toList]; exact hc2
    refine ⟨_, rfl, c, LETT, rfl, rfl, _, rfl, ?_⟩
    refine iteB (fun b => ?_) (fun b => ?_)
    · refine q H2 (Same.refl _) |> (fun h => ?_)
      have e : isName z = false := by
        unfold isName
        rw [Bool.and_eq_false_iff]
        right
        rw [List.all_eq_false]
        refine ⟨c, List.mem_of_getElem? hc', ?_⟩
        intro hh
        have hh' : c ∈ LETT.cps.toList := of_decide_eq_true hh
        rw [decide_eq_true hh'] at b
        cases b
      rw [e] at h
      exact h
    · refine ⟨_, rfl, rfl, fun d hd => ?_⟩
      rw [take_snoc hc'] at hd
      rcases List.mem_append.mp hd with h | h
      · exact hc d h
      · rw [List.mem_singleton.mp h]
        cases hh : decide (c ∈ LETT.cps.toList) with
        | true => exact of_decide_eq_true hh
        | false =>
          rw [hh] at b
          cases b
  · rintro σ H1 ⟨v1, rfl, rfl, hc⟩
    have full : (tl z).take z.cps.size = tl z := List.take_of_length_le (by rw [Array.length_toList]; exact Nat.le_refl _)
    rw [full] at hc
    have e : (tl z).all (fun c => decide (c ∈ tl LETT)) = true := List.all_eq_true.mpr fun c h => decide_eq_true (hc c h)
    have fin : ∀ b : Bool, b = (decide ((1 : Int) ≤ z.length) && decide ((z.length : Int) ≤ 6)) → Q (.bl b) H1 := fun b hb => by
      have h := q H1 (Same.refl _)
      unfold isName at h
      rw [e, Bool.and_true, ← hb] at h
      exact h
    refine ⟨_, rfl, z, rfl, line_of (by omega), _, _, rfl, rfl, _, rfl, ?_⟩
    refine iteB (fun b => ?_) (fun b => ?_)
    · exact ⟨_, _, rfl, rfl, fin _ (by rw [b, Bool.true_and])⟩
    · exact fin _ (by rw [b, Bool.false_and])
theorem has_lbracket (D : DefAt K mg "_law_bracket" sLbracket ["_law_name_here", "_law_text_here", "_law_at"]) (T : Txt K w mg a) (HLisName : Has P w K mg base 1 "_law_is_name" ["_law_text_here"] spIsName) :
    Has P w K mg base 2 "_law_bracket" ["_law_name_here", "_law_text_here", "_law_at"] (spLbracket K) := by
  refine D.has (k := 1) scLbracket (fun vs H Q E h => ?_) (fun f cdv A outer s H vs Q E hr h => ?_)
  · obtain ⟨name, z, i, rfl, _⟩ := h
    rfl
  obtain ⟨name, z, i, rfl, hi, hz, q⟩ := h
  have hln : z.length ≤ sizeLine := line_of (by omega)
  obtain ⟨c, hc⟩ : ∃ c, (tl z)[i]? = some c := ⟨_, List.getElem?_eq_getElem (by rw [← len_tl]; exact hi)⟩
  have hat := sign_at hc
  have e91 : ("[" : Str) = ch 91 := by decide +kernel
  have e60 : ("<" : Str) = ch 60 := by decide +kernel
  have e93 : ("]" : Str) = ch 93 := by decide +kernel
  have e62 : (">" : Str) = ch 62 := by decide +kernel
  have cut12 : cutS z (some ((i : Int) + 1)) (some ((i : Int) + 2)) = sub z (i + 1) (i + 2) := cut_nat z (i + 1) (i + 2)
  have d91 : decide (V.str (ch c) = V.str "[") = decide (c = 91) := decide_eq_decide.mpr ⟨fun h => ch_inj (by injection h), fun h => by rw [h, e91]⟩
  have d60 : decide (V.str (ch c) = V.str "<") = decide (c = 60) := decide_eq_decide.mpr ⟨fun h => ch_inj (by injection h), fun h => by rw [h, e60]⟩
  rw [seg_c hc] at q
  refine ⟨_, (pss_cons (ps_if (pt_cmpR op_eq (pe_ix ix_str (pv 1) (pv 2) (fun _ _ => rfl)) pe_str (nomark _)) (pss_cons (ps_set (i := 3) scLbracket.nd rfl (Or.inl rfl) (pe_bm PySem.F.plainAttrs_str PySem.F.slot_str_find PySem.F.type_str_find mt_find3 (pv 1) (pa_cons pe_str (pa_cons (pv 2) pa_nil))))
      (pss_one (ps_if (PW.pt (pw_and (pt_cmpR op_gt (pv 3) pe_int (nomark _)) (pw_and1 (pt_val (pe_callH HLisName (hr.mono (by omega)) rfl (pa_cons (pe_slice sl_str (pv 1) (po_some (pe_op op_add (pv 2) pe_int)) (po_some (pv 3))) pa_nil)))))) (pss_one (ps_ret (pe_lst (pa_cons pe_str (pa_cons (pe_slice sl_str (pv 1) (po_some (pe_op op_add (pv 2) pe_int)) (po_some (pv 3))) (pa_cons (pe_op op_add (pv 3) pe_int) pa_nil)))))) pss_nil))) pss_nil)
      (pss_cons (ps_if (pt_cmpR op_eq (pe_ix ix_str (pv 1) (pv 2) (fun _ _ => rfl)) pe_str (nomark _)) (pss_cons (ps_set (i := 3) scLbracket.nd rfl (Or.inl rfl) (pe_bm PySem.F.plainAttrs_str PySem.F.slot_str_find PySem.F.type_str_find mt_find3 (pv 1) (pa_cons pe_str (pa_cons (pv 2) pa_nil))))
      (pss_cons (ps_set (i := 4) scLbracket.nd rfl (Or.inl rfl) (pe_callTy call_int1 rfl T.nint (by decide +kernel) (pa_cons (pe_cmpR op_eq (pe_slice sl_str (pv 1) (po_some (pe_op op_add (pv 2) pe_int)) (po_some (pe_op op_add (pv 2) pe_int))) pe_str (nomark _)) pa_nil)))
      (pss_cons (ps_set (i := 5) scLbracket.nd rfl (Or.inl rfl) (pe_slice sl_str (pv 1) (po_some (pe_op op_add (pe_op op_add (pv 2) pe_int) (pv 4))) (po_some (pe_callB (call_max2 rfl) rfl T.nmax (by decide +kernel) (pa_cons (pv 3) (pa_cons pe_int pa_nil))))))
      (pss_one (ps_if (PW.pt (pw_and (pt_cmpR op_gt (pv 3) pe_int (nomark _)) (pw_and (pt_val (pe_callH HLisName (hr.mono (by omega)) rfl (pa_cons (pv 5) pa_nil))) (pw_and1 (pt_cmpR op_gt_str (pv 5) (pv 0) (nomark _)))))) (pss_one (ps_ret (pe_lst (pa_cons (pe_ix ix_list (pe_lst (pa_cons pe_str (pa_cons pe_str pa_nil))) (pv 4) (fun _ _ => rfl)) (pa_cons (pv 5) (pa_cons (pe_op op_add (pv 3) pe_int) pa_nil)))))) pss_nil))))) pss_nil)
      (pss_one (ps_ret pe_non)))), ?_⟩
  refine ⟨_, rfl, _, rfl, z, _, _, rfl, rfl, hln, hat, rfl, _, rfl, ?_⟩
  refine iteB (fun c1 => ?_) (fun c1 => ?_)
  · have c91 : c = 91 := of_decide_eq_true (d91.symm.trans c1)
    subst c91
    rw [if_pos rfl] at q
    have tail : ∀ H1, Same H H1 → RetV H .non Q → Q .non H1 := fun H1 e1 h => h H1 e1
    cases hf : fnd z 93 i with
    | none =>
      rw [hf] at q
      have hneg : Txt.find3 z "]" (i : Int) < 0 := by
        rw [e93]
        exact fnd_lt.mpr hf
      refine ⟨_, rfl, rfl, _, rfl, _, _, _, rfl, rfl, ?_⟩
      refine ⟨_, rfl, _, _, rfl, rfl, _, rfl, ?_⟩
      refine iteB (fun n => absurd (of_decide_eq_true n) (by omega)) (fun _ => iteF ?_)
      refine ⟨_, rfl, _, rfl, z, _, _, rfl, rfl, hln, hat, rfl, _, rfl, ?_⟩
      exact iteB (fun n => absurd (d60.symm.trans n) (by decide)) (fun _ => q H (Same.refl H))
    | some e =>
      rw [hf] at q
      have he : Txt.find3 z "]" (i : Int) = (e : Int) := by
        rw [e93]
        exact fnd_some hf
      obtain ⟨f1, f2, f3⟩ := fnd_spec (Nat.le_of_lt hi) hf
      have hlt : i < e := by
        rcases Nat.lt_or_eq_of_le f1 with h | h
        · exact h
        · rw [← h, hc] at f3
          cases f3
      have sl := sub_len z (i + 1) e
      refine ⟨_, rfl, rfl, _, rfl, _, _, _, rfl, rfl, ?_⟩
      rw [he]
      refine ⟨_, rfl, _, _, rfl, rfl, _, rfl, ?_⟩
      refine iteB (fun _ => ?_) (fun n => absurd (of_decide_eq_false n) (by omega))
      refine ⟨_, rfl, _, rfl, _, _, rfl, rfl, _, rfl, _, rfl, _, rfl, z, rfl, hln, ?_⟩
      rw [cut_nat1]
      refine ⟨_, rfl, by omega, fun H1 e1 => ⟨_, rfl, ?_⟩⟩
      refine iteB (fun c2 => ?_) (fun c2 => ?_)
      · have q : SegRetL K H (if isName (sub z (i + 1) e) = true then some (Kd.lnk, sub z (i + 1) e, e + 1) else none) Q := q
        rw [if_pos c2] at q
        refine ⟨_, rfl, _, rfl, _, _, rfl, rfl, _, rfl, _, rfl, _, rfl, z, rfl, hln, ?_⟩
        rw [cut_nat1]
        refine ⟨_, rfl, _, _, rfl, rfl, three_line, fun p hp => ?_⟩
        exact q p _ (e1.free hp) (e1.trans (same_new _ hp)) (SqL.of upd_same)
      · have q : SegRetL K H (if isName (sub z (i + 1) e) = true then some (Kd.lnk, sub z (i + 1) e, e + 1) else none) Q := q
        rw [if_neg (by rw [c2]; exact Bool.false_ne_true)] at q
        refine ⟨_, rfl, _, rfl, z, _, _, rfl, rfl, hln, hat, rfl, _, rfl, ?_⟩
        exact iteB (fun n => absurd (d60.symm.trans n) (by decide)) (fun _ => q H1 e1)
  · have c91 : c ≠ 91 := of_decide_eq_false (d91.symm.trans c1)
    rw [if_neg c91] at q
    refine ⟨_, rfl, _, rfl, z, _, _, rfl, rfl, hln, hat, rfl, _, rfl, ?_⟩
    refine iteB (fun c2 => ?_) (fun c2 => ?_)
    · have c60 : c = 60 := of_decide_eq_true (d60.symm.trans c2)
      subst c60
      rw [if_pos rfl] at q
      refine ⟨_, rfl, rfl, _, rfl, _, _, _, rfl, rfl, ?_⟩
      refine ⟨_, rfl, _, rfl, _, _, rfl, rfl, _, rfl, _, rfl, _, _, rfl, rfl, _, rfl, z, rfl, hln, rfl, .inr ⟨_, rfl, ?_⟩⟩
      rw [cut12, at_sign]
      refine ⟨_, rfl, _, rfl, _, _, rfl, rfl, _, rfl, _, _, rfl, rfl, _, rfl, _, rfl, _, _, rfl, _, rfl, z, rfl, hln, ?_⟩
      cases hf : fnd z 62 i with
      | none =>
        rw [hf] at q
        have hneg : Txt.find3 z ">" (i : Int) < 0 := by
          rw [e62]
          exact fnd_lt.mpr hf
        refine ⟨_, rfl, _, _, rfl, rfl, _, rfl, ?_⟩
        exact iteB (fun n => absurd (of_decide_eq_true n) (by omega)) (fun _ => iteF (q H (Same.refl H)))
      | some e =>
        rw [hf] at q
        have he : Txt.find3 z ">" (i : Int) = (e : Int) := by
          rw [e62]
          exact fnd_some hf
        obtain ⟨f1, f2, f3⟩ := fnd_spec (Nat.le_of_lt hi) hf
        have hlt : i < e := by
          rcases Nat.lt_or_eq_of_le f1 with h | h
          · exact h
          · rw [← h, hc] at f3
            cases f3
        rw [he]
        have ez : (if (0 : Int) > (e : Int) then (0 : Int) else (e : Int)) = (e : Int) := if_neg (by omega)
        rw [ez]
        -- what follows, by the sign behind
        have fin : ∀ (b : Bool) (k : Kd) (s : Str), s.length ≤ 1000 → (k.s = if b = true then "indirect" else "include") → (∀ H1, Same H H1 → (isName s = true → after s name = true → ∀ p H', H1 p = .none → Same H1 H' → SqL K H' p [.str k.s, .str s, .int ((e + 1 : Nat) : Int)] → Q (.ref p) H') ∧ (¬ (isName s = true ∧ after s name = true) → Q .non H1)) →
            (tIfS (tAnd (tTest (tOp (rI0 fun i j => V.bl (decide (j < i))) (tVar 3) (tC (V.int 0)))) (tAnd (tB (tCall spIsName [] E0 (tCons (tVar 5) tNil))) (tTest (tOp (fun x y H Q => ∃ i j, x = V.str i ∧ y = V.str j ∧ Q (V.bl (decide (j.cps.toList < i.cps.toList))) H) (tVar 5) (tVar 0)))))
              (tRet (tLst (tCons (tOp (rIxL K) (tLst (tCons (tC (V.str "include")) (tCons (tC (V.str "indirect")) tNil))) (tVar 4)) (tCons (tVar 5) (tCons (tOp (rI0 fun i j => V.int (i + j)) (tVar 3) (tC (V.int 1))) tNil))))) tNext)
              { nx := fun _ H' => Q .non H', rt := Q } [some (.str name), some (.str z), some (.int (i : Int)), some (.int (e : Int)), some (.int (if b = true then 1 else 0)), some (.str s)] H := by
          intro b k s hs hk g
          refine ⟨_, rfl, _, _, rfl, rfl, _, rfl, ?_⟩
          refine iteB (fun _ => ?_) (fun n => absurd (of_decide_eq_false n) (by omega))
          refine ⟨_, rfl, s, rfl, hs, fun H1 e1 => ⟨_, rfl, ?_⟩⟩
          refine iteB (fun c3 => ?_) (fun c3 => iteF ((g H1 e1).2 fun h => by rw [c3] at h; exact Bool.false_ne_true h.1))
          refine ⟨_, rfl, _, rfl, _, _, rfl, rfl, _, rfl, ?_⟩
          refine iteB (fun c4 => ?_) (fun c4 => (g H1 e1).2 fun h => ?_)
          · refine ⟨two_line, fun l hl => ?_⟩
            have ea : atI [V.str "include", V.str "indirect"] (if b = true then 1 else 0) = some (.str k.s) := by
              rw [hk]
              cases b
              · exact at0
              · exact at1
            refine ⟨_, rfl, l, _, _, _, rfl, rfl, SqL.of upd_same, ea, _, rfl, _, rfl, _, _, rfl, rfl, three_line, fun p hp => ?_⟩
            have el := same_new (.lst [V.str "include", V.str "indirect"]) hl
            exact (g H1 e1).1 c3 c4 p _ (el.free hp) (el.trans (same_new _ hp)) (SqL.of upd_same)
          · have h2 : decide (name.cps.toList < s.cps.toList) = true := h.2
            rw [h2] at c4
            cases c4
        have sl1 := sub_len z (i + 1) e
        have sl2 := sub_len z (i + 2) e
        cases hb : atAt z (i + 1) with
        | true =>
          have q : SegRetL K H (if isName (sub z (i + 2) e) = true ∧ after (sub z (i + 2) e) name = true then some (Kd.ind, sub z (i + 2) e, e + 1) else none) Q := by
            have q' := q
            simp only [hb, if_true] at q'
            exact q'
          have ec : cutS z (some ((i : Int) + 1 + (if true = true then 1 else 0))) (some (e : Int)) = sub z (i + 2) e := cut_nat z (i + 2) e
          rw [ec]
          refine fin true .ind _ (by omega) rfl fun H1 e1 => ⟨fun h1 h2 p H' hp e2 hq => ?_, fun hn => ?_⟩
          · rw [if_pos ⟨h1, h2⟩] at q
            exact q p H' (e1.free hp) (e1.trans e2) hq
          · rw [if_neg hn] at q
            exact q H1 e1
        | false =>
          have q : SegRetL K H (if isName (sub z (i + 1) e) = true ∧ after (sub z (i + 1) e) name = true then some (Kd.inc, sub z (i + 1) e, e + 1) else none) Q := by
            have q' := q
            simp only [hb] at q'
            exact q'
          have ec : cutS z (some ((i : Int) + 1 + (if false = true then 1 else 0))) (some (e : Int)) = sub z (i + 1) e := cut_nat z (i + 1) e
          rw [ec]
          refine fin false .inc _ (by omega) rfl fun H1 e1 => ⟨fun h1 h2 p H' hp e2 hq => ?_, fun hn => ?_⟩
          · rw [if_pos ⟨h1, h2⟩] at q
            exact q p H' (e1.free hp) (e1.trans e2) hq
          · rw [if_neg hn] at q
            exact q H1 e1
    · have c60 : c ≠ 60 := of_decide_eq_false (d60.symm.trans c2)
      rw [if_neg c60] at q
      exact q H (Same.refl H)
end
end Pg


set_option Elab.async false
set_option linter.all false
set_option maxRecDepth 100000
set_option maxHeartbeats 4000000
/-! the law's side: split -/
namespace Pg
open PySem PySem.Spec PyProof.Rows L2

theorem good_ok {n : Nat} {z : Str} (h : Good n z) : PyData.strOk z = true := by
  unfold PyData.strOk
  rw [← Array.all_toList, List.all_eq_true]
  exact fun c hc => decide_eq_true (Nat.lt_trans (h.2 c hc) (by decide))
theorem kd_text (k : Kd) : decide (V.str k.s = V.str "text") = decide (k = .txt) := by
  cases k
  · exact (by decide +kernel : decide (V.str "text" = V.str "text") = true)
  · exact (by decide +kernel : decide (V.str "link" = V.str "text") = false)
  · exact (by decide +kernel : decide (V.str "include" = V.str "text") = false)
  · exact (by decide +kernel : decide (V.str "indirect" = V.str "text") = false)
theorem eqv_nil : ∀ ds : List PyData, PyData.eqv (.list ds) (.list []) = ds.isEmpty
  | [] => rfl
  | _ :: _ => rfl
theorem sg_canLay {g : Sg} {n : Nat} (h : Good n g.2) : (Sg.d g).canLay0 = true := by
  obtain ⟨k, s⟩ := g
  have h : Good n s := h
  have e : PyData.canLay0 (Sg.d (k, s)) = (PyData.strOk k.s && (PyData.strOk s && true)) := rfl
  rw [e, good_ok h]
  cases k <;> decide +kernel
theorem sgs_canLay : ∀ {gs : List Sg}, (∀ g ∈ gs, ∃ n, Good n g.2) → PyData.canLayAll0 (gs.map Sg.d) = true
  | [], _ => rfl
  | g :: r, h => by
    obtain ⟨n, hg⟩ := h g List.mem_cons_self
    show ((Sg.d g).canLay0 && PyData.canLayAll0 (r.map Sg.d)) = true
    rw [sg_canLay hg, sgs_canLay fun x hx => h x (List.mem_cons_of_mem _ hx)]
    rfl
theorem sgs_depth : ∀ gs : List Sg, PyData.depthAll (gs.map Sg.d) ≤ 1
  | [] => Nat.zero_le _
  | g :: r => by
    have ih := sgs_depth r
    show max (PyData.depth (Sg.d g)) (PyData.depthAll (r.map Sg.d)) ≤ 1
    exact Nat.max_le.mpr ⟨Nat.le_of_eq rfl, ih⟩
theorem sgs_shaped {gs : List Sg} (h : ∀ g ∈ gs, ∃ n, Good n g.2) : SeqAt.shaped (.list (gs.map Sg.d)) = true := by
  unfold SeqAt.shaped
  rw [Bool.and_eq_true]
  refine ⟨sgs_canLay h, decide_eq_true ?_⟩
  have := sgs_depth gs
  show PyData.depthAll (gs.map Sg.d) + 1 ≤ 64
  omega
theorem at_last {xs : List V} {v : V} : atI (xs ++ [v]) (-1) = some v := by
  unfold atI ixN
  have hl : (xs ++ [v]).length = xs.length + 1 := by simp
  rw [if_neg (by decide), hl, if_pos (by omega)]
  show (xs ++ [v])[(-1 + ((xs.length + 1 : Nat) : Int)).toNat]? = _
  have e : (-1 + ((xs.length + 1 : Nat) : Int)).toNat = xs.length := by omega
  rw [e]
  simp
theorem ix_last {xs : List V} {v : V} : ixN (xs ++ [v]).length (-1) = some xs.length := by
  unfold ixN
  have hl : (xs ++ [v]).length = xs.length + 1 := by simp
  rw [if_neg (by decide), hl, if_pos (by omega)]
  have e : (-1 + ((xs.length + 1 : Nat) : Int)).toNat = xs.length := by omega
  rw [e]
theorem set_last {xs : List V} {v u : V} : (xs ++ [v]).set xs.length u = xs ++ [u] := by
  induction xs with
  | nil => rfl
  | cons x r ih => exact congrArg (x :: ·) ih
theorem dpa_concat {K : PySem.W.Frag} {H : Hp} {ds : List PyData} {d : PyData} {vs : List V} (h : DpAll K H vs (ds ++ [d])) : ∃ ws v, vs = ws ++ [v] ∧ DpAll K H ws ds ∧ Dp K H v d := by
  induction ds generalizing vs with
  | nil =>
    obtain ⟨v, r, rfl, h1, h2⟩ := dpa_cons h
    rw [dpa_nil h2]
    exact ⟨[], v, rfl, .nil, h1⟩
  | cons e ds ih =>
    obtain ⟨v, r, rfl, h1, h2⟩ := dpa_cons h
    obtain ⟨ws, u, rfl, h3, h4⟩ := ih h2
    exact ⟨v :: ws, u, rfl, .cons h1 h3, h4⟩
section
variable {P : Program} {w : World} {K : PySem.W.Frag} {mg : Str → Option Value} {base : Heap} {a : Adr}
theorem has_lsplit (D : DefAt K mg "_law_split" sLsplit ["_law_name_here", "_law_text_here"]) (T : Txt K w mg a) (HLbracket : Has P w K mg base 2 "_law_bracket" ["_law_name_here", "_law_text_here", "_law_at"] (spLbracket K)) :
    Has P w K mg base 3 "_law_split" ["_law_name_here", "_law_text_here"] (spLsplit K) := by
  refine D.has (k := 2) scLsplit (fun vs H Q E h => ?_) (fun f cdv A outer s H vs Q E hr h => ?_)
  · obtain ⟨name, z, rfl, _⟩ := h
    rfl
  obtain ⟨name, z, rfl, hz, q⟩ := h
  have hzl := hz.1
  have hln : z.length ≤ sizeLine := line_of (by omega)
  have hspl : (split name z).length ≤ 121 := Nat.le_trans (split_len name z) (by omega)
  have hok := split_ok (name := name) hz (by decide : 6 ≤ 60)
  refine ⟨_, (pss_cons (ps_set (i := 2) scLsplit.nd rfl (Or.inl rfl) (pe_lst pa_nil))
      (pss_cons (ps_set (i := 3) scLsplit.nd rfl (Or.inl rfl) pe_int)
      (pss_cons (ps_while PassesOwn.never (pt_cmpR op_lt (pv 3) (pe_callB call_len_str rfl T.nlen (by decide +kernel) (pa_cons (pv 1) pa_nil)) (nomark _)) (pss_cons (ps_set (i := 4) scLsplit.nd rfl (Or.inl rfl) (pe_callH HLbracket (hr.mono (by omega)) rfl (pa_cons (pv 0) (pa_cons (pv 1) (pa_cons (pv 3) pa_nil)))))
      (pss_one (ps_if (pt_cmpR op_notN (pv 4) pe_non (nomark _)) (pss_cons (ps_expr (pe_bm PySem.F.plainAttrs_list PySem.F.slot_list_append PySem.F.type_list_append mt_append (pv 2) (pa_cons (pe_tup (pa_cons (pe_ix ix_list (pv 4) pe_int (fun _ _ => rfl)) (pa_cons (pe_ix ix_list (pv 4) pe_int (fun _ _ => rfl)) pa_nil))) pa_nil)))
      (pss_one (ps_set (i := 3) scLsplit.nd rfl (Or.inl rfl) (pe_ix ix_list (pv 4) pe_int (fun _ _ => rfl))))) (pss_cons (ps_if (PW.pt (pw_or (pt_cmpR (op_eqD hr.units) (pv 2) (pe_lst pa_nil) (nomark _)) (pw_or1 (pt_cmpR op_ne (pe_ix ix_tup (pe_ix ix_list (pv 2) (pe_un un_neg pe_int) (fun _ _ => rfl)) pe_int (fun _ _ => rfl)) pe_str (nomark _))))) (pss_one (ps_expr (pe_bm PySem.F.plainAttrs_list PySem.F.slot_list_append PySem.F.type_list_append mt_append (pv 2) (pa_cons (pe_tup (pa_cons pe_str (pa_cons pe_str pa_nil))) pa_nil)))) pss_nil)
      (pss_cons (ps_asg (pe_tup (pa_cons pe_str (pa_cons (pe_op op_add_str (pe_ix ix_tup (pe_ix ix_list (pv 2) (pe_un un_neg pe_int) (fun _ _ => rfl)) pe_int (fun _ _ => rfl)) (pe_ix ix_str (pv 1) (pv 3) (fun _ _ => rfl))) pa_nil))) (pg_sub (pv 2) (pe_un un_neg pe_int) set_list))
      (pss_one (ps_set (i := 3) scLsplit.nd rfl (Or.inl rfl) (pe_op op_add (pv 3) pe_int)))))))))
      (pss_one (ps_ret (pv 2)))))), ?_⟩
  refine ⟨Nat.zero_le _, fun l hl => ?_⟩
  refine ⟨fun m σ H' => ∃ (i : Nat) (p : Str) (gs : List Sg) (vs : List V) (v4 : Option V), σ = [some (.str name), some (.str z), some (.ref l), some (.int (i : Int)), v4] ∧ m = z.length - i ∧ i ≤ z.length ∧ Good i p ∧
    Made H H' l vs ∧ DpAll K H' vs ((gs ++ flush p).map Sg.d) ∧ (gs = [] ∨ ∃ gs' g, gs = gs' ++ [g] ∧ g.1 ≠ .txt) ∧ gs ++ rest name z i p = split name z, ⟨_, 0, Str.empty, [], [], none, rfl, rfl, Nat.zero_le _, ⟨Nat.zero_le _, fun c hc => (by cases hc)⟩, Made.mk0 (Same.refl H) hl, .nil, .inl rfl, rfl⟩, ?_⟩
  rintro m σ H1 ⟨i, p, gs, vs, v4, rfl, rfl, hi, hp, md, hd, hlast, hsp⟩
  have hpl := hp.1
  have hgs : gs.length ≤ 121 := by
    have e := congrArg List.length hsp
    rw [List.length_append] at e
    omega
  have hgok : ∀ g ∈ gs, SgOk 60 name g := fun g hg => hok g (by rw [← hsp]; exact List.mem_append_left _ hg)
  have hvs : vs.length ≤ 122 := by
    rw [dpa_len hd, List.length_map, List.length_append]
    have := flush_len p
    omega
  refine ⟨_, rfl, _, rfl, z, rfl, hln, _, _, rfl, rfl, _, rfl, ?_⟩
  refine iteB (fun c => ?_) (fun c => ?_)
  · have hlt : i < z.length := by
      have := of_decide_eq_true c
      omega
    obtain ⟨cc, hc⟩ : ∃ c, (tl z)[i]? = some c := ⟨_, List.getElem?_eq_getElem (by rw [← len_tl]; exact hlt)⟩
    refine ⟨_, fun σ' H' h => h, ?_⟩
    refine ⟨_, rfl, _, rfl, _, rfl, name, z, i, rfl, hlt, by omega, ?_⟩
    cases hs : seg name z i with
    | none =>
      intro H2 e2
      refine ⟨_, rfl, rfl, _, rfl, ?_⟩
      refine iteB (fun n => absurd n (by decide)) (fun _ => ?_)
      have m2 := md.go e2
      have d2 := dpa_same e2 _ _ hd
      -- once the last stands
      have put : ∀ (H3 : Hp) (ws : List V) (u : V) (v4 : Option V), TS H2 H3 → Made H H3 l (ws ++ [u]) → DpAll K H3 ws (gs.map Sg.d) → Dp K H3 u (Sg.d (.txt, p)) → ws.length ≤ 200 →
          (tSeq (tAsg (tTup (tCons (tC (.str "text")) (tCons (tOp rCatS (tOp (rIxT K) (tOp (rIxL K) (tVar 2) (tUn (rU fun i => V.int (-i)) (tC (.int 1)))) (tC (.int 1))) (tOp rIxS (tVar 1) (tVar 3))) tNil))) (gSub (tVar 2) (tUn (rU fun i => V.int (-i)) (tC (.int 1))) rSetL)) (tAsg (tOp (rI0 fun i j => V.int (i + j)) (tVar 3) (tC (.int 1))) (gName 3)))
            { nx := fun σ' H' => ∃ m', m' < z.length - i ∧ ∃ (i : Nat) (p : Str) (gs : List Sg) (vs : List V) (v4 : Option V), σ' = [some (.str name), some (.str z), some (.ref l), some (.int (i : Int)), v4] ∧ m' = z.length - i ∧ i ≤ z.length ∧ Good i p ∧
                Made H H' l vs ∧ DpAll K H' vs ((gs ++ flush p).map Sg.d) ∧ (gs = [] ∨ ∃ gs' g, gs = gs' ++ [g] ∧ g.1 ≠ .txt) ∧ gs ++ rest name z i p = split name z, rt := Q } [some (.str name), some (.str z), some (.ref l), some (.int (i : Int)), v4] H3 := by
        intro H3 ws u v4 t3 m3 d3 u3 hw
        obtain ⟨pu, rfl, hpu⟩ := sg_at u3
        refine ⟨_, rfl, _, rfl, l, _, _, _, rfl, rfl, SqL.of m3.at_, at_last, pu, _, _, _, rfl, rfl, hpu, at1, _, rfl, _, rfl, z, _, _, rfl, rfl, hln, sign_at hc, _, _, rfl, rfl, ?_, two_line, fun pt hpt => ?_⟩
        · refine line_of ?_
          have : (ch cc).length = 1 := rfl
          show p.length + (ch cc).length ≤ _
          omega
        have et := same_new (.tup [.str "text", .str (p ++ ch cc)]) hpt
        refine ⟨_, rfl, _, rfl, l, _, _, _, rfl, rfl, et _ _ m3.at_, ix_last, ?_⟩
        rw [set_last]
        refine ⟨_, rfl, _, _, rfl, rfl, ?_⟩
        have m4 := m3.go et
        have t4 := m4.ts (.lst (ws ++ [.ref pt]))
        refine ⟨z.length - (i + 1), by omega, i + 1, p ++ ch cc, gs, ws ++ [.ref pt], _, rfl, rfl, hlt, hp.append (good_ch hz hc), m4.app _, ?_, hlast, ?_⟩
        · have hfl : flush (p ++ ch cc) = [(.txt, p ++ ch cc)] := if_neg (by rw [len_append]; show ¬ p.length + 1 = 0; omega)
          rw [hfl, List.map_append]
          exact dpa_snoc (dpa_ts t4 _ _ (noLs_map noL_sg _) (dpa_same et _ _ d3)) (sg_of (g := (.txt, p ++ ch cc)) (t4.sqT (SqT.of upd_same)))
        · rw [← rest_plain hc hs]
          exact hsp
      have sh1 : SeqAt.shaped (.list ((gs ++ flush p).map Sg.d)) = true := sgs_shaped fun g hg => by
        rcases List.mem_append.mp hg with h | h
        · exact ⟨60, (hgok g h).good⟩
        · exact ⟨i, (flush_ok (name := name) hp g h).good⟩
      have sh2 : SeqAt.shaped (.list []) = true := by decide +kernel
      refine ⟨_, rfl, Nat.zero_le _, fun le hle => ?_⟩
      have ee := same_new (.lst []) hle
      have m3 := m2.go ee
      have d3 := dpa_same ee _ _ d2
      refine ⟨_, _, .lst (SqL.of m3.at_) d3, .lst (SqL.of upd_same) .nil, sh1, sh2, _, rfl, ?_⟩
      rw [eqv_nil]
      have tadd : ∀ (H5 : Hp) (v4 : Option V), TS H2 H5 → Made H H5 l vs → DpAll K H5 vs (gs.map Sg.d) → flush p = [] → ∀ G : L2.St → Hp → Prop, (∀ (H3 : Hp) (ws : List V) (u : V), TS H2 H3 → Made H H3 l (ws ++ [u]) → DpAll K H3 ws (gs.map Sg.d) → Dp K H3 u (Sg.d (.txt, p)) → ws.length ≤ 200 → G [some (.str name), some (.str z), some (.ref l), some (.int (i : Int)), v4] H3) →
          (tDrop (tBM K "list" rAppend (tVar 2) (tCons (tTup (tCons (tC (.str "text")) (tCons (tC (.str "")) tNil))) tNil))) { nx := G, rt := Q } [some (.str name), some (.str z), some (.ref l), some (.int (i : Int)), v4] H5 := by
        intro H5 v4 t5 m5 d5 hfl G hG
        refine ⟨_, rfl, .inl ⟨rfl, _, SqL.of m5.at_⟩, two_line, fun pt hpt => ?_⟩
        have et := same_new (.tup [.str "text", .str ""]) hpt
        have m6 := m5.go et
        refine ⟨l, vs, _, rfl, rfl, m6.at_, line_lt (by omega), ?_⟩
        have t7 := m6.ts (.lst (vs ++ [.ref pt]))
        have ep : p = Str.empty := by
          by_cases h0 : p.length = 0
          · refine ext_tl (List.length_eq_zero_iff.mp ?_)
            rw [← len_tl]
            exact h0
          · rw [show flush p = [(.txt, p)] from if_neg h0] at hfl
            cases hfl
        refine hG _ vs (.ref pt) ((t5.trans (TS.same et)).trans t7) (m6.app _) (dpa_ts t7 _ _ (noLs_map noL_sg _) (dpa_same et _ _ d5)) ?_ (by omega)
        rw [ep]
        exact sg_of (g := (.txt, Str.empty)) (t7.sqT (SqT.of upd_same))
      have t23 : TS H2 (upd H2 le (.lst [])) := TS.same ee
      by_cases h0 : p.length = 0
      · have hfl : flush p = [] := if_pos h0
        rw [hfl, List.append_nil] at d3 ⊢
        rcases hlast with rfl | ⟨gs', g, rfl, hg⟩
        · exact iteT (iteT (tadd _ _ t23 m3 d3 hfl _ fun H3 ws u t m d du hw => put H3 ws u _ t m d du hw))
        · have d4 := d3
          rw [List.map_append] at d4
          obtain ⟨ws, u, rfl, d5, du⟩ := dpa_concat d4
          obtain ⟨pu, rfl, hpu⟩ := sg_at du
          have e0 : ((gs' ++ [g]).map Sg.d).isEmpty = false := by simp
          rw [e0]
          refine iteF ?_
          refine ⟨_, rfl, _, rfl, l, _, _, _, rfl, rfl, SqL.of m3.at_, at_last, pu, _, _, _, rfl, rfl, hpu, at0, rfl, _, rfl, ?_⟩
          rw [kd_text, decide_eq_false hg]
          exact iteT (tadd _ _ t23 m3 d3 hfl _ fun H3 ws u t m d du hw => put H3 ws u _ t m d du hw)
      · have hfl : flush p = [(.txt, p)] := if_neg h0
        have d4 := d3
        rw [hfl, List.map_append] at d4
        obtain ⟨ws, u, rfl, d5, du⟩ := dpa_concat d4
        obtain ⟨pu, eu, hpu⟩ := sg_at du
        have e0 : ((gs ++ flush p).map Sg.d).isEmpty = false := by rw [hfl]; simp
        rw [e0]
        refine iteF ?_
        have m3' := m3
        rw [eu] at m3'
        refine ⟨_, rfl, _, rfl, l, _, _, _, rfl, rfl, SqL.of m3'.at_, at_last, pu, _, _, _, rfl, rfl, hpu, at0, rfl, _, rfl, ?_⟩
        rw [kd_text]
        refine iteF ?_
        rw [List.length_append] at hvs
        exact put _ ws u _ t23 m3 d5 du (by omega)
    | some r =>
      obtain ⟨k, t, e⟩ := r
      obtain ⟨s1, s2, s3, s4, s5⟩ := seg_spec hi hs
      intro pb H2 npb e2 hb
      refine ⟨_, rfl, rfl, _, rfl, ?_⟩
      refine iteB (fun _ => ?_) (fun n => absurd n (by simp))
      have m2 := md.go e2
      have d2 := dpa_same e2 _ _ hd
      refine ⟨_, rfl, .inl ⟨rfl, _, SqL.of m2.at_⟩, _, rfl, pb, _, _, _, rfl, rfl, hb, at0, _, rfl, pb, _, _, _, rfl, rfl, hb, at1, two_line, fun pt hpt => ?_⟩
      have et := same_new (.tup [.str k.s, .str t]) hpt
      have m3 := m2.go et
      refine ⟨l, vs, _, rfl, rfl, m3.at_, line_lt (by omega), ?_⟩
      obtain ⟨m4, d4⟩ := push m2 d2 et (sg_of (g := (k, t)) (SqT.of upd_same)) (noLs_map noL_sg _) (noL_sg (k, t))
      have nb : pb ≠ l := fun z => by
        rw [z, md.at_] at npb
        cases npb
      have hb4 : SqL K (upd (upd H2 pt (.tup [.str k.s, .str t])) l (.lst (vs ++ [.ref pt]))) pb [.str k.s, .str t, .int (e : Int)] := m3.sqL (et.seq hb) nb _
      refine ⟨_, rfl, pb, _, _, _, rfl, rfl, hb4, at2, ?_⟩
      refine ⟨z.length - e, by omega, e, Str.empty, gs ++ flush p ++ [(k, t)], _, _, rfl, rfl, s2, ⟨Nat.zero_le _, fun c hc => (by cases hc)⟩, m4, ?_, .inr ⟨_, _, rfl, s4⟩, ?_⟩
      · rw [show flush Str.empty = [] from rfl, List.append_nil, List.map_append]
        exact d4
      · rw [← hsp, rest_seg hlt hs]
        simp
  · have hge : z.length ≤ i := by
      have := of_decide_eq_false c
      omega
    rw [rest_end hge] at hsp
    rw [hsp] at hd
    exact ⟨_, rfl, q l vs H1 md.new md.same md.at_ hd⟩
end
end Pg


set_option Elab.async false
set_option linter.all false
set_option maxRecDepth 100000
set_option maxHeartbeats 4000000
/-! the law's side: dependencies -/
namespace Pg
open PySem PySem.Spec PyProof.Rows L2

/-- the results so far -/
structure Rs (K : PySem.W.Frag) (H : Hp) (d : Addr) (D : RD) : Prop where
  ex : ∃ kvs : List (Key × V), H d = some (.dK kvs) ∧ kvs.map (·.1) = D.map (fun p => Sum.inr p.1) ∧ ∀ n v, valV kvs (Sum.inr n) = some v → Dp K H v (lkR D n).d
theorem Rs.same {K : PySem.W.Frag} {H H' : Hp} {d : Addr} {D : RD} (h : Rs K H d D) (e : Same H H') : Rs K H' d D := by
  obtain ⟨kvs, h1, h2, h3⟩ := h.ex
  exact ⟨kvs, e _ _ h1, h2, fun n v q => dp_same e _ _ (h3 n v q)⟩
theorem Rs.none {K : PySem.W.Frag} {H : Hp} {d : Addr} {D : RD} {kvs : List (Key × V)} (h2 : kvs.map (·.1) = D.map (fun p => (Sum.inr p.1 : Key))) {n : Str} (hv : valV kvs (Sum.inr n) = .none) : n ∉ D.map (·.1) := fun hm => by
  obtain ⟨p, hp, e⟩ := List.mem_map.mp hm
  have := valV_mem.mpr (show (Sum.inr n : Key) ∈ kvs.map (·.1) by rw [h2]; exact List.mem_map.mpr ⟨p, hp, by rw [e]⟩)
  rw [hv] at this
  cases this
/-- the bounds of the results of a fix -/
theorem Fix.rb {src : Src} {att : Int} {R : Str → Res} (F : Fix src att R) (S : SrcOk src) : RB R := fun x => by
  have h := F.ok S x
  refine ⟨?_, h.len S⟩
  cases hT : (R x).isT with
  | true => exact (h.ch hT).1
  | false =>
    have : (R x).ch = Str.empty := by
      revert hT
      cases R x <;> simp [Res.isT, Res.ch]
    rw [this]
    exact Nat.zero_le _
theorem Part.sub {src : Src} {att : Int} {done : List Str} {D : RD} (S : SrcOk src) (P : Part src att done D) (hd : ∀ n ∈ done, n ∈ src.map (·.1)) : ∃ src', SrcOk src' ∧ Fix src' att (lkR D) := by
  have sl : (src.filter fun p => decide (p.1 ∈ done)).Sublist src := List.filter_sublist
  have S' : SrcOk (src.filter fun p => decide (p.1 ∈ done)) := ⟨(sl.map (·.1)).nodup S.nd, Nat.le_trans sl.length_le S.len, fun p hp => S.good p (sl.mem hp)⟩
  have up : ∀ {n z : Str}, lk (src.filter fun p => decide (p.1 ∈ done)) n = some z → lk src n = some z := fun {n z} h => lk_nodup S.nd (sl.mem (lk_mem h))
  refine ⟨_, S', Part.fix ⟨P.keys, fun n hn z hz => P.fx n hn z (up hz)⟩ fun n => ⟨fun hn => ?_, fun hn => ?_⟩⟩
  · obtain ⟨p, hp, e⟩ := List.mem_map.mp (hd n hn)
    exact List.mem_map.mpr ⟨p, List.mem_filter.mpr ⟨hp, decide_eq_true (by rw [e]; exact hn)⟩, e⟩
  · obtain ⟨p, hp, e⟩ := List.mem_map.mp hn
    have := of_decide_eq_true (List.mem_filter.mp hp).2
    rw [e] at this
    exact this
theorem kd_inc (k : Kd) : decide (V.str k.s = V.str "include") = decide (k = .inc) := by
  cases k
  · exact (by decide +kernel : decide (V.str "text" = V.str "include") = false)
  · exact (by decide +kernel : decide (V.str "link" = V.str "include") = false)
  · exact (by decide +kernel : decide (V.str "include" = V.str "include") = true)
  · exact (by decide +kernel : decide (V.str "indirect" = V.str "include") = false)
theorem kd_ind (k : Kd) : decide (V.str k.s = V.str "indirect") = decide (k = .ind) := by
  cases k
  · exact (by decide +kernel : decide (V.str "text" = V.str "indirect") = false)
  · exact (by decide +kernel : decide (V.str "link" = V.str "indirect") = false)
  · exact (by decide +kernel : decide (V.str "include" = V.str "indirect") = false)
  · exact (by decide +kernel : decide (V.str "indirect" = V.str "indirect") = true)
theorem kd_lnk (k : Kd) : decide (V.str k.s = V.str "link") = decide (k = .lnk) := by
  cases k
  · exact (by decide +kernel : decide (V.str "text" = V.str "link") = false)
  · exact (by decide +kernel : decide (V.str "link" = V.str "link") = true)
  · exact (by decide +kernel : decide (V.str "include" = V.str "link") = false)
  · exact (by decide +kernel : decide (V.str "indirect" = V.str "link") = false)
def spLresultOf (K : PySem.W.Frag) : Sp := fun vs H Q _ => ∃ (d : Addr) (D : RD) (name : Str), vs = [.ref d, .str name] ∧ Rs K H d D ∧ RetD K H (lkR D name).d Q
def spLdeps (K : PySem.W.Frag) : Sp := fun vs H Q _ => ∃ (d : Addr) (D : RD) (name z : Str), vs = [.ref d, .str name, .str z] ∧ Rs K H d D ∧ RB (lkR D) ∧ Good 60 z ∧ RetL K H ((deps (lkR D) name (split name z)).map Dep.d) Q
section
variable {P : Program} {w : World} {K : PySem.W.Frag} {mg : Str → Option Value} {base : Heap} {a : Adr}
theorem has_lresultof (D : DefAt K mg "_law_result_of" sLresultOf ["_law_results_here", "_law_name_here"]) (T : Txt K w mg a) : Has P w K mg base 1 "_law_result_of" ["_law_results_here", "_law_name_here"] (spLresultOf K) := by
  refine D.has (k := 0) scLresultOf (fun vs H Q E h => ?_) (fun f cdv A outer s H vs Q E hr h => ?_)
  · obtain ⟨d, D, name, rfl, _⟩ := h
    rfl
  obtain ⟨d, D, name, rfl, hR, q⟩ := h
  obtain ⟨kvs, h1, h2, h3⟩ := hR.ex
  refine ⟨_, (pss_one (ps_ret (pe_dget2 (hu_of hr) (pv 0) (pv 1) (pe_tup (pa_cons pe_str (pa_cons pe_str (pa_cons (pe_tup pa_nil) pa_nil)))) ⟨rfl, rfl, rfl, rfl⟩))), ?_⟩
  refine ⟨_, rfl, d, rfl, .inl ⟨_, .inl h1⟩, _, rfl, Nat.zero_le _, fun p1 hp1 => ⟨three_line, fun p2 hp2 => ?_⟩⟩
  have e1 := same_new (.tup []) hp1
  have e2 := same_new (.tup [.str "text", .str "?", .ref p1]) hp2
  refine ⟨_, DGet.k (k := Sum.inr name) (e2 _ _ (e1 _ _ h1)), ?_⟩
  cases hv : valV kvs (Sum.inr name) with
  | some v => exact q v _ (e1.trans e2) (dp_same (e1.trans e2) _ _ (h3 name v hv))
  | none =>
    refine q _ _ (e1.trans e2) ?_
    rw [lkR_none (Rs.none (H := H) (d := d) (K := K) h2 hv)]
    exact res_of (SqT.of upd_same) (SqT.of (e2 _ _ upd_same))
theorem has_ldeps (D : DefAt K mg "_law_dependencies" sLdependencies ["_law_results_here", "_law_name_here", "_law_text_here"]) (T : Txt K w mg a) (HLsplit : Has P w K mg base 3 "_law_split" ["_law_name_here", "_law_text_here"] (spLsplit K))
    (HLresultOf : Has P w K mg base 1 "_law_result_of" ["_law_results_here", "_law_name_here"] (spLresultOf K)) (HLisName : Has P w K mg base 1 "_law_is_name" ["_law_text_here"] spIsName) :
    Has P w K mg base 4 "_law_dependencies" ["_law_results_here", "_law_name_here", "_law_text_here"] (spLdeps K) := by
  refine D.has (k := 3) scLdependencies (fun vs H Q E h => ?_) (fun f cdv A outer s H vs Q E hr h => ?_)
  · obtain ⟨d, D, name, z, rfl, _⟩ := h
    rfl
  obtain ⟨d, D, name, z, rfl, hR, hb, hz, q⟩ := h
  have hgs := split_ok (name := name) hz (by decide : 6 ≤ 60)
  have hlen : (split name z).length ≤ 121 := Nat.le_trans (split_len _ _) (by have := hz.1; omega)
  generalize hG : split name z = gs at *
  generalize hRR : lkR D = R at *
  refine ⟨_, (pss_cons (ps_set (i := 3) scLdependencies.nd rfl (Or.inl rfl) (pe_lst pa_nil))
      (pss_cons (ps_for PassesOwn.never rfl (pi_list (pe_callH HLsplit (hr.mono (by omega)) rfl (pa_cons (pv 1) (pa_cons (pv 2) pa_nil)))) (pg_tup rfl (pgs_cons (pg_name (i := 4) scLdependencies.nd rfl (Or.inl rfl)) (pgs_cons (pg_name (i := 5) scLdependencies.nd rfl (Or.inl rfl)) pgs_nil))) (pss_cons (ps_if (pt_cmpR op_eq (pv 4) pe_str (nomark _)) (pss_one (ps_expr (pe_bm PySem.F.plainAttrs_list PySem.F.slot_list_append PySem.F.type_list_append mt_append (pv 3) (pa_cons (pe_tup (pa_cons (pv 5) (pa_cons (pe_callH HLresultOf (hr.mono (by omega)) rfl (pa_cons (pv 0) (pa_cons (pv 5) pa_nil))) pa_nil))) pa_nil)))) pss_nil)
      (pss_one (ps_if (pt_cmpR op_eq (pv 4) pe_str (nomark _)) (pss_cons (ps_set (i := 6) scLdependencies.nd rfl (Or.inl rfl) (pe_callH HLresultOf (hr.mono (by omega)) rfl (pa_cons (pv 0) (pa_cons (pv 5) pa_nil))))
      (pss_cons (ps_expr (pe_bm PySem.F.plainAttrs_list PySem.F.slot_list_append PySem.F.type_list_append mt_append (pv 3) (pa_cons (pe_tup (pa_cons (pv 5) (pa_cons (pv 6) pa_nil))) pa_nil)))
      (pss_one (ps_if (PW.pt (pw_and (pt_cmpR op_eq (pe_ix ix_tup (pv 6) pe_int (fun _ _ => rfl)) pe_str (nomark _)) (pw_and (pt_val (pe_callH HLisName (hr.mono (by omega)) rfl (pa_cons (pe_ix ix_tup (pv 6) pe_int (fun _ _ => rfl)) pa_nil))) (pw_and1 (pt_cmpR op_gt_str (pe_ix ix_tup (pv 6) pe_int (fun _ _ => rfl)) (pv 1) (nomark _)))))) (pss_one (ps_expr (pe_bm PySem.F.plainAttrs_list PySem.F.slot_list_append PySem.F.type_list_append mt_append (pv 3) (pa_cons (pe_tup (pa_cons (pe_ix ix_tup (pv 6) pe_int (fun _ _ => rfl)) (pa_cons (pe_callH HLresultOf (hr.mono (by omega)) rfl (pa_cons (pv 0) (pa_cons (pe_ix ix_tup (pv 6) pe_int (fun _ _ => rfl)) pa_nil))) pa_nil))) pa_nil)))) pss_nil)))) pss_nil))))
      (pss_one (ps_ret (pv 3))))), ?_⟩
  refine ⟨Nat.zero_le _, fun l hl => ?_⟩
  have e0 := same_new (.lst []) hl
  refine ⟨_, rfl, _, rfl, name, z, rfl, hz, fun ps svs H1 np e1 h1 d1 => ?_⟩
  rw [hG] at d1
  have pne : ps ≠ l := fun z => by
    rw [z, upd_same] at np
    cases np
  have svl : svs.length = gs.length := by rw [dpa_len d1, List.length_map]
  generalize hPv : (fun (i : Nat) (σ : L2.St) (H' : Hp) => ∃ (vs : List V) (v4 v5 v6 : Option V), σ = [some (V.ref d), some (.str name), some (.str z), some (.ref l), v4, v5, v6] ∧ Made H H' l vs ∧
    DpAll K H' vs ((deps R name (gs.take i)).map Dep.d) ∧ SqL K H' ps svs ∧ DpAll K H' svs (gs.map Sg.d)) = Pv
  refine ⟨ps, rfl, ⟨_, SqL.of h1⟩, for_list (K := K) (a := ps) (xs := svs) Pv ?_ ?_ ?_ ?_⟩
  · subst hPv
    exact ⟨[], none, none, none, rfl, (Made.mk0 (Same.refl H) hl).go e1, .nil, SqL.of h1, d1⟩
  · subst hPv
    exact fun i σ H' _ ⟨_, _, _, _, _, _, _, h, _⟩ => h
  · rintro i x σ H' hx hp
    rw [← hPv] at hp
    obtain ⟨vs, v4, v5, v6, rfl, md, dv, sp', sd⟩ := hp
    obtain ⟨dd, g1, g2⟩ := dpa_get sd hx
    rw [List.getElem?_map] at g1
    obtain ⟨g, g3, g4⟩ := Option.map_eq_some_iff.mp g1
    subst g4
    have hi : i < gs.length := (List.getElem?_eq_some_iff.mp g3).1
    have sg := hgs g (List.mem_of_getElem? g3)
    obtain ⟨pa, rfl, hpa⟩ := sg_at g2
    have et := take_snoc g3
    have vl : vs.length ≤ 242 := by
      have h1 := deps_len R name (gs.take i)
      rw [List.length_take] at h1
      rw [dpa_len dv, List.length_map]
      omega
    have hRs : ∀ {H2}, Same H H2 → Rs K H2 d D := fun {H2} e => hR.same e
    -- the list grows by one dependency
    have grow : ∀ (H2 H3 : Hp) (vs : List V) (ds' : List Dep) (x : Dep) (v : V), Made H H2 l vs → DpAll K H2 vs (ds'.map Dep.d) → SqL K H2 ps svs → DpAll K H2 svs (gs.map Sg.d) → Same H2 H3 → Dp K H3 v (Dep.d x) →
        Made H (upd H3 l (.lst (vs ++ [v]))) l (vs ++ [v]) ∧ DpAll K (upd H3 l (.lst (vs ++ [v]))) (vs ++ [v]) ((ds' ++ [x]).map Dep.d) ∧ SqL K (upd H3 l (.lst (vs ++ [v]))) ps svs ∧ DpAll K (upd H3 l (.lst (vs ++ [v]))) svs (gs.map Sg.d) ∧ TS H3 (upd H3 l (.lst (vs ++ [v]))) := by
      intro H2 H3 vs ds' x v m2 d2 s2 sd2 e3 hx
      obtain ⟨m4, d4⟩ := push m2 d2 e3 hx (noLs_map noL_dep _) (noL_dep x)
      have t34 := (m2.go e3).ts (.lst (vs ++ [v]))
      rw [← List.map_singleton, ← List.map_append] at d4
      exact ⟨m4, d4, (m2.go e3).sqL (e3.seq s2) pne _, dpa_ts ((TS.same e3).trans t34) _ _ (noLs_map noL_sg _) sd2, t34⟩
    have skip : dep1 R name g = [] → ∀ v4 v5 v6, Pv (i + 1) [some (V.ref d), some (.str name), some (.str z), some (.ref l), v4, v5, v6] H' := by
      intro hk v4 v5 v6
      rw [← hPv]
      refine ⟨vs, _, _, _, rfl, md, ?_, sp', sd⟩
      rw [et, deps_snoc, hk, List.append_nil]
      exact dv
    refine ⟨pa, _, rfl, hpa, rfl, _, _, rfl, _, _, rfl, rfl, ?_⟩
    obtain ⟨k, s'⟩ := g
    refine ⟨_, rfl, rfl, _, rfl, ?_⟩
    rw [show decide (V.str (Kd.s (k, s').1) = V.str (Str.ofString "include")) = decide (k = .inc) from kd_inc k]
    refine iteB (fun c => ?_) (fun c => ?_)
    · have hk : k = .inc := of_decide_eq_true c
      subst hk
      refine ⟨_, rfl, .inl ⟨rfl, _, SqL.of md.at_⟩, _, rfl, _, rfl, _, rfl, d, D, s', rfl, hRs md.same, fun v H2 e2 dv2 => ⟨two_line, fun pt hpt => ?_⟩⟩
      rw [hRR] at dv2
      have m2 := md.go e2
      have e3 := same_new (.tup [.str s', v]) hpt
      refine ⟨l, vs, _, rfl, rfl, e3 _ _ m2.at_, line_lt (by omega), ?_⟩
      obtain ⟨m4, d4, s4, sd4, t4⟩ := grow H2 _ vs _ (s', R s') (.ref pt) m2 (dpa_same e2 _ _ dv) (e2.seq sp') (dpa_same e2 _ _ sd) e3 (dep_of (SqT.of upd_same) (dp_same e3 _ _ dv2))
      refine ⟨_, rfl, rfl, _, rfl, ?_⟩
      rw [show decide (V.str (Kd.s (Kd.inc, s').1) = V.str (Str.ofString "indirect")) = decide (Kd.inc = .ind) from kd_ind .inc]
      refine iteF ?_
      show Pv (i + 1) _ _
      rw [← hPv]
      refine ⟨_, _, _, _, rfl, m4, ?_, s4, sd4⟩
      rw [et, deps_snoc]
      exact d4
    · refine ⟨_, rfl, rfl, _, rfl, ?_⟩
      rw [show decide (V.str (Kd.s (k, s').1) = V.str (Str.ofString "indirect")) = decide (k = .ind) from kd_ind k]
      refine iteB (fun c2 => ?_) (fun c2 => ?_)
      · have hk : k = .ind := of_decide_eq_true c2
        subst hk
        refine ⟨_, rfl, _, rfl, d, D, s', rfl, hRs md.same, fun v H2 e2 dv2 => ?_⟩
        rw [hRR] at dv2
        have m2 := md.go e2
        refine ⟨_, rfl, .inl ⟨rfl, _, SqL.of m2.at_⟩, _, rfl, _, rfl, two_line, fun pt hpt => ?_⟩
        have e3 := same_new (.tup [.str s', v]) hpt
        refine ⟨l, vs, _, rfl, rfl, e3 _ _ m2.at_, line_lt (by omega), ?_⟩
        obtain ⟨m4, d4, s4, sd4, t4⟩ := grow H2 _ vs _ (s', R s') (.ref pt) m2 (dpa_same e2 _ _ dv) (e2.seq sp') (dpa_same e2 _ _ sd) e3 (dep_of (SqT.of upd_same) (dp_same e3 _ _ dv2))
        have dv4 := dp_ts ((TS.same e3).trans t4) _ _ (noL_res _) dv2
        generalize hH4 : upd (upd H2 pt (.tup [.str s', v])) l (.lst (vs ++ [.ref pt])) = H4 at *
        obtain ⟨pr, u, xs, rfl, hr1, hT⟩ := res_at dv4
        have stop : leads name (R s') = none → ∀ (H5 : Hp), Same H4 H5 → Pv (i + 1) [some (V.ref d), some (.str name), some (.str z), some (.ref l), some (.str (Kd.s Kd.ind)), some (.str s'), some (.ref pr)] H5 := by
          intro hle H5 e5
          rw [← hPv]
          refine ⟨_, _, _, _, rfl, m4.go e5, ?_, e5.seq s4, dpa_same e5 _ _ sd4⟩
          have hd1 : dep1 R name (.ind, s') = [(s', R s')] := by
            show (s', R s') :: (match leads name (R s') with | none => [] | some t => [(t, R t)]) = _
            rw [hle]
          rw [et, deps_snoc, hd1]
          exact dpa_same e5 _ _ d4
        refine ⟨_, rfl, pr, _, _, _, rfl, rfl, hr1, at0, rfl, _, rfl, ?_⟩
        rw [Res.w_text]
        refine iteB (fun c3 => ?_) (fun c3 => ?_)
        · obtain ⟨b, rfl, rfl, hb3⟩ := hT c3
          have er := Res.eta c3
          have hch := (hb s').1
          refine ⟨_, rfl, pr, _, _, _, rfl, rfl, hr1, at1, _, rfl, by omega, fun H5 e5 => ⟨_, rfl, ?_⟩⟩
          refine iteB (fun c4 => ?_) (fun c4 => iteF ?_)
          · refine ⟨_, rfl, pr, _, _, _, rfl, rfl, same_sqT e5 hr1, at1, _, rfl, _, _, rfl, rfl, _, rfl, ?_⟩
            refine iteB (fun c5 => ?_) (fun c5 => ?_)
            · have hle : leads name (R s') = some (R s').ch := by
                rw [er]
                exact if_pos ⟨c4, c5⟩
              have m5 := m4.go e5
              have hr5 := same_sqT e5 hr1
              refine ⟨_, rfl, .inl ⟨rfl, _, SqL.of m5.at_⟩, _, rfl, pr, _, _, _, rfl, rfl, hr5, at1, _, rfl, _, rfl, pr, _, _, _, rfl, rfl, hr5, at1, d, D, (R s').ch, rfl, hRs m5.same, fun v6 H6 e6 dv6 => ⟨two_line, fun pt2 hpt2 => ?_⟩⟩
              rw [hRR] at dv6
              have m6 := m5.go e6
              have e7 := same_new (.tup [.str (R s').ch, v6]) hpt2
              refine ⟨l, vs ++ [.ref pt], _, rfl, rfl, e7 _ _ m6.at_, line_lt (by rw [List.length_append]; show vs.length + 1 < _; omega), ?_⟩
              have e56 := e5.trans e6
              obtain ⟨m8, d8, s8, sd8, t8⟩ := grow H6 _ (vs ++ [.ref pt]) _ ((R s').ch, R (R s').ch) (.ref pt2) m6 (dpa_same e56 _ _ d4) (e56.seq s4) (dpa_same e56 _ _ sd4) e7 (dep_of (SqT.of upd_same) (dp_same e7 _ _ dv6))
              show Pv (i + 1) _ _
              rw [← hPv]
              refine ⟨_, _, _, _, rfl, m8, ?_, s8, sd8⟩
              have hd2 : dep1 R name (.ind, s') = [(s', R s'), ((R s').ch, R (R s').ch)] := by
                show (s', R s') :: (match leads name (R s') with | none => [] | some t => [(t, R t)]) = _
                rw [hle]
              rw [et, deps_snoc, hd2, show deps R name (gs.take i) ++ [(s', R s'), ((R s').ch, R (R s').ch)] = deps R name (gs.take i) ++ [(s', R s')] ++ [((R s').ch, R (R s').ch)] by simp]
              exact d8
            · refine stop ?_ _ e5
              rw [er]
              exact if_neg fun h => by
                have h2 : decide (name.cps.toList < (R s').ch.cps.toList) = true := h.2
                rw [h2] at c5
                cases c5
          · refine stop ?_ _ e5
            rw [er]
            exact if_neg fun h => by
              rw [h.1] at c4
              cases c4
        · refine iteF (stop ?_ _ (Same.refl _))
          revert c3
          cases R s' with
          | text c l => intro c3; cases c3
          | failed n => exact fun _ => rfl
          | long n => exact fun _ => rfl
      · refine skip ?_ _ _ _
        have h1 : k ≠ .inc := of_decide_eq_false c
        have h2 : k ≠ .ind := of_decide_eq_false c2
        cases k with
        | txt => rfl
        | lnk => rfl
        | inc => exact absurd rfl h1
        | ind => exact absurd rfl h2
  · rintro σ H' hp
    rw [← hPv] at hp
    obtain ⟨vs, v4, v5, v6, rfl, md, dv, sp', sd⟩ := hp
    rw [svl, List.take_length] at dv
    exact ⟨_, rfl, q l vs H' md.new md.same md.at_ dv⟩
end
end Pg


set_option Elab.async false
set_option linter.all false
set_option maxRecDepth 100000
set_option maxHeartbeats 4000000
/-! the law's side: joined, rendered -/
namespace Pg
open PySem PySem.Spec PyProof.Rows L2

def joinedR (R : Str → Res) (name z : Str) : Res := if 200 < (chars R name (split name z)).length then .long name else .text (chars R name (split name z)) (rise (links R name (split name z)))
def spLjoined (K : PySem.W.Frag) : Sp := fun vs H Q _ => ∃ (R : Str → Res) (name z : Str) (v : V), vs = [.str name, .str z, v] ∧ Good 60 z ∧ RB R ∧ Dp K H v (.list ((deps R name (split name z)).map Dep.d)) ∧ (∀ d ∈ deps R name (split name z), d.2.isT = true) ∧ RetD K H (joinedR R name z).d Q
def spLrendered (K : PySem.W.Frag) : Sp := fun vs H Q _ => ∃ (R : Str → Res) (name z : Str) (att : Int) (v : V), vs = [.str name, .str z, .int att, v] ∧ Good 60 z ∧ RB R ∧ Dp K H v (.list ((deps R name (split name z)).map Dep.d)) ∧ RetD K H (rend R name att z).d Q
theorem Rise.snoc {rs : List Str} {x : Str} (h : Rise rs) (hx : ∀ a ∈ rs, after x a = true) : Rise (rs ++ [x]) := by
  unfold Rise
  rw [List.pairwise_append]
  refine ⟨h, List.pairwise_singleton _ _, fun a ha b hb => ?_⟩
  rw [List.mem_singleton.mp hb]
  exact hx a ha
theorem Up.at {ys : List Str} (h : Up ys) {j : Nat} {x : Str} (hx : ys[j]? = some x) : ∀ a ∈ ys.take j, after a x = false := by
  have e : ys = ys.take j ++ x :: ys.drop (j + 1) := by
    obtain ⟨hl, hv⟩ := List.getElem?_eq_some_iff.mp hx
    rw [← hv, ← List.drop_eq_getElem_cons hl, List.take_append_drop]
  unfold Up at h
  rw [e, List.pairwise_append] at h
  exact fun a ha => h.2.2 a ha x List.mem_cons_self
section
variable {P : Program} {w : World} {K : PySem.W.Frag} {mg : Str → Option Value} {base : Heap} {a : Adr}
theorem has_ljoined (D : DefAt K mg "_law_joined" sLjoined ["_law_name_here", "_law_text_here", "_law_found"]) (T : Txt K w mg a) (HLsplit : Has P w K mg base 3 "_law_split" ["_law_name_here", "_law_text_here"] (spLsplit K))
    (HLisName : Has P w K mg base 1 "_law_is_name" ["_law_text_here"] spIsName) : Has P w K mg base 4 "_law_joined" ["_law_name_here", "_law_text_here", "_law_found"] (spLjoined K) := by
  refine D.has (k := 3) scLjoined (fun vs H Q E h => ?_) (fun f cdv A outer s H vs Q E hr h => ?_)
  · obtain ⟨R, name, z, v, rfl, _⟩ := h
    rfl
  obtain ⟨R, name, z, v, rfl, hz, hb, hv, hT, q⟩ := h
  obtain ⟨lf, fs, rfl, hl, hd⟩ := dp_lst hv
  have hgs := split_ok (name := name) hz (by decide : 6 ≤ 60)
  have hlen : (split name z).length ≤ 121 := Nat.le_trans (split_len name z) (by have := hz.1; omega)
  unfold joinedR at q
  generalize hG : split name z = gs at *
  have charsB : ∀ i, i ≤ gs.length → (chars R name (gs.take i)).length ≤ i * 200 := fun i hi => by
    have h1 := chars_len hb (gs.take i) Str.empty fun g hg => hgs g (List.mem_of_mem_take hg)
    rw [List.length_take, Nat.min_eq_left hi] at h1
    exact Nat.le_trans h1 (by show 0 + _ ≤ _; omega)
  refine ⟨_, (pss_cons (ps_set (i := 3) scLjoined.nd rfl (Or.inl rfl) pe_str)
      (pss_cons (ps_set (i := 4) scLjoined.nd rfl (Or.inl rfl) (pe_lst pa_nil))
      (pss_cons (ps_set (i := 5) scLjoined.nd rfl (Or.inl rfl) pe_int)
      (pss_cons (ps_for PassesOwn.never rfl (pi_list (pe_callH HLsplit (hr.mono (by omega)) rfl (pa_cons (pv 0) (pa_cons (pv 1) pa_nil)))) (pg_tup rfl (pgs_cons (pg_name (i := 6) scLjoined.nd rfl (Or.inl rfl)) (pgs_cons (pg_name (i := 7) scLjoined.nd rfl (Or.inl rfl)) pgs_nil))) (pss_one (ps_if (pt_cmpR op_eq (pv 6) pe_str (nomark _)) (pss_one (ps_set (i := 3) scLjoined.nd rfl (Or.inl rfl) (pe_op op_add_str (pv 3) (pv 7)))) (pss_one (ps_if (pt_cmpR op_eq (pv 6) pe_str (nomark _)) (pss_cons (ps_set (i := 3) scLjoined.nd rfl (Or.inl rfl) (pe_op op_add_str (pe_op op_add_str (pe_op op_add_str (pv 3) pe_str) (pv 7)) pe_str))
      (pss_one (ps_expr (pe_bm PySem.F.plainAttrs_list PySem.F.slot_list_append PySem.F.type_list_append mt_append (pv 4) (pa_cons (pv 7) pa_nil))))) (pss_cons (ps_set (i := 8) scLjoined.nd rfl (Or.inl rfl) (pe_ix ix_tup (pe_ix ix_list (pv 2) (pv 5) (fun _ _ => rfl)) pe_int (fun _ _ => rfl)))
      (pss_cons (ps_set (i := 5) scLjoined.nd rfl (Or.inl rfl) (pe_op op_add (pv 5) pe_int))
      (pss_cons (ps_if (pt_cmpR op_eq (pv 6) pe_str (nomark _)) (pss_one (ps_if (PW.pt (pw_and (pt_val (pe_callH HLisName (hr.mono (by omega)) rfl (pa_cons (pe_ix ix_tup (pv 8) pe_int (fun _ _ => rfl)) pa_nil))) (pw_and1 (pt_cmpR op_gt_str (pe_ix ix_tup (pv 8) pe_int (fun _ _ => rfl)) (pv 0) (nomark _))))) (pss_cons (ps_set (i := 8) scLjoined.nd rfl (Or.inl rfl) (pe_ix ix_tup (pe_ix ix_list (pv 2) (pv 5) (fun _ _ => rfl)) pe_int (fun _ _ => rfl)))
      (pss_one (ps_set (i := 5) scLjoined.nd rfl (Or.inl rfl) (pe_op op_add (pv 5) pe_int)))) (pss_one (ps_set (i := 8) scLjoined.nd rfl (Or.inl rfl) (pe_tup (pa_cons pe_str (pa_cons pe_str (pa_cons (pe_tup pa_nil) pa_nil)))))))) pss_nil)
      (pss_cons (ps_set (i := 3) scLjoined.nd rfl (Or.inl rfl) (pe_op op_add_str (pv 3) (pe_ix ix_tup (pv 8) pe_int (fun _ _ => rfl))))
      (pss_one (ps_set (i := 4) scLjoined.nd rfl (Or.inl rfl) (pe_op op_cat (pv 4) (pe_callTy call_list_of rfl T.nlist (by decide +kernel) (pa_cons (pe_ix ix_tup (pv 8) pe_int (fun _ _ => rfl)) pa_nil))))))))))))))
      (pss_cons (ps_set (i := 9) scLjoined.nd rfl (Or.inl rfl) (pe_lst pa_nil))
      (pss_cons (ps_for PassesOwn.never rfl (pi_list (pe_callB (cr_sortT rfl) rfl T.nsorted (by decide +kernel) (pa_cons (pv 4) pa_nil))) (pg_name (i := 10) scLjoined.nd rfl (Or.inl rfl)) (pss_one (ps_if (pt_cmpR op_notIn_seq (pv 10) (pv 9) rfl) (pss_one (ps_expr (pe_bm PySem.F.plainAttrs_list PySem.F.slot_list_append PySem.F.type_list_append mt_append (pv 9) (pa_cons (pv 10) pa_nil)))) pss_nil)))
      (pss_cons (ps_if (pt_cmpR op_gt (pe_callB call_len_str rfl T.nlen (by decide +kernel) (pa_cons (pv 3) pa_nil)) pe_int (nomark _)) (pss_one (ps_ret (pe_tup (pa_cons pe_str (pa_cons (pv 0) pa_nil))))) pss_nil)
      (pss_one (ps_ret (pe_tup (pa_cons pe_str (pa_cons (pv 3) (pa_cons (pe_callTy call_tuple_of rfl T.ntuple (by decide +kernel) (pa_cons (pv 9) pa_nil)) pa_nil))))))))))))), ?_⟩
  refine ⟨Nat.zero_le _, fun l0 hl0 => ?_⟩
  refine ⟨_, rfl, _, rfl, name, z, rfl, hz, fun p vs H1 np h0 h1 d1 => ?_⟩
  rw [hG] at d1
  have e01 := same_new (.lst []) hl0
  have hvs : vs.length = gs.length := by rw [dpa_len d1, List.length_map]
  generalize hPv : (fun (i : Nat) (σ : L2.St) (H' : Hp) => ∃ (lw : Addr) (v6 v7 v8 v9 v10 : Option V), σ = [some (V.str name), some (.str z), some (.ref lf), some (.str (chars R name (gs.take i))), some (.ref lw), some (.int ((deps R name (gs.take i)).length : Int)), v6, v7, v8, v9, v10] ∧
    H' p = some (.lst vs) ∧ DpAll K H' vs (gs.map Sg.d) ∧ Made H H' lw ((links R name (gs.take i)).map V.str) ∧ p ≠ lw ∧ (links R name (gs.take i)).length ≤ i * 1600) = Pv
  refine ⟨p, rfl, ⟨_, SqL.of h1⟩, for_list (K := K) (a := p) (xs := vs) Pv ?_ ?_ ?_ ?_⟩
  · subst hPv
    exact ⟨l0, none, none, none, none, none, rfl, h1, d1, (Made.mk0 (Same.refl H) hl0).go h0, (fun z => by rw [z, upd_same] at np; cases np), Nat.le_refl _⟩
  · subst hPv
    exact fun i σ H' _ ⟨_, _, _, _, _, _, _, h, _⟩ => SqL.of h
  · rintro i x σ H' hx hp
    have hp' := hp
    rw [← hPv] at hp'
    obtain ⟨lw, v6, v7, v8, v9, v10, rfl, hpl, dv, md, nlw, hll⟩ := hp'
    have e := md.same
    obtain ⟨dd, g1, g2⟩ := dpa_get dv hx
    rw [List.getElem?_map] at g1
    obtain ⟨g, g3, g4⟩ := Option.map_eq_some_iff.mp g1
    subst g4
    have hi : i < gs.length := (List.getElem?_eq_some_iff.mp g3).1
    have sg := hgs g (List.mem_of_getElem? g3)
    have sgl := sg.good.1
    obtain ⟨pa, rfl, hpa⟩ := sg_at g2
    have et := take_snoc g3
    have cB := charsB i (Nat.le_of_lt hi)
    obtain ⟨tail, hdt⟩ := deps_split R name g3
    have hdlen : (deps R name (gs.take i)).length ≤ 1000 := by
      have h1 := deps_len R name (gs.take i)
      rw [List.length_take] at h1
      omega
    -- a turn's end
    have fin : ∀ (c : Str) (n : Nat) (ls : List Str) (lw : Addr) (H2 : Hp) (v6 v7 v8 v9 v10 : Option V), c = stepC R name (chars R name (gs.take i)) g → n = (deps R name (gs.take i)).length + (dep1 R name g).length → ls = linksOf R name g → TS H' H2 → H2 p = some (.lst vs) →
        Made H H2 lw ((links R name (gs.take i) ++ ls).map V.str) → p ≠ lw → ls.length ≤ 1600 → Pv (i + 1) [some (V.str name), some (.str z), some (.ref lf), some (.str c), some (.ref lw), some (.int (n : Int)), v6, v7, v8, v9, v10] H2 := by
      intro c n ls lw H2 v6 v7 v8 v9 v10 ec en el t2 p2 m2 n2 hB
      rw [← hPv]
      refine ⟨lw, v6, v7, v8, v9, v10, ?_, p2, dpa_ts t2 _ _ (noLs_map noL_sg _) dv, ?_, n2, ?_⟩
      · rw [et, chars_snoc, deps_snoc, List.length_append, ec, en]
      · rw [et, links_snoc, ← el]
        exact m2
      · rw [et, links_snoc, ← el, List.length_append]
        omega
    -- the characters and the links of a result that is taken
    have take : ∀ (D : Ends) (pr b : Addr) (c : Str) (ls : List Str) (n : Nat) (H2 : Hp) (v6 v7 v9 v10 : Option V), (∀ σ H3, Pv (i + 1) σ H3 → D.nx σ H3) → SqT K H2 pr [.str "text", .str c, .ref b] → SqT K H2 b (ls.map V.str) → c = (chosen R name g).ch → ls = (chosen R name g).ls →
        (g.1 = .inc ∨ g.1 = .ind) → n = (deps R name (gs.take i)).length + (dep1 R name g).length → Same H' H2 →
        tSeq (tAsg (tOp rCatS (tVar 3) (tOp (rIxT K) (tVar 8) (tC (.int 1)))) (gName 3)) (tAsg (tOp rCat (tVar 4) (tCB (fun xs H Q => ∃ p ys, xs = [.ref p] ∧ (SqL K H p ys ∨ SqT K H p ys) ∧ ∀ l, H l = none → Q (.ref l) (upd H l (.lst ys))) (tCons (tOp (rIxT K) (tVar 8) (tC (.int 2))) tNil))) (gName 4)) D
          [some (V.str name), some (.str z), some (.ref lf), some (.str (chars R name (gs.take i))), some (.ref lw), some (.int (n : Int)), v6, v7, some (.ref pr), v9, v10] H2 := by
      intro D pr b c ls n H2 v6 v7 v9 v10 hD t1 t2 ec el hk en e2
      have hcl := chosen_len hb sg hk
      rw [← ec, ← el] at hcl
      have m2 := md.go e2
      refine ⟨_, rfl, _, rfl, pr, _, _, _, rfl, rfl, t1, at1, _, _, rfl, rfl, big_of (by omega), ?_⟩
      refine ⟨_, rfl, _, rfl, pr, _, _, _, rfl, rfl, t1, at2, b, _, rfl, .inr t2, fun l3 hl3 => ?_⟩
      have e3 := same_new (.lst (ls.map V.str)) hl3
      refine ⟨lw, l3, _, _, rfl, rfl, e3 _ _ m2.at_, upd_same, big_of (by rw [List.length_map, List.length_map]; omega), fun l4 hl4 => ?_⟩
      have e4 := same_new (.lst ((links R name (gs.take i)).map V.str ++ ls.map V.str)) hl4
      have eall := (e2.trans e3).trans e4
      have nl4 : H l4 = none := (m2.same.trans e3).free hl4
      have pl4 : p ≠ l4 := fun z => by
        have h5 := (e2.trans e3) _ _ hpl
        rw [z, hl4] at h5
        cases h5
      refine hD _ _ (fin _ n ls l4 _ _ _ _ _ _ ?_ en ?_ (TS.same eall) (eall _ _ hpl) ⟨(m2.same.trans e3).trans e4, nl4, ?_⟩ pl4 hcl.2)
      · obtain ⟨k, s'⟩ := g
        rw [ec]
        rcases hk with h | h
        · have h : k = .inc := h
          subst h
          rfl
        · have h : k = .ind := h
          subst h
          rfl
      · obtain ⟨k, s'⟩ := g
        rw [el]
        rcases hk with h | h
        · have h : k = .inc := h
          subst h
          rfl
        · have h : k = .ind := h
          subst h
          rfl
      · rw [upd_same, List.map_append]
    -- a dependency in its place
    have dep : ∀ (n : Nat) (x : Dep), (dep1 R name g)[n]? = some x → ∃ v, fs[(deps R name (gs.take i)).length + n]? = some v ∧ Dp K H v (Dep.d x) ∧ x.2.isT = true := by
      intro n x hx
      have hn : n < (dep1 R name g).length := (List.getElem?_eq_some_iff.mp hx).1
      have g5 : (deps R name gs)[(deps R name (gs.take i)).length + n]? = some x := by
        rw [hdt]
        refine app_at ?_
        rw [List.getElem?_append_left hn]
        exact hx
      obtain ⟨v, hv1, hv2⟩ := dpa_at hd (i := (deps R name (gs.take i)).length + n) (d := Dep.d x) (by rw [List.getElem?_map, g5]; rfl)
      exact ⟨v, hv1, hv2, hT x (List.mem_of_getElem? g5)⟩
    refine ⟨pa, _, rfl, hpa, rfl, _, _, rfl, _, _, rfl, rfl, ?_⟩
    obtain ⟨k, s'⟩ := g
    have sgl : s'.length ≤ 60 := sgl
    refine ⟨_, rfl, rfl, _, rfl, ?_⟩
    rw [show decide (V.str (Kd.s (k, s').1) = V.str (Str.ofString "text")) = decide (k = .txt) from kd_text k]
    refine iteB (fun c => ?_) (fun c => ?_)
    · have hk : k = .txt := of_decide_eq_true c
      subst hk
      refine ⟨_, rfl, _, rfl, _, _, rfl, rfl, big_of (by omega), ?_⟩
      exact fin _ _ [] lw H' _ _ _ _ _ rfl rfl rfl (TS.refl _) hpl (by rw [List.append_nil]; exact md) nlw (Nat.zero_le _)
    have hk1 : k ≠ .txt := of_decide_eq_false c
    refine ⟨_, rfl, rfl, _, rfl, ?_⟩
    rw [show decide (V.str (Kd.s (k, s').1) = V.str (Str.ofString "link")) = decide (k = .lnk) from kd_lnk k]
    refine iteB (fun c => ?_) (fun c => ?_)
    · have hk : k = .lnk := of_decide_eq_true c
      subst hk
      have l1 : ("[" : Str).length = 1 := by decide +kernel
      have l2 : ("]" : Str).length = 1 := by decide +kernel
      refine ⟨_, rfl, _, _, rfl, rfl, big_of (by rw [l1]; omega), _, rfl, _, _, rfl, rfl, big_of (by rw [len_append, l1]; omega), _, _, rfl, rfl, big_of (by rw [len_append, len_append, l1, l2]; omega), ?_⟩
      refine ⟨_, rfl, .inl ⟨rfl, _, SqL.of md.at_⟩, _, rfl, lw, _, _, rfl, rfl, md.at_, big_lt (by rw [List.length_map]; omega), ?_⟩
      refine fin _ _ [s'] lw _ _ _ _ _ _ rfl rfl rfl (md.ts _) (by rw [upd_ne nlw]; exact hpl) ?_ nlw (by show 1 ≤ 1600; omega)
      rw [List.map_append]
      exact md.app _
    have hk2 : k ≠ .lnk := of_decide_eq_false c
    have hk3 : k = .inc ∨ k = .ind := by cases k <;> simp at hk1 hk2 ⊢
    have hd0 : (dep1 R name (k, s'))[0]? = some (s', R s') := by rcases hk3 with rfl | rfl <;> rfl
    obtain ⟨u, hu1, hu2, hu3⟩ := dep 0 (s', R s') hd0
    obtain ⟨pd, u2, rfl, hpd, hpr⟩ := dep_at (dp_same e _ _ hu2)
    obtain ⟨pr, u3, xs3, rfl, ht3, hT3⟩ := res_at hpr
    obtain ⟨b, rfl, rfl, hb3⟩ := hT3 hu3
    have ew : Res.w (R s') = "text" := w_isT hu3
    rw [show ((s', R s') : Dep).2 = R s' from rfl] at ht3
    rw [ew] at ht3
    refine ⟨_, rfl, _, rfl, lf, _, _, _, rfl, rfl, e.seq hl, atI_nat (by rw [Nat.add_zero] at hu1; exact hu1), pd, _, _, _, rfl, rfl, hpd, at1, ?_⟩
    refine ⟨_, rfl, _, _, rfl, rfl, ?_⟩
    refine ⟨_, rfl, rfl, _, rfl, ?_⟩
    rw [show decide (V.str (Kd.s (k, s').1) = V.str (Str.ofString "indirect")) = decide (k = .ind) from kd_ind k]
    refine iteB (fun c => ?_) (fun c => ?_)
    · have hk : k = .ind := of_decide_eq_true c
      subst hk
      have hch := (hb s').1
      have er : R s' = .text (R s').ch (R s').ls := Res.eta hu3
      have none_ : leads name (R s') = none → ∀ H2, Same H' H2 → (tAsg (tTup (tCons (tC (.str "text")) (tCons (tC (.str "?")) (tCons (tTup tNil) tNil)))) (gName 8))
          { nx := (tSeq (tAsg (tOp rCatS (tVar 3) (tOp (rIxT K) (tVar 8) (tC (.int 1)))) (gName 3)) (tAsg (tOp rCat (tVar 4) (tCB (fun xs H Q => ∃ p ys, xs = [.ref p] ∧ (SqL K H p ys ∨ SqT K H p ys) ∧ ∀ l, H l = none → Q (.ref l) (upd H l (.lst ys))) (tCons (tOp (rIxT K) (tVar 8) (tC (.int 2))) tNil))) (gName 4))) { nx := Pv (i + 1), rt := Q }, rt := Q }
          [some (V.str name), some (.str z), some (.ref lf), some (.str (chars R name (gs.take i))), some (.ref lw), some (.int (((deps R name (gs.take i)).length + 1 : Nat) : Int)), some (.str (Kd.s Kd.ind)), some (.str s'), some (.ref pr), v9, v10] H2 := by
        intro hle H2 e2
        have ech : chosen R name (.ind, s') = nothing := by
          show (match leads name (R s') with | none => nothing | some t => R t) = _
          rw [hle]
        have ed : (dep1 R name (.ind, s')).length = 1 := by
          show ((s', R s') :: (match leads name (R s') with | none => [] | some t => [(t, R t)])).length = 1
          rw [hle]
          rfl
        refine ⟨Nat.zero_le _, fun p1 hp1 => ⟨three_line, fun p2 hp2 => ?_⟩⟩
        have e3 := same_new (.tup []) hp1
        have e4 := same_new (.tup [.str "text", .str "?", .ref p1]) hp2
        refine take _ p2 p1 "?" [] ((deps R name (gs.take i)).length + 1) _ _ _ _ _ (fun _ _ h => h) (SqT.of upd_same) (SqT.of (e4 _ _ upd_same)) ?_ ?_ (.inr rfl) ?_ ((e2.trans e3).trans e4)
        · rw [ech]
          rfl
        · rw [ech]
          rfl
        · rw [ed]
      refine ⟨_, rfl, pr, _, _, _, rfl, rfl, ht3, at1, _, rfl, Nat.le_trans hch (by decide), fun H2 e2 => ⟨_, rfl, ?_⟩⟩
      refine iteB (fun c4 => ?_) (fun c4 => iteF ?_)
      · refine ⟨_, rfl, pr, _, _, _, rfl, rfl, same_sqT e2 ht3, at1, _, rfl, _, _, rfl, rfl, _, rfl, ?_⟩
        refine iteB (fun c5 => ?_) (fun c5 => ?_)
        · have hle : leads name (R s') = some (R s').ch := by
            rw [er]
            exact if_pos ⟨c4, c5⟩
          have ed : dep1 R name (.ind, s') = [(s', R s'), ((R s').ch, R (R s').ch)] := by
            show (s', R s') :: (match leads name (R s') with | none => [] | some t => [(t, R t)]) = _
            rw [hle]
          have ech : chosen R name (.ind, s') = R (R s').ch := by
            show (match leads name (R s') with | none => nothing | some t => R t) = _
            rw [hle]
          obtain ⟨y, hy1, hy2, hy3⟩ := dep 1 ((R s').ch, R (R s').ch) (by rw [ed]; rfl)
          obtain ⟨pe, u4, rfl, hpe, hpf⟩ := dep_at (dp_same (e.trans e2) _ _ hy2)
          obtain ⟨pr2, u5, xs5, rfl, ht5, hT5⟩ := res_at hpf
          obtain ⟨b5, rfl, rfl, hb5⟩ := hT5 hy3
          have ew5 : Res.w (R (R s').ch) = "text" := w_isT hy3
          rw [show (((R s').ch, R (R s').ch) : Dep).2 = R (R s').ch from rfl] at ht5
          rw [ew5] at ht5
          refine ⟨_, rfl, _, rfl, lf, _, _, _, rfl, rfl, (e.trans e2).seq hl, atI_nat (j := (deps R name (gs.take i)).length + 1) hy1, pe, _, _, _, rfl, rfl, hpe, at1, ?_⟩
          refine ⟨_, rfl, _, _, rfl, rfl, ?_⟩
          refine take _ pr2 b5 _ _ ((deps R name (gs.take i)).length + 2) H2 _ _ _ _ (fun _ _ h => h) ht5 hb5 ?_ ?_ (.inr rfl) ?_ e2
          · rw [ech]
          · rw [ech]
          · rw [ed]
            rfl
        · refine none_ ?_ H2 e2
          rw [er]
          exact if_neg fun h => by
            have h2 : decide (name.cps.toList < (R s').ch.cps.toList) = true := h.2
            rw [h2] at c5
            cases c5
      · refine none_ ?_ H2 e2
        rw [er]
        exact if_neg fun h => by
          rw [h.1] at c4
          cases c4
    · have hk : k = .inc := by
        rcases hk3 with h | h
        · exact h
        · exact absurd h (of_decide_eq_false c)
      subst hk
      exact take _ pr b _ _ ((deps R name (gs.take i)).length + 1) H' _ _ _ _ (fun _ _ h => h) ht3 hb3 rfl rfl (.inl rfl) rfl (Same.refl _)
  · rintro σ H' hp
    rw [← hPv] at hp
    obtain ⟨lw, v6, v7, v8, v9, v10, rfl, hpl, dv, md, nlw, hll⟩ := hp
    have cB := charsB gs.length (Nat.le_refl _)
    rw [hvs] at hll
    rw [hvs, List.take_length] at md ⊢
    rw [List.take_length] at hll cB
    refine ⟨Nat.zero_le _, fun lr hlr => ?_⟩
    have e2 := same_new (.lst []) hlr
    refine ⟨_, rfl, lw, links R name gs, rfl, big_of (by omega), .inl (SqL.of (e2 _ _ md.at_)), fun ys ps hpm hso hps => ⟨ps, rfl, ⟨_, SqL.of upd_same⟩, ?_⟩⟩
    have e3 := same_new (.lst (ys.map V.str)) hps
    have hup := up_of hso
    have nrs : ps ≠ lr := fun z => by
      rw [z, upd_same] at hps
      cases hps
    have nlr : H lr = none := md.same.free hlr
    have hyl : ys.length ≤ 200000 := by
      rw [hpm.length_eq]
      omega
    refine for_list (K := K) (a := ps) (xs := ys.map V.str) (fun j σ H3 => ∃ (v10 : Option V) (rs : List Str), σ = [some (V.str name), some (.str z), some (.ref lf), some (.str (chars R name gs)), some (.ref lw), some (.int ((deps R name gs).length : Int)), v6, v7, v8, some (.ref lr), v10] ∧
      Made H H3 lr (rs.map V.str) ∧ H3 ps = some (.lst (ys.map V.str)) ∧ Rise rs ∧ (∀ x, x ∈ rs ↔ x ∈ ys.take j) ∧ rs.length ≤ j) ?_ ?_ ?_ ?_
    · exact ⟨_, [], rfl, ⟨(md.same.trans e2).trans e3, nlr, e3 _ _ upd_same⟩, upd_same, List.Pairwise.nil, fun x => Iff.rfl, Nat.le_refl _⟩
    · exact fun j σ H3 _ ⟨_, _, _, _, h, _⟩ => SqL.of h
    · rintro j y σ H3 hy ⟨v10, rs, rfl, m3, p3, ri, mm, hlr2⟩
      rw [List.getElem?_map] at hy
      obtain ⟨x, hx, rfl⟩ := Option.map_eq_some_iff.mp hy
      have hj : j < ys.length := (List.getElem?_eq_some_iff.mp hx).1
      refine ⟨_, rfl, _, rfl, lr, _, rfl, .inl (SqL.of m3.at_), rfl, flat_str rs, ?_⟩
      rw [inV_str]
      refine ⟨_, rfl, ?_⟩
      refine iteB (fun c => ?_) (fun c => ?_)
      · have hx2 : x ∉ rs := fun h => by
          rw [decide_eq_true h] at c
          cases c
        refine ⟨_, rfl, .inl ⟨rfl, _, SqL.of m3.at_⟩, _, rfl, lr, _, _, rfl, rfl, m3.at_, big_lt (by rw [List.length_map]; omega), ?_⟩
        refine ⟨_, rs ++ [x], rfl, by rw [List.map_append]; exact m3.app _, by rw [upd_ne nrs]; exact p3, ri.snoc fun a ha => ?_, fun y => ?_, by rw [List.length_append]; exact Nat.succ_le_succ hlr2⟩
        · have h1 := hup.at hx a ((mm a).mp ha)
          cases h2 : after x a with
          | true => rfl
          | false =>
            have e := after_tri h1 h2
            rw [e] at ha
            exact absurd ha hx2
        · rw [List.mem_append, mm, take_snoc hx, List.mem_append]
      · have hx2 : x ∈ rs := by
          cases h : decide (x ∈ rs) with
          | true => exact of_decide_eq_true h
          | false =>
            rw [h] at c
            cases c
        refine ⟨_, rs, rfl, m3, p3, ri, fun y => ?_, Nat.le_succ_of_le hlr2⟩
        rw [take_snoc hx, List.mem_append, List.mem_singleton, mm]
        exact ⟨.inl, fun h => h.elim id fun h => by rw [h]; exact (mm x).mp hx2⟩
    · rintro σ H3 ⟨v10, rs, rfl, m3, p3, ri, mm, hlr2⟩
      have er : rs = rise (links R name gs) := Rise.uniq ri (rise_rise _) fun x => by
        rw [mm, List.length_map, List.take_length, mem_rise]
        exact hpm.mem_iff
      rw [er] at m3
      refine ⟨_, rfl, _, rfl, big_of (by omega), _, _, rfl, rfl, _, rfl, ?_⟩
      refine iteB (fun c => ?_) (fun c => ?_)
      · have hc : 200 < (chars R name gs).length := by
          have := of_decide_eq_true c
          omega
        rw [if_pos hc] at q
        refine ⟨_, rfl, two_line, fun pt hpt => ?_⟩
        exact q _ _ (m3.same.trans (same_new _ hpt)) (long_of (SqT.of upd_same))
      · have hc : ¬ 200 < (chars R name gs).length := by
          have := of_decide_eq_false c
          omega
        rw [if_neg hc] at q
        refine ⟨_, rfl, _, rfl, lr, _, rfl, .inl ⟨SqL.of m3.at_, fun b hb' => ⟨three_line, fun p' hp' => ?_⟩⟩⟩
        have s2 := same_new (.tup ((rise (links R name gs)).map V.str)) hb'
        have s3 := same_new (.tup [.str "text", .str (chars R name gs), .ref b]) hp'
        exact q _ _ ((m3.same.trans s2).trans s3) (res_of (SqT.of upd_same) (SqT.of (s3 _ _ upd_same)))
theorem has_lrendered (D : DefAt K mg "_law_rendered" sLrendered ["_law_name_here", "_law_text_here", "_law_attempts", "_law_found"]) (T : Txt K w mg a)
    (HLjoined : Has P w K mg base 4 "_law_joined" ["_law_name_here", "_law_text_here", "_law_found"] (spLjoined K)) : Has P w K mg base 5 "_law_rendered" ["_law_name_here", "_law_text_here", "_law_attempts", "_law_found"] (spLrendered K) := by
  refine D.has (k := 4) scLrendered (fun vs H Q E h => ?_) (fun f cdv A outer s H vs Q E hr h => ?_)
  · obtain ⟨R, name, z, att, v, rfl, _⟩ := h
    rfl
  obtain ⟨R, name, z, att, v, rfl, hz, hb, hv, q⟩ := h
  obtain ⟨lf, fs, rfl, hl, hd⟩ := dp_lst hv
  refine ⟨_, (pss_cons (ps_if (pt_cmpR op_ge (pe_bm PySem.F.plainAttrs_str PySem.F.slot_str_count PySem.F.type_str_count mt_count (pv 1) (pa_cons pe_str pa_nil)) (pv 2) (nomark _)) (pss_one (ps_ret (pe_tup (pa_cons pe_str (pa_cons (pv 0) pa_nil))))) pss_nil)
      (pss_cons (ps_for PassesOwn.never rfl (pi_list (pv 3)) (pg_tup rfl (pgs_cons (pg_name (i := 4) scLrendered.nd rfl (Or.inl rfl)) (pgs_cons (pg_name (i := 5) scLrendered.nd rfl (Or.inl rfl)) pgs_nil))) (pss_one (ps_if (pt_cmpR op_ne (pe_ix ix_tup (pv 5) pe_int (fun _ _ => rfl)) pe_str (nomark _)) (pss_one (ps_ret (pv 5))) pss_nil)))
      (pss_one (ps_ret (pe_callH HLjoined (hr.mono (by omega)) rfl (pa_cons (pv 0) (pa_cons (pv 1) (pa_cons (pv 3) pa_nil)))))))), ?_⟩
  refine ⟨_, rfl, rfl, _, _, rfl, rfl, _, rfl, _, _, rfl, rfl, _, rfl, ?_⟩
  unfold rend at q
  refine iteB (fun c => ?_) (fun c => ?_)
  · have c' : att ≤ fails z := of_decide_eq_true c
    rw [if_pos c'] at q
    refine ⟨_, rfl, two_line, fun p hp => ?_⟩
    exact q _ _ (same_new _ hp) (failed_of (SqT.of upd_same))
  · have c' : ¬ att ≤ fails z := of_decide_eq_false c
    rw [if_neg c'] at q
    generalize hds : deps R name (split name z) = ds at *
    refine ⟨_, rfl, lf, rfl, ⟨_, hl⟩, for_list (K := K) (a := lf) (xs := fs) (fun i σ H' => ∃ v4 v5 : Option V, σ = [some (.str name), some (.str z), some (.int att), some (.ref lf), v4, v5] ∧ H' = H ∧ ∀ d ∈ ds.take i, d.2.isT = true)
      ⟨none, none, rfl, rfl, fun d h => (by cases h)⟩ (fun i σ H' _ ⟨_, _, _, e, _⟩ => by rw [e]; exact hl) ?_ ?_⟩
    · rintro i x σ H' hx ⟨v4, v5, rfl, rfl, ht⟩
      obtain ⟨dd, g1, g2⟩ := dpa_get hd hx
      rw [List.getElem?_map] at g1
      obtain ⟨d, g3, g4⟩ := Option.map_eq_some_iff.mp g1
      subst g4
      obtain ⟨pd, u, rfl, hp, hu⟩ := dep_at g2
      obtain ⟨pr, u1, xs1, rfl, hr1, hT⟩ := res_at hu
      refine ⟨pd, _, rfl, hp, rfl, _, _, rfl, _, _, rfl, rfl, ?_⟩
      refine ⟨_, rfl, pr, _, _, _, rfl, rfl, hr1, at0, rfl, _, rfl, ?_⟩
      rw [Res.w_text]
      cases hT2 : d.2.isT with
      | true =>
        refine iteF ⟨_, _, rfl, rfl, fun d' hd' => ?_⟩
        rw [take_snoc g3] at hd'
        rcases List.mem_append.mp hd' with h | h
        · exact ht d' h
        · rw [List.mem_singleton.mp h]
          exact hT2
      | false =>
        refine iteT ⟨_, rfl, ?_⟩
        rw [find_take g3 (p := fun d => !d.2.isT) (fun x hx => by rw [ht x hx]; rfl) (by rw [hT2]; rfl)] at q
        exact q _ _ (Same.refl _) hu
    · rintro σ H' ⟨v4, v5, rfl, rfl, ht⟩
      have hlen : fs.length = ds.length := by rw [dpa_len hd, List.length_map]
      rw [hlen, List.take_length] at ht
      rw [List.find?_eq_none.mpr fun x hx => by rw [ht x hx]; simp] at q
      refine ⟨_, rfl, _, rfl, _, rfl, R, name, z, .ref lf, rfl, hz, hb, by rw [hds]; exact hv, by rw [hds]; exact ht, fun v' H2 e2 d2 => ?_⟩
      exact q v' H2 e2 d2
end
end Pg


set_option Elab.async false
set_option linter.all false
set_option maxRecDepth 100000
set_option maxHeartbeats 4000000
/-! the law's side: the results of all names -/
namespace Pg
open PySem PySem.Spec PyProof.Rows L2

def spLresults (K : PySem.W.Frag) : Sp := fun vs H Q _ => ∃ (src : Src) (att : Int) (ds : Addr), vs = [.ref ds, .int att] ∧ SrcOk src ∧ H ds = some (.dK (srcK src)) ∧ ∀ p D H', Fix src att (lkR D) → H p = none → Same H H' → Rs K H' p D → Q (.ref p) H'
theorem Rs.lst {K : PySem.W.Frag} {H : Hp} {d l : Addr} {D : RD} {xs ys : List V} (h : Rs K H d D) (hl : H l = some (.lst xs)) : Rs K (upd H l (.lst ys)) d D := by
  obtain ⟨kvs, h1, h2, h3⟩ := h.ex
  have t : TS H (upd H l (.lst ys)) := TS.set _ hl rfl
  exact ⟨kvs, by rw [upd_ne (ne_of h1 hl (by intro z; cases z))]; exact h1, h2, fun n v q => dp_ts t _ _ (noL_res _) (h3 n v q)⟩
theorem Rs.put {K : PySem.W.Frag} {H : Hp} {d : Addr} {D : RD} {n : Str} {v : V} {r : Res} (h : Rs K H d D) (hn : n ∉ D.map (·.1)) (hv : Dp K H v r.d) (hl : D.length ≤ 1000) : ∃ H', DPut H d (.str n) v H' ∧ (∃ o, H' = upd H d o) ∧ Rs K H' d (D ++ [(n, r)]) := by
  obtain ⟨kvs, h1, h2, h3⟩ := h.ex
  have hlen : kvs.length = D.length := by
    have e := congrArg List.length h2
    rwa [List.length_map, List.length_map] at e
  have t : TS H (upd H d (.dK (putK kvs (Sum.inr n) v))) := TS.set _ h1 rfl
  have hvn : valV kvs (Sum.inr n) = .none := by
    cases q : valV kvs (Sum.inr n : Key) with
    | none => rfl
    | some u =>
      have hm := valV_mem.mp (show (valV kvs (Sum.inr n : Key)).isSome = true by rw [q]; rfl)
      rw [h2] at hm
      obtain ⟨p, hp, e⟩ := List.mem_map.mp hm
      exact absurd (List.mem_map.mpr ⟨p, hp, Sum.inr.inj e⟩) hn
  refine ⟨_, DPut.k (k := Sum.inr n) h1 (by rw [hlen]; exact big_lt (by omega)), ⟨_, rfl⟩, _, upd_same, ?_, fun m u hu => ?_⟩
  · rw [putK_new _ hvn, List.map_append, h2, List.map_append]
    rfl
  · rw [valV_put] at hu
    rw [lkR_snoc hn]
    by_cases e : m = n
    · rw [if_pos (by rw [e])] at hu
      rw [if_pos e, ← Option.some.inj hu]
      exact dp_ts t _ _ (noL_res _) hv
    · rw [if_neg fun z => e (Sum.inr.inj z)] at hu
      rw [if_neg e]
      exact dp_ts t _ _ (noL_res _) (h3 m u hu)
theorem srcK_keys (src : Src) : (srcK src).map (·.1) = (src.map (·.1)).map Sum.inr := by
  unfold srcK
  rw [List.map_map, List.map_map]
  rfl
section
variable {P : Program} {w : World} {K : PySem.W.Frag} {mg : Str → Option Value} {base : Heap} {a : Adr}
theorem has_lresults (D : DefAt K mg "_law_results" sLresults ["_law_sources_here", "_law_attempts"]) (T : Txt K w mg a) (HLdependencies : Has P w K mg base 4 "_law_dependencies" ["_law_results_here", "_law_name_here", "_law_text_here"] (spLdeps K))
    (HLrendered : Has P w K mg base 5 "_law_rendered" ["_law_name_here", "_law_text_here", "_law_attempts", "_law_found"] (spLrendered K)) : Has P w K mg base 6 "_law_results" ["_law_sources_here", "_law_attempts"] (spLresults K) := by
  refine D.has (k := 5) scLresults (fun vs H Q E h => ?_) (fun f cdv A outer s H vs Q E hr h => ?_)
  · obtain ⟨src, att, ds, rfl, _⟩ := h
    rfl
  obtain ⟨src, att, ds, rfl, S, hds, q⟩ := h
  have hsl := S.len
  refine ⟨_, (pss_cons (ps_set (i := 2) scLresults.nd rfl (Or.inl rfl) pe_dnewK)
      (pss_cons (ps_for PassesOwn.never rfl (pi_list (pe_revL (pe_callB (cr_sortT rfl) rfl T.nsorted (by decide +kernel) (pa_cons (pv 0) pa_nil)))) (pg_name (i := 3) scLresults.nd rfl (Or.inl rfl)) (pss_cons (ps_set (i := 4) scLresults.nd rfl (Or.inl rfl) (pe_callH HLdependencies (hr.mono (by omega)) rfl (pa_cons (pv 2) (pa_cons (pv 3) (pa_cons (pe_dget (hu_of hr) (pv 0) (pv 3) (fun _ _ => rfl)) pa_nil)))))
      (pss_one (ps_dput (hu_of hr) (pv 2) (pv 3) (pe_callH HLrendered (hr.mono (by omega)) rfl (pa_cons (pv 3) (pa_cons (pe_dget (hu_of hr) (pv 0) (pv 3) (fun _ _ => rfl)) (pa_cons (pv 1) (pa_cons (pv 4) pa_nil))))) rfl))))
      (pss_one (ps_ret (pv 2))))), ?_⟩
  intro dr hdr
  have e0 := same_new (.dK []) hdr
  refine ⟨_, rfl, ds, src.map (·.1), rfl, big_of (by rw [List.length_map]; omega), .inr (.inr ⟨_, .inl (e0 _ _ hds), srcK_keys src⟩), fun ys ps hpm hso hps => ?_⟩
  have e1 := same_new (.lst (ys.map V.str)) hps
  refine ⟨ps, _, rfl, SqL.of upd_same, fun pz hpz => ?_⟩
  rw [← List.map_reverse]
  have e2 := same_new (.lst (ys.reverse.map V.str)) hpz
  have hri : Rise ys := by
    have h := rise_rise (src.map (·.1))
    rwa [← sorted_rise hpm hso S.nd] at h
  have hmem : ∀ n, n ∈ ys.reverse ↔ n ∈ src.map (·.1) := fun n => by rw [List.mem_reverse]; exact hpm.mem_iff
  have hdesc : ys.reverse.Pairwise fun a b => after a b = true := List.pairwise_reverse.mpr hri
  have hlen : ys.reverse.length ≤ 13 := by
    rw [List.length_reverse, hpm.length_eq, List.length_map]
    exact hsl
  generalize ys.reverse = zs at *
  have hdr0 : H dr = none := hdr
  have nzr : dr ≠ pz := by
    have h : upd (upd H dr (.dK [])) ps (.lst (ys.map V.str)) dr = some (.dK []) := e1 _ _ upd_same
    exact ne_of_none h hpz
  refine ⟨pz, rfl, ⟨_, SqL.of upd_same⟩, for_list (K := K) (a := pz) (xs := zs.map V.str) (fun j σ H' => ∃ (D : RD) (v3 v4 : Option V), σ = [some (.ref ds), some (.int att), some (.ref dr), v3, v4] ∧ Part src att (zs.take j) D ∧ Same H H' ∧ H' pz = some (.lst (zs.map V.str)) ∧ Rs K H' dr D ∧ D.length ≤ j) ?_ ?_ ?_ ?_⟩
  · exact ⟨[], _, _, rfl, Part.nil src att, (e0.trans e1).trans e2, upd_same, ⟨[], e2 _ _ (e1 _ _ upd_same), rfl, fun n v h => (by cases h)⟩, Nat.le_refl _⟩
  · exact fun j σ H' _ ⟨_, _, _, _, _, _, h, _⟩ => SqL.of h
  · rintro j x σ H' hx ⟨D, v3, v4, rfl, hP, e, hz, hR, hDl⟩
    rw [List.getElem?_map] at hx
    obtain ⟨n, hn, rfl⟩ := Option.map_eq_some_iff.mp hx
    have hj : j < zs.length := (List.getElem?_eq_some_iff.mp hn).1
    have hnk : n ∈ src.map (·.1) := (hmem n).mp (List.mem_of_getElem? hn)
    obtain ⟨z, hzz⟩ := lk_of hnk
    have gz := (S.good _ (lk_mem hzz)).2
    have haft : ∀ m ∈ zs.take j, after m n = true := by
      have e : zs = zs.take j ++ n :: zs.drop (j + 1) := by
        obtain ⟨hl, hv⟩ := List.getElem?_eq_some_iff.mp hn
        rw [← hv, ← List.drop_eq_getElem_cons hl, List.take_append_drop]
      rw [e, List.pairwise_append] at hdesc
      exact fun m hm => hdesc.2.2 m hm n List.mem_cons_self
    obtain ⟨src', S', F'⟩ := hP.sub S fun m hm => (hmem m).mp (List.mem_of_mem_take hm)
    have rb := F'.rb S'
    have dget : ∀ {H2}, Same H H2 → DGet H2 ds (.str n) (some (.str z)) := fun {H2} e => by
      have h := DGet.k (k := Sum.inr n) (e _ _ hds)
      rw [valV_src, hzz] at h
      exact h
    refine ⟨_, rfl, _, rfl, _, rfl, _, rfl, ds, .str z, rfl, dget e, dr, D, n, z, rfl, hR, rb, gz, fun l vs' H2 hl2 e2 hl3 dl => ?_⟩
    refine ⟨_, rfl, _, rfl, _, rfl, ds, .str z, rfl, dget (e.trans e2), _, rfl, _, rfl, lkR D, n, z, att, .ref l, rfl, gz, rb, .lst (SqL.of hl3) dl, fun v H3 e3 dv => ?_⟩
    have hn2 : n ∉ D.map (·.1) := fun h => by
      rw [hP.keys] at h
      have := haft n h
      rw [after_irrefl] at this
      cases this
    obtain ⟨H4, p4, ⟨o4, rfl⟩, R4⟩ := (((hR.same e2).same e3).put hn2 dv (by omega))
    refine ⟨_, rfl, _, rfl, dr, _, rfl, p4, _, _, _, rfl, ?_, same_hid ((e.trans e2).trans e3) hdr0 _, ?_, R4, by rw [List.length_append]; exact Nat.succ_le_succ hDl⟩
    · rw [take_snoc hn]
      exact hP.snoc S hzz haft
    · rw [upd_ne nzr.symm]
      exact e3 _ _ (e2 _ _ hz)
  · rintro σ H' ⟨D, v3, v4, rfl, hP, e, hz, hR, hDl⟩
    rw [List.length_map, List.take_length] at hP
    exact ⟨_, rfl, q dr D H' (hP.fix hmem) hdr0 e hR⟩
end
end Pg


set_option Elab.async false
set_option linter.all false
set_option maxRecDepth 100000
set_option maxHeartbeats 4000000
/-! the law's side: what is required -/
namespace Pg
open PySem PySem.Spec PyProof.Rows L2

/-- a fix tells one result of each name -/
theorem Fix.uniq {src : Src} {att : Int} {R R' : Str → Res} (S : SrcOk src) (F : Fix src att R) (F' : Fix src att R') : ∀ (k : Nat) (n : Str), rk src n < k → R n = R' n
  | 0, _, h => absurd h (Nat.not_lt_zero _)
  | k + 1, n, h => by
    cases e : lk src n with
    | none => rw [F.nx n e, F'.nx n e]
    | some z =>
      rw [F.fx n z e, F'.fx n z e]
      refine rend_congr (S.good _ (lk_mem e)).2 (by decide) fun x hx => ?_
      cases e2 : lk src x with
      | none => rw [F.nx x e2, F'.nx x e2]
      | some y => exact Fix.uniq S F F' k x (Nat.lt_of_lt_of_le (rk_lt (lk_in e2) hx) (Nat.le_of_lt_succ h))
theorem Fix.eq {src : Src} {att : Int} {R R' : Str → Res} (S : SrcOk src) (F : Fix src att R) (F' : Fix src att R') : R = R' := funext fun n => F.uniq S F' _ n (Nat.lt_succ_self _)
/-- the names found that have a source -/
def srcd (src : Src) (F : List Str) : Nat := ((src.map (·.1)).filter fun n => decide (n ∈ F)).length
theorem srcd_le (src : Src) (F : List Str) : srcd src F ≤ src.length := Nat.le_trans (List.length_filter_le _ _) (Nat.le_of_eq (List.length_map _))
theorem srcd_lt {src : Src} {F G : List Str} {n : Str} (hs : ∀ x ∈ F, x ∈ G) (hn : n ∈ src.map (·.1)) (h1 : n ∈ G) (h2 : n ∉ F) : srcd src F < srcd src G := by
  unfold srcd
  generalize src.map (·.1) = ks at hn
  have mono : ∀ l : List Str, (l.filter fun n => decide (n ∈ F)).length ≤ (l.filter fun n => decide (n ∈ G)).length := by
    intro l
    induction l with
    | nil => exact Nat.le_refl _
    | cons x r ih =>
      rw [List.filter_cons, List.filter_cons]
      by_cases hx : x ∈ F
      · rw [if_pos (decide_eq_true hx), if_pos (decide_eq_true (hs x hx))]
        exact Nat.succ_le_succ ih
      · rw [if_neg (by rw [decide_eq_false hx]; exact Bool.false_ne_true)]
        split
        · exact Nat.le_succ_of_le ih
        · exact ih
  induction ks with
  | nil => cases hn
  | cons x r ih =>
    rw [List.filter_cons, List.filter_cons]
    rcases List.mem_cons.mp hn with e | hn
    · subst e
      rw [if_neg (by rw [decide_eq_false h2]; exact Bool.false_ne_true), if_pos (decide_eq_true h1), List.length_cons]
      exact Nat.lt_succ_of_le (mono r)
    · have ih' := ih hn
      by_cases hx : x ∈ F
      · rw [if_pos (decide_eq_true hx), if_pos (decide_eq_true (hs x hx))]
        exact Nat.succ_lt_succ ih'
      · rw [if_neg (by rw [decide_eq_false hx]; exact Bool.false_ne_true)]
        split
        · exact Nat.lt_succ_of_lt ih'
        · exact ih'
/-- names found on the way: none twice, the pages among them, none that need not be there -/
structure Fnd (src : Src) (R : Str → Res) (pages F : List Str) : Prop where
  nd : F.Nodup
  pg : ∀ p ∈ pages, p ∈ F
  ls : ∀ T', (∀ p ∈ pages, p ∈ T') → Closed src R T' → ∀ n ∈ F, n ∈ T'
theorem Fnd.len {src : Src} {R : Str → Res} {pages F : List Str} (S : SrcOk src) (h : Fnd src R pages F) : F.length ≤ pages.length + 13 * 242 :=
  Nat.le_trans (nodup_sub h.nd fun n hn => h.ls _ univ_pg (univ_cl src R pages) n hn) (univ_len S R pages)
theorem Fnd.snoc {src : Src} {R : Str → Res} {pages F : List Str} {n x z : Str} (h : Fnd src R pages F) (hn : n ∈ F) (hz : lk src n = some z) {d : Dep} (hd : d ∈ deps R n (split n z)) (hx : d.1 ∉ F) : Fnd src R pages (F ++ [d.1]) := by
  refine ⟨nd_snoc h.nd hx, fun p hp => List.mem_append_left _ (h.pg p hp), fun T' h1 h2 m hm => ?_⟩
  rcases List.mem_append.mp hm with hm | hm
  · exact h.ls T' h1 h2 m hm
  · rw [List.mem_singleton.mp hm]
    exact h2 n (h.ls T' h1 h2 n hn) z hz d hd
/-- behind a turn -/
theorem turn_done {src : Src} {R : Str → Res} {pages F G : List Str} {t : Nat} (hF : Fnd src R pages F) (hG : Fnd src R pages G) (sub : ∀ x ∈ F, x ∈ G) (all : ∀ n ∈ F, ∀ z, lk src n = some z → ∀ d ∈ deps R n (split n z), d.1 ∈ G)
    (h : Closed src R F ∨ t ≤ srcd src F) : Closed src R G ∨ t + 1 ≤ srcd src G := by
  by_cases hc : Closed src R F
  · left
    have back : ∀ x ∈ G, x ∈ F := hG.ls F hF.pg hc
    exact fun n hn z hz d hd => sub _ (hc n (back n hn) z hz d hd)
  · have ht := h.resolve_left hc
    by_cases hn : ∃ n, n ∈ src.map (·.1) ∧ n ∈ G ∧ n ∉ F
    · obtain ⟨n, h1, h2, h3⟩ := hn
      right
      have := srcd_lt sub h1 h2 h3
      omega
    · left
      intro n hnG z hz d hd
      have hnF : n ∈ F := by
        by_cases q : n ∈ F
        · exact q
        · exact absurd ⟨n, lk_in hz, hnG, q⟩ hn
      exact all n hnF z hz d hd
def spLrequired (K : PySem.W.Frag) : Sp := fun vs H Q _ => ∃ (src : Src) (att : Int) (R : Str → Res) (ds pg : Addr) (pages : List Str), vs = [.ref ds, .int att, .ref pg] ∧ SrcOk src ∧ Fix src att R ∧ H ds = some (.dK (srcK src)) ∧ SqT K H pg (pages.map V.str) ∧ pages.Nodup ∧ pages.length ≤ 100 ∧
  ∀ T l H', Req src R pages T → H l = none → Same H H' → H' l = some (.lst ((rise T).map V.str)) → Q (.ref l) H'
section
variable {P : Program} {w : World} {K : PySem.W.Frag} {mg : Str → Option Value} {base : Heap} {a : Adr}
theorem has_lrequired (D : DefAt K mg "_law_required" sLrequired ["_law_sources_here", "_law_attempts", "_law_pages_here"]) (T : Txt K w mg a) (HLdependencies : Has P w K mg base 4 "_law_dependencies" ["_law_results_here", "_law_name_here", "_law_text_here"] (spLdeps K))
    (HLresults : Has P w K mg base 6 "_law_results" ["_law_sources_here", "_law_attempts"] (spLresults K)) : Has P w K mg base 7 "_law_required" ["_law_sources_here", "_law_attempts", "_law_pages_here"] (spLrequired K) := by
  refine D.has (k := 6) scLrequired (fun vs H Q E h => ?_) (fun f cdv A outer s H vs Q E hr h => ?_)
  · obtain ⟨src, att, R, ds, pg, pages, rfl, _⟩ := h
    rfl
  obtain ⟨src, att, R, ds, pg, pages, rfl, S, F, hds, hpg, hnd, hpl, q⟩ := h
  refine ⟨_, (pss_cons (ps_set (i := 3) scLrequired.nd rfl (Or.inl rfl) (pe_callH HLresults (hr.mono (by omega)) rfl (pa_cons (pv 0) (pa_cons (pv 1) pa_nil))))
      (pss_cons (ps_set (i := 4) scLrequired.nd rfl (Or.inl rfl) (pe_callB (cr_sortT rfl) rfl T.nsorted (by decide +kernel) (pa_cons (pv 2) pa_nil)))
      (pss_cons (ps_for PassesOwn.never rfl (pi_range1 rfl T.nrange (pa_cons pe_int pa_nil)) (pg_name (i := 5) scLrequired.nd rfl (Or.inl rfl)) (pss_one (ps_for PassesOwn.never rfl (pi_list (pe_callTy call_list_of rfl T.nlist (by decide +kernel) (pa_cons (pv 4) pa_nil))) (pg_name (i := 6) scLrequired.nd rfl (Or.inl rfl)) (pss_one (ps_if (pt_cmp (pc_din (hu_of hr) (pv 6) (pv 0)) rfl) (pss_one (ps_for PassesOwn.never rfl (pi_list (pe_callH HLdependencies (hr.mono (by omega)) rfl (pa_cons (pv 3) (pa_cons (pv 6) (pa_cons (pe_dget (hu_of hr) (pv 0) (pv 6) (fun _ _ => rfl)) pa_nil))))) (pg_tup rfl (pgs_cons (pg_name (i := 7) scLrequired.nd rfl (Or.inl rfl)) (pgs_cons (pg_name (i := 8) scLrequired.nd rfl (Or.inl rfl)) pgs_nil))) (pss_one (ps_if (pt_cmpR op_notIn_seq (pv 7) (pv 4) rfl) (pss_one (ps_expr (pe_bm PySem.F.plainAttrs_list PySem.F.slot_list_append PySem.F.type_list_append mt_append (pv 4) (pa_cons (pv 7) pa_nil)))) pss_nil)))) pss_nil)))))
      (pss_one (ps_ret (pe_callB (cr_sortT rfl) rfl T.nsorted (by decide +kernel) (pa_cons (pv 4) pa_nil))))))), ?_⟩
  refine ⟨_, rfl, _, rfl, src, att, ds, rfl, S, hds, fun dr D H1 F1 hdr e1 hR1 => ?_⟩
  have eR : lkR D = R := F1.eq S F
  have rb : RB (lkR D) := F1.rb S
  refine ⟨_, rfl, pg, pages, rfl, big_of (by omega), .inr (.inl (same_sqT e1 hpg)), fun ys lf hpm hso hlf => ?_⟩
  have lf0 : H lf = none := e1.free hlf
  have e2 := same_new (.lst (ys.map V.str)) hlf
  generalize hPv : (fun (t : Nat) (σ : L2.St) (H' : Hp) => ∃ (v5 v6 v7 v8 : Option V) (fs : List Str), σ = [some (.ref ds), some (.int att), some (.ref pg), some (.ref dr), some (.ref lf), v5, v6, v7, v8] ∧ Made H H' lf (fs.map V.str) ∧ Rs K H' dr D ∧ Fnd src R pages fs ∧ (Closed src R fs ∨ t ≤ srcd src fs)) = Pv
  refine ⟨30, rfl, by decide, by decide, for_range (lo := 0) (n := 30) Pv ?_ ?_ ?_⟩
  · subst hPv
    exact ⟨none, none, none, none, ys, rfl, ⟨e1.trans e2, lf0, upd_same⟩, hR1.same e2, ⟨hpm.nodup_iff.mpr hnd, fun p hp => hpm.mem_iff.mpr hp, fun T' h1 _ n hn => h1 n (hpm.mem_iff.mp hn)⟩, .inr (Nat.zero_le _)⟩
  · intro t σ H2 ht hp
    rw [← hPv] at hp
    obtain ⟨v5, v6, v7, v8, f0, rfl, m2, R2, fn0, hc0⟩ := hp
    have hl0 := fn0.len S
    refine ⟨_, rfl, lf, _, rfl, .inl (SqL.of m2.at_), fun lc hlc => ⟨lc, rfl, ⟨_, SqL.of upd_same⟩, ?_⟩⟩
    have e3 := same_new (.lst (f0.map V.str)) hlc
    have ncf : lc ≠ lf := fun z => by
      rw [z, m2.at_] at hlc
      cases hlc
    refine for_list (K := K) (a := lc) (xs := f0.map V.str) (fun j σ H' => ∃ (v6 v7 v8 : Option V) (fs : List Str), σ = [some (.ref ds), some (.int att), some (.ref pg), some (.ref dr), some (.ref lf), some (.int (0 + (t : Int))), v6, v7, v8] ∧ Made H H' lf (fs.map V.str) ∧ Rs K H' dr D ∧ H' lc = some (.lst (f0.map V.str)) ∧ Fnd src R pages fs ∧ (∀ x ∈ f0, x ∈ fs) ∧
      ∀ n ∈ f0.take j, ∀ z, lk src n = some z → ∀ d ∈ deps R n (split n z), d.1 ∈ fs) ?_ ?_ ?_ ?_
    · exact ⟨_, _, _, f0, rfl, m2.go e3, R2.same e3, upd_same, fn0, fun x hx => hx, fun n hn => (by cases hn)⟩
    · exact fun j σ H' _ ⟨_, _, _, _, _, _, _, h, _⟩ => SqL.of h
    · rintro j x σ H4 hx ⟨v6, v7, v8, fs, rfl, m4, R4, c4, fn4, sub4, all4⟩
      rw [List.getElem?_map] at hx
      obtain ⟨n, hn, rfl⟩ := Option.map_eq_some_iff.mp hx
      have hnf : n ∈ fs := sub4 n (List.mem_of_getElem? hn)
      have d4 := DGet.k (k := Sum.inr n) (m4.same _ _ hds)
      rw [valV_src] at d4
      refine ⟨_, rfl, _, rfl, ds, _, rfl, d4, _, rfl, ?_⟩
      cases hl : lk src n with
      | none =>
        refine iteF ⟨_, _, _, fs, rfl, m4, R4, c4, fn4, sub4, fun m hm z hz d hd => ?_⟩
        rw [take_snoc hn] at hm
        rcases List.mem_append.mp hm with hm | hm
        · exact all4 m hm z hz d hd
        · rw [List.mem_singleton.mp hm, hl] at hz
          cases hz
      | some z =>
        have gz := (S.good _ (lk_mem hl)).2
        have dg : DGet H4 ds (.str n) (some (.str z)) := by rw [hl] at d4; exact d4
        refine iteT ?_
        refine ⟨_, rfl, _, rfl, _, rfl, _, rfl, ds, .str z, rfl, dg, dr, D, n, z, rfl, R4, rb, gz, fun ld vs' H5 hld e5 hld5 dl5 => ⟨ld, rfl, ⟨_, SqL.of hld5⟩, ?_⟩⟩
        rw [eR] at dl5
        have ndf : ld ≠ lf := fun z => by
          rw [z, m4.at_] at hld
          cases hld
        have hdl : (deps R n (split n z)).length ≤ 242 := by
          have h1 := deps_len R n (split n z)
          have h2 := split_len n z
          have h3 : z.length ≤ 60 := gz.1
          omega
        generalize hdd : deps R n (split n z) = dd at *
        have lvs : vs'.length = dd.length := by rw [dpa_len dl5, List.length_map]
        refine for_list (K := K) (a := ld) (xs := vs') (fun i σ H' => ∃ (v7 v8 : Option V) (fs : List Str), σ = [some (.ref ds), some (.int att), some (.ref pg), some (.ref dr), some (.ref lf), some (.int (0 + (t : Int))), some (.str n), v7, v8] ∧ Made H H' lf (fs.map V.str) ∧ Rs K H' dr D ∧ H' lc = some (.lst (f0.map V.str)) ∧ Fnd src R pages fs ∧ (∀ x ∈ f0, x ∈ fs) ∧
          (∀ n ∈ f0.take j, ∀ z, lk src n = some z → ∀ d ∈ deps R n (split n z), d.1 ∈ fs) ∧ H' ld = some (.lst vs') ∧ DpAll K H' vs' (dd.map Dep.d) ∧ ∀ d ∈ dd.take i, d.1 ∈ fs) ?_ ?_ ?_ ?_
        · exact ⟨_, _, fs, rfl, m4.go e5, R4.same e5, e5 _ _ c4, fn4, sub4, all4, hld5, dl5, fun d hd => (by cases hd)⟩
        · exact fun i σ H' _ ⟨_, _, _, _, _, _, _, _, _, _, h, _⟩ => SqL.of h
        · rintro i x σ H6 hx6 ⟨v7, v8, fs6, rfl, m6, R6, c6, fn6, sub6, all6, l6, dl6, done6⟩
          obtain ⟨d0, g1, g2⟩ := dpa_get dl6 hx6
          rw [List.getElem?_map] at g1
          obtain ⟨d, g3, g4⟩ := Option.map_eq_some_iff.mp g1
          subst g4
          obtain ⟨pa, u, rfl, hpa, _⟩ := dep_at g2
          have hl6 := fn6.len S
          refine ⟨pa, _, rfl, hpa, rfl, _, _, rfl, _, _, rfl, rfl, ?_⟩
          refine ⟨_, rfl, _, rfl, lf, _, rfl, .inl (SqL.of m6.at_), rfl, flat_str fs6, ?_⟩
          rw [inV_str]
          refine ⟨_, rfl, ?_⟩
          refine iteB (fun c => ?_) (fun c => ?_)
          · have hx2 : d.1 ∉ fs6 := fun h => by
              rw [decide_eq_true h] at c
              cases c
            have t7 := m6.ts (.lst (fs6.map V.str ++ [.str d.1]))
            refine ⟨_, rfl, .inl ⟨rfl, _, SqL.of m6.at_⟩, _, rfl, lf, _, _, rfl, rfl, m6.at_, big_lt (by rw [List.length_map]; omega), ?_⟩
            refine ⟨_, _, fs6 ++ [d.1], rfl, by rw [List.map_append]; exact m6.app _, R6.lst m6.at_, by rw [upd_ne ncf]; exact c6, ?_, fun x hx => List.mem_append_left _ (sub6 x hx), fun n hn z hz d hd => List.mem_append_left _ (all6 n hn z hz d hd), by rw [upd_ne ndf]; exact l6, dpa_ts t7 _ _ (noLs_map noL_dep _) dl6, fun d' hd' => ?_⟩
            · refine fn6.snoc (x := n) (sub6 n (List.mem_of_getElem? hn)) hl ?_ hx2
              rw [hdd]
              exact List.mem_of_getElem? g3
            · rw [take_snoc g3] at hd'
              rcases List.mem_append.mp hd' with h | h
              · exact List.mem_append_left _ (done6 d' h)
              · rw [List.mem_singleton.mp h]
                exact List.mem_append_right _ List.mem_cons_self
          · have hx2 : d.1 ∈ fs6 := by
              cases h : decide (d.1 ∈ fs6) with
              | true => exact of_decide_eq_true h
              | false =>
                rw [h] at c
                cases c
            refine ⟨_, _, fs6, rfl, m6, R6, c6, fn6, sub6, all6, l6, dl6, fun d' hd' => ?_⟩
            rw [take_snoc g3] at hd'
            rcases List.mem_append.mp hd' with h | h
            · exact done6 d' h
            · rw [List.mem_singleton.mp h]
              exact hx2
        · rintro σ H6 ⟨v7, v8, fs6, rfl, m6, R6, c6, fn6, sub6, all6, l6, dl6, done6⟩
          rw [lvs, List.take_length] at done6
          refine ⟨_, _, _, fs6, rfl, m6, R6, c6, fn6, sub6, fun m hm y hy d hd => ?_⟩
          rw [take_snoc hn] at hm
          rcases List.mem_append.mp hm with hm | hm
          · exact all6 m hm y hy d hd
          · rw [List.mem_singleton.mp hm] at hy hd
            rw [hl] at hy
            rw [← Option.some.inj hy, hdd] at hd
            exact done6 d hd
    · rintro σ H4 ⟨v6, v7, v8, fs, rfl, m4, R4, c4, fn4, sub4, all4⟩
      rw [List.length_map, List.take_length] at all4
      show Pv (t + 1) _ _
      rw [← hPv]
      exact ⟨_, _, _, _, fs, rfl, m4, R4, fn4, turn_done fn0 fn4 sub4 all4 hc0⟩
  · intro σ H2 hp
    rw [← hPv] at hp
    obtain ⟨v5, v6, v7, v8, fs, rfl, m2, R2, fn, hc⟩ := hp
    have hcl : Closed src R fs := hc.resolve_right fun h => by
      have h1 := srcd_le src fs
      have h2 := S.len
      omega
    have hl := fn.len S
    refine ⟨_, rfl, lf, fs, rfl, big_of (by omega), .inl (SqL.of m2.at_), fun zs p hpm2 hso2 hp => ?_⟩
    rw [sorted_rise hpm2 hso2 fn.nd]
    exact q fs p _ ⟨fn.pg, hcl, fn.ls⟩ (m2.same.free hp) (m2.same.trans (same_new _ hp)) upd_same
end
end Pg


set_option Elab.async false
set_option linter.all false
set_option maxRecDepth 100000
set_option maxHeartbeats 4000000
/-! the law's side: what is shown is short; alike -/
namespace Pg
open PySem PySem.Spec PyProof.Rows L2

theorem rest_len2 {name z : Str} : ∀ (m i : Nat) (p : Str), z.length - i ≤ m → (rest name z i p).length ≤ (flush p).length + (z.length - i)
  | 0, i, p, h => by
    rw [rest_end (by omega)]
    exact Nat.le_add_right _ _
  | m + 1, i, p, h => by
    by_cases hi : i < z.length
    · obtain ⟨c, hc⟩ : ∃ c, (tl z)[i]? = some c := ⟨_, List.getElem?_eq_getElem (by rw [← len_tl]; exact hi)⟩
      cases hs : seg name z i with
      | none =>
        have ih := rest_len2 (name := name) (z := z) m (i + 1) (p ++ ch c) (by omega)
        have fl := flush_len (p ++ ch c)
        rw [rest_plain hc hs]
        omega
      | some r =>
        obtain ⟨k, s, e⟩ := r
        obtain ⟨s1, s2, _⟩ := seg_spec (Nat.le_of_lt hi) hs
        have ih := rest_len2 (name := name) (z := z) m e Str.empty (by omega)
        rw [show flush Str.empty = [] from rfl] at ih
        rw [rest_seg hi hs, List.length_append, List.length_cons]
        have ih' : (rest name z e Str.empty).length ≤ 0 + (z.length - e) := ih
        omega
    · rw [rest_end (by omega)]
      exact Nat.le_add_right _ _
theorem split_len2 (name z : Str) : (split name z).length ≤ z.length := by
  have h := rest_len2 (name := name) (z := z) z.length 0 Str.empty (by omega)
  rw [← split_rest] at h
  have h' : (split name z).length ≤ 0 + (z.length - 0) := h
  omega
theorem links_len2 {src : Src} (h : SrcL src) : (allLinks src).length ≤ 480 := by
  have g : ∀ l : Src, (∀ p ∈ l, Good 60 p.2) → (allLinks l).length ≤ l.length * 60 := by
    intro l
    induction l with
    | nil => exact fun _ => Nat.le_refl _
    | cons p r ih =>
      intro hp
      have h1 := ih fun q hq => hp q (List.mem_cons_of_mem _ hq)
      have h2 := split_len2 p.1 p.2
      have h3 := (hp p List.mem_cons_self).1
      have h4 := List.length_filter_le (fun g : Sg => decide (g.1 = .lnk)) (split p.1 p.2)
      show ((((split p.1 p.2).filter fun g => decide (g.1 = .lnk)).map (·.2)) ++ allLinks r).length ≤ _
      rw [List.length_append, List.length_map, List.length_cons]
      omega
  have := g src h.good
  have := h.len
  omega

/-! ### small data -/
structure Sml (b k : Nat) (d : PyData) : Prop where
  ls : d.leavesShort 8 = true
  sh : d.showable = true
  nd : d.hasDict = false
  dp : d.depth ≤ k
  bk : d.bulk ≤ b
structure SmlA (b k : Nat) (ds : List PyData) : Prop where
  ls : PyData.leavesShortAll 8 ds = true
  sh : PyData.showableAll ds = true
  nd : PyData.hasDictAll ds = false
  dp : PyData.depthAll ds ≤ k
  bk : PyData.bulkAll ds ≤ b
theorem Sml.mono {b k b' k' : Nat} {d : PyData} (h : Sml b k d) (hb : b ≤ b') (hk : k ≤ k') : Sml b' k' d := ⟨h.ls, h.sh, h.nd, Nat.le_trans h.dp hk, Nat.le_trans h.bk hb⟩
theorem Sml.str {n : Nat} {x : Str} (h : Good n x) : Sml n 0 (.str x) := by
  refine ⟨?_, by simp only [PyData.showable], by simp only [PyData.hasDict], by simp only [PyData.depth]; omega, by simp only [PyData.bulk]; exact h.1⟩
  simp only [PyData.leavesShort, List.all_eq_true, decide_eq_true_eq]
  exact fun c hc => Nat.lt_trans (h.2 c hc) (by decide)
theorem Sml.tup {b k : Nat} {ds : List PyData} (h : SmlA b k ds) : Sml b (k + 1) (.tuple ds) :=
  ⟨by simp only [PyData.leavesShort]; exact h.ls, by simp only [PyData.showable]; exact h.sh, by simp only [PyData.hasDict]; exact h.nd, by simp only [PyData.depth]; exact Nat.succ_le_succ h.dp, by simp only [PyData.bulk]; exact h.bk⟩
theorem Sml.lst {b k : Nat} {ds : List PyData} (h : SmlA b k ds) : Sml b (k + 1) (.list ds) :=
  ⟨by simp only [PyData.leavesShort]; exact h.ls, by simp only [PyData.showable]; exact h.sh, by simp only [PyData.hasDict]; exact h.nd, by simp only [PyData.depth]; exact Nat.succ_le_succ h.dp, by simp only [PyData.bulk]; exact h.bk⟩
theorem SmlA.nil (k : Nat) : SmlA 0 k [] := ⟨by simp only [PyData.leavesShortAll], by simp only [PyData.showableAll], by simp only [PyData.hasDictAll], by simp only [PyData.depthAll]; omega, by simp only [PyData.bulkAll]; omega⟩
theorem SmlA.cons {b b' k : Nat} {d : PyData} {ds : List PyData} (h : Sml b k d) (h' : SmlA b' k ds) : SmlA (b + 1 + b') k (d :: ds) :=
  ⟨by simp only [PyData.leavesShortAll, h.ls, h'.ls, Bool.and_self], by simp only [PyData.showableAll, h.sh, h'.sh, Bool.and_self], by simp only [PyData.hasDictAll, h.nd, h'.nd, Bool.or_self], by simp only [PyData.depthAll]; exact Nat.max_le.mpr ⟨h.dp, h'.dp⟩,
    by simp only [PyData.bulkAll]; have := h.bk; have := h'.bk; omega⟩
theorem SmlA.map {α : Type} {f : α → PyData} {b k : Nat} : ∀ {l : List α}, (∀ x ∈ l, Sml b k (f x)) → SmlA (l.length * (b + 1)) k (l.map f)
  | [], _ => by
    rw [List.length_nil, Nat.zero_mul]
    exact SmlA.nil k
  | x :: r, h => by
    have h1 := SmlA.cons (h x List.mem_cons_self) (SmlA.map (l := r) fun y hy => h y (List.mem_cons_of_mem _ hy))
    rw [List.length_cons, Nat.succ_mul, Nat.add_comm]
    exact h1
theorem SmlA.mono {b k b' k' : Nat} {ds : List PyData} (h : SmlA b k ds) (hb : b ≤ b') (hk : k ≤ k') : SmlA b' k' ds := ⟨h.ls, h.sh, h.nd, Nat.le_trans h.dp hk, Nat.le_trans h.bk hb⟩
/-- small enough to be shown -/
structure Fit (d : PyData) : Prop where
  sh : d.showable = true
  nd : d.hasDict = false
  dp : d.depth ≤ 60
  ln : d.shown.length ≤ sizeLine
theorem Sml.fit {b k : Nat} {d : PyData} (h : Sml b k d) (hb : b ≤ 1000000) (hk : k ≤ 60) : Fit d :=
  ⟨h.sh, h.nd, Nat.le_trans h.dp hk, PyData.shown_fits_bulk (B := 8) (by decide) (by decide) h.ls (Nat.le_trans h.bk (Nat.le_trans hb (by decide)))⟩
theorem res_sml {src : Src} {r : Res} (S : SrcL src) (h : ResOk src r) : Sml 3600 2 r.d := by
  have two : ∀ (w n : Str), Good 6 w → Good 6 n → Sml 3600 2 (.tuple [.str w, .str n]) := fun w n hw hn =>
    (Sml.tup (SmlA.cons (Sml.str hw) (SmlA.cons (Sml.str hn) (SmlA.nil 0)))).mono (by decide) (by decide)
  cases r with
  | text c l =>
    have h1 : Good 200 c := h.ch rfl
    have h2 : ∀ x ∈ l, Good 6 x := h.good S.ok
    have h3 : l.length ≤ 480 := Nat.le_trans (nodup_sub (h.ri : Rise l).nodup h.sub) (links_len2 S)
    have h4 : SmlA 3360 0 (txts l) := (SmlA.map (f := PyData.str) (b := 6) (k := 0) fun x hx => Sml.str (h2 x hx)).mono (by omega) (Nat.le_refl _)
    exact (Sml.tup (SmlA.cons ((Sml.str (good_of (by decide +kernel) : Good 4 ("text" : Str))).mono (Nat.le_refl _) (by decide)) (SmlA.cons ((Sml.str h1).mono (Nat.le_refl _) (by decide)) (SmlA.cons (Sml.tup h4) (SmlA.nil 1))))).mono (by decide) (by decide)
  | failed n => exact two _ n (good_of (by decide +kernel)) (h.nm n (.inl rfl))
  | long n => exact two _ n (good_of (by decide +kernel)) (h.nm n (.inr rfl))
theorem deps_sml {src : Src} {att : Int} {R : Str → Res} (S : SrcL src) (F : Fix src att R) {n z : Str} (hz : Good 60 z) : Sml 1000000 4 (.list ((deps R n (split n z)).map Dep.d)) := by
  have hg := split_ok (name := n) hz (by decide : 6 ≤ 60)
  have h1 := deps_len R n (split n z)
  have h2 := split_len2 n z
  have h3 := hz.1
  have one : ∀ x ∈ deps R n (split n z), Sml 3700 3 (Dep.d x) := fun x hx => by
    obtain ⟨e1, e2, e3⟩ := deps_spec hg x hx
    have g : Sml 3600 2 x.2.d := by
      rw [e1]
      exact res_sml S (F.ok S.ok x.1)
    exact (Sml.tup (SmlA.cons ((Sml.str (isName_good e2)).mono (Nat.le_refl _) (by decide)) (SmlA.cons g (SmlA.nil 2)))).mono (by decide) (by decide)
  exact (Sml.lst (SmlA.map one)).mono (by
    have : (deps R n (split n z)).length * (3700 + 1) ≤ 120 * 3701 := Nat.mul_le_mul_right _ (by omega)
    omega) (by decide)
theorem req_sml {src : Src} {att : Int} {R : Str → Res} {pages T : List Str} (S : SrcL src) (h : Req src R pages T) (hp : pages.length ≤ 100) (hg : ∀ p ∈ pages, Good 6 p) : Sml 1000000 4 (.list (txts (rise T))) := by
  have sub : ∀ x ∈ rise T, x ∈ univ src R pages := fun x hx => h.least _ univ_pg (univ_cl src R pages) x (mem_rise.mp hx)
  have hl := nodup_sub (rise_rise T).nodup sub
  have hu := univ_len S.ok R pages
  have good : ∀ x ∈ rise T, Good 6 x := fun x hx => by
    rcases List.mem_append.mp (sub x hx) with hx | hx
    · exact hg x hx
    · obtain ⟨p, hp, hx⟩ := List.mem_flatMap.mp hx
      obtain ⟨d, hd, e⟩ := List.mem_map.mp hx
      rw [← e]
      exact isName_good (deps_spec (split_ok (name := p.1) (S.good p hp) (by decide : 6 ≤ 60)) d hd).2.1
  exact (Sml.lst (SmlA.map (f := PyData.str) (b := 6) (k := 0) fun x hx => Sml.str (good x hx))).mono (by omega) (by decide)
def spLalike (K : PySem.W.Frag) : Sp := fun vs H Q _ => ∃ (p1 p2 : Addr) (d : PyData), vs = [.ref p1, .ref p2] ∧ Dp K H (.ref p1) d ∧ Dp K H (.ref p2) d ∧ Fit d ∧ Q (.bl true) H
section
variable {P : Program} {w : World} {K : PySem.W.Frag} {mg : Str → Option Value} {base : Heap} {a : Adr}
theorem has_lalike (D : DefAt K mg "_law_alike" sLalike ["_law_one", "_law_two"]) (T : Txt K w mg a) : HasG P w K mg base 1 "_law_alike" ["_law_one", "_law_two"] (spLalike K) := by
  refine D.hasG (k := 0) scLalike (fun vs H Q E h => ?_) (fun f cdv A outer s H vs Q E hgd hr h => ?_)
  · obtain ⟨p1, p2, d, rfl, _⟩ := h
    rfl
  obtain ⟨p1, p2, d, rfl, h1, h2, hf, q⟩ := h
  refine ⟨_, (pss_one (ps_ret (pe_cmpR op_eq (pe_callB (cr_repr hgd hr.units) rfl T.nrepr (by decide +kernel) (pa_cons (pv 0) pa_nil)) (pe_callB (cr_repr hgd hr.units) rfl T.nrepr (by decide +kernel) (pa_cons (pv 1) pa_nil)) (nomark _)))), ?_⟩
  refine ⟨_, rfl, p1, d, rfl, h1, hf.sh, hf.nd, hf.dp, hf.ln, _, rfl, p2, d, rfl, h2, hf.sh, hf.nd, hf.dp, hf.ln, rfl, ?_⟩
  show Q (.bl (decide (V.str d.shown = V.str d.shown))) H
  rw [decide_eq_true rfl]
  exact q
end
end Pg


set_option Elab.async false
set_option linter.all false
set_option maxRecDepth 100000
set_option maxHeartbeats 4000000
/-! the law -/
namespace Pg
open PySem PySem.Spec PyProof.Rows L2

def pairD (p : Str × Str) : PyData := .tuple [.str p.1, .str p.2]
theorem noL_pair (p : Str × Str) : noL (pairD p) = true := rfl
theorem items_dp {K : PySem.W.Frag} {H : Hp} : ∀ {src : Src} {ts : List Addr}, Paired (fun (t : Addr) (q : Key × V) => H t = some (.tup [kV q.1, q.2])) ts (srcK src) → DpAll K H (ts.map V.ref) (src.map pairD)
  | [], ts, h => by
    cases h
    exact .nil
  | p :: r, ts, h => by
    have h : Paired (fun (t : Addr) (q : Key × V) => H t = some (.tup [kV q.1, q.2])) ts (((Sum.inr p.1 : Key), V.str p.2) :: srcK r) := h
    cases h with
    | cons h1 h2 => exact .cons (.tup (SqT.of h1) (.cons (.str _) (.cons (.str _) .nil))) (items_dp h2)
theorem pairs_canLay : ∀ {src : Src}, (∀ p ∈ src, Good 60 p.1 ∧ Good 60 p.2) → PyData.canLayAll0 (src.map pairD) = true
  | [], _ => rfl
  | p :: r, h => by
    have hp := h p List.mem_cons_self
    show ((PyData.strOk p.1 && (PyData.strOk p.2 && true)) && PyData.canLayAll0 (r.map pairD)) = true
    rw [good_ok hp.1, good_ok hp.2, pairs_canLay fun x hx => h x (List.mem_cons_of_mem _ hx)]
    rfl
theorem pairs_depth : ∀ src : Src, PyData.depthAll (src.map pairD) ≤ 1
  | [] => Nat.zero_le _
  | p :: r => by
    have ih := pairs_depth r
    show max (PyData.depth (pairD p)) (PyData.depthAll (r.map pairD)) ≤ 1
    exact Nat.max_le.mpr ⟨Nat.le_of_eq rfl, ih⟩
theorem pairs_shaped {src : Src} (S : SrcL src) : SeqAt.shaped (.list (src.map pairD)) = true := by
  unfold SeqAt.shaped
  rw [Bool.and_eq_true]
  refine ⟨pairs_canLay fun p hp => ⟨(nms_good (S.nm p hp)).mono (by decide), S.good p hp⟩, decide_eq_true ?_⟩
  have := pairs_depth src
  show PyData.depthAll (src.map pairD) + 1 ≤ 64
  omega
theorem pairs_eqv {src : Src} (S : SrcL src) : PyData.eqv (.list (src.map pairD)) (.list (src.map pairD)) = true :=
  SeqAt.eqv_refl _ (pairs_canLay fun p hp => ⟨(nms_good (S.nm p hp)).mono (by decide), S.good p hp⟩)
def NM9 : List Str := ["a", "b", "c", "d", "e", "ab", "bc", "cd", "zz"]
def spLaw (K : PySem.W.Frag) : Sp := fun vs H Q _ => ∃ (s : Addr) (ns : List Int), vs = [.ref s] ∧ SqL K H s (ns.map V.int) ∧ ∀ H', Q (.bl true) H'
section
variable {P : Program} {w : World} {K : PySem.W.Frag} {mg : Str → Option Value} {base : Heap} {a : Adr}
theorem has_law {fl : Addr} {fdl : FuncData} (F : Fun K "law" "law" sLaw fl fdl) (T : Txt K w mg a)
    (HLdigits : Has P w K mg base 2 "_law_digits" ["_law_script", "_law_first", "_law_last"] (spLdigits K)) (HLsources : Has P w K mg base 4 "_law_sources" ["_law_box", "_law_most"] (spLsources K)) (HLdraw : Has P w K mg base 1 "_law_draw" ["_law_box", "_law_many"] (spLdraw K))
    (HLlong : Has P w K mg base 2 "_law_long" ["_law_box", "_law_sources_here"] (spLlong K)) (HLresults : Has P w K mg base 6 "_law_results" ["_law_sources_here", "_law_attempts"] (spLresults K)) (HLresultOf : Has P w K mg base 1 "_law_result_of" ["_law_results_here", "_law_name_here"] (spLresultOf K))
    (HLalike : HasG P w K mg base 1 "_law_alike" ["_law_one", "_law_two"] (spLalike K)) (HResult : Has P w K mg base 37 "result" ["sources", "attempts", "name"] (spResult K)) (HLdependencies : Has P w K mg base 4 "_law_dependencies" ["_law_results_here", "_law_name_here", "_law_text_here"] (spLdeps K))
    (HJoinResult : Has P w K mg base 5 "join_result" ["name", "text", "attempts", "found"] (spJoinRes K)) (HDependencies : Has P w K mg base 37 "dependencies" ["sources", "attempts", "name"] (spDependencies K)) (HLpages : Has P w K mg base 3 "_law_pages" ["_law_box"] (spLpages K))
    (HRequired : Has P w K mg base 37 "required" ["sources", "attempts", "pages"] (spRequired K)) (HLrequired : Has P w K mg base 7 "_law_required" ["_law_sources_here", "_law_attempts", "_law_pages_here"] (spLrequired K)) :
    FnG P w K mg base 38 fl fdl ["_law_script"] (spLaw K) := by
  refine fnG_of (k := 37) F scLaw (fun vs H Q E h => ?_) (fun cdv A outer sh H vs Q E hgd hr h => ?_)
  · obtain ⟨s, ns, rfl, _⟩ := h
    rfl
  obtain ⟨s, ns, rfl, hs, q⟩ := h
  refine ⟨_, (pss_cons (ps_set (i := 1) scLaw.nd rfl (Or.inl rfl) (pe_lst (pa_cons (pe_callH HLdigits (hr.mono (by omega)) rfl (pa_cons (pv 0) (pa_cons pe_int (pa_cons pe_int pa_nil)))) (pa_cons pe_int pa_nil))))
      (pss_cons (ps_if (PW.pt (pw_or (pt_cmpR op_ne (pe_glob (v := .int 200) rfl T.gRM ⟨_, rfl⟩) pe_int (nomark _)) (pw_or1 (pt_cmpR (op_neD hr.units) (pe_glob (v := .ref a.aNO) rfl T.gNO rfl) (pe_tup (pa_cons pe_str (pa_cons pe_str (pa_cons (pe_tup pa_nil) pa_nil)))) (nomark _))))) (pss_one (ps_ret pe_bl)) pss_nil)
      (pss_cons (ps_for PassesOwn.never rfl (pi_range1 rfl T.nrange (pa_cons pe_int pa_nil)) (pg_name (i := 2) scLaw.nd rfl (Or.inl rfl)) (pss_cons (ps_set (i := 3) scLaw.nd rfl (Or.inl rfl) (pe_callH HLsources (hr.mono (by omega)) rfl (pa_cons (pv 1) (pa_cons pe_int pa_nil))))
      (pss_cons (ps_if (pt_cmpR op_eq (pe_callH HLdraw (hr.mono (by omega)) rfl (pa_cons (pv 1) (pa_cons pe_int pa_nil))) pe_int (nomark _)) (pss_one (ps_expr (pe_callH HLlong (hr.mono (by omega)) rfl (pa_cons (pv 1) (pa_cons (pv 3) pa_nil))))) pss_nil)
      (pss_cons (ps_set (i := 4) scLaw.nd rfl (Or.inl rfl) (pe_op op_add pe_int (pe_callH HLdraw (hr.mono (by omega)) rfl (pa_cons (pv 1) (pa_cons pe_int pa_nil)))))
      (pss_cons (ps_set (i := 5) scLaw.nd rfl (Or.inl rfl) (LiI.pe_listItems rfl (pv 3) rfl T.nlist (by decide +kernel)))
      (pss_cons (ps_set (i := 6) scLaw.nd rfl (Or.inl rfl) (pe_callH HLresults (hr.mono (by omega)) rfl (pa_cons (pv 3) (pa_cons (pv 4) pa_nil))))
      (pss_cons (ps_for PassesOwn.never rfl (pi_list (pe_lst (pa_cons pe_str (pa_cons pe_str (pa_cons pe_str (pa_cons pe_str (pa_cons pe_str (pa_cons pe_str (pa_cons pe_str (pa_cons pe_str (pa_cons pe_str pa_nil))))))))))) (pg_name (i := 7) scLaw.nd rfl (Or.inl rfl)) (pss_cons (ps_set (i := 8) scLaw.nd rfl (Or.inl rfl) (pe_callH HLresultOf (hr.mono (by omega)) rfl (pa_cons (pv 6) (pa_cons (pv 7) pa_nil))))
      (pss_cons (ps_if (pt_not (pt_val (pe_callG HLalike hgd (hr.mono (by omega)) rfl (pa_cons (pe_callH HResult (hr.mono (by omega)) rfl (pa_cons (pv 3) (pa_cons (pv 4) (pa_cons (pv 7) pa_nil)))) (pa_cons (pv 8) pa_nil))))) (pss_one (ps_ret pe_bl)) pss_nil)
      (pss_cons (ps_set (i := 9) scLaw.nd rfl (Or.inl rfl) (pe_lst pa_nil))
      (pss_cons (ps_if (pt_cmp (pc_din (hu_of hr) (pv 7) (pv 3)) rfl) (pss_cons (ps_set (i := 9) scLaw.nd rfl (Or.inl rfl) (pe_callH HLdependencies (hr.mono (by omega)) rfl (pa_cons (pv 6) (pa_cons (pv 7) (pa_cons (pe_dget (hu_of hr) (pv 3) (pv 7) (fun _ _ => rfl)) pa_nil)))))
      (pss_one (ps_if (pt_not (pt_val (pe_callG HLalike hgd (hr.mono (by omega)) rfl (pa_cons (pe_callH HJoinResult (hr.mono (by omega)) rfl (pa_cons (pv 7) (pa_cons (pe_dget (hu_of hr) (pv 3) (pv 7) (fun _ _ => rfl)) (pa_cons (pv 4) (pa_cons (pv 9) pa_nil))))) (pa_cons (pv 8) pa_nil))))) (pss_one (ps_ret pe_bl)) pss_nil))) pss_nil)
      (pss_one (ps_if (pt_not (pt_val (pe_callG HLalike hgd (hr.mono (by omega)) rfl (pa_cons (pe_callH HDependencies (hr.mono (by omega)) rfl (pa_cons (pv 3) (pa_cons (pv 4) (pa_cons (pv 7) pa_nil)))) (pa_cons (pv 9) pa_nil))))) (pss_one (ps_ret pe_bl)) pss_nil)))))))
      (pss_cons (ps_set (i := 10) scLaw.nd rfl (Or.inl rfl) (pe_callH HLpages (hr.mono (by omega)) rfl (pa_cons (pv 1) pa_nil)))
      (pss_cons (ps_if (pt_not (pt_val (pe_callG HLalike hgd (hr.mono (by omega)) rfl (pa_cons (pe_callH HRequired (hr.mono (by omega)) rfl (pa_cons (pv 3) (pa_cons (pv 4) (pa_cons (pv 10) pa_nil)))) (pa_cons (pe_callH HLrequired (hr.mono (by omega)) rfl (pa_cons (pv 3) (pa_cons (pv 4) (pa_cons (pv 10) pa_nil)))) pa_nil))))) (pss_one (ps_ret pe_bl)) pss_nil)
      (pss_one (ps_if (pt_cmpR (op_neD hr.units) (LiI.pe_listItems rfl (pv 3) rfl T.nlist (by decide +kernel)) (pv 5) (nomark _)) (pss_one (ps_ret pe_bl)) pss_nil)))))))))))
      (pss_one (ps_ret pe_bl))))), ?_⟩
  refine ⟨_, rfl, s, ns, rfl, hs, fun dg ds0 H1 m1 => ⟨two_line, fun b hb => ?_⟩⟩
  have eb := same_new (.lst [.ref dg, .int 0]) hb
  have bx1 : Box (upd H1 b (.lst [.ref dg, .int 0])) b dg := ⟨ds0, 0, upd_same, eb _ _ m1.at_, fun z => by
    have h := m1.at_
    rw [z, hb] at h
    cases h⟩
  generalize upd H1 b (.lst [.ref dg, .int 0]) = H2 at bx1 ⊢
  refine ⟨rfl, _, rfl, iteF ?_⟩
  refine ⟨Nat.zero_le _, fun p1 hp1 => ⟨three_line, fun p2 hp2 => ?_⟩⟩
  have ep1 := same_new (.tup []) hp1
  have ep2 := same_new (.tup [.str "text", .str "?", .ref p1]) hp2
  refine ⟨_, _, nothing_at T _, res_of (l := []) (SqT.of upd_same) (SqT.of (ep2 _ _ upd_same)), by decide +kernel, by decide +kernel, _, rfl, ?_⟩
  rw [show (!PyData.eqv nothing.d (Res.d (.text "?" []))) = false by decide +kernel]
  refine iteF ?_
  have bx3 := (bx1.same ep1).same ep2
  generalize upd (upd H2 p1 (.tup [])) p2 (.tup [.str "text", .str "?", .ref p1]) = H3 at bx3 ⊢
  generalize hPv : (fun (t : Nat) (σ : L2.St) (H' : Hp) => ∃ v2 v3 v4 v5 v6 v7 v8 v9 v10 : Option V, σ = [some (.ref s), some (.ref b), v2, v3, v4, v5, v6, v7, v8, v9, v10] ∧ Box H' b dg) = Pv
  refine ⟨3, rfl, by decide, by decide, for_range (lo := 0) (n := 3) Pv ?_ ?_ ?_⟩
  · subst hPv
    exact ⟨none, none, none, none, none, none, none, none, none, rfl, bx3⟩
  · intro t σ H4 ht hp
    rw [← hPv] at hp
    obtain ⟨v2, v3, v4, v5, v6, v7, v8, v9, v10, rfl, bx4⟩ := hp
    refine ⟨_, rfl, b, dg, rfl, bx4, fun ds src0 H5 S0 bx5 d5 => ?_⟩
    have lng : ∀ (G : L2.St → Hp → Prop) (D : Ends), (∀ src H, SrcL src → Box H b dg → H ds = some (.dK (srcK src)) → G [some (.ref s), some (.ref b), some (.int (0 + (t : Int))), some (.ref ds), v4, v5, v6, v7, v8, v9, v10] H) →
        (tIfS (tTest (tOp rEq (tCall (spLdraw K) [] E0 (tCons (tVar 1) (tCons (tC (.int 3)) tNil))) (tC (.int 0)))) (tDrop (tCall (spLlong K) [] E0 (tCons (tVar 1) (tCons (tVar 3) tNil)))) tNext) { D with nx := G }
          [some (.ref s), some (.ref b), some (.int (0 + (t : Int))), some (.ref ds), v4, v5, v6, v7, v8, v9, v10] H5 := fun G D hG => by
      have nb : ds ≠ b := fun z => by
        obtain ⟨_, _, h1, _⟩ := bx5.ex
        rw [← z, d5] at h1
        cases h1
      refine ⟨_, rfl, b, dg, 3, rfl, by decide, bx5, fun k H6 _ b6 bx6 => ⟨rfl, _, rfl, ?_⟩⟩
      have d6 := b6 _ _ d5 nb
      refine iteB (fun _ => ?_) (fun _ => hG src0 H6 S0 bx6 d6)
      exact ⟨_, rfl, _, rfl, b, dg, ds, src0, rfl, bx6, S0, d6, fun src' H7 S7 bx7 d7 => hG src' H7 S7 bx7 d7⟩
    refine lng _ ⟨_, _, _, _⟩ fun src H6 S bx6 d6 => ?_
    clear lng d5 bx5 S0 bx4
    have So := S.ok
    refine ⟨_, rfl, b, dg, 4, rfl, by decide, bx6, fun k H7 _ b7 bx7 => ⟨_, _, rfl, rfl, ?_⟩⟩
    have nb : ds ≠ b := fun z => by
      obtain ⟨_, _, h1, _⟩ := bx6.ex
      rw [← z, d6] at h1
      cases h1
    have d7 := b7 _ _ d6 nb
    refine ⟨_, rfl, ds, srcK src, rfl, d7, fun H8 lb ts e8 nlb nts plb l8 pr8 => ?_⟩
    have e8 : Same H7 H8 := e8
    have bx8 := bx7.same e8
    have d8 := e8 _ _ d7
    have dp8 := items_dp (K := K) pr8
    have lbb : lb ≠ b := (bx7.ne nlb).1.symm
    refine ⟨_, rfl, _, rfl, src, 1 + (k : Int), ds, rfl, So, d8, fun dr D H9 F ndr e9 R9 => ?_⟩
    have rb := F.rb So
    refine ⟨big_of (by decide), fun ln hln => ⟨ln, rfl, ⟨_, SqL.of upd_same⟩, ?_⟩⟩
    have e10 := same_new (.lst (NM9.map V.str)) hln
    have ln10 : upd H9 ln (.lst (NM9.map V.str)) ln = some (.lst (NM9.map V.str)) := upd_same
    have e810 := e9.trans e10
    have d10 := e810 _ _ d8
    have R10 := R9.same e10
    have bx10 := bx8.same e810
    have l10 := e810 _ _ l8
    have dp10 := dpa_same e810 _ _ dp8
    generalize hH10 : upd H9 ln (.lst (NM9.map V.str)) = H10 at *
    generalize hPw : (fun (j : Nat) (σ : L2.St) (H' : Hp) => ∃ v7 v8 v9 v10 : Option V, σ = [some (.ref s), some (.ref b), some (.int (0 + (t : Int))), some (.ref ds), some (.int (1 + (k : Int))), some (.ref lb), some (.ref dr), v7, v8, v9, v10] ∧ Same H10 H') = Pw
    refine for_list (K := K) (a := ln) (xs := NM9.map V.str) Pw ?_ ?_ ?_ ?_
    · subst hPw
      exact ⟨_, _, _, _, rfl, by rw [← hH10]; exact Same.refl _⟩
    · subst hPw
      exact fun j σ H' _ ⟨_, _, _, _, _, e⟩ => SqL.of (e _ _ ln10)
    · rintro j x σ H11 hx hp
      rw [← hPw] at hp
      obtain ⟨v7, v8, v9, v10, rfl, e11⟩ := hp
      rw [List.getElem?_map] at hx
      obtain ⟨n, hn, rfl⟩ := Option.map_eq_some_iff.mp hx
      have dget : ∀ {H2}, Same H10 H2 → DGet H2 ds (.str n) ((lk src n).map V.str) := fun {H2} e => by
        have h := DGet.k (k := Sum.inr n) (e _ _ d10)
        rw [valV_src] at h
        exact h
      have okR := F.ok So n
      have fitR : Fit (lkR D n).d := (res_sml S okR).fit (by decide) (by decide)
      have fitD : Fit (.list ((deps (lkR D) n (split n (txt src n))).map Dep.d)) := (deps_sml S F (txt_good So n)).fit (Nat.le_refl _) (by decide)
      refine ⟨_, rfl, _, rfl, dr, D, n, rfl, R10.same e11, fun vd H12 e12 dvd => ?_⟩
      obtain ⟨pd, rfl⟩ := res_flat dvd
      have e12' := e11.trans e12
      refine ⟨_, rfl, _, rfl, _, rfl, src, 1 + (k : Int), lkR D, ds, n, rfl, So, F, rb, e12' _ _ d10, fun v2 H13 e13 dv2 => ?_⟩
      obtain ⟨p3, rfl⟩ := res_flat dv2
      refine ⟨_, rfl, p3, pd, _, rfl, dv2, dp_same e13 _ _ dvd, fitR, _, rfl, iteF ?_⟩
      have e13' := e12'.trans e13
      refine ⟨Nat.zero_le _, fun l0 hl0 => ?_⟩
      have e14 := same_new (.lst []) hl0
      have e14' := e13'.trans e14
      have dvd14 := dp_same (e13.trans e14) _ _ dvd
      -- the last of the turn
      have tail : ∀ (DD : Ends) (fl : Addr) (H2 : Hp), (∀ σ H3, Pw (j + 1) σ H3 → DD.nx σ H3) → Same H10 H2 → Dp K H2 (.ref fl) (.list ((deps (lkR D) n (split n (txt src n))).map Dep.d)) →
          (tIfS (tNot (tB (tCall (spLalike K) [] E0 (tCons (tCall (spDependencies K) [] E0 (tCons (tVar 3) (tCons (tVar 4) (tCons (tVar 7) tNil)))) (tCons (tVar 9) tNil))))) (tRet (tC (.bl false))) tNext) DD
            [some (.ref s), some (.ref b), some (.int (0 + (t : Int))), some (.ref ds), some (.int (1 + (k : Int))), some (.ref lb), some (.ref dr), some (.str n), some (.ref pd), some (.ref fl), v10] H2 := by
        intro DD fl H2 hD e2 dfl
        refine ⟨_, rfl, _, rfl, _, rfl, src, 1 + (k : Int), lkR D, ds, n, rfl, So, F, rb, e2 _ _ d10, fun l3 vs3 H3 nl3 e3 l3at dl3 => ?_⟩
        refine ⟨_, rfl, l3, fl, _, rfl, .lst (SqL.of l3at) dl3, dp_same e3 _ _ dfl, fitD, _, rfl, iteF ?_⟩
        refine hD _ _ ?_
        rw [← hPw]
        exact ⟨_, _, _, _, rfl, e2.trans e3⟩
      refine ⟨_, rfl, _, rfl, ds, _, rfl, dget e14', _, rfl, ?_⟩
      cases hl : lk src n with
      | none =>
        refine iteF ?_
        refine tail _ l0 _ (fun _ _ h => h) e14' ?_
        rw [txt_none hl, split_nil]
        exact .lst (SqL.of upd_same) .nil
      | some z =>
        refine iteT ?_
        have gz := (S.good _ (lk_mem hl))
        have gz : Good 60 z := gz
        have dg14 : ∀ {H2}, Same H10 H2 → DGet H2 ds (.str n) (some (.str z)) := fun {H2} e => by
          have h := dget e
          rw [hl] at h
          exact h
        refine ⟨_, rfl, _, rfl, _, rfl, _, rfl, ds, .str z, rfl, dg14 e14', dr, D, n, z, rfl, R10.same e14', rb, gz, fun l4 vs4 H15 nl4 e15 l4at dl4 => ?_⟩
        have e15' := e14'.trans e15
        refine ⟨_, rfl, _, rfl, _, rfl, ds, .str z, rfl, dg14 e15', _, rfl, _, rfl, lkR D, n, z, 1 + (k : Int), .ref l4, rfl, gz, rb, .lst (SqL.of l4at) dl4, fun v5 H16 e16 dv5 => ?_⟩
        obtain ⟨p5, rfl⟩ := res_flat dv5
        rw [← F.fx n z hl] at dv5
        refine ⟨_, rfl, p5, pd, _, rfl, dv5, dp_same (e15.trans e16) _ _ dvd14, fitR, _, rfl, iteF ?_⟩
        refine tail _ l4 _ (fun _ _ h => h) (e15'.trans e16) ?_
        rw [txt_some hl]
        exact dp_same e16 _ _ (.lst (SqL.of l4at) dl4)
    · rintro σ H11 hp
      rw [← hPw] at hp
      obtain ⟨v7, v8, v9, v10, rfl, e11⟩ := hp
      refine ⟨_, rfl, b, dg, rfl, bx10.same e11, fun pp pages H12 pnd psub b12 bx12 tp12 => ?_⟩
      have d12 := b12 _ _ (e11 _ _ d10) nb
      have l12 := b12 _ _ (e11 _ _ l10) lbb
      have t12 : TS H11 H12 := by
        obtain ⟨_, _, h1, _⟩ := (bx10.same e11).ex
        exact TS.but b12 h1 rfl
      have dp12 := dpa_ts t12 _ _ (noLs_map noL_pair _) (dpa_same e11 _ _ dp10)
      have plen : pages.length ≤ 100 := Nat.le_trans (nodup_sub pnd (m := NMS) psub) (by decide)
      refine ⟨_, rfl, _, rfl, _, rfl, src, 1 + (k : Int), lkR D, ds, pp, pages, rfl, So, F, rb, d12, tp12, plen, fun T1 l1 H13 rq1 nl1 e13 l1at => ?_⟩
      refine ⟨_, rfl, _, rfl, _, rfl, src, 1 + (k : Int), lkR D, ds, pp, pages, rfl, So, F, e13 _ _ d12, same_sqT e13 tp12, pnd, plen, fun T2 l2 H14 rq2 nl2 e14 l2at => ?_⟩
      have er : rise T2 = rise T1 := Rise.uniq (rise_rise _) (rise_rise _) fun x => by rw [mem_rise, mem_rise]; exact rq2.uniq rq1 x
      rw [er] at l2at
      have fitT : Fit (.list (txts (rise T1))) := (req_sml (att := 0) S rq1 plen fun x hx => nms_good (psub x hx)).fit (Nat.le_refl _) (by decide)
      refine ⟨l1, l2, _, rfl, .lst (SqL.of (e14 _ _ l1at)) (dpa_txts _), .lst (SqL.of l2at) (dpa_txts _), fitT, _, rfl, iteF ?_⟩
      have e1214 := e13.trans e14
      refine ⟨_, rfl, ds, srcK src, rfl, e1214 _ _ d12, fun H15 la ta e15 nla nta pla la15 pr15 => ?_⟩
      have e15 : Same H14 H15 := e15
      have dp15 := items_dp (K := K) pr15
      have e1215 := e1214.trans e15
      refine ⟨_, rfl, _, _, .lst (SqL.of la15) dp15, .lst (SqL.of (e1215 _ _ l12)) (dpa_same e1215 _ _ dp12), pairs_shaped S, pairs_shaped S, _, rfl, ?_⟩
      rw [pairs_eqv S]
      refine iteF ?_
      show Pv (t + 1) _ _
      rw [← hPv]
      exact ⟨_, _, _, _, _, _, _, _, _, rfl, bx12.same e1215⟩
  · intro σ H4 hp
    rw [← hPv] at hp
    obtain ⟨v2, v3, v4, v5, v6, v7, v8, v9, v10, rfl, bx4⟩ := hp
    exact q H4
end
end Pg


set_option Elab.async false
set_option linter.all false
set_option maxRecDepth 100000
set_option maxHeartbeats 4000000
/-! what the module holds, by facts; all promises together -/
namespace Pg
open PySem PySem.Spec PyProof.Rows L2

/-- the def x of the text stands in the module, as facts -/
structure At (K : PySem.W.Frag) (x : Str) (st : Stmt) : Prop where
  ex : ∃ (f : Addr) (oc : Value) (od an : Option Addr) (sl : Array (Option Value)) (kV dc pm cd ct : Value), PySem.W.nsIn K mainGlobals x = some (some (.ref f)) ∧
    K.lookup f = some ⟨oc, od, .func (PySem.W.fnOf x x (defArgs st) (defBody st) (defScope st) .none kV dc pm an cd ct), sl⟩ ∧ PySem.W.codeIn K cd x = true ∧ PySem.W.keepIn K (.ref f) = true
theorem at_mk {K : PySem.W.Frag} {x : Str} {st : Stmt} {f : Addr} {oc : Value} {od an : Option Addr} {sl : Array (Option Value)} {kV dc pm cd ct : Value} (a : PySem.W.nsIn K mainGlobals x = some (some (.ref f)))
    (l : K.lookup f = some ⟨oc, od, .func (PySem.W.fnOf x x (defArgs st) (defBody st) (defScope st) .none kV dc pm an cd ct), sl⟩) (c : PySem.W.codeIn K cd x = true) (k : PySem.W.keepIn K (.ref f) = true) : At K x st :=
  ⟨f, oc, od, an, sl, kV, dc, pm, cd, ct, a, l, c, k⟩
theorem At.def_ {K : PySem.W.Frag} {h : Heap} {mg : Str → Option Value} {x : Str} {st : Stmt} {ps : List Str} (A : At K x st) (X : K.In h) (G : h.Ns mainGlobals mg)
    (hb : ∀ (kV doc pm : Value) (an : Option Addr) (cdv ct : Value) (us : List Value), us.length = ps.length → bindArgs (PySem.W.fnOf x x (defArgs st) (defBody st) (defScope st) .none kV doc pm an cdv ct) ⟨us, []⟩ = pure (ps.zip us)) : DefAt K mg x st ps := by
  obtain ⟨f, oc, od, an, sl, kV, dc, pm, cd, ct, a, l, c, k⟩ := A.ex
  have F := fun_mk (st := st) l c k
  exact ⟨f, _, F, PySem.W.mg_of X G a, F.binds hb⟩
/-- a method of the class at C, as facts -/
structure AtM (K : PySem.W.Frag) (C : Addr) (x q : Str) (st : Stmt) : Prop where
  ex : ∃ (f : Addr) (oc : Value) (od an : Option Addr) (sl : Array (Option Value)) (kV dc pm cd ct : Value), PySem.W.findIn K (.ref C) x = some (some (.ref f)) ∧ PySem.W.isFn K (.ref f) = true ∧
    K.lookup f = some ⟨oc, od, .func (PySem.W.fnOf x q (defArgs st) (defBody st) (defScope st) .none kV dc pm an cd ct), sl⟩ ∧ PySem.W.codeIn K cd q = true ∧ PySem.W.keepIn K (.ref f) = true
theorem atM_mk {K : PySem.W.Frag} {C : Addr} {x q : Str} {st : Stmt} {f : Addr} {oc : Value} {od an : Option Addr} {sl : Array (Option Value)} {kV dc pm cd ct : Value} (a : PySem.W.findIn K (.ref C) x = some (some (.ref f))) (i : PySem.W.isFn K (.ref f) = true)
    (l : K.lookup f = some ⟨oc, od, .func (PySem.W.fnOf x q (defArgs st) (defBody st) (defScope st) .none kV dc pm an cd ct), sl⟩) (c : PySem.W.codeIn K cd q = true) (k : PySem.W.keepIn K (.ref f) = true) : AtM K C x q st :=
  ⟨f, oc, od, an, sl, kV, dc, pm, cd, ct, a, i, l, c, k⟩
theorem AtM.meth {K : PySem.W.Frag} {C : Addr} {x q : Str} {st : Stmt} {ps : List Str} (A : AtM K C x q st)
    (hb : ∀ (kV doc pm : Value) (an : Option Addr) (cdv ct : Value) (us : List Value), us.length = ps.length → bindArgs (PySem.W.fnOf x q (defArgs st) (defBody st) (defScope st) .none kV doc pm an cdv ct) ⟨us, []⟩ = pure (ps.zip us)) : DefM K C x q st ps := by
  obtain ⟨f, oc, od, an, sl, kV, dc, pm, cd, ct, a, i, l, c, k⟩ := A.ex
  have F := fun_mk (st := st) l c k
  exact ⟨f, _, F, ⟨a, i, k⟩, F.binds hb⟩
theorem AtM.init {K : PySem.W.Frag} {C : Addr} {q : Str} {st : Stmt} {ps : List Str} (A : AtM K C "__init__" q st) (mk : PySem.W.makesIn K C = true) (kc : PySem.W.keepIn K (.ref C) = true)
    (hb : ∀ (kV doc pm : Value) (an : Option Addr) (cdv ct : Value) (us : List Value), us.length = ps.length → bindArgs (PySem.W.fnOf "__init__" q (defArgs st) (defBody st) (defScope st) .none kV doc pm an cdv ct) ⟨us, []⟩ = pure (ps.zip us)) : DefI K C q st ps := by
  obtain ⟨f, oc, od, an, sl, kV, dc, pm, cd, ct, a, i, l, c, k⟩ := A.ex
  have F := fun_mk (st := st) l c k
  exact ⟨f, _, F, ⟨mk, a, i, kc⟩, F.binds hb⟩
theorem opIn_of {K : PySem.W.Frag} {d : Addr} {es : Array DictEntry} {n : Nat} {s1 t1 s2 t2 : Tok} {h1 h2 : Int} (hl : K.lookup d = some ⟨.type "dict", none, .dict es n, #[]⟩) (he : es.toList = [⟨h1, .str "<" s1, .str ">" t1⟩, ⟨h2, .str "[" s2, .str "]" t2⟩]) (z : Str) :
    PySem.W.nsIn K d z = some (if z = "<" then some (.str ">" t1) else if z = "[" then some (.str "]" t2) else none) := by
  unfold PySem.W.nsIn
  rw [hl]
  dsimp only
  rw [he]
  have i1 : Value.isStr (.str "<" s1) z = decide (("<" : Str) = z) := by
    show (("<" : Str) == z) = _
    by_cases e : ("<" : Str) = z
    · rw [e]
      simp
    · rw [decide_eq_false e]
      exact beq_false_of_ne e
  have i2 : Value.isStr (.str "[" s2) z = decide (("[" : Str) = z) := by
    show (("[" : Str) == z) = _
    by_cases e : ("[" : Str) = z
    · rw [e]
      simp
    · rw [decide_eq_false e]
      exact beq_false_of_ne e
  rw [List.find?_cons]
  dsimp only
  rw [i1]
  by_cases e1 : z = "<"
  · rw [if_pos e1, e1, decide_eq_true rfl]
  · rw [if_neg e1, decide_eq_false fun e => e1 e.symm]
    dsimp only
    rw [List.find?_cons]
    dsimp only
    rw [i2]
    by_cases e2 : z = "["
    · rw [if_pos e2, e2, decide_eq_true rfl]
    · rw [if_neg e2, decide_eq_false fun e => e2 e.symm]
      rfl
theorem sqT_of {K : PySem.W.Frag} {d : Addr} {cl : Option Addr} {its : Array Value} {n : Nat} {sl : Array (Option Value)} {xs : List V} (hl : K.lookup d = some ⟨.type "tuple", cl, .seq its n, sl⟩) (hz : its.size ≤ sizeLine) (hv : Vals xs its.toList) (H : Hp) : SqT K H d xs :=
  .inr ⟨_, its, n, hl, rfl, rfl, hz, hv⟩

theorem all_mk {l : PySem.W.OpenLaw} {w : World} {K : PySem.W.Frag} {h : Heap} {mg : Str → Option Value} {fa : Addr} {tNM tLE tRM t1 t2 : Tok} {aOP aNO aN0 C : Addr} {es : Array DictEntry} {n : Nat} (X : K.In h) (G : h.Ns mainGlobals mg) (hfa : mg "law" = some (.ref fa)) {fl : Addr} {oc : Value} {od an : Option Addr} {sl : Array (Option Value)} {kV dc pm cd ct : Value}
    (la : PySem.W.nsIn K mainGlobals "law" = some (some (.ref fl))) (ll : K.lookup fl = some ⟨oc, od, .func (PySem.W.fnOf "law" "law" (defArgs sLaw) (defBody sLaw) (defScope sLaw) .none kV dc pm an cd ct), sl⟩) (lc : PySem.W.codeIn K cd "law" = true) (lk : PySem.W.keepIn K (.ref fl) = true)
    (d0 : At K "is_name" sIsName)
    (d1 : At K "is_after" sIsAfter)
    (d2 : At K "failures" sFailures)
    (d3 : At K "_segment" sSegment)
    (d4 : At K "split" sSplit)
    (d5 : At K "target" sTarget)
    (d6 : At K "_first_failure" sFirstFailure)
    (d7 : At K "_join_segments" sJoinSegments)
    (d8 : At K "join_result" sJoinResult)
    (d9 : At K "dependencies" sDependencies)
    (d10 : At K "result" sResult)
    (d11 : At K "required" sRequired)
    (d12 : At K "_law_cell" sLcell)
    (d13 : At K "_law_digits" sLdigits)
    (d14 : At K "_law_is_name" sLisName)
    (d15 : At K "_law_bracket" sLbracket)
    (d16 : At K "_law_split" sLsplit)
    (d17 : At K "_law_dependencies" sLdependencies)
    (d18 : At K "_law_result_of" sLresultOf)
    (d19 : At K "_law_joined" sLjoined)
    (d20 : At K "_law_rendered" sLrendered)
    (d21 : At K "_law_results" sLresults)
    (d22 : At K "_law_required" sLrequired)
    (d23 : At K "_law_draw" sLdraw)
    (d24 : At K "_law_name" sLname)
    (d25 : At K "_law_text" sLtext)
    (d26 : At K "_law_sources" sLsources)
    (d27 : At K "_law_pages" sLpages)
    (d28 : At K "_law_alike" sLalike)
    (d29 : At K "_law_long" sLlong)
    (m0 : AtM K C "__init__" "Renderer.__init__" sMInit)
    (m1 : AtM K C "dependencies" "Renderer.dependencies" sMdependencies)
    (m2 : AtM K C "result" "Renderer.result" sMresult)
    (m3 : AtM K C "required" "Renderer.required" sMrequired)
    (pg : PySem.W.plainGet K C Str.empty = true) (hd : PySem.W.hasDictIn K C = true) (po : PySem.W.plainOver K C = true) (sa : PySem.W.findIn K (.ref C) "__setattr__" = some (some (.builtin "object.__setattr__"))) (mk : PySem.W.makesIn K C = true) (kc : PySem.W.keepIn K (.ref C) = true)
    (nS : PySem.W.findIn K (.ref C) "_sources" = some none) (nA : PySem.W.findIn K (.ref C) "_attempts" = some none) (nR : PySem.W.findIn K (.ref C) "_results" = some none)
    (gNM : PySem.W.nsIn K mainGlobals "NAME_MOST" = some (some (.int 6 tNM))) (gLE : PySem.W.nsIn K mainGlobals "LETTERS" = some (some (.str LETT tLE))) (gRM : PySem.W.nsIn K mainGlobals "RESULT_MOST" = some (some (.int 200 tRM)))
    (gOP : PySem.W.nsIn K mainGlobals "OPENING" = some (some (.ref aOP))) (op : KDict K w aOP es n) {s1 s2 : Tok} {h1 h2 : Int} (oe : es.toList = [⟨h1, .str "<" s1, .str ">" t1⟩, ⟨h2, .str "[" s2, .str "]" t2⟩])
    (gNO : PySem.W.nsIn K mainGlobals "NOTHING" = some (some (.ref aNO))) {u1 u2 : Tok} {cN c0 : Option Addr} {eN e0 : Nat} {sN sl0 : Array (Option Value)} (no : K.lookup aNO = some ⟨.type "tuple", cN, .seq #[.str "text" u1, .str "?" u2, .ref aN0] eN, sN⟩) (n0 : K.lookup aN0 = some ⟨.type "tuple", c0, .seq #[] e0, sl0⟩) (gRe : PySem.W.nsIn K mainGlobals "Renderer" = some (some (.ref C)))
    (zlen : PySem.W.nsIn K mainGlobals "len" = some none) (zall : PySem.W.nsIn K mainGlobals "all" = some none) (zsorted : PySem.W.nsIn K mainGlobals "sorted" = some none) (zlist : PySem.W.nsIn K mainGlobals "list" = some none) (ztuple : PySem.W.nsIn K mainGlobals "tuple" = some none) (zint : PySem.W.nsIn K mainGlobals "int" = some none) (zmax : PySem.W.nsIn K mainGlobals "max" = some none) (zrepr : PySem.W.nsIn K mainGlobals "repr" = some none) (zrange : PySem.W.nsIn K mainGlobals "range" = some none) :
    ∃ fd : FuncData, (∀ (s : Shared) (v : Value), BindsTo s fd ⟨[v], []⟩ [("_law_script", v)]) ∧ ∀ base : Heap, K.In base → base.Ns mainGlobals mg → FnG l.prog w K mg base 38 fa fd ["_law_script"] (spLaw K) := by
  have e := hfa.symm.trans (PySem.W.mg_of X G la)
  cases e
  have T : Txt K w mg ⟨tNM, tLE, tRM, aOP, es, n, t1, t2, aNO, aN0, C⟩ := ⟨PySem.W.mg_of X G gNM, PySem.W.mg_of X G gLE, PySem.W.mg_of X G gRM, PySem.W.mg_of X G gOP, op, opIn_of op.at_ oe, PySem.W.mg_of X G gNO, sqT_of no (by show 3 ≤ sizeLine; decide) (.cons ⟨_, rfl⟩ (.cons ⟨_, rfl⟩ (.cons rfl .nil))), sqT_of n0 (Nat.zero_le _) .nil, PySem.W.mg_of X G gRe, PySem.W.mg_none_of X G zlen, PySem.W.mg_none_of X G zall, PySem.W.mg_none_of X G zsorted, PySem.W.mg_none_of X G zlist, PySem.W.mg_none_of X G ztuple, PySem.W.mg_none_of X G zint, PySem.W.mg_none_of X G zmax, PySem.W.mg_none_of X G zrepr, PySem.W.mg_none_of X G zrange⟩
  have CT : CTxt K C := ⟨⟨pg, hd, po, sa⟩, nS, nA, nR⟩
  have FL := fun_mk (st := sLaw) ll lc lk
  have DIsName := d0.def_ (ps := ["text"]) X G fun _ _ _ _ _ _ us hl => match us, hl with | [_], _ => rfl
  have DIsAfter := d1.def_ (ps := ["one", "other"]) X G fun _ _ _ _ _ _ us hl => match us, hl with | [_, _], _ => rfl
  have DFailures := d2.def_ (ps := ["text"]) X G fun _ _ _ _ _ _ us hl => match us, hl with | [_], _ => rfl
  have DSegment := d3.def_ (ps := ["name", "text", "at"]) X G fun _ _ _ _ _ _ us hl => match us, hl with | [_, _, _], _ => rfl
  have DSplit := d4.def_ (ps := ["name", "text"]) X G fun _ _ _ _ _ _ us hl => match us, hl with | [_, _], _ => rfl
  have DTarget := d5.def_ (ps := ["name", "found"]) X G fun _ _ _ _ _ _ us hl => match us, hl with | [_, _], _ => rfl
  have DFirstFailure := d6.def_ (ps := ["name", "text", "attempts", "found"]) X G fun _ _ _ _ _ _ us hl => match us, hl with | [_, _, _, _], _ => rfl
  have DJoinSegments := d7.def_ (ps := ["name", "text", "found"]) X G fun _ _ _ _ _ _ us hl => match us, hl with | [_, _, _], _ => rfl
  have DJoinResult := d8.def_ (ps := ["name", "text", "attempts", "found"]) X G fun _ _ _ _ _ _ us hl => match us, hl with | [_, _, _, _], _ => rfl
  have DDependencies := d9.def_ (ps := ["sources", "attempts", "name"]) X G fun _ _ _ _ _ _ us hl => match us, hl with | [_, _, _], _ => rfl
  have DResult := d10.def_ (ps := ["sources", "attempts", "name"]) X G fun _ _ _ _ _ _ us hl => match us, hl with | [_, _, _], _ => rfl
  have DRequired := d11.def_ (ps := ["sources", "attempts", "pages"]) X G fun _ _ _ _ _ _ us hl => match us, hl with | [_, _, _], _ => rfl
  have DLcell := d12.def_ (ps := ["_law_script", "_law_k"]) X G fun _ _ _ _ _ _ us hl => match us, hl with | [_, _], _ => rfl
  have DLdigits := d13.def_ (ps := ["_law_script", "_law_first", "_law_last"]) X G fun _ _ _ _ _ _ us hl => match us, hl with | [_, _, _], _ => rfl
  have DLisName := d14.def_ (ps := ["_law_text_here"]) X G fun _ _ _ _ _ _ us hl => match us, hl with | [_], _ => rfl
  have DLbracket := d15.def_ (ps := ["_law_name_here", "_law_text_here", "_law_at"]) X G fun _ _ _ _ _ _ us hl => match us, hl with | [_, _, _], _ => rfl
  have DLsplit := d16.def_ (ps := ["_law_name_here", "_law_text_here"]) X G fun _ _ _ _ _ _ us hl => match us, hl with | [_, _], _ => rfl
  have DLdependencies := d17.def_ (ps := ["_law_results_here", "_law_name_here", "_law_text_here"]) X G fun _ _ _ _ _ _ us hl => match us, hl with | [_, _, _], _ => rfl
  have DLresultOf := d18.def_ (ps := ["_law_results_here", "_law_name_here"]) X G fun _ _ _ _ _ _ us hl => match us, hl with | [_, _], _ => rfl
  have DLjoined := d19.def_ (ps := ["_law_name_here", "_law_text_here", "_law_found"]) X G fun _ _ _ _ _ _ us hl => match us, hl with | [_, _, _], _ => rfl
  have DLrendered := d20.def_ (ps := ["_law_name_here", "_law_text_here", "_law_attempts", "_law_found"]) X G fun _ _ _ _ _ _ us hl => match us, hl with | [_, _, _, _], _ => rfl
  have DLresults := d21.def_ (ps := ["_law_sources_here", "_law_attempts"]) X G fun _ _ _ _ _ _ us hl => match us, hl with | [_, _], _ => rfl
  have DLrequired := d22.def_ (ps := ["_law_sources_here", "_law_attempts", "_law_pages_here"]) X G fun _ _ _ _ _ _ us hl => match us, hl with | [_, _, _], _ => rfl
  have DLdraw := d23.def_ (ps := ["_law_box", "_law_many"]) X G fun _ _ _ _ _ _ us hl => match us, hl with | [_, _], _ => rfl
  have DLname := d24.def_ (ps := ["_law_box"]) X G fun _ _ _ _ _ _ us hl => match us, hl with | [_], _ => rfl
  have DLtext := d25.def_ (ps := ["_law_box", "_law_most"]) X G fun _ _ _ _ _ _ us hl => match us, hl with | [_, _], _ => rfl
  have DLsources := d26.def_ (ps := ["_law_box", "_law_most"]) X G fun _ _ _ _ _ _ us hl => match us, hl with | [_, _], _ => rfl
  have DLpages := d27.def_ (ps := ["_law_box"]) X G fun _ _ _ _ _ _ us hl => match us, hl with | [_], _ => rfl
  have DLalike := d28.def_ (ps := ["_law_one", "_law_two"]) X G fun _ _ _ _ _ _ us hl => match us, hl with | [_, _], _ => rfl
  have DLlong := d29.def_ (ps := ["_law_box", "_law_sources_here"]) X G fun _ _ _ _ _ _ us hl => match us, hl with | [_, _], _ => rfl
  have DMInit := m0.init (ps := ["self", "sources", "attempts"]) mk kc fun _ _ _ _ _ _ us hl => match us, hl with | [_, _, _], _ => rfl
  have DMdependencies := m1.meth (ps := ["self", "name"]) fun _ _ _ _ _ _ us hl => match us, hl with | [_, _], _ => rfl
  have DMresult := m2.meth (ps := ["self", "name"]) fun _ _ _ _ _ _ us hl => match us, hl with | [_, _], _ => rfl
  have DMrequired := m3.meth (ps := ["self", "pages"]) fun _ _ _ _ _ _ us hl => match us, hl with | [_, _], _ => rfl
  refine ⟨PySem.W.fnOf "law" "law" (defArgs sLaw) (defBody sLaw) (defScope sLaw) .none kV dc pm an cd ct, fun s v => .of_eq rfl, fun base _ _ => ?_⟩
  have HIsName := has_is_name (P := l.prog) (w := w) (mg := mg) (base := base) DIsName T
  have HIsAfter := has_is_after (P := l.prog) (w := w) (mg := mg) (base := base) DIsAfter
  have HFailures := has_failures (P := l.prog) (w := w) (mg := mg) (base := base) DFailures
  have HSegment := has_segment (P := l.prog) (w := w) (mg := mg) (base := base) DSegment T HIsName HIsAfter
  have HSplit := has_split (P := l.prog) (w := w) (mg := mg) (base := base) DSplit T HSegment
  have HTarget := has_target (P := l.prog) (w := w) (mg := mg) (base := base) DTarget HIsName HIsAfter
  have HFirstFailure := has_first (P := l.prog) (w := w) (mg := mg) (base := base) DFirstFailure HFailures
  have HJoinSegments := has_join_segments (P := l.prog) (w := w) (mg := mg) (base := base) DJoinSegments T HSplit HTarget
  have HJoinResult := has_join_result (P := l.prog) (w := w) (mg := mg) (base := base) DJoinResult T HFirstFailure HJoinSegments
  have HMInit := has_init (P := l.prog) (w := w) (mg := mg) (base := base) (a := ⟨tNM, tLE, tRM, aOP, es, n, t1, t2, aNO, aN0, C⟩) DMInit CT
  have HB := has_both (P := l.prog) (w := w) (mg := mg) (base := base) (a := ⟨tNM, tLE, tRM, aOP, es, n, t1, t2, aNO, aN0, C⟩) DMresult DMdependencies T CT HSplit HTarget HJoinResult 14
  have HMrequired := has_req (P := l.prog) (w := w) (mg := mg) (base := base) (a := ⟨tNM, tLE, tRM, aOP, es, n, t1, t2, aNO, aN0, C⟩) DMrequired T CT HB.2
  have HDependencies := has_dependencies (P := l.prog) (w := w) (mg := mg) (base := base) (a := ⟨tNM, tLE, tRM, aOP, es, n, t1, t2, aNO, aN0, C⟩) DDependencies T CT HMInit HB.2
  have HResult := has_result (P := l.prog) (w := w) (mg := mg) (base := base) (a := ⟨tNM, tLE, tRM, aOP, es, n, t1, t2, aNO, aN0, C⟩) DResult T CT HMInit HB.1
  have HRequired := has_required (P := l.prog) (w := w) (mg := mg) (base := base) (a := ⟨tNM, tLE, tRM, aOP, es, n, t1, t2, aNO, aN0, C⟩) DRequired T CT HMInit HMrequired
  have HLcell := has_lcell (P := l.prog) (w := w) (mg := mg) (base := base) DLcell T
  have HLdigits := has_ldigits (P := l.prog) (w := w) (mg := mg) (base := base) DLdigits T HLcell
  have HLisName := has_lisname (P := l.prog) (w := w) (mg := mg) (base := base) DLisName T
  have HLbracket := has_lbracket (P := l.prog) (w := w) (mg := mg) (base := base) DLbracket T HLisName
  have HLsplit := has_lsplit (P := l.prog) (w := w) (mg := mg) (base := base) DLsplit T HLbracket
  have HLresultOf := has_lresultof (P := l.prog) (w := w) (mg := mg) (base := base) DLresultOf T
  have HLdependencies := has_ldeps (P := l.prog) (w := w) (mg := mg) (base := base) DLdependencies T HLsplit HLresultOf HLisName
  have HLjoined := has_ljoined (P := l.prog) (w := w) (mg := mg) (base := base) DLjoined T HLsplit HLisName
  have HLrendered := has_lrendered (P := l.prog) (w := w) (mg := mg) (base := base) DLrendered T HLjoined
  have HLresults := has_lresults (P := l.prog) (w := w) (mg := mg) (base := base) DLresults T HLdependencies HLrendered
  have HLrequired := has_lrequired (P := l.prog) (w := w) (mg := mg) (base := base) DLrequired T HLdependencies HLresults
  have HLdraw := has_ldraw (P := l.prog) (w := w) (mg := mg) (base := base) DLdraw T
  have HLname := has_lname (P := l.prog) (w := w) (mg := mg) (base := base) DLname T HLdraw
  have HLtext := has_ltext (P := l.prog) (w := w) (mg := mg) (base := base) DLtext T HLdraw HLname
  have HLsources := has_lsources (P := l.prog) (w := w) (mg := mg) (base := base) DLsources T HLdraw HLname HLtext
  have HLpages := has_lpages (P := l.prog) (w := w) (mg := mg) (base := base) DLpages T HLdraw HLname
  have HLlong := has_llong (P := l.prog) (w := w) (mg := mg) (base := base) DLlong T HLdraw
  have HLalike := has_lalike (P := l.prog) (w := w) (mg := mg) (base := base) DLalike T
  exact has_law (P := l.prog) (w := w) (base := base) FL T HLdigits HLsources HLdraw HLlong HLresults HLresultOf HLalike HResult HLdependencies HJoinResult HDependencies HLpages HRequired HLrequired
theorem walk {l : PySem.W.OpenLaw} {q : Program} {loose : List Str} {XP : (Str → Option Value) → Heap → Prop} {YP : World → Heap → Prop} {d : DefRec} {K : Params → PySem.W.Frag} (hn : l.most = some 63) (hdf : d.params.defaults = [])
    (hY : ∀ (w : World) (h : Heap), YP w h → (K w.params).In h)
    (F : ∀ (w : World) (mg : Str → Option Value) (fa : Addr) (h : Heap), (K w.params).In h → h.Ns mainGlobals mg → mg d.name = some (.ref fa) →
      ∃ fd : FuncData, (∀ (s : Shared) (u : Value), BindsTo s fd ⟨[u], []⟩ [("_law_script", u)]) ∧ ∀ base : Heap, (K w.params).In base → base.Ns mainGlobals mg → FnG l.prog w (K w.params) mg base 38 fa fd ["_law_script"] (spLaw (K w.params))) :
    PySem.W.WalkO q loose XP YP l.row.toRowW d [] (fun f vs => PySem.call f vs) :=
  walkG (n := 63) (k := 38) (x := "_law_script") (sp := fun w => spLaw (K w.params)) hn (by decide) hdf ⟨rfl, by decide, by decide⟩ hY F (fun _ _ a ns _ _ hS => ⟨a, ns, rfl, hS, fun _ => rfl⟩)
end Pg


set_option Elab.async false
set_option maxRecDepth 100000
open PySem PySem.W PyProof.Rows
set_option maxHeartbeats 0 in
theorem PySem.Challenge.cw_pagesatonce_k03_results_of_names_holds : PySem.Challenge.rw_pagesatonce_k03_results_of_names.Holds := by
  w_on; o_law; k_head; (case hw => w_witness2)
  k_fill
  refine Pg.walk (l := PySem.Challenge.rw_pagesatonce_k03_results_of_names) rfl rfl (fun w h Y => PySem.W.kIn_of Y) ?F
  case F =>
    intro w mg fa h KX G hmg
    refine' Pg.all_mk KX G hmg ?la ?ll ?lc ?lk ?d0 ?d1 ?d2 ?d3 ?d4 ?d5 ?d6 ?d7 ?d8 ?d9 ?d10 ?d11 ?d12 ?d13 ?d14 ?d15 ?d16 ?d17 ?d18 ?d19 ?d20 ?d21 ?d22 ?d23 ?d24 ?d25 ?d26 ?d27 ?d28 ?d29 ?m0 ?m1 ?m2 ?m3 ?pg ?hd ?po ?sa ?mk ?kc ?nS ?nA ?nR ?gNM ?gLE ?gRM ?gOP ?op ?oe ?gNO ?no ?n0 ?gRe ?zlen ?zall ?zsorted ?zlist ?ztuple ?zint ?zmax ?zrepr ?zrange
    (case la => k_is); (case ll => k_is); (case lc => k_is); (case lk => k_is)
    (case gRe => k_is); (case gNO => k_is)
    (case d0 => (refine' Pg.at_mk ?a ?l ?c ?k; (case a => k_is); (case l => k_is); (case c => k_is); (case k => k_is)))
    (case d1 => (refine' Pg.at_mk ?a ?l ?c ?k; (case a => k_is); (case l => k_is); (case c => k_is); (case k => k_is)))
    (case d2 => (refine' Pg.at_mk ?a ?l ?c ?k; (case a => k_is); (case l => k_is); (case c => k_is); (case k => k_is)))
    (case d3 => (refine' Pg.at_mk ?a ?l ?c ?k; (case a => k_is); (case l => k_is); (case c => k_is); (case k => k_is)))
    (case d4 => (refine' Pg.at_mk ?a ?l ?c ?k; (case a => k_is); (case l => k_is); (case c => k_is); (case k => k_is)))
    (case d5 => (refine' Pg.at_mk ?a ?l ?c ?k; (case a => k_is); (case l => k_is); (case c => k_is); (case k => k_is)))
    (case d6 => (refine' Pg.at_mk ?a ?l ?c ?k; (case a => k_is); (case l => k_is); (case c => k_is); (case k => k_is)))
    (case d7 => (refine' Pg.at_mk ?a ?l ?c ?k; (case a => k_is); (case l => k_is); (case c => k_is); (case k => k_is)))
    (case d8 => (refine' Pg.at_mk ?a ?l ?c ?k; (case a => k_is); (case l => k_is); (case c => k_is); (case k => k_is)))
    (case d9 => (refine' Pg.at_mk ?a ?l ?c ?k; (case a => k_is); (case l => k_is); (case c => k_is); (case k => k_is)))
    (case d10 => (refine' Pg.at_mk ?a ?l ?c ?k; (case a => k_is); (case l => k_is); (case c => k_is); (case k => k_is)))
    (case d11 => (refine' Pg.at_mk ?a ?l ?c ?k; (case a => k_is); (case l => k_is); (case c => k_is); (case k => k_is)))
    (case d12 => (refine' Pg.at_mk ?a ?l ?c ?k; (case a => k_is); (case l => k_is); (case c => k_is); (case k => k_is)))
    (case d13 => (refine' Pg.at_mk ?a ?l ?c ?k; (case a => k_is); (case l => k_is); (case c => k_is); (case k => k_is)))
    (case d14 => (refine' Pg.at_mk ?a ?l ?c ?k; (case a => k_is); (case l => k_is); (case c => k_is); (case k => k_is)))
    (case d15 => (refine' Pg.at_mk ?a ?l ?c ?k; (case a => k_is); (case l => k_is); (case c => k_is); (case k => k_is)))
    (case d16 => (refine' Pg.at_mk ?a ?l ?c ?k; (case a => k_is); (case l => k_is); (case c => k_is); (case k => k_is)))
    (case d17 => (refine' Pg.at_mk ?a ?l ?c ?k; (case a => k_is); (case l => k_is); (case c => k_is); (case k => k_is)))
    (case d18 => (refine' Pg.at_mk ?a ?l ?c ?k; (case a => k_is); (case l => k_is); (case c => k_is); (case k => k_is)))
    (case d19 => (refine' Pg.at_mk ?a ?l ?c ?k; (case a => k_is); (case l => k_is); (case c => k_is); (case k => k_is)))
    (case d20 => (refine' Pg.at_mk ?a ?l ?c ?k; (case a => k_is); (case l => k_is); (case c => k_is); (case k => k_is)))
    (case d21 => (refine' Pg.at_mk ?a ?l ?c ?k; (case a => k_is); (case l => k_is); (case c => k_is); (case k => k_is)))
    (case d22 => (refine' Pg.at_mk ?a ?l ?c ?k; (case a => k_is); (case l => k_is); (case c => k_is); (case k => k_is)))
    (case d23 => (refine' Pg.at_mk ?a ?l ?c ?k; (case a => k_is); (case l => k_is); (case c => k_is); (case k => k_is)))
    (case d24 => (refine' Pg.at_mk ?a ?l ?c ?k; (case a => k_is); (case l => k_is); (case c => k_is); (case k => k_is)))
    (case d25 => (refine' Pg.at_mk ?a ?l ?c ?k; (case a => k_is); (case l => k_is); (case c => k_is); (case k => k_is)))
    (case d26 => (refine' Pg.at_mk ?a ?l ?c ?k; (case a => k_is); (case l => k_is); (case c => k_is); (case k => k_is)))
    (case d27 => (refine' Pg.at_mk ?a ?l ?c ?k; (case a => k_is); (case l => k_is); (case c => k_is); (case k => k_is)))
    (case d28 => (refine' Pg.at_mk ?a ?l ?c ?k; (case a => k_is); (case l => k_is); (case c => k_is); (case k => k_is)))
    (case d29 => (refine' Pg.at_mk ?a ?l ?c ?k; (case a => k_is); (case l => k_is); (case c => k_is); (case k => k_is)))
    (case m0 => (refine' Pg.atM_mk ?a ?i ?l ?c ?k; (case a => k_is); (case i => k_is); (case l => k_is); (case c => k_is); (case k => k_is)))
    (case m1 => (refine' Pg.atM_mk ?a ?i ?l ?c ?k; (case a => k_is); (case i => k_is); (case l => k_is); (case c => k_is); (case k => k_is)))
    (case m2 => (refine' Pg.atM_mk ?a ?i ?l ?c ?k; (case a => k_is); (case i => k_is); (case l => k_is); (case c => k_is); (case k => k_is)))
    (case m3 => (refine' Pg.atM_mk ?a ?i ?l ?c ?k; (case a => k_is); (case i => k_is); (case l => k_is); (case c => k_is); (case k => k_is)))
    (case pg => k_is); (case hd => k_is); (case po => k_is); (case sa => k_is); (case mk => k_is); (case kc => k_is); (case nS => k_is); (case nA => k_is); (case nR => k_is); (case gNM => k_is); (case gLE => k_is); (case gRM => k_is); (case gOP => k_is)
    (case op => (refine' ⟨?at_, ?lit, ?low⟩; (case at_ => k_is); (case lit => exact ⟨⟨_, _, rfl, rfl⟩, ⟨_, _, rfl, rfl⟩, trivial⟩); (case low => decide)))
    (case oe => rfl)
    (case no => k_is); (case n0 => k_is)
    (case zlen => k_is); (case zall => k_is); (case zsorted => k_is); (case zlist => k_is); (case ztuple => k_is); (case zint => k_is); (case zmax => k_is); (case zrepr => k_is); (case zrange => k_is)
