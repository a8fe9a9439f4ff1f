import PyProof.Rows.All
import Wide.All
import OpenK.AllK
import Wide.FinOn
import PySem.Challenge.RW_grownlines_k81_whole_spared_and_least
import KE.KOwnIter
import KE.KDictIter
import KE.KFmtOwn
import HandS.ForMost
import HandS.Slots
import HandS.SlotsOwn
import HandS.IterVal
import HandS.FStr
import KE.KDictList
import KE.KDictSum
import HandS.Star
import HandS.Set
import HandS.Walk
import HandS.DictComp
import HandS.IsInst
import HandS.Deep
import HandS.Wide
import HandS.RaiseMore
import HandS.HeadHook2
import KE.KStateDown
import HandS.Head0
import HandS.Head1
import HandS.Head2
import HandS.Codes
import HandS.TupSets
import HandS.SetKeys
import KE.KDictKeyed
import HandS.SetBool
import KE.SortData
import KE.KAssignIn
import KE.DataMinMax
import KE.KDictZip
import HandS.Base
import HandS.Call
import HandS.List
import HandS.Dict
import HandS.Iter
import HandS.ListItems
import HandS.Zip
import HandS.HeadEnd
set_option Elab.async false
set_option linter.all false
set_option maxRecDepth 100000
set_option maxHeartbeats 2000000
/-! own objects walked, measured, asked by index, compared, written -/
namespace G81
open PySem PySem.Spec PyProof.Rows L2 SlX

/-! ### a def whose promise may look at the size of the heap at its entry -/
def FnS (P : Program) (w : World) (K : PySem.W.Frag) (mg : Str → Option Value) (base : Heap) (CX : CXT) (k : Nat) (f : Addr) (sp : Nat → Sp) : Prop :=
  ∀ (A : Around) (outer : List Env) (s : Shared) (H : Hp) (us : List Value) (vs : List V) (Q : VK) (E : XK),
    Room k A → Env0 P w K mg base A outer s H → Vals vs us → sp s.heap.objs.size vs H Q E →
      codeAny (model P w) A (.call (.ref f) ⟨us, []⟩) (CR CX outer P w H s Q E) s

theorem fnS_of {CX : CXT} {P : Program} {w : World} {K : PySem.W.Frag} {mg : Str → Option Value} {base : Heap} {k : Nat} {f : Addr}
    {x qual : Str} {st : Stmt} {fd : FuncData} {N ps : List Str} {sp : Nat → Sp} (F : Fun K x qual st f fd) (b : Binds K fd ps []) (S : FnScope N ps (defScope st))
    (len : ∀ n vs H Q E, sp n vs H Q E → vs.length = ps.length)
    (hbody : ∀ (cdv : Value) (A : Around) (outer : List Env) (s : Shared) (H : Hp) (vs : List V) (Q : VK) (E : XK),
      Room k (A.deeper (envOfC qual (defScope st) s.heap.objs.size f cdv)) → sp s.heap.objs.size vs H Q E →
      ∃ t, PSs (cxOf CX P w K mg base N qual (defScope st) f cdv A outer s H E) (defBody st) t ∧ t { nx := fun _ H' => Q .non H', rt := Q } (start N vs) H) :
    FnS P w K mg base CX (k + 1) f sp := by
  intro A outer s H us vs Q E hr e0 r hsp
  obtain ⟨oc, od, kV, doc, pm, an, cdv, ct, osl, rfl, lk, hcd⟩ := F.ex
  have G : FnOk P w K mg base CX (k + 1) f (PySem.W.fnOf x qual (defArgs st) (defBody st) (defScope st) .none kV doc pm an cdv ct) ps
      (fun vs' H' Q' E' => sp s.heap.objs.size vs' H' Q' E' ∧ (s.heap.objs.size = s.heap.objs.size)) → True := fun _ => trivial
  have e1 := len _ _ _ _ _ hsp
  have KX : K.In s.heap := e0.mod.kin.keeps fun c o z => (e0.bs c o z).1
  have nl : s.heap.NoLimit := e0.mod.nolimit.keeps fun c o z => (e0.bs c o z).1
  have knd : ∀ y ∈ ps.zip us, (defScope st).names.lookup y.1 = some .local ∨
      ((defScope st).names.lookup y.1 = some .cell ∧ ((cellsFrom (s.heap.objs.size + 1) (defScope st).names []).lookup y.1).isSome = true) := by
    rintro ⟨n, v⟩ hy
    rcases S.par n (List.of_mem_zip hy).1 with z | z
    · exact .inl z
    · exact .inr ⟨z, PySem.W.cellsFrom_some _ _ _ (.inl z)⟩
  have hbd : BindsTo s (PySem.W.fnOf x qual (defArgs st) (defBody st) (defScope st) .none kV doc pm an cdv ct) ⟨us, []⟩ (ps.zip us) := by
    have z := b s us KX (by rw [List.append_nil, ← r.length, e1])
    rw [List.append_nil] at z
    exact z
  refine codeAny_call_function hr.depth (KX _ _ lk) rfl S.co S.gen rfl (PySem.W.codeRec_of KX hcd) (hbd _ _ _ _ ?_)
  refine wpAny_newFunctionEnv_cells S.kind knd fun env he s1 z1 => ?_
  subst he
  refine ⟨nl.keeps z1.toInCall.keep, codeAny_func ?_⟩
  obtain ⟨t, ht, hq⟩ := hbody cdv A outer s H vs Q E (hr.deeper _) hsp
  have I := inv_start (CX := CX) (cd := cdv) (qual := qual) (f := f) (E := E) S hr.hd e0 e1 r z1
  refine wpAny_mono (ht.run [] s1 (start N vs) H _ I hq) (fun fl s2 hs => ?_) fun e s2 hs => hs
  have fin : ∀ {σ2 : L2.St} {H2 : Hp} {v : V} {u : Value}, Inv (cxOf CX P w K mg base N qual (defScope st) f cdv A outer s H E) [] σ2 H2 s2 → RelV v u → Q v H2 →
      CE outer P w H s Q u s2 := fun {σ2 H2 v u} J rv q => ⟨v, H2, J.os, J.bare, J.base, J.hok, rv, q⟩
  cases fl with
  | ret u => obtain ⟨v, σ2, H2, J, rv, q⟩ := hs; exact fin J rv q
  | next => obtain ⟨σ2, H2, J, q⟩ := hs; exact fin (v := V.non) (u := Value.none) J rfl q
  | brk => obtain ⟨_, _, _, q⟩ := hs; exact False.elim q
  | cont => obtain ⟨_, _, _, q⟩ := hs; exact False.elim q

theorem run_fnS {X : Cx} {pins : List (Addr × Obj)} {σ : L2.St} {H : Hp} {s : Shared} {k : Nat} {f : Addr} {sp : Nat → Sp} {Q : VK} {us : List Value} {vs : List V}
    (F : FnS X.prog X.w X.K X.mg X.base CX0 k f sp) (hr : Room k X.A) (I : Inv X pins σ H s) (r : Vals vs us) (h : sp s.heap.objs.size vs H Q E0) :
    codeAny (model X.prog X.w) X.A (.call (.ref f) ⟨us, []⟩) (fun r s' => match r with | .ok (.ret v) => EP X pins σ Q v s' | .ok _ => False | .error e => X.xe e s') s := by
  refine codeAny_mono (F X.A X.stack s H us vs Q E0 hr I.env0 r h) fun rs s2 hq => ?_
  cases rs with
  | error e => exact False.elim hq
  | ok fl =>
    cases fl with
    | ret u => exact I.after hq
    | next => exact False.elim hq
    | brk => exact False.elim hq
    | cont => exact False.elim hq

/-! ### iterators held for a moment -/
def ItKO (d it : Addr) (n ep : Nat) : HO := .ext fun h => h.IsKeyIter it d 0 n ep
def ItTO (t it : Addr) : HO := .ext fun h => h.IsTupleIter it t 0
section
variable {X : Cx} {d t it : Addr} {n ep : Nat}
theorem itKO_new {P : Program} {w : World} {H : Hp} {h : Heap} (e : h.IsKeyIter it d 0 n ep) : ObjOk P w H h it (ItKO d it n ep) := by
  have ⟨o, ho, _⟩ := e
  exact ⟨e, ⟨o, ho⟩, fun h1 h2 z k => z.at k⟩
theorem itTO_new {P : Program} {w : World} {H : Hp} {h : Heap} (e : h.IsTupleIter it t 0) : ObjOk P w H h it (ItTO t it) := by
  have ⟨o, ho, _⟩ := e
  exact ⟨e, ⟨o, ho⟩, fun h1 h2 z k => z.at k⟩

/-- iter(d), d a locked dict -/
def rIterK (n0 : Nat) : List V → Hp → VK → Prop := fun xs H Q => ∃ (d : Addr) (o : Obj) (kvs : List (Key × V)) (es : Array DictEntry) (ep : Nat),
  xs = [.ref d] ∧ H d = some (.frz o (.dK kvs)) ∧ o.data = .dict es ep ∧ ∀ it, H it = none → n0 ≤ it → Q (.ref it) (upd H it (ItKO d it kvs.length ep))
theorem call_iterK : CallR X (.builtin "iter") (rIterK X.s_0.heap.objs.size) := by
  intro pins s σ H xs us Q I r h
  obtain ⟨d, o, kvs, es, ep, rfl, hd, hdt, q⟩ := h
  rw [Vals.ref1 r]
  obtain ⟨lo, hg, hx, es2, ep2, vs, hdt2, hsz, kv, hm⟩ := I.frzK hd
  obtain ⟨e1, e2⟩ := dict_ep hdt hdt2
  subst e1 e2
  refine Calls.call_function_entry (by decide +kernel) (by decide +kernel) PySem.W.kdk_entry_iter (PySem.W.kdk_args_iter _) ?_
  unfold Builtin.«iter»
  refine wpAny_bind (m := someArgs "iter" 1 2 _) (wpAny_of_eq (a := [Value.ref d]) (by first | rfl | kernel_rfl!) ?_)
  show wpAny _ _ (pyIter (.ref d) >>= _) _ _ _
  refine wpAny_bind (iter_keys lo hg hx hdt2 ?_)
  have st : (s.heap.push { cls := .type "dict_keyiterator", data := .fields #[.ref d, .int 0 0, .int es2.size 0, .int ep2 0] }).IsKeyIter s.heap.objs.size d 0 kvs.length ep2 :=
    ⟨_, Heap.get?_push_size _ rfl, rfl, by rw [hsz] <;> rfl⟩
  exact wpAny_pure ⟨_, rfl, .ref s.heap.objs.size, _, I.laid (t' := s.toks) (fun b u e => Heap.get?_push_of_some _ e) (Nat.le_refl _) (itKO_new st), rfl,
    q _ (I.hok.fresh (Nat.le_refl _)) I.sz⟩
/-- iter(t), t a tuple -/
def rIterT (K : PySem.W.Frag) (n0 : Nat) : List V → Hp → VK → Prop := fun xs H Q => ∃ (t : Addr) (zs : List V),
  xs = [.ref t] ∧ SqT K H t zs ∧ ∀ it, H it = none → n0 ≤ it → Q (.ref it) (upd H it (ItTO t it))
theorem call_iterT : CallR X (.builtin "iter") (rIterT X.K X.s_0.heap.objs.size) := by
  intro pins s σ H xs us Q I r h
  obtain ⟨t, zs, rfl, hd, q⟩ := h
  rw [Vals.ref1 r]
  obtain ⟨its, rv, p, hz⟩ := I.tuple hd
  refine Calls.call_function_entry (by decide +kernel) (by decide +kernel) PySem.W.kdk_entry_iter (PySem.W.kdk_args_iter _) ?_
  unfold Builtin.«iter»
  refine wpAny_bind (m := someArgs "iter" 1 2 _) (wpAny_of_eq (a := [Value.ref t]) (by first | rfl | kernel_rfl!) ?_)
  show wpAny _ _ (pyIter (.ref t) >>= _) _ _ _
  refine wpAny_bind (wpAny_pyIter_tuple (show s.heap.IsTuple t its.toArray from p) ?_)
  have st : (s.heap.push { cls := .type "tuple_iterator", data := .fields #[.ref t, .int 0 0] }).IsTupleIter s.heap.objs.size t 0 :=
    ⟨_, Heap.get?_push_size _ rfl, rfl, rfl⟩
  exact wpAny_pure ⟨_, rfl, .ref s.heap.objs.size, _, I.laid (t' := s.toks) (fun b u e => Heap.get?_push_of_some _ e) (Nat.le_refl _) (itTO_new st), rfl,
    q _ (I.hok.fresh (Nat.le_refl _)) I.sz⟩
end

/-! ### for .. in an object of one's own -/
/-- what __iter__ promises: an iterator over the dict in slot i | over the tuple in slot i -/
def spItK (C : Addr) (i : Nat) (n0 : Nat) : Sp := fun vs H Q _ => ∃ (a dx : Addr) (ss : List (Option V)) (d : Addr) (o : Obj) (kvs : List (Key × V)) (es : Array DictEntry) (ep : Nat),
  vs = [.ref a] ∧ Slt H a C dx ss ∧ ss[i]? = some (some (.ref d)) ∧ H d = some (.frz o (.dK kvs)) ∧ o.data = .dict es ep ∧
  ∀ it, H it = none → n0 ≤ it → Q (.ref it) (upd H it (ItKO d it kvs.length ep))
def spItT (K : PySem.W.Frag) (C : Addr) (i : Nat) (n0 : Nat) : Sp := fun vs H Q _ => ∃ (a dx : Addr) (ss : List (Option V)) (t : Addr) (zs : List V),
  vs = [.ref a] ∧ Slt H a C dx ss ∧ ss[i]? = some (some (.ref t)) ∧ SqT K H t zs ∧ ∀ it, H it = none → n0 ≤ it → Q (.ref it) (upd H it (ItTO t it))
/-- the keys of the dict in slot i -/
def iOwnK (C : Addr) (i : Nat) (te : TE) : TI := fun σ H R => te σ H fun x H1 => ∃ (a dx : Addr) (ss : List (Option V)) (d : Addr) (o : Obj) (kvs : List (Key × V)),
  x = .ref a ∧ Slt H1 a C dx ss ∧ ss[i]? = some (some (.ref d)) ∧ H1 d = some (.frz o (.dK kvs)) ∧ R (Itk d o kvs) H1
def iOwnT (K : PySem.W.Frag) (C : Addr) (i : Nat) (te : TE) : TI := fun σ H R => te σ H fun x H1 => ∃ (a dx : Addr) (ss : List (Option V)) (t : Addr) (zs : List V),
  x = .ref a ∧ Slt H1 a C dx ss ∧ ss[i]? = some (some (.ref t)) ∧ SqT K H1 t zs ∧ R (Itt K t) H1
section
variable {X : Cx} {tg e : Expr} {te : TE} {C g : Addr} {n i : Nat}
theorem pi_ownK (he : PE X e te) (hs : PySem.W.findIn X.K (.ref C) "__iter__" = some (some (.ref g))) (hf : PySem.W.isFn X.K (.ref g) = true)
    (F : FnS X.prog X.w X.K X.mg X.base CX0 n g (spItK C i)) (hr : Room n X.A) : PI X tg e (iOwnK C i te) := by
  refine ⟨fun pins s σ H R I h => ?_⟩
  refine thn (he.run pins s σ H _ I h) fun u s1 ⟨x, H1, I1, rx, a, dx, ss, d, o, kvs, ex, hsl, hi, hd, q⟩ => ?_
  subst ex
  obtain rfl : u = Value.ref a := rx
  obtain ⟨sl, od, _, J, _⟩ := slt_inst I1 hsl
  obtain ⟨m, hF⟩ := I1.fr
  obtain ⟨lo, hg, hx, es, ep, vs, hdt, hsz, kv, hm⟩ := I1.frzK hd
  refine PySem.W.owit_iter hF I1.ok.mod.kin J hs hf ?_
  refine wpAny_mono (wpAny_call (run_fnS (us := [.ref a]) (vs := [.ref a]) (Q := fun v H' => ∃ it, v = .ref it ∧ H1 it = none ∧ s1.heap.objs.size ≤ it ∧ H' = upd H1 it (ItKO d it kvs.length ep)) F hr I1 (.cons rfl .nil)
    ⟨a, dx, ss, d, o, kvs, es, ep, rfl, hsl, hi, hd, hdt, fun it n1 n2 => ⟨it, rfl, n1, n2, rfl⟩⟩)) (fun w2 s2 z => ?_) fun _ _ z => z
  obtain ⟨v, H2, I2, rv, it, ev, hn, hsize, eH⟩ := z
  subst ev
  obtain rfl : w2 = Value.ref it := rv
  subst eH
  have st : s2.heap.IsKeyIter it d 0 kvs.length ep := (I2.hok it _ upd_same).1
  have I3 := ItX.inv_drop I2 (show upd H1 it (ItKO d it kvs.length ep) it = some (.ext _) from upd_same)
  have fp := ItX.inv_fp I2 (a := it) upd_same (Nat.le_trans I1.sz hsize)
  rw [ItX.dropH_upd hn] at I3 fp
  unfold PySem.W.OwitIt
  refine wpAny_specialOf st.typeIs PySem.F.slot_dict_keyiterator_next.lookup ?_
  exact ⟨it, [it], _, _, H1, rfl, I3, turn_keys it hdt, st, fun b hb => by rw [List.mem_singleton.mp hb]; exact fp, q⟩
theorem pi_ownT (he : PE X e te) (hs : PySem.W.findIn X.K (.ref C) "__iter__" = some (some (.ref g))) (hf : PySem.W.isFn X.K (.ref g) = true)
    (F : FnS X.prog X.w X.K X.mg X.base CX0 n g (spItT X.K C i)) (hr : Room n X.A) : PI X tg e (iOwnT X.K C i te) := by
  refine ⟨fun pins s σ H R I h => ?_⟩
  refine thn (he.run pins s σ H _ I h) fun u s1 ⟨x, H1, I1, rx, a, dx, ss, t, zs, ex, hsl, hi, hd, q⟩ => ?_
  subst ex
  obtain rfl : u = Value.ref a := rx
  obtain ⟨sl, od, _, J, _⟩ := slt_inst I1 hsl
  obtain ⟨m, hF⟩ := I1.fr
  refine PySem.W.owit_iter hF I1.ok.mod.kin J hs hf ?_
  refine wpAny_mono (wpAny_call (run_fnS (us := [.ref a]) (vs := [.ref a]) (Q := fun v H' => ∃ it, v = .ref it ∧ H1 it = none ∧ s1.heap.objs.size ≤ it ∧ H' = upd H1 it (ItTO t it)) F hr I1 (.cons rfl .nil)
    ⟨a, dx, ss, t, zs, rfl, hsl, hi, hd, fun it n1 n2 => ⟨it, rfl, n1, n2, rfl⟩⟩)) (fun w2 s2 z => ?_) fun _ _ z => z
  obtain ⟨v, H2, I2, rv, it, ev, hn, hsize, eH⟩ := z
  subst ev
  obtain rfl : w2 = Value.ref it := rv
  subst eH
  have st : s2.heap.IsTupleIter it t 0 := (I2.hok it _ upd_same).1
  have I3 := ItX.inv_drop I2 (show upd H1 it (ItTO t it) it = some (.ext _) from upd_same)
  have fp := ItX.inv_fp I2 (a := it) upd_same (Nat.le_trans I1.sz hsize)
  rw [ItX.dropH_upd hn] at I3 fp
  unfold PySem.W.OwitIt
  refine wpAny_specialOf (T := "tuple_iterator") (let ⟨o, h1, h2, _⟩ := st; ⟨o, h1, h2⟩) PySem.F.slot_tuple_iterator_next.lookup ?_
  exact ⟨it, [it], _, _, H1, rfl, I3, turn_tuple t it, st, fun b hb => by rw [List.mem_singleton.mp hb]; exact fp, q⟩

/-! ### len(x), x[i] -/
/-- len(x) by its own __len__ -/
def rLenSl (C : Addr) (sp : Sp) : List V → Hp → VK → Prop := fun xs H Q => ∃ (a dx : Addr) (ss : List (Option V)), xs = [.ref a] ∧ Slt H a C dx ss ∧
  sp [.ref a] H (fun z H' => ∃ m : Int, z = .int m ∧ 0 ≤ m ∧ m < 2 ^ 63 ∧ Q (.int m) H') E0
theorem call_lenSl {sp : Sp} (hs : PySem.W.findIn X.K (.ref C) "__len__" = some (some (.ref g))) (hf : PySem.W.isFn X.K (.ref g) = true) (F : FnR X.prog X.w X.K X.mg X.base CX0 n g sp)
    (hr : Room (n + 1) X.A) : CallR X (.builtin "len") (rLenSl C sp) := by
  intro pins s σ H xs us Q I r h
  obtain ⟨a, dx, ss, rfl, hsl, q⟩ := h
  rw [Vals.ref1 r]
  obtain ⟨sl, od, _, J, _⟩ := slt_inst I hsl
  obtain ⟨m, hF⟩ := I.fr
  refine PySem.W.len_K hF I.ok.mod.kin J hs hf (wpAny_mono (wpAny_call (run_at (us := [.ref a]) (ws := [.ref a]) F hr.in1 I.env0.in1 pass0 I (.cons rfl .nil) q)) (fun w2 s2 z => ?_) fun _ _ x => x)
  obtain ⟨v, H2, I2, rv, k, rfl, k0, k1, q2⟩ := z
  obtain ⟨tk, rfl⟩ := rv
  exact ⟨⟨k0, k1⟩, .int k, H2, I2.tok _, ⟨_, rfl⟩, q2⟩
/-- x[y] by its own __getitem__ -/
def rGetSl (C : Addr) (sp : Sp) : R2 := fun x y H Q => ∃ (a dx : Addr) (ss : List (Option V)), x = .ref a ∧ Slt H a C dx ss ∧ sp [.ref a, y] H Q E0
def LifeIx (b : Expr) : Prop := ∀ o i, subscripted b true o i = runValue (.builtin "lifetime.subscript" ⟨[o, i], []⟩)
theorem pe_own {a b : Expr} {ta tb : TE} {pos : Pos} {sp : Sp} (hs : PySem.W.findIn X.K (.ref C) "__getitem__" = some (some (.ref g))) (hf : PySem.W.isFn X.K (.ref g) = true) (hf2 : PySem.W.fnIn X.K g = true)
    (F : FnR X.prog X.w X.K X.mg X.base CX0 n g sp) (hr : Room (n + 1) X.A) (ha : PE X a ta) (hb : PE X b tb) (hl : LifeIx b) : PE X (.Subscript a b pos) (tOp (rGetSl C sp) ta tb) := by
  refine ⟨fun pins s σ H Q I h => ?_⟩
  refine Subscript_ (binT ha hb I h fun v u s2 x y H2 I2 rx ry q => ?_)
  obtain ⟨c, dx, ss, rfl, hsl, q⟩ := q
  obtain rfl : v = Value.ref c := rx
  obtain ⟨sl, od, _, J, _⟩ := slt_inst I2 hsl
  obtain ⟨m, hF⟩ := I2.fr
  exact PySem.W.sub_K hF I2.ok.mod.kin J hs hf2 hf (wpAny_call (run_at (us := [.ref c, u]) (ws := [.ref c, y]) F hr.in1 I2.env0.in1 pass0 I2 (.cons rfl (.cons ry .nil)) q)) (hl _ _)

/-! ### x == y, x != y by an own __eq__ -/
/-- __eq__ promises a bool -/
def rEqSl (K : PySem.W.Frag) (C : Addr) (sp : Sp) (neg : Bool) : R2 := fun x y H Q => ∃ (a dx : Addr) (ss : List (Option V)) (b dy : Addr) (ws : List (Option V)),
  x = .ref a ∧ y = .ref b ∧ Slt H a C dx ss ∧ Slt H b C dy ws ∧ sp [x, y] H (fun z H' => ∃ k : Bool, z = .bl k ∧ Q (.bl (if neg then !k else k)) H') E0
theorem op_eqSl {sp : Sp} (hs : PySem.W.findIn X.K (.ref C) "__eq__" = some (some (.ref g))) (hf : PySem.W.isFn X.K (.ref g) = true) (F : FnR X.prog X.w X.K X.mg X.base CX0 n g sp) (hr : Room n X.A) :
    OpR X (compareOp .Eq) (rEqSl X.K C sp false) := by
  intro pins s σ H x y v u Q I rx ry h
  obtain ⟨a, dx, ss, b, dy, ws, rfl, rfl, ha, hb, q⟩ := h
  obtain rfl : v = Value.ref a := rx
  obtain rfl : u = Value.ref b := ry
  obtain ⟨sl, od, _, J, _⟩ := slt_inst I ha
  obtain ⟨sl2, od2, _, J2, _⟩ := slt_inst I hb
  obtain ⟨m, hF⟩ := I.fr
  unfold compareOp
  refine PySem.W.cmp_K (op := .Eq) (tb := .ref C) hr.units0 hF I.ok.mod.kin J J2.type ?_ hs hf (wpAny_mono (wpAny_call (run_fnR (us := [.ref a, .ref b]) (vs := [.ref a, .ref b]) F hr pass0 I (.cons rfl (.cons rfl .nil)) q)) (fun w2 s2 z => ?_) fun _ _ z => z)
  · show (Value.ref C == Value.ref C || _) = true
    rw [beq_self_eq_true, Bool.true_or]
  · obtain ⟨v, H2, I2, rv, k, rfl, q2⟩ := z
    obtain rfl : w2 = Value.bool k := rv
    exact ⟨.bl k, H2, I2, rfl, q2⟩
open Builtin in
theorem ne_body {prog : Program} {w : World} {A : Around} {E : Value → Shared → Prop} {s : Shared} {K : PySem.W.Frag} {x y C f : Addr} {ox : Obj} {od : Option Obj} {P : Fin → Shared → Prop} (XK : K.In s.heap) (I : PySem.W.InstAt s.heap x ox C od)
    (hs : PySem.W.findIn K (.ref C) "__eq__" = some (some (.ref f))) (hf : PySem.W.isFn K (.ref f) = true) (hu : A.units < cLine)
    (h : wpAny (model prog w) A (call (.ref f) [.ref x, .ref y]) (fun v s' => ∃ b, v = .bool b ∧ P (.done (.ret (.bool (!b)))) s') E s) :
    wpAny (model prog w) A (Builtin.«object.__ne__» ⟨[.ref x, .ref y], []⟩) P E s := by
  unfold Builtin.«object.__ne__»
  repeat (first
    | with_reducible refine wpAny_cRoomFor hu ?_
    | (refine wpAny_bind (m := callSpecialIfBound? (.ref x) (Str.ofString "__eq__") [.ref y]) (PySem.W.ifBound_K XK I hs hf (wpAny_mono h (fun r s' hr => by
          obtain ⟨b, rfl, hq⟩ := hr
          repeat (first | exact hq | exact wpAny_pure hq | exact wpAny_truthy_bool hq | (refine wpAny_bind (m := truthy (.bool _)) (wpAny_truthy_bool ?_)) | wp_step)) fun _ _ z => z)))
    | wp_step)
theorem op_neSl {sp : Sp} (hs : PySem.W.findIn X.K (.ref C) "__eq__" = some (some (.ref g))) (hn : PySem.W.findIn X.K (.ref C) "__ne__" = some (some (.builtin "object.__ne__"))) (hm : PySem.W.mroIn X.K C (.type "object") = some true)
    (hf : PySem.W.isFn X.K (.ref g) = true) (F : FnR X.prog X.w X.K X.mg X.base CX0 n g sp) (hr : Room (n + 1) X.A) : OpR X (compareOp .NotEq) (rEqSl X.K C sp true) := by
  intro pins s σ H x y v u Q I rx ry h
  obtain ⟨a, dx, ss, b, dy, ws, rfl, rfl, ha, hb, q⟩ := h
  obtain rfl : v = Value.ref a := rx
  obtain rfl : u = Value.ref b := ry
  obtain ⟨sl, od, _, J, _⟩ := slt_inst I ha
  obtain ⟨sl2, od2, _, J2, _⟩ := slt_inst I hb
  have un : X.A.units + 1 < cLine := Nat.lt_of_le_of_lt (by omega) hr.un
  obtain ⟨m, hF⟩ := I.fr
  have key : wpAny (model X.prog X.w) X.A (tryCompare (.ref a) "__ne__" (.ref b)) (fun r s' => ∃ k : Bool, r = some (.bool (!k)) ∧ ∃ H2, Inv X pins σ H2 s' ∧ Q (.bl (!k)) H2) X.xe s := by
    have run := wpAny_call (run_at (us := [.ref a, .ref b]) (ws := [.ref a, .ref b]) F hr.in1 I.env0.in1 pass0 I (.cons rfl (.cons rfl .nil)) q)
    have body : wpAny (model X.prog X.w) X.A (call (.builtin "object.__ne__") [.ref a, .ref b]) (fun r s' => ∃ k : Bool, r = .bool (!k) ∧ ∃ H2, Inv X pins σ H2 s' ∧ Q (.bl (!k)) H2) X.xe s := by
      refine wpAny_call (codeAny_call_builtin PySem.F.slot_enumerate_ne.plain PySem.F.cmpEntry_ne (PySem.W.check_slot (i := "object.__ne__") (owner := "object") (n := "__ne__") PySem.F.cmpKind_ne PySem.F.cmpSplit_ne (J.type.andThen (PySem.W.looks_mroIn I.kIn hm)) (PySem.F.cmpArgs_ne _ _) ?_))
      refine ne_body (A := X.A.in1) I.kIn J hs hf (show X.A.units + 1 < cLine from un) (wpAny_mono run (fun w2 s2 z => ?_) fun _ _ z => z)
      obtain ⟨v, H2, I2, rv, k, rfl, q2⟩ := z
      obtain rfl : w2 = Value.bool k := rv
      exact ⟨k, rfl, k, rfl, H2, I2, q2⟩
    have fin : wpAny (model X.prog X.w) X.A (call (.builtin "object.__ne__") ([.ref a] ++ [.ref b]) >>= fun v => pure (some v)) (fun r s' => ∃ k : Bool, r = some (.bool (!k)) ∧ ∃ H2, Inv X pins σ H2 s' ∧ Q (.bl (!k)) H2) X.xe s :=
      wpAny_bind (wpAny_mono body (fun v s' ⟨k, e, z⟩ => wpAny_pure ⟨k, by rw [e], z⟩) fun _ _ z => z)
    unfold tryCompare
    refine wpAny_bind ?_
    simp only [callSpecialIfBound?, bindSpecialIfBound?]
    refine wpAny_holding (wpAny_bind (wpAny_bind (wpAny_bind (J.type.here ((PySem.W.looks_findIn I.kIn hn).here ?_)))))
    have last : ∀ r s', (∃ k : Bool, r = some (.bool (!k)) ∧ ∃ H2, Inv X pins σ H2 s' ∧ Q (.bl (!k)) H2) →
        wpAny (model X.prog X.w) X.A (match r with | some Value.notImplemented => pure none | none => pure none | some v => pure (some v)) (fun r s' => ∃ k : Bool, r = some (.bool (!k)) ∧ ∃ H2, Inv X pins σ H2 s' ∧ Q (.bl (!k)) H2) X.xe s' := by
      rintro r s' ⟨k, rfl, z⟩
      exact wpAny_pure ⟨k, rfl, z⟩
    have fin2 := wpAny_mono fin (fun r s' z => last r s' z) fun _ _ z => z
    refine wpAny_bind (wpAny_askSetting (wpAny_ite ?_))
    split
    · exact wpAny_bind ((PySem.W.Looks.of_pure (PySem.F.slot_enumerate_ne.bind _)).here (wpAny_pure (by exact fin2)))
    · exact wpAny_tryCatch (wpAny_bind ((PySem.W.Looks.of_pure (PySem.F.slot_enumerate_ne.bind _)).here (wpAny_pure (by exact fin2))))
  unfold compareOp richCompare
  simp only [oneThing_ref]
  refine wpAny_holding (wpAny_bind (wpAny_cRoomFor (Nat.lt_of_succ_lt un) ?_))
  refine wpAny_bind (J.type.here (wpAny_bind (J2.type.here ?_)))
  rw [cmpInfo_NotEq]
  dsimp only
  rw [show (Value.ref C != Value.ref C) = false from by simp]
  simp only [Bool.false_eq_true, if_false]
  refine wpAny_bind (wpAny_pure ?_)
  simp only [Bool.false_eq_true, if_false]
  refine wpAny_bind (wpAny_mono key (fun r s' z => ?_) fun _ _ z => z)
  obtain ⟨k, rfl, H2, I2, q2⟩ := z
  first
    | exact wpAny_pure ⟨.bl (!k), H2, I2, rfl, q2⟩
    | exact wpAny_pure (wpAny_pure ⟨.bl (!k), H2, I2, rfl, q2⟩)

/-! ### f"{x}", x with an own __str__ -/
def tFmtSl (C : Addr) (sp : Sp) (te : TE) : TE := fun σ H Q => te σ H fun x H1 => ∃ (a dx : Addr) (ss : List (Option V)), x = .ref a ∧ Slt H1 a C dx ss ∧ sp [.ref a] H1 (fun z H' => ∃ y : Str, z = .str y ∧ Q (.str y) H') E0
theorem pe_fmtSl {e : Expr} {te : TE} {pos : Pos} {sp : Sp} (he : PE X e te) (hfm : PySem.W.findIn X.K (.ref C) "__format__" = some (some (.builtin "object.__format__"))) (hm : PySem.W.mroIn X.K C (.type "object") = some true)
    (hs : PySem.W.findIn X.K (.ref C) "__str__" = some (some (.ref g))) (hf : PySem.W.isFn X.K (.ref g) = true) (F : FnR X.prog X.w X.K X.mg X.base CX0 n g sp) (hr : Room (n + 1) X.A) :
    PE X (.FormattedValue e (-1) none pos) (tFmtSl C sp te) := by
  refine ⟨fun pins s σ H Q I h => ?_⟩
  refine wpAny_FormattedValue_plain (thn (he.run pins s σ H _ I h) fun v s1 ⟨x, H1, I1, rx, a, dx, ss, ex, hsl, q⟩ => ?_)
  subst ex
  obtain rfl : v = Value.ref a := rx
  obtain ⟨sl, od, _, J, _⟩ := slt_inst I1 hsl
  have I2 := I1.tok (s1.toks + 1)
  have un : X.A.units + 1 < cLine := Nat.lt_of_le_of_lt (by omega) hr.un
  refine PySem.W.kfo_fieldS (show X.A.units + 1 < cLine from un) I1.kIn J hfm hm hs hf (wpAny_mono (wpAny_call (run_at (us := [.ref a]) (ws := [.ref a]) F hr.in1 I2.env0.in1 pass0 I2 (.cons rfl .nil) q)) (fun w2 s2 z => ?_) fun _ _ z => z)
  obtain ⟨v2, H2, I3, rv, y, rfl, q2⟩ := z
  obtain ⟨t, rfl⟩ := rv
  exact ⟨.str y, H2, I3, ⟨t, rfl⟩, q2⟩
end
end G81
set_option maxRecDepth 100000
set_option maxHeartbeats 2000000
/-! targets that are slots, extend by a tuple, views of a dict's values, a dict known for good -/
namespace G81
open PySem PySem.Spec PyProof.Rows L2 SlX

section
variable {X : Cx}
/-! ### o.f as one of several targets -/
def gSl (K : PySem.W.Frag) (to : TE) (f : Str) : TG := fun v σ H Q => to σ H fun x H2 => ∃ (a C dx p : Addr) (ss : List (Option V)) (i : Nat),
  x = .ref a ∧ Slt H2 a C dx ss ∧ SCls K C ∧ Slot1 K C f p i ∧ Q σ (slH H2 a C dx (putS i v ss))
theorem pg_sl {o : Expr} {to : TE} {f : Str} {pos : Pos} (ho : PE X o to)
    (ha : ∀ v, assign (.Attribute o f pos) X.env v = (do
      let ov ← holding [v] (eval o X.env)
      standAt pos
      holding [v, ov] (setAttr ov f v)
      release [v, ov] []) := by intro _; rfl) : PG X (.Attribute o f pos) (gSl X.K to f) := by
  refine ⟨fun pins s σ H v u Q I r h => ?_⟩
  rw [ha]
  refine wpAny_bind (wpAny_holding (thn (ho.run pins s σ H _ I h) fun ov s1 ⟨x, H1, I1, r1, a, C, dx, p, ss, i, ex, hsl, c, t, q⟩ => ?_))
  subst ex
  obtain rfl : ov = Value.ref a := r1
  refine wpAny_bind (wpAny_standAt (wpAny_bind (wpAny_holding (setslot_ok I1 hsl c t r fun s3 I3 => ?_))))
  exact wpAny_release ⟨σ, _, I3, q⟩

/-! ### xs.extend(a tuple) -/
def rExtT (K : PySem.W.Frag) : V → List V → Hp → VK → Prop := fun x vs H Q => ∃ (l b : Addr) (xs zs : List V), x = .ref l ∧ vs = [.ref b] ∧ H l = some (.lst xs) ∧ SqT K H b zs ∧ xs.length + zs.length ≤ sizeLine ∧
  Q .non (upd H l (.lst (xs ++ zs)))
theorem mt_extT : MtR X "list.extend" (rExtT X.K) := by
  intro pins s σ H x vs v us Q I rx rv h
  obtain ⟨l, b, xs, zs, rfl, rfl, hH, hB, hz, q⟩ := h
  cases rx
  obtain ⟨u, rfl, ru⟩ := rv.one
  cases ru
  obtain ⟨z, its, n, r, hl, e⟩ := I.lstM hH
  obtain ⟨its2, r2, ⟨o2, ho2, hc2, n2, hd2⟩, hz2⟩ := I.tuple hB
  have l1 := r.length
  have l2 := r2.length
  refine wpAny_call (codeAny_call_builtin PySem.F.slot_list_extend.plain PySem.F.entry_list_extend (PySem.F.slot_list_extend.check _ _ _ _ _ _ _ _ ⟨_, e, rfl⟩ (PySem.F.args_list_extend_2 _ _) ?_))
  show wpAny _ _ (Builtin.List.listExtendWith (.ref l) (.ref b) .none) _ _ _
  unfold Builtin.List.listExtendWith
  refine wpAny_bind (wpAny_typeOf (T := "tuple") ⟨o2, ho2, hc2⟩ ?_)
  have h1 : (Builtin.List.listSameRef (.ref l) (.ref b) || Value.type "tuple" == Value.type "list" || Value.type "tuple" == Value.type "tuple") = true := by simp
  simp only [h1, if_true]
  refine wpAny_bind ?_
  unfold Builtin.List.listItems
  refine wpAny_bind (wpAny_seqItems ho2 hd2 (wpAny_pure ?_))
  refine wpAny_bind ?_
  refine wpAny_bind (wpAny_seqItems e rfl (wpAny_pure ?_))
  have hsz : its.toArray.size + its2.toArray.size ≤ sizeLine := by rw [List.size_toArray, List.size_toArray]; omega
  rw [if_neg (by rw [notLongL hsz, Bool.and_false]; exact Bool.false_ne_true)]
  show wpAny _ _ (updateSeq l (· ++ its2.toArray) >>= fun _ => ret Value.none) _ _ s
  refine wpAny_bind (wpAny_updateSeq e rfl ?_ (by rw [List.size_toArray]; omega) (by show (its.toArray ++ its2.toArray).size ≤ sizeLine + 1; rw [Array.size_append]; omega))
  refine wpAny_pure ⟨V.non, _, I.lset (its' := its ++ its2) hH e (by simp) (r.append r2) ?_, rfl, q⟩
  rw [List.length_append]
  omega

/-! ### d.values() as a value -/
def ValsO (d v : Addr) : HO := .ext fun h => h.IsValuesView v d
theorem valsO_new {P : Program} {w : World} {H : Hp} {h : Heap} {d v : Addr} (e : h.IsValuesView v d) : ObjOk P w H h v (ValsO d v) := by
  have ⟨o, ho, x⟩ := e
  exact ⟨e, ⟨o, ho⟩, fun h1 h2 z k => let ⟨o, ho, x⟩ := z; ⟨o, k o ho, x⟩⟩
theorem Inv_rdK {pins : List (Addr × Obj)} {σ : L2.St} {H : Hp} {s : Shared} {d : Addr} {kvs : List (Key × V)} (I : Inv X pins σ H s) (h : Rd H d (.dK kvs)) :
    kvs.length ≤ sizeLine ∧ (d == sysModules) = false ∧ ∃ (vs : List (Key × Value)) (ep : Nat), KV kvs vs ∧ s.heap.DictAt (mixKind X.prog X.w) d vs ep := by
  obtain ⟨z, hd, vs, kv, o, es, ep, r⟩ := h.ok I.hok
  exact ⟨z, hd, vs, ep, kv, o, es, r⟩
def tVals (te : TE) : TE := fun σ H Q => te σ H fun x H1 => ∃ (d : Addr) (kvs : List (Key × V)), x = .ref d ∧ Rd H1 d (.dK kvs) ∧ ∀ v, H1 v = none → Q (.ref v) (upd H1 v (ValsO d v))
theorem pe_vals {e : Expr} {te : TE} {apos cpos : Pos} (he : PE X e te) (hbase : attributeBase e "values" X.env (eval e X.env) = eval e X.env := by rfl) (hline : (apos.endLine == cpos.line) = true := by rfl) :
    PE X (.Call (.Attribute e "values" apos) [] [] cpos) (tVals te) := by
  refine ⟨fun pins s σ H Q I h => ?_⟩
  refine wpAny_Call_method (T := "dict") (id := "dict.values") hbase rfl hline PySem.F.plainAttrs_dict PySem.F.slot_dict_values PySem.F.type_dict_values (thn (he.run pins s σ H _ I h) fun u s1 ⟨x, H1, I1, rx, d, kvs, ex, hd, q⟩ => ?_)
  subst ex
  obtain rfl : u = Value.ref d := rx
  obtain ⟨hz, hs, vs, ep, kv, hm⟩ := Inv_rdK I1 hd
  refine ⟨hm.dictOf.typeIs, hm.dictOf.mapOf.noDict, ?_⟩
  have vw : (s1.heap.push { cls := .type "dict_values", data := .fields #[.ref d] }).IsValuesView s1.heap.objs.size d := ⟨_, Heap.get?_push_size _ rfl, rfl, rfl⟩
  have fin : EP X pins σ Q (.ref s1.heap.objs.size) { s1 with heap := s1.heap.push { cls := .type "dict_values", data := .fields #[.ref d] } } :=
    ⟨.ref s1.heap.objs.size, _, I1.laid (t' := s1.toks) (fun b o z => Heap.get?_push_of_some _ z) (Nat.le_refl _) (valsO_new vw), rfl, q _ (I1.hok.fresh (Nat.le_refl _))⟩
  show wpAny _ _ (callWith cpos (.builtin "dict.values") [.ref d] [] []) _ X.xe s1
  exact method_meetsIn PySem.F.slot_dict_values PySem.F.entry_dict_values rfl (PySem.evalArgs_none ⟨rfl, hm.dictOf.typeIs, PySem.F.args_dict_values_1 _, _, meets_dict_values (mixKind X.prog X.w) d hs, ⟨vs, hm.dictOf⟩, fin⟩)

/-- the values that a walk over them has collected -/
theorem vals_kv {kvs : List (Key × V)} {vs : List (Key × Value)} (kv : KV kvs vs) {acc : Array Value} {n : Nat} (hn : n = vs.length) (h : ItemsOf (fun i v => ∃ k, vs[i]? = some (k, v)) acc n) : Vals (kvs.map (·.2)) acc.toList := by
  have e : acc.toList = vs.map (·.2) := by
    refine List.ext_getElem? fun i => ?_
    by_cases hi : i < n
    · have hi2 : i < acc.toList.length := by rw [Array.length_toList, h.1]; exact hi
      obtain ⟨k, hk⟩ := h.2 i acc.toList[i] (by rw [← Array.getElem?_toList, List.getElem?_eq_getElem hi2])
      rw [List.getElem?_eq_getElem hi2, List.getElem?_map, hk] <;> rfl
    · rw [List.getElem?_eq_none (by rw [Array.length_toList, h.1]; omega), List.getElem?_eq_none (by rw [List.length_map]; omega)]
  rw [e]
  clear e h hn
  unfold KV at kv
  induction kv with
  | nil => exact .nil
  | cons r _ ih => exact .cons r.2 ih
/-- list(d.values()) -/
def rListVals : List V → Hp → VK → Prop := fun xs H Q => ∃ (v d : Addr) (kvs : List (Key × V)), xs = [.ref v] ∧ H v = some (ValsO d v) ∧ Rd H d (.dK kvs) ∧ ∀ p, H p = none → Q (.ref p) (upd H p (.lst (kvs.map (·.2))))
theorem call_listVals (hc : X.calm = true) : CallR X (.type "list") rListVals := by
  intro pins s σ H xs us Q I r h
  obtain ⟨v, d, kvs, rfl, hv, hd, q⟩ := h
  rw [Vals.ref1 r]
  obtain ⟨hz, hs, vs, ep, kv, hm⟩ := Inv_rdK I hd
  have vw : s.heap.IsValuesView v d := (I.hok v _ hv).1
  have hl : kvs.length = vs.length := Paired.length kv
  refine PySem.W.kdl_call (PySem.W.kdl_values (knd := mixKind X.prog X.w)) (I.ok.hd hc) ⟨vw, hm⟩ (by omega) fun h' tk acc c kp hg hi => ?_
  have rv := vals_kv kv rfl hi
  exact ⟨.ref s.heap.objs.size, _, I.laid (t' := tk) kp (Nat.le_refl _) (show ObjOk X.prog X.w _ h' _ (.lst (kvs.map (·.2))) from ⟨by rw [List.length_map]; exact hz, acc.toList, c, rv, hg⟩), rfl, q _ (I.hok.fresh (Nat.le_refl _))⟩
/-- sum(d.values()) -/
def rSumVals : List V → Hp → VK → Prop := fun xs H Q => ∃ (v d : Addr) (kvs : List (Key × V)) (ns : List Int), xs = [.ref v] ∧ H v = some (ValsO d v) ∧ Rd H d (.dK kvs) ∧ kvs.map (·.2) = ns.map V.int ∧ Q (.int ns.sum) H
theorem preSum_list : ∀ (ns : List Int) (n : Nat), n ≤ ns.length → preSum (fun i => ns.getD i 0) n = (ns.take n).sum
  | _, 0, _ => rfl
  | ns, n + 1, h => by
    have e : preSum (fun i => ns.getD i 0) (n + 1) = preSum (fun i => ns.getD i 0) n + ns.getD n 0 := rfl
    rw [e, preSum_list ns n (by omega), List.take_succ, List.getElem?_eq_getElem (show n < ns.length from h), List.sum_append, List.getD_eq_getElem?_getD, List.getElem?_eq_getElem (show n < ns.length from h)]
    simp
theorem call_sumVals (hc : X.calm = true) : CallR X (.builtin "sum") rSumVals := by
  intro pins s σ H xs us Q I r h
  obtain ⟨v, d, kvs, ns, rfl, hv, hd, hn, q⟩ := h
  rw [Vals.ref1 r]
  obtain ⟨hz, hs, vs, ep, kv, hm⟩ := Inv_rdK I hd
  have vw : s.heap.IsValuesView v d := (I.hok v _ hv).1
  have hl : kvs.length = vs.length := Paired.length kv
  have hl2 : kvs.length = ns.length := by
    have z := congrArg List.length hn
    rw [List.length_map, List.length_map] at z
    exact z
  have src := PySem.W.kdl_values (prog := X.prog) (w := X.w) (knd := mixKind X.prog X.w) (r := v) (d := d) (kvs := vs) (ep := ep)
  have ok : s.heap.IsValuesView v d ∧ s.heap.DictAt (mixKind X.prog X.w) d vs ep := ⟨vw, hm⟩
  refine call_sum_walkAnyS ?_
  obtain ⟨oI, St, hit, W, st⟩ := src.iter X.A.in1 s (I.ok.hd hc) ok
  refine hit _ _ ⟨s.heap.objs.size, _, _, _, vs.length, _, _, fun i => ns.getD i 0, rfl, W.toS, st, fun b hb => ?_, fun i w2 ⟨k, e⟩ => ?_, fun s2 t2 hm2 => ?_⟩
  · show b < (s.heap.push oI).objs.size
    rw [Heap.size_push]
    rcases List.mem_cons.mp hb with e | hb
    · rw [e]; exact Nat.lt_succ_self _
    · rw [List.mem_singleton.mp hb]; exact Nat.lt_succ_of_lt (src.there _ ok).2
  · have hi : i < kvs.length := by rw [hl]; exact (List.getElem?_eq_some_iff.mp e).1
    obtain ⟨u, hu, ru⟩ := kv_get kv (show kvs[i]? = some (kvs[i].1, kvs[i].2) from List.getElem?_eq_getElem hi)
    rw [e] at hu
    have eu : w2 = u := (Prod.mk.inj (Option.some.inj hu)).2
    have e3 : (kvs.map (·.2))[i]? = (ns.map V.int)[i]? := by rw [hn]
    rw [List.getElem?_map, List.getElem?_map, List.getElem?_eq_getElem hi, List.getElem?_eq_getElem (show i < ns.length by omega)] at e3
    have e4 : kvs[i].2 = V.int ns[i] := Option.some.inj e3
    rw [e4] at ru
    obtain ⟨t, ht⟩ := ru
    refine ⟨t, ?_⟩
    show w2 = Value.int (ns.getD i 0) t
    rw [eu, ht, List.getD_eq_getElem?_getD, List.getElem?_eq_getElem (show i < ns.length by omega)] <;> rfl
  · have kp : ∀ b o, s.heap.get? b = some o → s2.heap.get? b = some o := fun b o e =>
      hm2.heap b o (fun z => absurd (Heap.lt_size e) (by rw [List.mem_singleton.mp z]; exact Nat.lt_irrefl _)) (Heap.get?_push_of_some _ e)
    have e5 : preSum (fun i => ns.getD i 0) vs.length = ns.sum := by
      rw [preSum_list ns vs.length (by omega), List.take_of_length_le (by omega)]
    rw [Moved.eq_with hm2]
    exact ⟨.int ns.sum, H, I.kept (t' := s2.toks) kp, ⟨t2, by rw [e5]⟩, q⟩
/-- *d.values() among the items of a display -/
def tStarVals (te : TE) (t : TA) : TA := fun σ H Q => te σ H fun x H1 => ∃ (v d : Addr) (kvs : List (Key × V)), x = .ref v ∧ H1 v = some (ValsO d v) ∧ Rd H1 d (.dK kvs) ∧ t σ H1 fun ys H2 => Q (kvs.map (·.2) ++ ys) H2
theorem pa_starVals {e : Expr} {es : List Expr} {te : TE} {t : TA} {p : Pos} (hc : X.calm = true) (he : PE X e te) (hr : PA X es t) (hs : starEach (.Starred e p :: es) X.env = (true, eval e X.env) :: starEach es X.env := by rfl) :
    PA X (.Starred e p :: es) (tStarVals te t) := by
  refine ⟨fun pos pins s σ H Q I h => ?_⟩
  refine PySem.W.items_star (thn (he.run pins s σ H _ I h) fun u s1 ⟨y, H1, I1, ry, v, d, kvs, ey, hv, hd, q⟩ => ?_) hs
  subst ey
  obtain rfl : u = Value.ref v := ry
  obtain ⟨hz, hs, vs, ep, kv, hm⟩ := Inv_rdK I1 hd
  have vw : s1.heap.IsValuesView v d := (I1.hok v _ hv).1
  have hl : kvs.length = vs.length := Paired.length kv
  have hT : s1.TypeIs (.ref v) "dict_values" := let ⟨o, ho, h1, _⟩ := vw; ⟨o, ho, h1⟩
  unfold PySem.W.StarOf notIterableAtAll
  refine wpAny_bind (wpAny_specialOf hT PySem.F.slot_dict_values_iter.lookup (wpAny_pure ⟨rfl, ?_⟩))
  refine PySem.W.kdu_collect (PySem.W.kdl_values (knd := mixKind X.prog X.w)) (I1.ok.hd hc) ⟨vw, hm⟩ (by omega) fun h' tk acc kp hi => ?_
  have rv := vals_kv kv rfl hi
  exact thn (hr.run pos pins { s1 with heap := h', toks := tk } σ H1 _ (I1.kept (t' := tk) kp) q) fun ws s3 ⟨ys, H3, I3, r3, q3⟩ => ⟨kvs.map (·.2) ++ ys, H3, I3, rv.append r3, q3⟩

/-! ### tuple(d) -/
theorem keys_kv {kvs : List (Key × V)} {vs : List (Key × Value)} (kv : KV kvs vs) {acc : Array Value} {n : Nat} (hn : n = vs.length) (h : ItemsOf (fun i v => ∃ k x, vs[i]? = some (k, x) ∧ keyIs k v = true) acc n) : Vals (kvs.map fun p => kV p.1) acc.toList := by
  have hl : kvs.length = vs.length := Paired.length kv
  have key : ∀ i, i ≤ n → Vals ((kvs.map fun p => kV p.1).take i) (acc.toList.take i) := by
    intro i
    induction i with
    | zero => intro _; exact .nil
    | succ i ih =>
      intro hi
      have hi2 : i < acc.toList.length := by rw [Array.length_toList, h.1]; exact hi
      obtain ⟨k, x, hk, hkey⟩ := h.2 i acc.toList[i] (by rw [← Array.getElem?_toList, List.getElem?_eq_getElem hi2])
      have hi3 : i < kvs.length := by omega
      obtain ⟨u, hu, ru⟩ := kv_get kv (show kvs[i]? = some (kvs[i].1, kvs[i].2) from List.getElem?_eq_getElem hi3)
      rw [hk] at hu
      have ek : k = kvs[i].1 := (Prod.mk.inj (Option.some.inj hu)).1
      rw [List.take_succ, List.take_succ, List.getElem?_map, List.getElem?_eq_getElem hi3, List.getElem?_eq_getElem hi2]
      exact (ih (by omega)).append (.cons (relV_key (by rw [← ek]; exact hkey)) .nil)
  have z := key n (Nat.le_refl _)
  rw [List.take_of_length_le (by rw [List.length_map]; omega), List.take_of_length_le (by rw [Array.length_toList, h.1]; omega)] at z
  exact z
theorem new_tuple_dict {prog : Program} {w : World} {A : Around} {E : Value → Shared → Prop} {s : Shared} {d : Addr} {n : Nat} {P : Nat → Value → Prop} {OK : Heap → Prop} {Q₁ : Value → Shared → Prop}
    (C : PySem.W.KdlSrc prog w "dict" d d n P OK) (hh : A.handled = none) (ok : OK s.heap) (hn : n ≤ sizeLine)
    (h : ∀ (h' : Heap) (tk : Nat) (acc : Array Value), (∀ b o, s.heap.get? b = some o → h'.get? b = some o) → ItemsOf P acc n → Q₁ (.ref h'.objs.size) { s with heap := h'.push { cls := .type "tuple", data := .seq acc }, toks := tk }) :
    codeAny (model prog w) A (.call (.builtin "tuple.__new__") ⟨[.type "tuple", .ref d], []⟩) (wants Q₁ E) s := by
  refine codeAny_of_tree ?_
  show wpAny _ A.in1 (do checkBuiltinCall "tuple.__new__" ⟨[.type "tuple", .ref d], []⟩; again (.builtin "tuple.__new__" ⟨[.type "tuple", .ref d], []⟩)) _ _ s
  refine wpAny_bind (wpAny_of_eq (PySem.F.newCall_tuple_1 _) (wpAny_pure ⟨plainId_quiet PySem.F.plain_tuple_new _, codeAny_builtin PySem.F.entry_tuple_new ?_⟩))
  rw [Around.under_plainId PySem.F.plain_tuple_new _]
  have g1 := sub_tuple_self
  have g2 := init_tuple_lookup
  have g3 := madeHere_tuple
  have hT := C.type s ok
  have hh1 : A.in1.handled = none := hh
  wp_walk using wpAny_typeOf hT, PySem.W.kdu_collect (A := A.in1) C hh1 ok hn
  intro h' tk acc kp hi
  show wpAny _ _ (Builtin.Tuple.tupleExact acc.toList.toArray >>= fun v => ret v) _ _ _
  unfold Builtin.Tuple.tupleExact
  refine wpAny_bind (wpAny_newObj_type ?_ (by show acc.toList.toArray.size ≤ sizeLine; simp only [Array.toArray_toList]; rw [hi.1]; exact hn))
  refine wpAny_pure ?_
  rw [show acc.toList.toArray = acc by simp]
  exact h h' tk acc kp hi
def rTupD : List V → Hp → VK → Prop := fun xs H Q => ∃ (d : Addr) (kvs : List (Key × V)), xs = [.ref d] ∧ Rd H d (.dK kvs) ∧ ∀ p, H p = none → Q (.ref p) (upd H p (.tup (kvs.map fun q => kV q.1)))
theorem call_tupD (hc : X.calm = true) : CallR X (.type "tuple") rTupD := by
  intro pins s σ H xs us Q I r h
  obtain ⟨d, kvs, rfl, hd, q⟩ := h
  rw [Vals.ref1 r]
  obtain ⟨hz, hs, vs, ep, kv, hm⟩ := Inv_rdK I hd
  have hl : kvs.length = vs.length := Paired.length kv
  refine callType_codes (Q₁ := fun obj s₁ => s₁.TypeIs obj "tuple" ∧ EP X pins σ Q obj s₁) PySem.F.called_tuple (PySem.F.typeCall_tuple_1 _) PySem.F.entry_object_init
    (new_tuple_dict (A := X.A.in1) (PySem.W.kdl_dict (knd := mixKind X.prog X.w) hs) (I.ok.hd hc) hm (by omega) fun h' tk acc kp hi => ⟨⟨_, Heap.get?_push_size _ rfl, rfl⟩, ?_⟩) fun obj s₁ h₁ => ?_
  · have I1 : Inv X pins σ H { s with heap := h', toks := tk } := I.kept (t' := tk) kp
    have rv : Vals (kvs.map fun q => kV q.1) acc.toList := keys_kv kv rfl hi
    refine ⟨.ref h'.objs.size, _, I1.laid (t' := tk) (fun b o z => Heap.get?_push_of_some _ z) (Nat.le_refl _) (show ObjOk X.prog X.w _ _ _ (.tup (kvs.map fun q => kV q.1)) from ⟨by rw [List.length_map]; exact hz, acc.toList, rv, ?_⟩), rfl, q _ (I1.hok.fresh (Nat.le_refl _))⟩
    exact ⟨_, Heap.get?_push_size _ rfl, rfl, 0, by simp⟩
  · exact ⟨h₁.1, PySem.F.args_object_init_2 obj _, object_init_meets PySem.F.called_tuple.init.lookup PySem.F.called_tuple.made (by decide) X.prog X.w X.A.in1 _ s₁ ⟨h₁.1, rfl, h₁.2⟩⟩

/-! ### what will not change any more is known for good -/
theorem Inv.freeze {pins : List (Addr × Obj)} {σ : L2.St} {H : Hp} {s : Shared} {d : Addr} {kvs : List (Key × V)} (I : Inv X pins σ H s) (h : H d = some (.dK kvs)) : ∃ o es ep, o.data = .dict es ep ∧ Inv X pins σ (upd H d (.frz o (.dK kvs))) s := by
  obtain ⟨z, hs, vs, kv, o, es, ep, ho, r⟩ := I.hok d _ h
  refine ⟨o, es, ep, r.2.1, ?_⟩
  have other : ∀ b u, H b = some u → (∀ ks, u ≠ .dK ks) → upd H d (.frz o (.dK kvs)) b = some u := fun b u e n => by
    rw [upd_ne (fun w => by rw [w, h] at e; exact n kvs (Option.some.inj e).symm)]
    exact e
  have non : ∀ b, H b = Option.none → upd H d (.frz o (.dK kvs)) b = Option.none := fun b e => by
    rw [upd_ne (fun w => by rw [w, h] at e; cases e)]
    exact e
  have hok : HOk X.prog X.w (upd H d (.frz o (.dK kvs))) s.heap := fun b u e => by
    by_cases hb : b = d
    · rw [hb, upd_same] at e
      cases e
      rw [hb]
      exact ⟨ho, z, hs, vs, kv, o, es, ep, ho, r⟩
    · rw [upd_ne hb] at e
      exact (I.hok b u e).stay (fun _ _ _ w => w) (fun c w => other c _ w (fun _ y => nomatch y)) (fun c xs w => other c _ w (fun _ y => nomatch y))
  have u : Un X.fs [] H (upd H d (.frz o (.dK kvs))) s.heap s.heap := ⟨fun _ _ e _ _ _ => e, fun _ y e _ _ _ => ⟨y.slots, e⟩, fun b _ _ w _ => non b w, fun _ y e _ => ⟨y, e⟩, (fun b xs w => other b _ w (fun _ y => nomatch y)),
    (fun b y x w => other b _ w (fun _ y => nomatch y)), (fun b ps w => ⟨#[], by rw [other b _ w (fun _ y => nomatch y)]; simp⟩)⟩
  exact I.un (t' := s.toks) u hok
/-- ahead of a block the dict at hand is locked for good -/
def tFreeze (i : L2.St → Hp → Addr → Prop) (t : TS) : TS := fun D σ H => ∃ (d : Addr) (kvs : List (Key × V)), i σ H d ∧ H d = some (.dK kvs) ∧ ∀ o es ep, o.data = .dict es ep → t D σ (upd H d (.frz o (.dK kvs)))
theorem pss_freeze {sts : List Stmt} {t : TS} (i : L2.St → Hp → Addr → Prop) (h : PSs X sts t) : PSs X sts (tFreeze i t) := by
  refine ⟨fun pins s σ H D I ⟨d, kvs, _, hd, q⟩ => ?_⟩
  obtain ⟨o, es, ep, hdt, J⟩ := Inv.freeze I hd
  exact h.run pins s σ _ D J (q o es ep hdt)
/-- behind an expression whose value is a new dict -/
def tFrzE (te : TE) : TE := fun σ H Q => te σ H fun x H1 => ∃ (d : Addr) (kvs : List (Key × V)), x = .ref d ∧ H1 d = some (.dK kvs) ∧ ∀ o es ep, o.data = .dict es ep → Q (.ref d) (upd H1 d (.frz o (.dK kvs)))
theorem pe_frz {e : Expr} {te : TE} (h : PE X e te) : PE X e (tFrzE te) := by
  refine ⟨fun pins s σ H Q I z => ?_⟩
  refine thn (h.run pins s σ H _ I z) fun u s1 ⟨x, H1, I1, rx, d, kvs, ex, hd, q⟩ => ?_
  subst ex
  obtain ⟨o, es, ep, hdt, J⟩ := Inv.freeze I1 hd
  exact ⟨.ref d, _, J, rx, q o es ep hdt⟩
end
end G81
set_option maxRecDepth 100000
set_option maxHeartbeats 2000000
/-! values as data: what a value stands for (At), how a heap may go on (Rl), expressions and blocks by data -/
namespace G81
open PySem PySem.Spec PyProof.Rows L2 SlX

/-- what a value stands for -/
inductive D where
  | non | bl (b : Bool) | int (i : Int) | txt (x : Str)
  | tup (l : List D) | lst (l : List D) | flst (l : List D)
  | dct (ks : List Str) (l : List D) | mdc (ks : List Str) (l : List D)
  | obj (C : Addr) (l : List D) | set (l : List D) | dice
/-- the written part and the world -/
structure KW where
  K : PySem.W.Frag
  w : World
/-- a set's object, its members in their order -/
def SetG (w : World) (a : Addr) (xs : List V) (h : Heap) : Prop :=
  ∃ o es ep t, h.get? a = some o ∧ o.ExactSet ∧ o.data = .set es ep t ∧ es.size < 64 ∧ t.fits es.size = true ∧ Ris t.place.toList ∧
    (w.params.followText "set-order" = true ∨ t.led = true) ∧ Vals xs (es.toList.map (·.2))
def SetGO (w : World) (a : Addr) (xs : List V) : HO := .ext (SetG w a xs)
theorem setG_new {P : Program} {w : World} {H : Hp} {h : Heap} {a : Addr} {xs : List V} (e : SetG w a xs h) : ObjOk P w H h a (SetGO w a xs) := by
  have ⟨o, es, ep, t, ho, r⟩ := e
  exact ⟨e, ⟨o, ho⟩, fun h1 h2 ⟨o, es, ep, t, ho, r⟩ k => ⟨o, es, ep, t, k o ho, r⟩⟩
/-- the three ints of the dice -/
def DiceO (o : HO) : Prop := ∃ x y z : Int, o = .lst [.int x, .int y, .int z] ∧ 0 ≤ x
/-- who may change (E), whom a value keeps from (M), one's own lists and dicts (O) -/
structure Fm where
  E : List Addr
  M : List Addr
  O : List Addr
def kvz (ks : List Str) (xs : List V) : List (Key × V) := List.zipWith (fun k x => (Sum.inr k, x)) ks xs

/-- a list that stands for good -/
def SqF (K : PySem.W.Frag) (H : Hp) (a : Addr) (xs : List V) : Prop := (∃ o, H a = some (.frz o (.lst xs))) ∨
  ∃ (o : Obj) (its : Array Value) (n : Nat), K.lookup a = some o ∧ o.cls = .type "list" ∧ o.dict = none ∧ o.data = .seq its n ∧ its.size ≤ sizeLine ∧ Vals xs its.toList
theorem SqF.sq {K : PySem.W.Frag} {H : Hp} {a : Addr} {xs : List V} (h : SqF K H a xs) : SqL K H a xs := by
  rcases h with h | h
  · exact .inl (.inr h)
  · exact .inr h

mutual
def At (k : KW) (c : Fm) (H : Hp) : D → V → Prop
  | .non, v => v = .non
  | .bl b, v => v = .bl b
  | .int i, v => v = .int i
  | .txt x, v => v = .str x
  | .tup l, v => ∃ a xs, v = .ref a ∧ SqT k.K H a xs ∧ Ats k c H l xs
  | .lst l, v => ∃ a xs, v = .ref a ∧ a ∉ c.M ∧ H a = some (.lst xs) ∧ Ats k c H l xs
  | .flst l, v => ∃ a xs, v = .ref a ∧ SqF k.K H a xs ∧ Ats k c H l xs
  | .dct ks l, v => ∃ a o es ep xs, v = .ref a ∧ H a = some (.frz o (.dK (kvz ks xs))) ∧ o.data = .dict es ep ∧ ks.length = xs.length ∧ Ats k c H l xs
  | .mdc ks l, v => ∃ a xs, v = .ref a ∧ a ∉ c.M ∧ H a = some (.dK (kvz ks xs)) ∧ ks.length = xs.length ∧ Ats k c H l xs
  | .obj C l, v => ∃ a dx xs, v = .ref a ∧ a ∉ c.M ∧ dx ∉ c.M ∧ H a = some (SlO a C dx (xs.map some)) ∧ H dx = some (.xd []) ∧ Ats k c H l xs
  | .set l, v => ∃ a xs, v = .ref a ∧ a ∉ c.M ∧ H a = some (SetGO k.w a xs) ∧ Ats k c H l xs
  | .dice, v => ∃ a o, v = .ref a ∧ a ∈ c.E ∧ H a = some o ∧ DiceO o
def Ats (k : KW) (c : Fm) (H : Hp) : List D → List V → Prop
  | [], xs => xs = []
  | d :: l, xs => ∃ x r, xs = x :: r ∧ At k c H d x ∧ Ats k c H l r
end

def OwnK (o : HO) : Prop := (∀ xs, o ≠ .tup xs) ∧ ∀ ob u, o ≠ .frz ob u
/-- the heap goes on: what stood stands, the dice but for its numbers, one's own but for what they hold -/
def Rl (E O : List Addr) (H H' : Hp) : Prop := ∀ b o, H b = some o →
  H' b = some o ∨ (b ∈ E ∧ DiceO o ∧ ∃ o', H' b = some o' ∧ DiceO o') ∨ (b ∈ O ∧ OwnK o ∧ ∃ o', H' b = some o')
theorem DiceO.own {o : HO} (h : DiceO o) : OwnK o := by obtain ⟨x, y, z, rfl, _⟩ := h; exact ⟨by intro xs; simp, by intro a b; simp⟩
theorem ownK_lst {xs : List V} : OwnK (.lst xs) := ⟨by intro xs; simp, by intro a b; simp⟩
theorem ownK_dK {xs : List (Key × V)} : OwnK (.dK xs) := ⟨by intro xs; simp, by intro a b; simp⟩
theorem not_tup {xs : List V} : ¬ OwnK (.tup xs) := fun h => h.1 xs rfl
theorem not_frz {o : Obj} {u : HO} : ¬ OwnK (.frz o u) := fun h => h.2 o u rfl
theorem Rl.refl {E O : List Addr} {H : Hp} : Rl E O H H := fun _ _ h => .inl h
theorem Rl.of_same {E O : List Addr} {H H' : Hp} (h : ∀ b o, H b = some o → H' b = some o) : Rl E O H H' := fun b o e => .inl (h b o e)
theorem Rl.trans {E O : List Addr} {H H1 H2 : Hp} (h : ∀ b ∈ O, b ∉ E) (a : Rl E O H H1) (b : Rl E O H1 H2) : Rl E O H H2 := by
  intro c o e
  rcases a c o e with e1 | ⟨m, d, o1, e1, d1⟩ | ⟨m, d, o1, e1⟩
  · exact b c o e1
  · rcases b c o1 e1 with e2 | ⟨_, _, o2, e2, d2⟩ | ⟨m2, _⟩
    · exact .inr (.inl ⟨m, d, o1, e2, d1⟩)
    · exact .inr (.inl ⟨m, d, o2, e2, d2⟩)
    · exact absurd m (h c m2)
  · rcases b c o1 e1 with e2 | ⟨m2, _⟩ | ⟨_, _, o2, e2⟩
    · exact .inr (.inr ⟨m, d, o1, e2⟩)
    · exact absurd m2 (h c m)
    · exact .inr (.inr ⟨m, d, o2, e2⟩)
theorem Rl.trans0 {E : List Addr} {H H1 H2 : Hp} (a : Rl E [] H H1) (b : Rl E [] H1 H2) : Rl E [] H H2 := Rl.trans (fun _ h => nomatch h) a b
theorem Rl.wide {E O : List Addr} {H H' : Hp} (a : Rl E [] H H') : Rl E O H H' := fun b o e => by
  rcases a b o e with x | x | ⟨m, _⟩
  · exact .inl x
  · exact .inr (.inl x)
  · exact nomatch m
theorem Rl.none {E O : List Addr} {H H' : Hp} (a : Rl E O H H') {p : Addr} (h : H' p = .none) : H p = .none := by
  cases e : H p with
  | none => rfl
  | some o =>
    rcases a p o e with x | ⟨_, _, o', x, _⟩ | ⟨_, _, o', x⟩ <;> rw [h] at x <;> cases x
theorem Rl.new {E O : List Addr} {H : Hp} {p : Addr} {o : HO} (h : H p = .none) : Rl E O H (upd H p o) := .of_same fun b u e => by rw [upd_ne (ne_of_none e h)]; exact e
/-- what is neither dice nor one's own stands -/
theorem Rl.keep {E O : List Addr} {H H' : Hp} (a : Rl E O H H') {b : Addr} {o : HO} (e : H b = some o) (n : ¬ OwnK o) : H' b = some o := by
  rcases a b o e with x | ⟨_, d, _⟩ | ⟨_, d, _⟩
  · exact x
  · exact absurd d.own n
  · exact absurd d n
theorem Rl.keepM {E O M : List Addr} {H H' : Hp} (a : Rl E O H H') (he : ∀ b ∈ E, b ∈ M) (ho : ∀ b ∈ O, b ∈ M) {b : Addr} {o : HO} (e : H b = some o) (n : b ∉ M) : H' b = some o := by
  rcases a b o e with x | ⟨m, _⟩ | ⟨m, _⟩
  · exact x
  · exact absurd (he b m) n
  · exact absurd (ho b m) n

/-- the ground: the dice lie, one's own are no dice -/
structure Bw (c : Fm) (H : Hp) : Prop where
  em : ∀ a ∈ c.E, a ∈ c.M
  dice : ∀ a ∈ c.E, ∃ o, H a = some o ∧ DiceO o
  om : ∀ a ∈ c.O, a ∈ c.M
  oe : ∀ a ∈ c.O, a ∉ c.E
/-- .. and what is kept from is there -/
structure Bs (c : Fm) (H : Hp) : Prop extends Bw c H where
  dom : ∀ a ∈ c.M, ∃ o, H a = some o
theorem Bw.rl {c : Fm} {O : List Addr} {H H' : Hp} (b : Bw c H) (ho : ∀ a ∈ O, a ∈ c.O) (r : Rl c.E O H H') : Bw c H' where
  em := b.em
  om := b.om
  oe := b.oe
  dice := fun a h => by
    obtain ⟨o, e, d⟩ := b.dice a h
    rcases r a o e with x | ⟨_, _, o', x, d'⟩ | ⟨m, _⟩
    · exact ⟨o, x, d⟩
    · exact ⟨o', x, d'⟩
    · exact absurd h (b.oe a (ho a m))
theorem Bs.rlO {c : Fm} {O : List Addr} {H H' : Hp} (b : Bs c H) (ho : ∀ a ∈ O, a ∈ c.O) (r : Rl c.E O H H') : Bs c H' := ⟨b.toBw.rl ho r, fun a h => by
    obtain ⟨o, e⟩ := b.dom a h
    rcases r a o e with x | ⟨_, _, o', x, d'⟩ | ⟨_, _, o', x⟩ <;> exact ⟨_, x⟩⟩
theorem Bs.rl {c : Fm} {H H' : Hp} (b : Bs c H) (r : Rl c.E c.O H H') : Bs c H' := b.rlO (fun _ h => h) r
theorem Bs.free {c : Fm} {H : Hp} (b : Bs c H) {p : Addr} (h : H p = .none) : p ∉ c.M := fun m => by
  obtain ⟨o, e⟩ := b.dom p m
  rw [h] at e
  cases e

section
variable {k : KW} {c : Fm} {H H' : Hp}
theorem sqT_rl {K : PySem.W.Frag} {E O : List Addr} {a : Addr} {xs : List V} (r : Rl E O H H') (h : SqT K H a xs) : SqT K H' a xs := by
  rcases h with (h | ⟨o, h⟩) | h
  · exact .inl (.inl (r.keep h not_tup))
  · exact .inl (.inr ⟨o, r.keep h not_frz⟩)
  · exact .inr h
mutual
theorem At.rl (b : Bw c H) (r : Rl c.E c.O H H') : ∀ {d : D} {v : V}, At k c H d v → At k c H' d v
  | .non, _, h => h
  | .bl _, _, h => h
  | .int _, _, h => h
  | .txt _, _, h => h
  | .tup _, _, h => let ⟨a, xs, e, q, z⟩ := h; ⟨a, xs, e, sqT_rl r q, Ats.rl b r z⟩
  | .lst _, _, h => let ⟨a, xs, e, m, q, z⟩ := h; ⟨a, xs, e, m, r.keepM b.em b.om q m, Ats.rl b r z⟩
  | .flst _, _, h => let ⟨a, xs, e, q, z⟩ := h; ⟨a, xs, e, (by rcases q with ⟨o, q⟩ | q; exact .inl ⟨o, r.keep q not_frz⟩; exact .inr q), Ats.rl b r z⟩
  | .dct _ _, _, h => let ⟨a, o, es, ep, xs, e, q, y, l, z⟩ := h; ⟨a, o, es, ep, xs, e, r.keep q not_frz, y, l, Ats.rl b r z⟩
  | .mdc _ _, _, h => let ⟨a, xs, e, m, q, l, z⟩ := h; ⟨a, xs, e, m, r.keepM b.em b.om q m, l, Ats.rl b r z⟩
  | .obj _ _, _, h => let ⟨a, dx, xs, e, m, m2, q, q2, z⟩ := h; ⟨a, dx, xs, e, m, m2, r.keepM b.em b.om q m, r.keepM b.em b.om q2 m2, Ats.rl b r z⟩
  | .set _, _, h => let ⟨a, xs, e, m, q, z⟩ := h; ⟨a, xs, e, m, r.keepM b.em b.om q m, Ats.rl b r z⟩
  | .dice, _, h => let ⟨a, o, e, m, q, y⟩ := h; let ⟨o', e', d'⟩ := (b.rl (fun _ h => h) r).dice a m; ⟨a, o', e, m, e', d'⟩
theorem Ats.rl (b : Bw c H) (r : Rl c.E c.O H H') : ∀ {l : List D} {xs : List V}, Ats k c H l xs → Ats k c H' l xs
  | [], _, h => h
  | _ :: _, _, h => let ⟨x, t, e, p, q⟩ := h; ⟨x, t, e, At.rl b r p, Ats.rl b r q⟩
end
/-! another frame: the same dice, fewer or other things to keep from -/
mutual
theorem At.fm {c' : Fm} (he : ∀ a ∈ c.E, a ∈ c'.E) (h : ∀ a, (∃ o, H a = some o) → a ∈ c'.M → a ∈ c.M) : ∀ {d : D} {v : V}, At k c H d v → At k c' H d v
  | .non, _, z => z
  | .bl _, _, z => z
  | .int _, _, z => z
  | .txt _, _, z => z
  | .tup _, _, z => let ⟨a, xs, e, q, z⟩ := z; ⟨a, xs, e, q, Ats.fm he h z⟩
  | .lst _, _, z => let ⟨a, xs, e, m, q, z⟩ := z; ⟨a, xs, e, fun i => m (h a ⟨_, q⟩ i), q, Ats.fm he h z⟩
  | .flst _, _, z => let ⟨a, xs, e, q, z⟩ := z; ⟨a, xs, e, q, Ats.fm he h z⟩
  | .dct _ _, _, z => let ⟨a, o, es, ep, xs, e, q, y, l, z⟩ := z; ⟨a, o, es, ep, xs, e, q, y, l, Ats.fm he h z⟩
  | .mdc _ _, _, z => let ⟨a, xs, e, m, q, l, z⟩ := z; ⟨a, xs, e, fun i => m (h a ⟨_, q⟩ i), q, l, Ats.fm he h z⟩
  | .obj _ _, _, z => let ⟨a, dx, xs, e, m, m2, q, q2, z⟩ := z; ⟨a, dx, xs, e, fun i => m (h a ⟨_, q⟩ i), fun i => m2 (h dx ⟨_, q2⟩ i), q, q2, Ats.fm he h z⟩
  | .set _, _, z => let ⟨a, xs, e, m, q, z⟩ := z; ⟨a, xs, e, fun i => m (h a ⟨_, q⟩ i), q, Ats.fm he h z⟩
  | .dice, _, z => let ⟨a, o, e, m, q, y⟩ := z; ⟨a, o, e, he a m, q, y⟩
theorem Ats.fm {c' : Fm} (he : ∀ a ∈ c.E, a ∈ c'.E) (h : ∀ a, (∃ o, H a = some o) → a ∈ c'.M → a ∈ c.M) : ∀ {l : List D} {xs : List V}, Ats k c H l xs → Ats k c' H l xs
  | [], _, z => z
  | _ :: _, _, z => let ⟨x, t, e, p, q⟩ := z; ⟨x, t, e, At.fm he h p, Ats.fm he h q⟩
end
theorem Ats.length : ∀ {l : List D} {xs : List V}, Ats k c H l xs → xs.length = l.length
  | [], _, h => by cases (show _ = [] from h); rfl
  | _ :: _, _, h => by obtain ⟨x, t, rfl, _, q⟩ := h; rw [List.length_cons, List.length_cons, Ats.length q]
theorem Ats.get : ∀ {l : List D} {xs : List V} {i : Nat} {d : D}, Ats k c H l xs → l[i]? = some d → ∃ x, xs[i]? = some x ∧ At k c H d x
  | [], _, _, _, _, e => by simp at e
  | d :: l, _, 0, _, h, e => by obtain ⟨x, t, rfl, p, q⟩ := h; simp at e; subst e; exact ⟨x, rfl, p⟩
  | d :: l, _, i + 1, d', h, e => by
    obtain ⟨x, t, rfl, p, q⟩ := h
    obtain ⟨y, e1, e2⟩ := Ats.get (i := i) (d := d') q (by simpa using e)
    exact ⟨y, by simpa using e1, e2⟩
theorem Ats.append : ∀ {l m : List D} {xs ys : List V}, Ats k c H l xs → Ats k c H m ys → Ats k c H (l ++ m) (xs ++ ys)
  | [], _, _, _, h, q => by rw [show _ = [] from h]; exact q
  | d :: l, _, _, _, h, q => by obtain ⟨x, t, rfl, p, z⟩ := h; exact ⟨x, t ++ _, rfl, p, Ats.append z q⟩
theorem Ats.take : ∀ {l : List D} {xs : List V} (n : Nat), Ats k c H l xs → Ats k c H (l.take n) (xs.take n)
  | _, _, 0, _ => rfl
  | [], _, n + 1, h => by rw [show _ = [] from h]; rfl
  | d :: l, _, n + 1, h => by obtain ⟨x, t, rfl, p, q⟩ := h; exact ⟨x, t.take n, rfl, p, Ats.take n q⟩
theorem Ats.drop : ∀ {l : List D} {xs : List V} (n : Nat), Ats k c H l xs → Ats k c H (l.drop n) (xs.drop n)
  | _, _, 0, h => h
  | [], _, n + 1, h => by rw [show _ = [] from h]; rfl
  | d :: l, _, n + 1, h => by obtain ⟨x, t, rfl, p, q⟩ := h; exact Ats.drop n q
theorem Ats.ints : ∀ {ns : List Int} {xs : List V}, Ats k c H (ns.map D.int) xs → xs = ns.map V.int
  | [], _, h => h
  | n :: ns, _, h => by obtain ⟨x, t, rfl, p, q⟩ := h; rw [Ats.ints (ns := ns) q, show x = _ from p]; rfl
theorem Ats.txts : ∀ {ns : List Str} {xs : List V}, Ats k c H (ns.map D.txt) xs → xs = ns.map V.str
  | [], _, h => h
  | n :: ns, _, h => by obtain ⟨x, t, rfl, p, q⟩ := h; rw [Ats.txts (ns := ns) q, show x = _ from p]; rfl
theorem Ats.of_ints : ∀ (ns : List Int), Ats k c H (ns.map D.int) (ns.map V.int)
  | [] => rfl
  | n :: ns => ⟨_, _, rfl, rfl, Ats.of_ints ns⟩
theorem Ats.of_txts : ∀ (ns : List Str), Ats k c H (ns.map D.txt) (ns.map V.str)
  | [] => rfl
  | n :: ns => ⟨_, _, rfl, rfl, Ats.of_txts ns⟩
end

/-! ### the slots as data -/
/-- slots as far as they are filled -/
def SlsAt (k : KW) (c : Fm) (H : Hp) (ss : List (Option D)) (xs : List (Option V)) : Prop := xs.length = ss.length ∧ ∀ (i : Nat) (d : D), ss[i]? = some (some d) → ∃ v, xs[i]? = some (some v) ∧ At k c H d v
theorem SlsAt.imp {k : KW} {c c' : Fm} {H H' : Hp} {ss : List (Option D)} {xs : List (Option V)} (h : SlsAt k c H ss xs) (q : ∀ d v, At k c H d v → At k c' H' d v) : SlsAt k c' H' ss xs :=
  ⟨h.1, fun i d e => let ⟨v, e1, a⟩ := h.2 i d e; ⟨v, e1, q d v a⟩⟩
inductive Cell where
  | no | d (x : D) | own (l : Addr) (ds : List D) | owk (l : Addr) (ks : List Str) (ds : List D) | slf (a dx C : Addr) (ss : List (Option D)) | ow2 (l m : Addr) (ks : List Str) (ds : List D) (kk : Str) (ks2 : List Str) (ds2 : List D)
def CellAt (k : KW) (c : Fm) (H : Hp) : Cell → Option V → Prop
  | .no, _ => True
  | .d x, v => ∃ u, v = some u ∧ At k c H x u
  | .own l ds, v => v = some (.ref l) ∧ l ∈ c.O ∧ ∃ xs, H l = some (.lst xs) ∧ Ats k c H ds xs
  | .owk l ks ds, v => v = some (.ref l) ∧ l ∈ c.O ∧ ∃ xs, H l = some (.dK (kvz ks xs)) ∧ ks.length = xs.length ∧ Ats k c H ds xs
  | .slf a dx C ss, v => v = some (.ref a) ∧ a ∈ c.O ∧ dx ∈ c.O ∧ ∃ xs, Slt H a C dx xs ∧ (∃ o, H dx = some o) ∧ SlsAt k c H ss xs
  | .ow2 l m ks ds kk ks2 ds2, v => v = some (.ref l) ∧ l ∈ c.O ∧ m ∈ c.O ∧ l ≠ m ∧ ∃ xs ys, H l = some (.dK (kvz ks xs ++ [(Sum.inr kk, .ref m)])) ∧ ks.length = xs.length ∧ Ats k c H ds xs ∧ H m = some (.dK (kvz ks2 ys)) ∧ ks2.length = ys.length ∧ Ats k c H ds2 ys
structure Ev (k : KW) (c : Fm) (H : Hp) (σ : L2.St) (δ : List Cell) : Prop where
  bs : Bs c H
  at_ : ∀ (i : Nat) (x : Cell), δ[i]? = some x → ∃ y, σ[i]? = some y ∧ CellAt k c H x y
def Cell.adr : Cell → List Addr
  | .own l _ => [l]
  | .owk l _ _ => [l]
  | .slf a dx _ _ => [a, dx]
  | .ow2 l m _ _ _ _ _ => [l, m]
  | _ => []
/-- one's own at O may have changed: no slot holds them -/
theorem Ev.rlO {k : KW} {c : Fm} {O : List Addr} {H H' : Hp} {σ : L2.St} {δ : List Cell} (e : Ev k c H σ δ) (ho : ∀ a ∈ O, a ∈ c.O) (hn : ∀ (i : Nat) (x : Cell), δ[i]? = some x → ∀ a ∈ O, a ∉ x.adr) (r : Rl c.E O H H') : Ev k c H' σ δ := by
  refine ⟨e.bs.rlO ho r, fun i x h => ?_⟩
  have r' : Rl c.E c.O H H' := fun b o q => by
    rcases r b o q with z | z | ⟨m, z⟩
    · exact .inl z
    · exact .inr (.inl z)
    · exact .inr (.inr ⟨ho b m, z⟩)
  have hx := hn i x h
  obtain ⟨y, h1, h2⟩ := e.at_ i x h
  refine ⟨y, h1, ?_⟩
  have own : ∀ {l : Addr} {o : HO}, l ∈ c.O → l ∈ x.adr → H l = some o → H' l = some o := fun {l o} m ea q => by
    rcases r l o q with z | ⟨z, _⟩ | ⟨z, _⟩
    · exact z
    · exact absurd z (e.bs.oe l m)
    · exact absurd ea (hx l z)
  cases x with
  | no => trivial
  | d x => obtain ⟨u, e1, z⟩ := h2; exact ⟨u, e1, z.rl e.bs.toBw r'⟩
  | own l ds => obtain ⟨e1, m, xs, q, z⟩ := h2; exact ⟨e1, m, xs, own m (by simp [Cell.adr]) q, z.rl e.bs.toBw r'⟩
  | owk l ks ds => obtain ⟨e1, m, xs, q, y, z⟩ := h2; exact ⟨e1, m, xs, own m (by simp [Cell.adr]) q, y, z.rl e.bs.toBw r'⟩
  | slf a dx C ds =>
    obtain ⟨e1, m, m2, xs, q, ⟨o, q2⟩, z⟩ := h2
    refine ⟨e1, m, m2, xs, ?_, ⟨o, own m2 (by simp [Cell.adr]) q2⟩, z.imp fun d v a => a.rl e.bs.toBw r'⟩
    rcases q with ⟨q, w⟩ | ⟨q, w⟩
    · exact .inl ⟨own m (by simp [Cell.adr]) q, w⟩
    · exact .inr ⟨own m (by simp [Cell.adr]) q, own m2 (by simp [Cell.adr]) w⟩
  | ow2 l m ks ds kk ks2 ds2 =>
    obtain ⟨e1, m1, m2, ne, xs, ys, q1, y1, z1, q2, y2, z2⟩ := h2
    exact ⟨e1, m1, m2, ne, xs, ys, own m1 (by simp [Cell.adr]) q1, y1, z1.rl e.bs.toBw r', own m2 (by simp [Cell.adr]) q2, y2, z2.rl e.bs.toBw r'⟩
theorem Ev.rl {k : KW} {c : Fm} {H H' : Hp} {σ : L2.St} {δ : List Cell} (e : Ev k c H σ δ) (r : Rl c.E [] H H') : Ev k c H' σ δ := e.rlO (by intro a h; cases h) (by intro _ _ _ a h; cases h) r
theorem Ev.set {k : KW} {c : Fm} {H : Hp} {σ : L2.St} {δ : List Cell} (e : Ev k c H σ δ) (i : Nat) {x : Cell} {y : Option V} (h : CellAt k c H x y) : Ev k c H (σ.set i y) (δ.set i x) := by
  refine ⟨e.bs, fun j z hz => ?_⟩
  by_cases hj : j = i
  · subst hj
    have hl : j < δ.length := by
      have q := (List.getElem?_eq_some_iff.mp hz).1
      rwa [List.length_set] at q
    rw [List.getElem?_set_self hl] at hz
    cases hz
    obtain ⟨y', h1, _⟩ := e.at_ j δ[j] (List.getElem?_eq_getElem hl)
    have hs : j < σ.length := (List.getElem?_eq_some_iff.mp h1).1
    exact ⟨y, List.getElem?_set_self hs, h⟩
  · rw [List.getElem?_set_ne (Ne.symm hj)] at hz ⊢
    exact e.at_ j z hz

/-! ### expressions by data -/
abbrev kw (X : Cx) : KW := ⟨X.K, X.w⟩
def tX (k : KW) (c : Fm) (δ : List Cell) (P : D → Prop) : TE := fun σ H Q => Ev k c H σ δ ∧ ∀ v H' d, P d → Rl c.E [] H H' → At k c H' d v → Q v H'
def PX (X : Cx) (c : Fm) (δ : List Cell) (e : Expr) (P : D → Prop) : Prop := PE X e (tX (kw X) c δ P)
def Is (d : D) : D → Prop := fun x => x = d
abbrev PV (X : Cx) (c : Fm) (δ : List Cell) (e : Expr) (d : D) : Prop := PX X c δ e (Is d)
def tXs (k : KW) (c : Fm) (δ : List Cell) (P : List D → Prop) : TA := fun σ H Q => Ev k c H σ δ ∧ ∀ vs H' ds, P ds → Rl c.E [] H H' → Ats k c H' ds vs → Q vs H'
def PXs (X : Cx) (c : Fm) (δ : List Cell) (es : List Expr) (P : List D → Prop) : Prop := PA X es (tXs (kw X) c δ P)
theorem PE.mono {X : Cx} {e : Expr} {t t' : TE} (h : PE X e t) (q : ∀ σ H Q, t' σ H Q → t σ H Q) : PE X e t' := ⟨fun pins s σ H Q I z => h.run pins s σ H Q I (q σ H Q z)⟩
theorem PA.mono {X : Cx} {e : List Expr} {t t' : TA} (h : PA X e t) (q : ∀ σ H Q, t' σ H Q → t σ H Q) : PA X e t' := ⟨fun pos pins s σ H Q I z => h.run pos pins s σ H Q I (q σ H Q z)⟩
theorem PSs.mono {X : Cx} {e : List Stmt} {t t' : TS} (h : PSs X e t) (q : ∀ D σ H, t' D σ H → t D σ H) : PSs X e t' := ⟨fun pins s σ H D I z => h.run pins s σ H D I (q D σ H z)⟩
theorem PT.mono {X : Cx} {e : Expr} {t t' : TT} (h : PT X e t) (q : ∀ σ H Q, t' σ H Q → t σ H Q) : PT X e t' := ⟨fun pins s σ H Q I z => h.run pins s σ H Q I (q σ H Q z)⟩

/-- rules by values, read on data -/
abbrev Wn (k : KW) (c : Fm) (P : D → Prop) (H : Hp) (Q : VK) : Prop := ∀ z H' d, P d → Rl c.E [] H H' → At k c H' d z → Q z H'
def R2L (k : KW) (c : Fm) (r : R2) (x y : D) (P : D → Prop) : Prop := ∀ v w H Q, Bs c H → At k c H x v → At k c H y w → Wn k c P H Q → r v w H Q
def R1L (k : KW) (c : Fm) (r : V → Hp → VK → Prop) (x : D) (P : D → Prop) : Prop := ∀ v H Q, Bs c H → At k c H x v → Wn k c P H Q → r v H Q
def CRL (k : KW) (c : Fm) (r : List V → Hp → VK → Prop) (ds : List D) (P : D → Prop) : Prop := ∀ vs H Q, Bs c H → Ats k c H ds vs → Wn k c P H Q → r vs H Q

section
variable {X : Cx} {c : Fm} {δ : List Cell} {a b e : Expr} {es : List Expr} {A B P P' : D → Prop} {d x y : D} {pos : Pos}
theorem PX.mono (h : PX X c δ e P) (q : ∀ d, P d → P' d) : PX X c δ e P' := PE.mono h fun _ _ _ ⟨z, w⟩ => ⟨z, fun v H' d p => w v H' d (q d p)⟩
theorem px_of (h : PV X c δ e d) (q : P d) : PX X c δ e P := PX.mono h fun _ z => z ▸ q
/-- a value that is there -/
theorem px_c {v : V} (h : PE X e (tC v)) (q : ∀ k c H, At k c H d v) : PV X c δ e d := PE.mono h fun _ H _ ⟨z, w⟩ => w v H d rfl .refl (q _ _ _)
theorem pv_int {i j pos} : PV X c δ (.Constant (.int i) j pos) (.int i) := px_c pe_int fun _ _ _ => rfl
theorem pv_bl {b j pos} : PV X c δ (.Constant (.bool b) j pos) (.bl b) := px_c pe_bl fun _ _ _ => rfl
theorem pv_non {j pos} : PV X c δ (.Constant .none j pos) .non := px_c pe_non fun _ _ _ => rfl
theorem pv_str {x j pos} : PV X c δ (.Constant (.str x) j pos) (.txt x) := px_c pe_str fun _ _ _ => rfl
theorem pv_var (i : Nat) {z : Str} (hd : δ[i]? = some (.d d)) (hN : X.N[i]? = some z) (hv : Vis X.env.scope z) (h1 : (z == ("__debug__" : Str)) = false := by decide) (h2 : (z == ("__classdict__" : Str)) = false := by decide) : PV X c δ (.Name z pos) d := by
  refine PE.mono (pe_var (i := i) hN hv h1 h2) fun σ H Q ⟨z, w⟩ => ?_
  obtain ⟨y, e1, u, rfl, q⟩ := z.at_ i _ hd
  exact ⟨u, e1, w u H d rfl .refl q⟩
theorem px_op {op : Operator} {r : R2} (ho : OpR X (binaryOp op) r) (ha : PX X c δ a A) (hb : PX X c δ b B) (l : ∀ x y, A x → B y → R2L (kw X) c r x y P) : PX X c δ (.BinOp a op b pos) P := by
  refine PE.mono (pe_op ho ha hb) fun σ H Q ⟨z, w⟩ => ⟨z, fun v H1 x p1 r1 a1 => ⟨z.rl r1, fun u H2 y p2 r2 a2 => l x y p1 p2 v u H2 Q ((z.rl r1).rl r2).bs (a1.rl (z.rl r1).bs.toBw r2.wide) a2 fun s H3 t p3 r3 a3 => w s H3 t p3 ((r1.trans0 r2).trans0 r3) a3⟩⟩
theorem pv_op {op : Operator} {r : R2} (ho : OpR X (binaryOp op) r) (ha : PV X c δ a x) (hb : PV X c δ b y) (l : R2L (kw X) c r x y P) : PX X c δ (.BinOp a op b pos) P :=
  px_op ho ha hb fun _ _ e1 e2 => by cases e1; cases e2; exact l
theorem px_un {op : UnaryOp} {r : V → Hp → VK → Prop} (ho : UnR X (unaryOp op) r) (ha : PX X c δ a A) (l : ∀ x, A x → R1L (kw X) c r x P) : PX X c δ (.UnaryOp op a pos) P := by
  refine PE.mono (pe_un ho ha) fun σ H Q ⟨z, w⟩ => ⟨z, fun v H1 x p1 r1 a1 => l x p1 v H1 Q (z.rl r1).bs a1 fun s H3 t p3 r3 a3 => w s H3 t p3 (r1.trans0 r3) a3⟩
theorem pv_un {op : UnaryOp} {r : V → Hp → VK → Prop} (ho : UnR X (unaryOp op) r) (ha : PV X c δ a x) (l : R1L (kw X) c r x P) : PX X c δ (.UnaryOp op a pos) P := px_un ho ha fun _ e => by cases e; exact l
/-! argument lists -/
theorem pxs_nil : PXs X c δ [] (· = []) := PA.mono pa_nil fun σ H Q ⟨z, w⟩ => w [] H [] rfl .refl rfl
theorem pxs_cons {As : List D → Prop} (ha : PX X c δ e A) (hs : PXs X c δ es As) (h : starEach (e :: es) X.env = (false, eval e X.env) :: starEach es X.env := by rfl) : PXs X c δ (e :: es) (fun l => ∃ d r, l = d :: r ∧ A d ∧ As r) := by
  refine PA.mono (pa_cons ha hs h) fun σ H Q ⟨z, w⟩ => ⟨z, fun v H1 x p1 r1 a1 => ⟨z.rl r1, fun vs H2 ys p2 r2 a2 => w (v :: vs) H2 (x :: ys) ⟨x, ys, rfl, p1, p2⟩ (r1.trans0 r2) ⟨v, vs, rfl, a1.rl (z.rl r1).bs.toBw r2.wide, a2⟩⟩⟩
theorem PXs.mono {P P' : List D → Prop} (h : PXs X c δ es P) (q : ∀ d, P d → P' d) : PXs X c δ es P' := PA.mono h fun _ _ _ ⟨z, w⟩ => ⟨z, fun v H' d p => w v H' d (q d p)⟩
theorem pvs_nil : PXs X c δ [] (· = []) := pxs_nil
theorem pvs_cons {l : List D} (ha : PV X c δ e d) (hs : PXs X c δ es (· = l)) (h : starEach (e :: es) X.env = (false, eval e X.env) :: starEach es X.env := by rfl) : PXs X c δ (e :: es) (· = d :: l) :=
  PXs.mono (pxs_cons ha hs h) fun _ ⟨_, _, e1, e2, e3⟩ => by rw [e1, e2, e3]
end
end G81
set_option maxRecDepth 100000
set_option maxHeartbeats 2000000
/-! walks and comprehensions by data -/
namespace G81
open PySem PySem.Spec PyProof.Rows L2 SlX

/-- lists, tuples, dicts are no longer than a line -/
def LenOk (K : PySem.W.Frag) (H : Hp) : Prop := (∀ a xs, SqL K H a xs → xs.length ≤ sizeLine) ∧ (∀ a xs, SqT K H a xs → xs.length ≤ sizeLine) ∧ ∀ a kvs, Rd H a (.dK kvs) → kvs.length ≤ sizeLine
theorem lenOk {X : Cx} {pins : List (Addr × Obj)} {σ : L2.St} {H : Hp} {s : Shared} (I : L2.Inv X pins σ H s) : LenOk X.K H :=
  ⟨fun a xs h => let ⟨_, _, _, z⟩ := I.list h; z, fun a xs h => let ⟨_, _, _, z⟩ := I.tuple h; z, fun a kvs h => (Inv_rdK I h).1⟩
theorem pe_len {X : Cx} {e : Expr} {t : TE} (h : PE X e t) : PE X e (fun σ H Q => t σ H fun v H' => LenOk X.K H' → Q v H') := by
  refine ⟨fun pins s σ H Q I z => ?_⟩
  exact thn (h.run pins s σ H _ I z) fun u s1 ⟨v, H1, I1, r, q⟩ => ⟨v, H1, I1, r, q (lenOk I1)⟩
theorem pi_len {X : Cx} {tg e : Expr} {t : TI} (h : PI X tg e t) : PI X tg e (fun σ H R => t σ H fun J H' => LenOk X.K H' → R J H') := by
  refine ⟨fun pins s σ H R I z => ?_⟩
  refine thn (h.run pins s σ H _ I z) fun v s1 q => thn q fun itv s2 ⟨it, fp, tn, J, H', e, I', T, st, f, r⟩ => ?_
  exact ⟨it, fp, tn, J, H', e, I', T, st, f, r (lenOk I')⟩
theorem PI.mono {X : Cx} {tg e : Expr} {t t' : TI} (h : PI X tg e t) (q : ∀ σ H R, t' σ H R → t σ H R) : PI X tg e t' := ⟨fun pins s σ H R I z => h.run pins s σ H R I (q σ H R z)⟩

/-- another frame at a heap: no fewer things to keep from, but new ones -/
structure Up (c c' : Fm) (H : Hp) : Prop where
  e : c'.E = c.E
  m : ∀ a, (∃ o, H a = some o) → a ∈ c'.M → a ∈ c.M
  b : Bw c' H
theorem At.up {k : KW} {c c' : Fm} {H : Hp} {d : D} {v : V} (u : Up c c' H) (h : At k c H d v) : At k c' H d v := h.fm (fun a m => by rw [u.e]; exact m) u.m
theorem Ats.up {k : KW} {c c' : Fm} {H : Hp} {d : List D} {v : List V} (u : Up c c' H) (h : Ats k c H d v) : Ats k c' H d v := h.fm (fun a m => by rw [u.e]; exact m) u.m
/-- J walks ds from H1 on -/
def WkD (k : KW) (c : Fm) (H1 : Hp) (J : It) (ds : List D) : Prop := ∃ (n : Nat) (G : Hp → Prop) (Y : Nat → Hp → V → Hp → Prop), Walk J n G Y ∧ n = ds.length ∧ ∀ c', Up c c' H1 → (∀ H, Rl c'.E c'.O H1 H → G H) ∧
  ∀ i H x H', i < n → Rl c'.E c'.O H1 H → Y i H x H' → ∃ d, ds[i]? = some d ∧ (∀ b o, H b = some o → H' b = some o) ∧ At k c' H' d x
def tI (k : KW) (c : Fm) (δ : List Cell) (P : List D → Prop) : TI := fun σ H R => Ev k c H σ δ ∧ ∀ J H1 ds, P ds → Rl c.E [] H H1 → WkD k c H1 J ds → ds.length ≤ sizeLine → R J H1
def PIX (X : Cx) (c : Fm) (δ : List Cell) (tg e : Expr) (P : List D → Prop) : Prop := PI X tg e (tI (kw X) c δ P)
theorem PIX.mono {X : Cx} {c : Fm} {δ : List Cell} {tg e : Expr} {P P' : List D → Prop} (h : PIX X c δ tg e P) (q : ∀ d, P d → P' d) : PIX X c δ tg e P' := PI.mono h fun _ _ _ ⟨z, w⟩ => ⟨z, fun J H1 ds p => w J H1 ds (q ds p)⟩

section
variable {X : Cx} {c : Fm} {δ : List Cell} {e tg : Expr} {A : D → Prop} {P : List D → Prop}
/-- a list, a tuple that is walked -/
theorem pix_list (he : PX X c δ e A) (h : ∀ d, A d → ∃ l, d = .lst l ∧ P l) : PIX X c δ tg e P := by
  refine PI.mono (pi_len (pi_list he)) fun σ H R ⟨z, w⟩ => ⟨z, fun v H1 d p r a => ?_⟩
  obtain ⟨l, rfl, q⟩ := h d p
  obtain ⟨b, xs, rfl, hm, hb, hx⟩ := a
  refine ⟨b, rfl, ⟨xs, SqL.of hb⟩, fun len => w (Itl X.K b) H1 l q r ⟨xs.length, _, _, walk_list, hx.length, fun c' u => ⟨fun H' r' => SqL.of (r'.keepM u.b.em u.b.om hb fun m => hm (u.m b ⟨_, hb⟩ m)), fun i H' x H2 hi r' y => ?_⟩⟩ (by rw [← hx.length]; exact len.1 b xs (SqL.of hb))⟩
  obtain ⟨rfl, y⟩ := y
  have hd : i < l.length := by rw [← hx.length]; exact hi
  obtain ⟨x', e1, e2⟩ := (hx.up u).get (List.getElem?_eq_getElem hd)
  rw [y] at e1
  cases e1
  exact ⟨_, List.getElem?_eq_getElem hd, fun _ _ e => e, e2.rl u.b r'⟩
theorem pix_tup (he : PX X c δ e A) (h : ∀ d, A d → ∃ l, d = .tup l ∧ P l) : PIX X c δ tg e P := by
  refine PI.mono (pi_len (pi_tup he)) fun σ H R ⟨z, w⟩ => ⟨z, fun v H1 d p r a => ?_⟩
  obtain ⟨l, rfl, q⟩ := h d p
  obtain ⟨b, xs, rfl, hb, hx⟩ := a
  refine ⟨b, rfl, ⟨xs, hb⟩, fun len => w (Itt X.K b) H1 l q r ⟨xs.length, _, _, walk_tup, hx.length, fun c' u => ⟨fun H' r' => sqT_rl r' hb, fun i H' x H2 hi r' y => ?_⟩⟩ (by rw [← hx.length]; exact len.2.1 b xs hb)⟩
  obtain ⟨rfl, y⟩ := y
  have hd : i < l.length := by rw [← hx.length]; exact hi
  obtain ⟨x', e1, e2⟩ := (hx.up u).get (List.getElem?_eq_getElem hd)
  rw [y] at e1
  cases e1
  exact ⟨_, List.getElem?_eq_getElem hd, fun _ _ e => e, e2.rl u.b r'⟩
end

theorem Ats.one {k : KW} {c : Fm} {H : Hp} {d : D} {v : V} (h : At k c H d v) : Ats k c H [d] [v] := ⟨v, [], rfl, h, rfl⟩
/-! ### targets -/
inductive Tg where
  | nm (i : Nat) | pr (i j : Nat)
def Tg.put : Tg → D → List Cell → Option (List Cell)
  | .nm i, x, δ => some (δ.set i (.d x))
  | .pr i j, .tup [a, b], δ => some ((δ.set i (.d a)).set j (.d b))
  | _, _, _ => none
def Tg.ix : Tg → List Nat
  | .nm i => [i]
  | .pr i j => [i, j]
def Tg.g (K : PySem.W.Frag) : Tg → TG
  | .nm i => gName i
  | .pr i j => gTup K 2 (gCons (gName i) (gCons (gName j) gNil))
/-- a target as it stands in the text -/
def PGX (X : Cx) (e : Expr) (t : Tg) : Prop := PG X e (t.g X.K)
theorem pgx_nm {X : Cx} {i : Nat} {x : Str} {pos : Pos} (hN : X.N.Nodup) (hi : X.N[i]? = some x) (hx : Loc X.env.scope x) (hf : X.fn x = true ∨ X.env.scope.names.lookup x = some .local := by first | exact .inl rfl | exact .inr rfl | assumption) : PGX X (.Name x pos) (.nm i) := pg_name hN hi hx hf
theorem pgx_pr {X : Cx} {i j : Nat} {x y : Str} {px py pos : Pos} {k : Nat} (hc : X.calm = true) (hN : X.N.Nodup) (hi : X.N[i]? = some x) (hj : X.N[j]? = some y) (hx : Loc X.env.scope x) (hy : Loc X.env.scope y)
    (hf : X.fn x = true ∨ X.env.scope.names.lookup x = some .local := by first | exact .inl rfl | exact .inr rfl | assumption) (hg : X.fn y = true ∨ X.env.scope.names.lookup y = some .local := by first | exact .inl rfl | exact .inr rfl | assumption)
    (h1 : (assignEach [Expr.Name x px, .Name y py] X.env).map (·.2) = assign (.Name x px) X.env :: (assignEach [Expr.Name y py] X.env).map (·.2) := by rfl) (h2 : (assignEach [Expr.Name y py] X.env).map (·.2) = assign (.Name y py) X.env :: (assignEach [] X.env).map (·.2) := by rfl)
    (hn : (assignEach [Expr.Name x px, .Name y py] X.env).length = 2 := by rfl) (hst : (assignEach [Expr.Name x px, .Name y py] X.env).findIdx? (·.1) = none := by rfl) :
    PGX X (.Tuple [.Name x px, .Name y py] k pos) (.pr i j) := pg_tup hc (pgs_cons (pg_name hN hi hx hf) (pgs_cons (pg_name hN hj hy hg) pgs_nil h2) h1) hn hst
theorem wipe_set {σ : L2.St} {i : Nat} {x : Option V} : ∀ {vs : List Nat}, i ∈ vs → wipe (σ.set i x) vs = wipe σ vs
  | [], h => nomatch h
  | v :: vs, h => by
    by_cases e : v = i
    · subst e
      by_cases m : v ∈ vs
      · show (wipe (σ.set v x) vs).set v Option.none = (wipe σ vs).set v Option.none
        rw [wipe_set m]
      · show (wipe (σ.set v x) vs).set v Option.none = (wipe σ vs).set v Option.none
        have key : ∀ (us : List Nat), v ∉ us → (wipe (σ.set v x) us) = (wipe σ us).set v x := by
          intro us
          induction us with
          | nil => intro _; rfl
          | cons u us ih =>
            intro hu
            have h1 : v ≠ u := fun z => hu (by rw [z]; exact List.mem_cons_self)
            show (wipe (σ.set v x) us).set u Option.none = ((wipe σ us).set u Option.none).set v x
            rw [ih fun z => hu (List.mem_cons_of_mem _ z), List.set_comm _ _ h1]
        rw [key vs m, List.set_set]
    · have m : i ∈ vs := by
        rcases List.mem_cons.mp h with z | z
        · exact absurd z.symm e
        · exact z
      show (wipe (σ.set i x) vs).set v Option.none = (wipe σ vs).set v Option.none
      rw [wipe_set m]
theorem put_go {k : KW} {t : Tg} {c : Fm} {H : Hp} {σ : L2.St} {δ δ' : List Cell} {x : D} {v : V} {Q : L2.St → Hp → Prop} {vs : List Nat} (e : Ev k c H σ δ) (a : At k c H x v) (h : t.put x δ = some δ')
    (q : ∀ σ', Ev k c H σ' δ' → ((∀ i ∈ t.ix, i ∈ vs) → wipe σ' vs = wipe σ vs) → Q σ' H) : t.g k.K v σ H Q := by
  cases t with
  | nm i =>
    cases h
    exact q _ (e.set i (x := .d x) ⟨v, rfl, a⟩) fun m => wipe_set (m i (List.mem_singleton.mpr rfl))
  | pr i j =>
    cases x with
    | tup l =>
      match l, h, a with
      | [x1, x2], h, a =>
        cases h
        obtain ⟨p, xs, rfl, hp, hx⟩ := a
        obtain ⟨y1, r1, rfl, a1, y2, r2, rfl, a2, rfl⟩ := hx
        exact ⟨p, [y1, y2], rfl, hp, rfl, y1, [y2], rfl, y2, [], rfl, rfl, q _ ((e.set _ (x := .d x1) ⟨y1, rfl, a1⟩).set _ (x := .d x2) ⟨y2, rfl, a2⟩) fun m => (wipe_set (m _ (by simp [Tg.ix]))).trans (wipe_set (m _ (by simp [Tg.ix])))⟩
    | _ => cases h
/-! the slots of a block's own names forgotten -/
def wipeD (δ : List Cell) : List Nat → List Cell
  | [] => δ
  | v :: vs => (wipeD δ vs).set v .no
theorem Ev.wipe {k : KW} {c : Fm} {H : Hp} {σ : L2.St} {δ : List Cell} (e : Ev k c H σ δ) : ∀ vs : List Nat, Ev k c H (L2.wipe σ vs) (wipeD δ vs)
  | [] => e
  | v :: vs => (e.wipe vs).set v trivial
def Fm.add (c : Fm) (D : Addr) : Fm := ⟨c.E, D :: c.M, D :: c.O⟩
theorem Up.add {c : Fm} {D : Addr} {H : Hp} (b : Bs c H) (h : H D = .none) : Up c (c.add D) H where
  e := rfl
  m := fun a ⟨o, e⟩ m => by
    rcases List.mem_cons.mp m with z | z
    · rw [z, h] at e; cases e
    · exact z
  b := ⟨fun a m => List.mem_cons_of_mem _ (b.em a m), b.dice, fun a m => by
      rcases List.mem_cons.mp m with z | z
      · rw [z]; exact List.mem_cons_self
      · exact List.mem_cons_of_mem _ (b.om a z), fun a m => by
      rcases List.mem_cons.mp m with z | z
      · intro y
        obtain ⟨o, e, _⟩ := b.dice a y
        rw [z, h] at e
        cases e
      · exact b.oe a z⟩
theorem Bs.add {c : Fm} {D : Addr} {H : Hp} {o : HO} (b : Bs c H) (h : H D = .none) : Bs (c.add D) (upd H D o) := by
  refine ⟨(Up.add b h).b.rl (O := []) (by intro a z; cases z) (Rl.new h), fun a m => ?_⟩
  rcases List.mem_cons.mp m with z | z
  · exact ⟨o, by rw [z]; exact upd_same⟩
  · obtain ⟨o', e⟩ := b.dom a z
    exact ⟨o', by rw [upd_ne (ne_of_none e h)]; exact e⟩
theorem Ev.add {k : KW} {c : Fm} {H : Hp} {σ : L2.St} {δ : List Cell} {D : Addr} {o : HO} (e : Ev k c H σ δ) (h : H D = .none) : Ev k (c.add D) (upd H D o) σ δ := by
  have u := Up.add e.bs h
  have r : ∀ O, Rl (c.add D).E O H (upd H D o) := fun O => Rl.new h
  refine ⟨e.bs.add h, fun i x hx => ?_⟩
  obtain ⟨y, h1, h2⟩ := e.at_ i x hx
  refine ⟨y, h1, ?_⟩
  cases x with
  | no => trivial
  | d x => obtain ⟨v, e1, z⟩ := h2; exact ⟨v, e1, (z.up u).rl u.b (r _)⟩
  | own l ds => obtain ⟨e1, m, xs, q, z⟩ := h2; exact ⟨e1, List.mem_cons_of_mem _ m, xs, by rw [upd_ne (ne_of_none q h)]; exact q, (z.up u).rl u.b (r _)⟩
  | owk l ks ds => obtain ⟨e1, m, xs, q, y, z⟩ := h2; exact ⟨e1, List.mem_cons_of_mem _ m, xs, by rw [upd_ne (ne_of_none q h)]; exact q, y, (z.up u).rl u.b (r _)⟩
  | slf a dx C ds =>
    obtain ⟨e1, m, m2, xs, q, ⟨o', q2⟩, z⟩ := h2
    refine ⟨e1, List.mem_cons_of_mem _ m, List.mem_cons_of_mem _ m2, xs, ?_, ⟨o', by rw [upd_ne (ne_of_none q2 h)]; exact q2⟩, z.imp fun d v a => (a.up u).rl u.b (r _)⟩
    rcases q with ⟨q, w⟩ | ⟨q, w⟩
    · exact .inl ⟨by rw [upd_ne (ne_of_none q h)]; exact q, w⟩
    · exact .inr ⟨by rw [upd_ne (ne_of_none q h)]; exact q, by rw [upd_ne (ne_of_none w h)]; exact w⟩
  | ow2 l m ks ds kk ks2 ds2 =>
    obtain ⟨e1, m1, m2, ne, xs, ys, q1, y1, z1, q2, y2, z2⟩ := h2
    exact ⟨e1, List.mem_cons_of_mem _ m1, List.mem_cons_of_mem _ m2, ne, xs, ys, by rw [upd_ne (ne_of_none q1 h)]; exact q1, y1, (z1.up u).rl u.b (r _), by rw [upd_ne (ne_of_none q2 h)]; exact q2, y2, (z2.up u).rl u.b (r _)⟩
theorem At.unadd {k : KW} {c : Fm} {H : Hp} {D : Addr} {d : G81.D} {v : V} (h : At k (c.add D) H d v) : At k c H d v := At.fm (c := c.add D) (c' := c) (fun a m => m) (fun a _ m => List.mem_cons_of_mem _ m) h
theorem Ats.unadd {k : KW} {c : Fm} {H : Hp} {D : Addr} {ds : List G81.D} {xs : List V} (h : Ats k (c.add D) H ds xs) : Ats k c H ds xs := Ats.fm (c := c.add D) (c' := c) (fun a m => m) (fun a _ m => List.mem_cons_of_mem _ m) h
/-- no slot holds a new address -/
theorem Ev.fresh {k : KW} {c : Fm} {H : Hp} {σ : L2.St} {δ : List Cell} {D : Addr} (e : Ev k c H σ δ) (h : H D = .none) : ∀ (i : Nat) (x : Cell), δ[i]? = some x → D ∉ x.adr := by
  intro i x hx ea
  obtain ⟨y, h1, h2⟩ := e.at_ i x hx
  have no : ∀ {l : Addr} {o : HO}, D = l → H l = some o → False := fun {l o} e q => by
    rw [← e, h] at q
    cases q
  cases x with
  | no => cases ea
  | d x => cases ea
  | own l ds => obtain ⟨e1, m, xs, q, z⟩ := h2; exact no (List.mem_singleton.mp ea) q
  | owk l ks ds => obtain ⟨e1, m, xs, q, y, z⟩ := h2; exact no (List.mem_singleton.mp ea) q
  | slf a dx C ds =>
    obtain ⟨e1, m, m2, xs, q, ⟨o, q2⟩, z⟩ := h2
    rcases List.mem_cons.mp ea with e | e
    · rcases q with ⟨q, _⟩ | ⟨q, _⟩ <;> exact no e q
    · exact no (List.mem_singleton.mp e) q2
  | ow2 l m ks ds kk ks2 ds2 =>
    obtain ⟨e1, m1, m2, ne, xs, ys, q1, y1, z1, q2, y2, z2⟩ := h2
    rcases List.mem_cons.mp ea with e | e
    · exact no e q1
    · exact no (List.mem_singleton.mp e) q2

/-- by cases that are known ahead -/
theorem pe_ex {X : Cx} {e : Expr} {ι : Type} {C : ι → Prop} {t : ι → TE} (h : ∀ i, C i → PE X e (t i)) : PE X e (fun σ H Q => ∃ i, C i ∧ t i σ H Q) := ⟨fun pins s σ H Q I ⟨i, c, z⟩ => (h i c).run pins s σ H Q I z⟩
theorem pts_ex {X : Cx} {es : List Expr} {ι : Type} {C : ι → Prop} {t : ι → TT} (h : ∀ i, C i → PTs X es (t i)) : PTs X es (fun σ H Q => ∃ i, C i ∧ t i σ H Q) := ⟨fun pins s σ H Q I ⟨i, c, z⟩ => (h i c).run pins s σ H Q I z⟩
theorem pi_ex {X : Cx} {tg e : Expr} {ι : Type} {C : ι → Prop} {t : ι → TI} (h : ∀ i, C i → PI X tg e (t i)) : PI X tg e (fun σ H Q => ∃ i, C i ∧ t i σ H Q) := ⟨fun pins s σ H Q I ⟨i, c, z⟩ => (h i c).run pins s σ H Q I z⟩
/-- tests by data -/
def tT (k : KW) (c : Fm) (δ : List Cell) (P : Bool → Prop) : TT := fun σ H Q => Ev k c H σ δ ∧ ∀ b H', P b → Rl c.E [] H H' → Q b H'
def PTX (X : Cx) (c : Fm) (δ : List Cell) (e : Expr) (P : Bool → Prop) : Prop := PT X e (tT (kw X) c δ P)
def PTXs (X : Cx) (c : Fm) (δ : List Cell) (es : List Expr) (P : Bool → Prop) : Prop := PTs X es (tT (kw X) c δ P)
theorem ptxs_nil {X : Cx} {c : Fm} {δ : List Cell} : PTXs X c δ [] (· = true) := ⟨fun pins s σ H Q I ⟨z, w⟩ => pts_nil.run pins s σ H Q I (w true H rfl .refl)⟩
theorem ptxs_one {X : Cx} {c : Fm} {δ : List Cell} {e : Expr} {P : Bool → Prop} (h : PTX X c δ e P) : PTXs X c δ [e] P := pts_one h

/-! ### comprehensions -/
/-- an expression whose value is a new list -/
def tN (k : KW) (c : Fm) (δ : List Cell) (P : List D → Prop) : TE := fun σ H Q => Ev k c H σ δ ∧ ∀ a H' xs ds, P ds → Rl c.E [] H H' → H a = none → H' a = some (.lst xs) → Ats k (c.add a) H' ds xs → a ∉ c.M → Q (.ref a) H'

/-- what of the items is kept and made: B the test's outcome, Pe the made value -/
def LcR {α : Type} (B : α → Bool → Prop) (Pe : α → D → Prop) : List α → List D → Prop
  | [], r => r = []
  | x :: l, r => (B x false ∧ LcR B Pe l r) ∨ (B x true ∧ ∃ y r', r = y :: r' ∧ Pe x y ∧ LcR B Pe l r')
theorem LcR.snoc {α : Type} {B : α → Bool → Prop} {Pe : α → D → Prop} {x : α} {s : List D} : ∀ {l : List α} {r : List D}, LcR B Pe l r → LcR B Pe [x] s → LcR B Pe (l ++ [x]) (r ++ s)
  | [], _, h, q => by rw [show _ = [] from h]; exact q
  | z :: l, r, h, q => by
    rcases h with ⟨b, h⟩ | ⟨b, y, r', rfl, p, h⟩
    · exact .inl ⟨b, LcR.snoc h q⟩
    · exact .inr ⟨b, y, r' ++ s, rfl, p, LcR.snoc h q⟩
theorem LcR.le {α : Type} {B : α → Bool → Prop} {Pe : α → D → Prop} : ∀ {l : List α} {r : List D}, LcR B Pe l r → r.length ≤ l.length
  | [], _, h => by rw [show _ = [] from h]; exact Nat.le_refl _
  | z :: l, r, h => by
    rcases h with ⟨b, h⟩ | ⟨b, y, r', rfl, p, h⟩
    · exact Nat.le_succ_of_le (LcR.le h)
    · exact Nat.succ_le_succ (LcR.le h)
theorem LcR.map {α : Type} {p : α → Bool} {f : α → D} : ∀ {l : List α} {r : List D}, LcR (fun x b => b = p x) (fun x y => y = f x) l r → r = (l.filter p).map f
  | [], _, h => h
  | z :: l, r, h => by
    rcases h with ⟨b, h⟩ | ⟨b, y, r', rfl, rfl, h⟩
    · rw [List.filter_cons_of_neg (by rw [← b]; exact Bool.false_ne_true)]; exact LcR.map h
    · rw [List.filter_cons_of_pos b.symm, List.map_cons, LcR.map h]
theorem LcR.map1 {α : Type} {f : α → D} : ∀ {l : List α} {r : List D}, LcR (fun _ b => b = true) (fun x y => y = f x) l r → r = l.map f
  | [], _, h => h
  | z :: l, r, h => by
    rcases h with ⟨b, h⟩ | ⟨b, y, r', rfl, rfl, h⟩
    · cases b
    · rw [List.map_cons, LcR.map1 h]

section
variable {X : Cx} {c : Fm} {δ : List Cell} {elt tg iter : Expr} {ifs : List Expr} {scope : Scope} {own : List (Str × Nat)} {pos : Pos} {t : Tg}
/-- the reading of a comprehension over the items, each by its own -/
def teX {α : Type} (k : KW) (c : Fm) (ok : α → Prop) (δ' : α → List Cell) (Pe : α → D → Prop) : TE := fun σ H Q => ∃ i : α × Addr, ok i.1 ∧ tX k (c.add i.2) (δ' i.1) (Pe i.1) σ H Q
def ttX {α : Type} (k : KW) (c : Fm) (ok : α → Prop) (δ' : α → List Cell) (B : α → Bool → Prop) : TT := fun σ H Q => ∃ i : α × Addr, ok i.1 ∧ tT k (c.add i.2) (δ' i.1) (B i.1) σ H Q
theorem lc_of {α : Type} {k : KW} {emb : α → D} {Px : List α → Prop} {ok : α → Prop} {δ' : α → List Cell} {B : α → Bool → Prop} {Pe : α → D → Prop} {P : List D → Prop} {vs : List Nat}
    (hok : ∀ xs, Px xs → ∀ x ∈ xs, ok x) (hp : ∀ x, ok x → t.put (emb x) (wipeD δ vs) = some (δ' x)) (hv : ∀ i ∈ t.ix, i ∈ vs) (hP : ∀ xs r, Px xs → LcR B Pe xs r → P r) :
    ∀ σ H Q, tN k c δ P σ H Q → tLc (tI k c δ fun ds => ∃ xs, Px xs ∧ ds = xs.map emb) (t.g k.K) (ttX k c ok δ' B) (teX k c ok δ' Pe) vs σ H Q := by
  intro σ H Q ⟨ev, w⟩
  refine ⟨ev, fun J H1 ds ⟨xs, hx, hds⟩ r1 ⟨n, G, Y, W, hn, wk⟩ hz D hD => ?_⟩
  subst hds
  have ev1 := ev.rl r1
  have up := Up.add ev1.bs hD
  obtain ⟨wg, wy⟩ := wk (c.add D) up
  have nE : D ∉ c.E := up.b.oe D List.mem_cons_self
  have toH1 : ∀ {H'}, Rl c.E [D] (upd H1 D (.lst [])) H' → Rl c.E [] H1 H' := fun {H'} r b o e => by
    have hb : b ≠ D := ne_of_none e hD
    rcases r b o (by rw [upd_ne hb]; exact e) with z | z | ⟨z, _⟩
    · exact .inl z
    · exact .inr (.inl z)
    · exact absurd (List.mem_singleton.mp z) hb
  have ev2 : Ev k (c.add D) (upd H1 D (.lst [])) σ δ := ev1.add hD
  have hlen : xs.length ≤ sizeLine := by rw [← List.length_map (f := emb)]; exact hz
  have hn : n = xs.length := by rw [hn, List.length_map]
  refine lc_it W (fun i H' => Rl c.E [D] (upd H1 D (.lst [])) H' ∧ ∃ acc r, H' D = some (.lst acc) ∧ Ats k (c.add D) H' r acc ∧ LcR B Pe (xs.take i) r) ⟨.refl, [], [], upd_same, rfl, rfl⟩ (fun i H' hi ⟨r, _⟩ => wg H' ((toH1 r).wide)) (fun i x H' H2 hi ⟨r, acc, rs, hA, hat, hl⟩ hy => ?_) (fun H' ⟨r, acc, rs, hA, hat, hl⟩ => ?_)
  · obtain ⟨d, hd, kp, ha⟩ := wy i H' x H2 hi ((toH1 r).wide) hy
    have hi' : i < xs.length := by rw [← hn]; exact hi
    have ex : xs[i]? = some xs[i] := List.getElem?_eq_getElem hi'
    rw [List.getElem?_map, ex] at hd
    obtain rfl : emb xs[i] = d := Option.some.inj hd
    have hin : ok xs[i] := hok xs hx _ (List.getElem_mem hi')
    have r2 : Rl c.E [D] (upd H1 D (.lst [])) H2 := r.trans (fun a m => by rw [List.mem_singleton.mp m]; exact nE) (.of_same kp)
    have ev3 : Ev k (c.add D) H2 σ δ := ev2.rlO (O := [D]) (fun a m => by rw [List.mem_singleton.mp m]; exact List.mem_cons_self) (fun j y hj a m => by rw [List.mem_singleton.mp m]; exact ev1.fresh hD j y hj) r2
    have tk : xs.take (i + 1) = xs.take i ++ [xs[i]] := by rw [List.take_succ, ex]; rfl
    refine put_go (vs := vs) (ev3.wipe vs) ha (hp _ hin) fun σ3 ev4 hw => ⟨by rw [hw hv]; exact wipe_idem σ vs, ⟨(xs[i], D), hin, ev4, fun b H3 hb r3 => ?_⟩⟩
    have hA2 : H2 D = some (.lst acc) := kp D _ hA
    have hat2 : Ats k (c.add D) H2 rs acc := hat.rl ((ev2.rlO (O := [D]) (fun a m => by rw [List.mem_singleton.mp m]; exact List.mem_cons_self) (fun j y hj a m => by rw [List.mem_singleton.mp m]; exact ev1.fresh hD j y hj) r).bs.toBw) (.of_same kp)
    have keepD : ∀ {Ha Hb : Hp} {o : HO}, Rl c.E [] Ha Hb → Ha D = some o → Hb D = some o := fun {Ha Hb o} r e => by
      rcases r D o e with z | ⟨z, _⟩ | ⟨z, _⟩
      · exact z
      · exact absurd z nE
      · cases z
    have r23 : Rl c.E [D] (upd H1 D (.lst [])) H3 := r2.trans (fun a m => by rw [List.mem_singleton.mp m]; exact nE) r3.wide
    cases b with
    | false =>
      dsimp only
      rw [if_neg Bool.false_ne_true]
      exact ⟨r23, acc, rs, keepD r3 hA2, hat2.rl ev3.bs.toBw (Rl.wide (O := (c.add D).O) r3), by rw [tk]; simpa using hl.snoc (s := []) (.inl ⟨hb, rfl⟩)⟩
    | true =>
      dsimp only
      rw [if_pos rfl]
      refine ⟨(xs[i], D), hin, ev4.rl r3, fun y H4 dy hy2 r4 ay => ⟨acc, keepD r4 (keepD r3 hA2), ?_, ?_⟩⟩
      · have := hl.le
        rw [List.length_take] at this
        rw [hat.length]
        omega
      · have r4' : Rl c.E [D] (upd H1 D (.lst [])) H4 := r23.trans (fun a m => by rw [List.mem_singleton.mp m]; exact nE) r4.wide
        have hD4 := keepD r4 (keepD r3 hA2)
        have up5 : Rl (c.add D).E [D] H4 (upd H4 D (.lst (acc ++ [y]))) := fun b o e => by
          by_cases hb : b = D
          · subst hb
            rw [hD4] at e
            cases e
            exact .inr (.inr ⟨List.mem_singleton.mpr rfl, ownK_lst, _, upd_same⟩)
          · exact .inl (by rw [upd_ne hb]; exact e)
        have up5' : Rl (c.add D).E (c.add D).O H4 (upd H4 D (.lst (acc ++ [y]))) := fun b o e => by
          rcases up5 b o e with z | z | ⟨z, q⟩
          · exact .inl z
          · exact .inr (.inl z)
          · exact .inr (.inr ⟨by rw [List.mem_singleton.mp z]; exact List.mem_cons_self, q⟩)
        have ev5 := (ev4.rl r3).rl r4
        have hat4 : Ats k (c.add D) H4 rs acc := (hat2.rl ev3.bs.toBw (Rl.wide (O := (c.add D).O) r3)).rl (ev4.rl r3).bs.toBw (Rl.wide (O := (c.add D).O) r4)
        refine ⟨r4'.trans (fun a m => by rw [List.mem_singleton.mp m]; exact nE) up5, acc ++ [y], rs ++ [dy], upd_same, (hat4.append (Ats.one ay)).rl ev5.bs.toBw up5', ?_⟩
        rw [tk]
        exact hl.snoc (.inr ⟨hb, dy, [], rfl, hy2, rfl⟩)
  · rw [hn, List.take_length] at hl
    exact w D H' acc rs (hP xs rs hx hl) (r1.trans0 (toH1 r)) (r1.none hD) hA hat (ev1.bs.free hD)
where wipe_idem (σ : L2.St) : ∀ vs : List Nat, wipe (wipe σ vs) vs = wipe σ vs := fun vs => by
        have key : ∀ us ws : List Nat, (∀ i ∈ us, i ∈ ws) → ∀ σ : L2.St, wipe (wipe σ us) ws = wipe σ ws := by
          intro us
          induction us with
          | nil => intro ws _ σ; rfl
          | cons u us ih =>
            intro ws h σ
            show wipe ((wipe σ us).set u Option.none) ws = wipe σ ws
            rw [wipe_set (h u List.mem_cons_self)]
            exact ih ws (fun i m => h i (List.mem_cons_of_mem _ m)) σ
        exact key vs vs (fun _ m => m) σ
end
end G81
set_option maxRecDepth 100000
set_option maxHeartbeats 2000000
/-! new lists, blocks by data, what a def promises -/
namespace G81
open PySem PySem.Spec PyProof.Rows L2 SlX

def PN (X : Cx) (c : Fm) (δ : List Cell) (e : Expr) (P : List D → Prop) : Prop := PE X e (tN (kw X) c δ P)
theorem px_n {X : Cx} {c : Fm} {δ : List Cell} {e : Expr} {P : List D → Prop} {P' : D → Prop} (h : PN X c δ e P) (q : ∀ l, P l → P' (.lst l)) : PX X c δ e P' :=
  PE.mono h fun σ H Q ⟨z, w⟩ => ⟨z, fun a H' xs ds p r h1 h2 h3 h4 => w _ H' _ (q ds p) r ⟨a, xs, rfl, h4, h2, h3.unadd⟩⟩
theorem PN.mono {X : Cx} {c : Fm} {δ : List Cell} {e : Expr} {P P' : List D → Prop} (h : PN X c δ e P) (q : ∀ l, P l → P' l) : PN X c δ e P' :=
  PE.mono h fun σ H Q ⟨z, w⟩ => ⟨z, fun a H' xs ds p => w a H' xs ds (q ds p)⟩
section
variable {X : Cx} {c : Fm} {δ : List Cell} {e : Expr} {es : List Expr} {pos : Pos} {P : List D → Prop}
theorem pn_lst (h : PXs X c δ es P) (hz : ∀ l, P l → l.length ≤ sizeLine) : PN X c δ (.List es pos) P := by
  refine PE.mono (pe_lst h) fun σ H Q ⟨z, w⟩ => ⟨z, fun vs H1 ds p r a => ⟨by rw [a.length]; exact hz ds p, fun q hq => ?_⟩⟩
  have ev := z.rl r
  have r2 : Rl c.E [] H1 (upd H1 q (.lst vs)) := Rl.new hq
  exact w q _ vs ds p (r.trans0 r2) (r.none hq) upd_same ((a.up (Up.add ev.bs hq)).rl (Up.add ev.bs hq).b (Rl.new hq)) (ev.bs.free hq)
theorem px_tup {k : Nat} {P' : D → Prop} (h : PXs X c δ es P) (hz : ∀ l, P l → l.length ≤ sizeLine) (q : ∀ l, P l → P' (.tup l)) : PX X c δ (.Tuple es k pos) P' := by
  refine PE.mono (pe_tup h) fun σ H Q ⟨z, w⟩ => ⟨z, fun vs H1 ds p r a => ⟨by rw [a.length]; exact hz ds p, fun t hq => ?_⟩⟩
  have ev := z.rl r
  have r2 : Rl c.E [] H1 (upd H1 t (.tup vs)) := Rl.new hq
  exact w (.ref t) _ (.tup ds) (q ds p) (r.trans0 r2) ⟨t, vs, rfl, SqT.of upd_same, a.rl ev.bs.toBw r2.wide⟩
theorem small_line {n : Nat} (h : n ≤ 1000 := by decide) : n ≤ sizeLine := Nat.le_trans h (by decide)
theorem pv_tup {k : Nat} {l : List D} (h : PXs X c δ es (· = l)) (hz : l.length ≤ 1000 := by exact Nat.le_of_ble_eq_true rfl) : PV X c δ (.Tuple es k pos) (.tup l) := px_tup h (fun _ e => by rw [e]; exact Nat.le_trans hz (by decide)) fun _ e => by rw [e]; rfl
theorem pvn_lst {l : List D} (h : PXs X c δ es (· = l)) (hz : l.length ≤ 1000 := by exact Nat.le_of_ble_eq_true rfl) : PN X c δ (.List es pos) (· = l) := pn_lst h fun _ e => by rw [e]; exact Nat.le_trans hz (by decide)
theorem pv_n {l : List D} (h : PN X c δ e (· = l)) : PV X c δ e (.lst l) := px_n h fun _ e => by rw [e]; rfl
end

/-! ### blocks -/
structure Wi where
  c : Fm
  N : List Cell → Prop
  R : D → Prop
  B : List Cell → Prop
  rc : Fm
def tB (k : KW) (c : Fm) (δ : List Cell) (w : Wi) : TS := fun D σ H => Ev k c H σ δ ∧ (∀ σ' H' δ', w.N δ' → Rl c.E c.O H H' → Ev k w.c H' σ' δ' → D.nx σ' H') ∧
  (∀ v H' d, w.R d → Rl c.E c.O H H' → At k w.rc H' d v → D.rt v H') ∧ (∀ σ' H' δ', w.B δ' → Rl c.E c.O H H' → Ev k w.c H' σ' δ' → D.bk σ' H')
def PB (X : Cx) (c : Fm) (δ : List Cell) (sts : List Stmt) (w : Wi) : Prop := PSs X sts (tB (kw X) c δ w)
/-- one's frame is that of the value handed back, with one's own more -/
structure Sub (c rc : Fm) : Prop where
  e : c.E = rc.E
  m : ∀ a ∈ rc.M, a ∈ c.M
theorem Sub.refl {c : Fm} : Sub c c := ⟨rfl, fun _ h => h⟩
theorem Sub.add {c rc : Fm} {D : Addr} (s : Sub c rc) : Sub (c.add D) rc := ⟨s.e, fun a h => List.mem_cons_of_mem _ (s.m a h)⟩
theorem At.back {k : KW} {c rc : Fm} {H : Hp} {d : D} {v : V} (s : Sub c rc) (h : At k c H d v) : At k rc H d v := h.fm (fun a m => by rw [← s.e]; exact m) fun a _ m => s.m a m

section
variable {X : Cx} {c : Fm} {δ : List Cell} {st : Stmt} {rest : List Stmt} {e : Expr} {es : List Expr} {pos : Pos} {P : D → Prop} {w : Wi}
theorem Ev.oe {k : KW} {c : Fm} {H : Hp} {σ : L2.St} {δ : List Cell} (e : Ev k c H σ δ) : ∀ b ∈ c.O, b ∉ c.E := e.bs.oe
theorem pb_nil (h : w.N δ) : PB X w.c δ [] w := PSs.mono pss_nil fun D σ H ⟨z, n, _⟩ => n σ H δ h .refl z
theorem pb_ret (s : Sub c w.rc) (he : PX X c δ e P) (h : ∀ d, P d → w.R d) : PB X c δ (.Return (some e) pos :: rest) w := by
  refine PSs.mono (pss_cons (ps_ret he) pss_never) fun D σ H ⟨z, _, rt, _⟩ => ⟨z, fun v H' d p r a => rt v H' d (h d p) r.wide (a.back s)⟩
theorem pb_retN (s : Sub c w.rc) (h : w.R .non) : PB X c δ (.Return none pos :: rest) w := by
  refine PSs.mono (pss_cons ps_retN pss_never) fun D σ H ⟨z, _, rt, _⟩ => rt .non H .non h .refl rfl
theorem pb_break (hc : w.c = c) (h : w.B δ) : PB X c δ (.Break pos :: rest) w := by
  refine PSs.mono (pss_cons ps_break pss_never) fun D σ H ⟨z, _, _, bk⟩ => bk σ H δ h .refl (by rw [hc]; exact z)
theorem pb_never {sts : List Stmt} (h : False) : PB X c δ sts w := h.elim
/-- name = value, by a rule of the name -/
theorem pb_raw {te : TE} (i : Nat) (hs : PS X st (tAsg te (gName i))) (h : ∀ σ H Q, tX (kw X) c δ P σ H Q → te σ H Q) (q : ∀ d, P d → PB X c (δ.set i (.d d)) rest w) : PB X c δ (st :: rest) w := by
  have key : PSs X rest (fun D σ H => ∃ d, P d ∧ tB (kw X) c (δ.set i (.d d)) w D σ H) := ⟨fun pins s σ H D I ⟨d, p, z⟩ => (q d p).run pins s σ H D I z⟩
  refine PSs.mono (pss_cons hs key) fun D σ H ⟨z, n, rt, bk⟩ => h σ H _ ⟨z, fun v H' d p r a => ⟨d, p, (z.rl r).set i ⟨v, rfl, a⟩, fun σ' H2 δ' hn r2 e2 => n σ' H2 δ' hn (Rl.trans z.oe r.wide r2) e2, fun v H2 d' hr r2 a2 => rt v H2 d' hr (Rl.trans z.oe r.wide r2) a2, fun σ' H2 δ' hn r2 e2 => bk σ' H2 δ' hn (Rl.trans z.oe r.wide r2) e2⟩⟩
theorem pb_set (i : Nat) {x : Str} {pos' : Pos} (hN : X.N.Nodup) (hi : X.N[i]? = some x) (hx : Loc X.env.scope x) (he : PX X c δ e P) (q : ∀ d, P d → PB X c (δ.set i (.d d)) rest w)
    (hs : swapsWith e (some (.Name x pos')) pos.line X.env = pure false := by rfl) (hf : X.fn x = true ∨ X.env.scope.names.lookup x = some .local := by first | exact .inl rfl | exact .inr rfl | assumption) : PB X c δ (.Assign [.Name x pos'] e pos :: rest) w :=
  pb_raw i (ps_set hN hi hx he hs hf) (fun _ _ _ h => h) q
theorem pv_set (i : Nat) {d : D} {x : Str} {pos' : Pos} (hN : X.N.Nodup) (hi : X.N[i]? = some x) (hx : Loc X.env.scope x) (he : PV X c δ e d) (q : PB X c (δ.set i (.d d)) rest w)
    (hs : swapsWith e (some (.Name x pos')) pos.line X.env = pure false := by rfl) (hf : X.fn x = true ∨ X.env.scope.names.lookup x = some .local := by first | exact .inl rfl | exact .inr rfl | assumption) : PB X c δ (.Assign [.Name x pos'] e pos :: rest) w :=
  pb_set i hN hi hx he (fun _ h => by rw [show _ = d from h]; exact q) hs hf
/-- an expression whose value is dropped -/
theorem pb_expr (he : PX X c δ e P) (q : PB X c δ rest w) (hs : swapsWith e none pos.line X.env = pure false := by rfl) : PB X c δ (.Expr e pos :: rest) w := by
  refine PSs.mono (pss_cons (ps_expr he hs) q) fun D σ H ⟨z, n, rt, bk⟩ => ⟨z, fun v H' d p r a => ⟨z.rl r, fun σ' H2 δ' hn r2 e2 => n σ' H2 δ' hn (Rl.trans z.oe r.wide r2) e2, fun v H2 d' hr r2 a2 => rt v H2 d' hr (Rl.trans z.oe r.wide r2) a2, fun σ' H2 δ' hn r2 e2 => bk σ' H2 δ' hn (Rl.trans z.oe r.wide r2) e2⟩⟩
/-- if: B the test's outcome, M what either branch leaves -/
theorem pb_if {a b : List Stmt} {B : Bool → Prop} {M : List Cell → Prop} (hc : PTX X c δ e B) (ha : B true → PB X c δ a { w with c := c, N := M }) (hb : B false → PB X c δ b { w with c := c, N := M })
    (hB : w.c = c ∨ ∀ δ, ¬ w.B δ) (hr : ∀ δ', M δ' → PB X c δ' rest w) : PB X c δ (.If e a b pos :: rest) w := by
  have key : PSs X rest (fun D σ H => ∃ d, M d ∧ tB (kw X) c d w D σ H) := ⟨fun pins s σ H D I ⟨d, p, z⟩ => (hr d p).run pins s σ H D I z⟩
  have ha' : PSs X a (fun D σ H => B true ∧ tB (kw X) c δ { w with c := c, N := M } D σ H) := ⟨fun pins s σ H D I ⟨p, z⟩ => (ha p).run pins s σ H D I z⟩
  have hb' : PSs X b (fun D σ H => B false ∧ tB (kw X) c δ { w with c := c, N := M } D σ H) := ⟨fun pins s σ H D I ⟨p, z⟩ => (hb p).run pins s σ H D I z⟩
  refine PSs.mono (pss_cons (ps_if hc ha' hb') key) fun D σ H ⟨z, n, rt, bk⟩ => ⟨z, fun d H' p r => ?_⟩
  have nx : ∀ σ' H2 δ', M δ' → Rl c.E c.O H' H2 → Ev (kw X) c H2 σ' δ' → ∃ d, M d ∧ tB (kw X) c d w D σ' H2 := fun σ' H2 δ' m r2 e2 => ⟨δ', m, e2, fun σ3 H3 δ3 hn r3 e3 => n σ3 H3 δ3 hn (Rl.trans z.oe (Rl.trans z.oe r.wide r2) r3) e3,
    fun v H3 d' hr r3 a3 => rt v H3 d' hr (Rl.trans z.oe (Rl.trans z.oe r.wide r2) r3) a3, fun σ3 H3 δ3 hn r3 e3 => bk σ3 H3 δ3 hn (Rl.trans z.oe (Rl.trans z.oe r.wide r2) r3) e3⟩
  have bk' : ∀ σ' H2 δ', w.B δ' → Rl c.E c.O H' H2 → Ev (kw X) c H2 σ' δ' → D.bk σ' H2 := fun σ' H2 δ' m r2 e2 => by
    rcases hB with hB | hB
    · exact bk σ' H2 δ' m (Rl.trans z.oe r.wide r2) (by rw [hB]; exact e2)
    · exact absurd m (hB _)
  have rt' : ∀ v H2 d', w.R d' → Rl c.E c.O H' H2 → At (kw X) w.rc H2 d' v → D.rt v H2 := fun v H2 d' hr r2 a2 => rt v H2 d' hr (Rl.trans z.oe r.wide r2) a2
  cases d with
  | true => dsimp only; rw [if_pos rfl]; exact ⟨p, z.rl r, nx, rt', bk'⟩
  | false => dsimp only; rw [if_neg Bool.false_ne_true]; exact ⟨p, z.rl r, nx, rt', bk'⟩
/-- if without else, whose branch leaves -/
theorem pb_ifRet {a : List Stmt} {B : Bool → Prop} (hc : PTX X c δ e B) (ha : B true → PB X c δ a { w with c := c, N := fun _ => False })
    (hr : B false → PB X c δ rest w) (hB : w.c = c ∨ ∀ δ, ¬ w.B δ := by exact .inr fun _ h => h) : PB X c δ (.If e a [] pos :: rest) w := by
  by_cases hf : B false
  · exact pb_if (M := fun d => d = δ) hc (fun p => PSs.mono (ha p) fun D σ H ⟨z, n, rt, bk⟩ => ⟨z, fun _ _ _ h => False.elim h, rt, bk⟩) (fun _ => pb_nil (w := { w with c := c, N := fun d => d = δ }) rfl) hB fun _ h => by rw [h]; exact hr hf
  · exact pb_if (M := fun _ => False) hc ha (fun p => absurd p hf) hB fun _ h => False.elim h

/-! for -/
/-- a turn's reading -/
def tTurn {α : Type} (X : Cx) (c : Fm) (w : Wi) (rest : List Stmt) (Iv : Nat → List Cell → Prop) (xs : List α) (emb : α → D) (t : Tg) : TS := fun D σ H => ∃ (i : Nat) (x : α) (δ' δ2 : List Cell), xs[i]? = some x ∧ Iv i δ' ∧ t.put (emb x) δ' = some δ2 ∧
  tB (kw X) c δ2 { c := c, N := Iv (i + 1), R := w.R, B := fun δ3 => PB X c δ3 rest w, rc := w.rc } D σ H
theorem pb_for {α : Type} {tg iter : Expr} {body : List Stmt} {t : Tg} {emb : α → D} {xs : List α} (Iv : Nat → List Cell → Prop) (hp : PassesOwn (model X.prog X.w) X.A X.env X.xe) (hc : X.calm = true)
    (hi : PIX X c δ tg iter (· = xs.map emb)) (hg : PGX X tg t) (h0 : Iv 0 δ)
    (hb : ∀ (i : Nat) (x : α) (δ' : List Cell), xs[i]? = some x → Iv i δ' → ∃ δ2, t.put (emb x) δ' = some δ2 ∧ PB X c δ2 body { c := c, N := Iv (i + 1), R := w.R, B := fun δ3 => PB X c δ3 rest w, rc := w.rc })
    (hr : ∀ δ', Iv xs.length δ' → PB X c δ' rest w) (hs : ∀ x, foldedSetIterable iter X.env x = pure x := by intro _; rfl) : PB X c δ (.For tg iter body [] pos :: rest) w := by
  have bd : PSs X body (tTurn X c w rest Iv xs emb t) := by
    refine ⟨fun pins s σ H D I ⟨i, x, δ', δ2, h1, h2, h3, z⟩ => ?_⟩
    obtain ⟨δ3, h4, h5⟩ := hb i x δ' h1 h2
    rw [h3] at h4
    cases h4
    exact h5.run pins s σ H D I z
  have key : PSs X rest (fun D σ H => ∃ δ', PB X c δ' rest w ∧ tB (kw X) c δ' w D σ H) := ⟨fun pins s σ H D I ⟨d, p, z⟩ => p.run pins s σ H D I z⟩
  refine PSs.mono (pss_cons (ps_for hp hc hi hg bd hs) key) fun D σ H ⟨z, n, rt, bk⟩ => ⟨z, fun J H1 ds hd r1 ⟨m, G, Y, W, hn, wk⟩ hz => ?_⟩
  subst hd
  have z1 := z.rl r1
  have up : Up c c H1 := ⟨rfl, fun _ _ h => h, z1.bs.toBw⟩
  obtain ⟨wg, wy⟩ := wk c up
  rw [List.length_map] at hn
  subst hn
  have rst : ∀ {σ' H' δ'}, Rl c.E c.O H1 H' → Ev (kw X) c H' σ' δ' → PB X c δ' rest w → ∃ δ', PB X c δ' rest w ∧ tB (kw X) c δ' w D σ' H' := fun {σ' H' δ'} r e2 pb => ⟨δ', pb, e2, fun σ3 H3 δ3 hn r3 e3 => n σ3 H3 δ3 hn (Rl.trans z.oe (Rl.trans z.oe r1.wide r) r3) e3,
    fun v H3 d' hr r3 a3 => rt v H3 d' hr (Rl.trans z.oe (Rl.trans z.oe r1.wide r) r3) a3, fun σ3 H3 δ3 hn r3 e3 => bk σ3 H3 δ3 hn (Rl.trans z.oe (Rl.trans z.oe r1.wide r) r3) e3⟩
  refine for_it (g := t.g X.K) (tb := tTurn X c w rest Iv xs emb t) (D := { D with nx := fun σ3 H3 => ∃ δ3, PB X c δ3 rest w ∧ tB (kw X) c δ3 w D σ3 H3 }) W (fun i σ' H' => Rl c.E c.O H1 H' ∧ ∃ δ', Ev (kw X) c H' σ' δ' ∧ Iv i δ') ⟨.refl, δ, z1, h0⟩ (fun i σ' H' hi ⟨r, _⟩ => wg H' r) (fun i v σ' H' H2 hi ⟨r, δ', e', iv⟩ hy => ?_) (fun σ' H' ⟨r, δ', e', iv⟩ => rst r e' (hr δ' iv))
  obtain ⟨d, hd, kp, ha⟩ := wy i H' v H2 hi r hy
  have ex : xs[i]? = some xs[i] := List.getElem?_eq_getElem hi
  rw [List.getElem?_map, ex] at hd
  obtain rfl : emb xs[i] = d := Option.some.inj hd
  obtain ⟨δ2, h3, h5⟩ := hb i xs[i] δ' ex iv
  have rk : Rl c.E [] H' H2 := .of_same kp
  refine put_go (vs := []) (e'.rl rk) ha h3 fun σ2 e2 _ => ⟨i, xs[i], δ', δ2, ex, iv, h3, e2, fun σ3 H3 δ3 hn r3 e3 => ⟨Rl.trans z.oe (Rl.trans z.oe r rk.wide) r3, δ3, e3, hn⟩, fun v H3 d' hr r3 a3 => rt v H3 d' hr (Rl.trans z.oe r1.wide (Rl.trans z.oe (Rl.trans z.oe r rk.wide) r3)) a3, fun σ3 H3 δ3 hn r3 e3 => rst (Rl.trans z.oe (Rl.trans z.oe r rk.wide) r3) e3 hn⟩
/-! while: a measure falls -/
theorem pb_while {body : List Stmt} {B : Nat → List Cell → Bool → Prop} (Iv : Nat → List Cell → Prop) (hp : PassesOwn (model X.prog X.w) X.A X.env X.xe) (m0 : Nat) (h0 : Iv m0 δ)
    (hc : ∀ m δ', Iv m δ' → PTX X c δ' e (B m δ'))
    (hb : ∀ m δ', Iv m δ' → B m δ' true → PB X c δ' body { c := c, N := fun δ2 => ∃ m', m' < m ∧ Iv m' δ2, R := w.R, B := fun δ3 => PB X c δ3 rest w, rc := w.rc })
    (hr : ∀ m δ', Iv m δ' → B m δ' false → PB X c δ' rest w) : PB X c δ (.While e body [] pos :: rest) w := by
  have tc : PT X e (fun σ H Q => ∃ i : Nat × List Cell, Iv i.1 i.2 ∧ tT (kw X) c i.2 (B i.1 i.2) σ H Q) := ⟨fun pins s σ H Q I ⟨i, p, z⟩ => (hc i.1 i.2 p).run pins s σ H Q I z⟩
  have bd : PSs X body (fun D σ H => ∃ i : Nat × List Cell, Iv i.1 i.2 ∧ B i.1 i.2 true ∧ tB (kw X) c i.2 { c := c, N := fun δ2 => ∃ m', m' < i.1 ∧ Iv m' δ2, R := w.R, B := fun δ3 => PB X c δ3 rest w, rc := w.rc } D σ H) := ⟨fun pins s σ H D I ⟨i, p, q, z⟩ => (hb i.1 i.2 p q).run pins s σ H D I z⟩
  have key : PSs X rest (fun D σ H => ∃ δ', PB X c δ' rest w ∧ tB (kw X) c δ' w D σ H) := ⟨fun pins s σ H D I ⟨d, p, z⟩ => p.run pins s σ H D I z⟩
  refine PSs.mono (pss_cons (ps_while hp tc bd) key) fun D σ H ⟨z, n, rt, bk⟩ => ?_
  have rst : ∀ {σ' H' δ'}, Rl c.E c.O H H' → Ev (kw X) c H' σ' δ' → PB X c δ' rest w → ∃ δ', PB X c δ' rest w ∧ tB (kw X) c δ' w D σ' H' := fun {σ' H' δ'} r e2 pb => ⟨δ', pb, e2, fun σ3 H3 δ3 hn r3 e3 => n σ3 H3 δ3 hn (Rl.trans z.oe r r3) e3,
    fun v H3 d' hr r3 a3 => rt v H3 d' hr (Rl.trans z.oe r r3) a3, fun σ3 H3 δ3 hn r3 e3 => bk σ3 H3 δ3 hn (Rl.trans z.oe r r3) e3⟩
  refine ⟨fun m σ' H' => Rl c.E c.O H H' ∧ ∃ δ', Ev (kw X) c H' σ' δ' ∧ Iv m δ', ⟨m0, .refl, δ, z, h0⟩, fun m σ' H' ⟨r, δ', e', iv⟩ => ⟨(m, δ'), iv, e', fun b H2 hb2 r2 => ?_⟩⟩
  have r' := Rl.trans z.oe r r2.wide
  cases b with
  | false => dsimp only; rw [if_neg Bool.false_ne_true]; exact rst r' (e'.rl r2) (hr m δ' iv hb2)
  | true =>
    dsimp only
    rw [if_pos rfl]
    refine ⟨fun σ3 H3 => ∃ m', m' < m ∧ Rl c.E c.O H H3 ∧ ∃ δ', Ev (kw X) c H3 σ3 δ' ∧ Iv m' δ', fun σ3 H3 ⟨m', hm, q⟩ => ⟨m', hm, q⟩, (m, δ'), iv, hb2, e'.rl r2, fun σ3 H3 δ3 ⟨m', hm, iv'⟩ r3 e3 => ⟨m', hm, Rl.trans z.oe r' r3, δ3, e3, iv'⟩, fun v H3 d' hr r3 a3 => rt v H3 d' hr (Rl.trans z.oe r' r3) a3, fun σ3 H3 δ3 hn r3 e3 => rst (Rl.trans z.oe r' r3) e3 hn⟩
end
end G81
set_option maxRecDepth 100000
set_option maxHeartbeats 2000000
/-! what a def promises, by data; calls; comprehensions; one's own lists -/
namespace G81
open PySem PySem.Spec PyProof.Rows L2 SlX

/-- R ds P: of the arguments ds an answer of which P holds -/
abbrev RD := List D → (D → Prop) → Prop
def spD (k : KW) (R : RD) : Sp := fun vs H Q _ => ∃ c ds P, R ds P ∧ Bs c H ∧ Ats k c H ds vs ∧ Wn k c P H Q
def startD (N : List Str) (ds : List D) : List Cell := ds.map Cell.d ++ List.replicate (N.length - ds.length) Cell.no
theorem ev_start {k : KW} {c : Fm} {H : Hp} {N : List Str} : ∀ {ds : List D} {vs : List V}, Bs c H → Ats k c H ds vs → Ev k c H (L2.start N vs) (startD N ds) := by
  intro ds vs b a
  refine ⟨b, fun i x h => ?_⟩
  have hl := a.length
  unfold startD at h
  unfold L2.start
  by_cases hi : i < ds.length
  · rw [List.getElem?_append_left (by rw [List.length_map]; exact hi), List.getElem?_map, List.getElem?_eq_getElem hi] at h
    obtain rfl : Cell.d ds[i] = x := Option.some.inj h
    obtain ⟨v, e, q⟩ := a.get (List.getElem?_eq_getElem hi)
    refine ⟨some v, ?_, v, rfl, q⟩
    rw [List.getElem?_append_left (by rw [List.length_map]; omega), List.getElem?_map, e] <;> rfl
  · rw [List.getElem?_append_right (by rw [List.length_map]; omega), List.getElem?_replicate, List.length_map] at h
    split at h
    · rename_i hn
      cases h
      refine ⟨none, ?_, trivial⟩
      rw [List.getElem?_append_right (by rw [List.length_map]; omega), List.getElem?_replicate, List.length_map, hl, if_pos hn]
    · cases h
/-- within a def one owns nothing yet -/
def Fm.base (c : Fm) : Fm := ⟨c.E, c.M, []⟩
theorem Bs.base {c : Fm} {H : Hp} (b : Bs c H) : Bs c.base H := ⟨⟨b.em, b.dice, (by intro a h; cases h), (by intro a h; cases h)⟩, b.dom⟩
theorem Ats.cons {k : KW} {c : Fm} {H : Hp} {d : D} {l : List D} {v : V} {xs : List V} (h : At k c H d v) (q : Ats k c H l xs) : Ats k c H (d :: l) (v :: xs) := ⟨v, xs, rfl, h, q⟩
theorem At.base {k : KW} {c : Fm} {H : Hp} {d : D} {v : V} (h : At k c H d v) : At k c.base H d v := At.fm (c := c) (c' := c.base) (fun _ m => m) (fun _ _ m => m) h
theorem At.unbase {k : KW} {c : Fm} {H : Hp} {d : D} {v : V} (h : At k c.base H d v) : At k c H d v := At.fm (c := c.base) (c' := c) (fun _ m => m) (fun _ _ m => m) h
theorem Ats.base {k : KW} {c : Fm} {H : Hp} {d : List D} {v : List V} (h : Ats k c H d v) : Ats k c.base H d v := Ats.fm (c := c) (c' := c.base) (fun _ m => m) (fun _ _ m => m) h
theorem Ats.unbase {k : KW} {c : Fm} {H : Hp} {d : List D} {v : List V} (h : Ats k c.base H d v) : Ats k c H d v := Ats.fm (c := c.base) (c' := c) (fun _ m => m) (fun _ _ m => m) h
/-- the wish of a def's body -/
def wD (c : Fm) (P : D → Prop) : Wi := ⟨c, fun _ => P .non, P, fun _ => False, c⟩

section
variable {P : Program} {w : World} {K : PySem.W.Frag} {mg : Str → Option Value} {base : Heap}
/-- the body of a def, by data -/
def BodyD (P : Program) (w : World) (K : PySem.W.Frag) (mg : Str → Option Value) (base : Heap) (N : List Str) (k : Nat) (x : Str) (st : Stmt) (f : Addr) (R : RD) : Prop :=
  ∀ (cdv : Value) (A : Around) (outer : List Env) (s : Shared) (H : Hp) (E : XK), Room k (A.deeper (envOfC x (defScope st) s.heap.objs.size f cdv)) → ∀ (c : Fm) (ds : List D) (Pd : D → Prop), R ds Pd →
    PB (cxOf CX0 P w K mg base N x (defScope st) f cdv A outer s H E).nox c (startD N ds) (defBody st) (wD c Pd)
theorem body_run {k : Nat} {x : Str} {st : Stmt} {f : Addr} {N : List Str} {R : RD} (hb : BodyD P w K mg base N k x st f R) :
    ∀ (cdv : Value) (A : Around) (outer : List Env) (s : Shared) (H : Hp) (vs : List V) (Q : VK) (E : XK), Room k (A.deeper (envOfC x (defScope st) s.heap.objs.size f cdv)) → spD ⟨K, w⟩ R vs H Q E →
      ∃ t, PSs (cxOf CX0 P w K mg base N x (defScope st) f cdv A outer s H E).nox (defBody st) t ∧ t { nx := fun _ H' => Q .non H', rt := Q } (L2.start N vs) H := by
  intro cdv A outer s H vs Q E hr ⟨c, ds, Pd, hR, b, a, q⟩
  refine ⟨_, hb cdv A outer s H E hr c.base ds Pd hR, ev_start b.base a.base, fun σ' H' δ' n r _ => q .non H' .non n r rfl, fun v H' d p r a' => q v H' d p r a'.unbase, fun _ _ _ n => n.elim⟩
theorem fnD {x qual : Str} {st : Stmt} {f : Addr} {fd : FuncData} {N ps : List Str} {k : Nat} {R : RD} (F : Fun K x qual st f fd) (S : FnScope N ps (defScope st)) (len : ∀ ds P, R ds P → ds.length = ps.length)
    (hb : BodyD P w K mg base N k qual st f R) : FnOk P w K mg base CX0 (k + 1) f fd ps (spD ⟨K, w⟩ R) :=
  F.ok S (fun vs H Q E ⟨c, ds, Pd, hR, _, a, _⟩ => by rw [a.length]; exact len ds Pd hR) (body_run hb)
/-- by position -/
theorem metD {x qual : Str} {st : Stmt} {f : Addr} {fd : FuncData} {N ps : List Str} {k : Nat} {R : RD} (F : Fun K x qual st f fd) (b : Binds K fd ps []) (S : FnScope N ps (defScope st)) (len : ∀ ds P, R ds P → ds.length = ps.length)
    (hb : BodyD P w K mg base N k qual st f R) : FnR P w K mg base CX0 (k + 1) f (spD ⟨K, w⟩ R) := by
  have z := (fnD F S len hb).raw b .nil
  exact z.imp fun vs H Q E h => by rw [List.append_nil]; exact h
/-- a def of the module that may be called by its name -/
structure Cal (P : Program) (w : World) (K : PySem.W.Frag) (mg : Str → Option Value) (base : Heap) (k : Nat) (x : Str) (R : RD) : Prop where
  ex : ∃ f : Addr, FnR P w K mg base CX0 k f (spD ⟨K, w⟩ R) ∧ mg x = some (.ref f) ∧ PySem.W.keepIn K (.ref f) = true
/-- .. as it stands -/
structure Def (K : PySem.W.Frag) (mg : Str → Option Value) (x : Str) (st : Stmt) (ps : List Str) (f : Addr) : Prop where
  ex : ∃ fd, Fun K x x st f fd ∧ Binds K fd ps []
  mgf : mg x = some (.ref f)
theorem calD {x : Str} {st : Stmt} {f : Addr} {N ps : List Str} {k : Nat} {R : RD} (F : Def K mg x st ps f) (S : FnScope N ps (defScope st)) (len : ∀ ds P, R ds P → ds.length = ps.length)
    (hb : BodyD P w K mg base N k x st f R) : Cal P w K mg base (k + 1) x R := by
  obtain ⟨fd, F1, b⟩ := F.ex
  exact ⟨f, metD F1 b S len hb, F.mgf, F1.kp⟩
end

section
variable {X : Cx} {c : Fm} {δ : List Cell} {e o a b : Expr} {es : List Expr} {pos p apos : Pos} {P A : D → Prop} {As : List D → Prop} {R : RD} {j k : Nat} {x m f : Str} {C g pr : Addr}
theorem spd_go {vs : List V} {H H1 : Hp} {Q : VK} {E : XK} {σ : L2.St} {ds : List D} (z : Ev (kw X) c H σ δ) (r : Rl c.E [] H H1) (a : Ats (kw X) c H1 ds vs) (h : R ds P) (w : Wn (kw X) c P H Q) : spD (kw X) R vs H1 Q E :=
  ⟨c, ds, P, h, (z.rl r).bs, a, fun v H' d p r2 a2 => w v H' d p (r.trans0 r2) a2⟩
/-- f(e, ..) -/
theorem px_call (cl : Cal X.prog X.w X.K X.mg X.base k x R) (hr : Room j X.A) (hk : k ≤ j) (hg : Gl X x) (ha : PXs X c δ (e :: es) As) (h : ∀ ds, As ds → R ds P)
    (hdb : (x == ("__debug__" : Str)) = false := by decide) (he : starEach (e :: es) X.env = (false, eval e X.env) :: starEach es X.env := by rfl) (hpl : (backTo pos (starEach es X.env)).any (·.1) = false := by rfl) :
    PX X c δ (.Call (.Name x p) (e :: es) [] pos) P := by
  obtain ⟨f, F, hm, kp⟩ := cl.ex
  refine ⟨fun pins s σ H Q I ⟨z, w⟩ => ?_⟩
  refine wpAny_Call_Name_kw (ld_glob I hg hm ?_ hdb)
  refine PySem.W.callWith_K (h₀ := X.base) I.ok.mod.kin kp (thn (ha.run pos pins s σ H (fun vs H1 => spD (kw X) R vs H1 Q E0) I ⟨z, fun vs H1 ds q r a => spd_go z r a (h ds q) w⟩) fun us s1 ⟨vs, H1, I1, r, q⟩ => ⟨I1.kIn, ?_⟩) he hpl
  exact wpAny_call (run_fnR F (hr.mono hk) pass0 I1 r q)
theorem pv_call {ds : List D} (cl : Cal X.prog X.w X.K X.mg X.base k x R) (hr : Room j X.A) (hk : k ≤ j) (hg : Gl X x) (ha : PXs X c δ (e :: es) (· = ds)) (h : R ds P)
    (hdb : (x == ("__debug__" : Str)) = false := by decide) (he : starEach (e :: es) X.env = (false, eval e X.env) :: starEach es X.env := by rfl) (hpl : (backTo pos (starEach es X.env)).any (·.1) = false := by rfl) :
    PX X c δ (.Call (.Name x p) (e :: es) [] pos) P := px_call cl hr hk hg ha (fun _ e => by rw [e]; exact h) hdb he hpl
/-- what the classes with slots ask: the instance as data is an instance -/
theorem obj_slt {k : KW} {H : Hp} {l : List D} {v : V} (h : At k c H (.obj C l) v) : ∃ a dx xs, v = .ref a ∧ Slt H a C dx (xs.map some) ∧ Ats k c H l xs :=
  let ⟨a, dx, xs, e, _, _, h1, h2, h3⟩ := h; ⟨a, dx, xs, e, .inr ⟨h1, h2⟩, h3⟩
/-- o.f, a slot -/
theorem px_slot {i : Nat} {l : List D} {d : D} (c' : SCls X.K C) (t : Slot1 X.K C f pr i) (he : PV X c δ e (.obj C l)) (hd : l[i]? = some d) (hb : attributeBase e f X.env (eval e X.env) = eval e X.env := by rfl) : PV X c δ (.Attribute e f pos) d :=
  PE.mono (pe_sl he hb) fun σ H Q ⟨z, w⟩ => ⟨z, fun v H1 d' q r a => by
    cases (show d' = _ from q)
    obtain ⟨b, dx, xs, rfl, hs, hx⟩ := obj_slt a
    obtain ⟨y, e1, e2⟩ := hx.get hd
    exact ⟨b, C, dx, pr, _, i, y, rfl, hs, c', t, by rw [List.getElem?_map, e1] <;> rfl, w y H1 d rfl r e2⟩⟩
/-- o.m(e, ..) -/
theorem px_meth {pl : Sem Bool} (he : PX X c δ o A) (c' : SCls X.K C) (hm : Meth X.K C m g) (F : FnR X.prog X.w X.K X.mg X.base CX0 k g (spD (kw X) R)) (hr : Room j X.A) (hk : k ≤ j) (ha : PXs X c δ (e :: es) As)
    (h1 : ∀ d, A d → ∃ l, d = .obj C l) (h : ∀ d ds, A d → As ds → R (d :: ds) P)
    (hst : starEach (e :: es) X.env = (false, eval e X.env) :: starEach es X.env := by rfl) (hpl : (backTo pos (starEach es X.env)).any (·.1) = false := by rfl)
    (ht : eval (.Call (.Attribute o m apos) (e :: es) [] pos) X.env = (do
      let ov ← eval o X.env
      standAt apos.atName
      let (f, first) ← holding [ov] (getMethod ov m pl)
      callWith pos f first (backTo pos (starEach (e :: es) X.env)) (backToKw pos (keywordEach [] X.env))) := by rfl) :
    PX X c δ (.Call (.Attribute o m apos) (e :: es) [] pos) P :=
  PE.mono (pe_methSl he c' hm F (hr.mono hk) pass0 ha hst hpl ht) fun σ H Q ⟨z, w⟩ => ⟨z, fun v H1 d q r a => by
    obtain ⟨l, rfl⟩ := h1 d q
    obtain ⟨b, dx, xs, rfl, hs, hx⟩ := obj_slt a
    refine ⟨b, dx, _, rfl, hs, z.rl r, fun vs H2 ds q2 r2 a2 => ?_⟩
    exact spd_go (E := E0) z (r.trans0 r2) (Ats.cons (a.rl (z.rl r).bs.toBw r2.wide) a2) (h _ ds q q2) w⟩
theorem px_meth0 {pl : Sem Bool} (he : PX X c δ o A) (c' : SCls X.K C) (hm : Meth X.K C m g) (F : FnR X.prog X.w X.K X.mg X.base CX0 k g (spD (kw X) R)) (hr : Room j X.A) (hk : k ≤ j)
    (h1 : ∀ d, A d → ∃ l, d = .obj C l) (h : ∀ d, A d → R [d] P)
    (ht : eval (.Call (.Attribute o m apos) [] [] pos) X.env = (do
      let ov ← eval o X.env
      standAt apos.atName
      let (f, first) ← holding [ov] (getMethod ov m pl)
      callWith pos f first (backTo pos (starEach [] X.env)) (backToKw pos (keywordEach [] X.env))) := by rfl) :
    PX X c δ (.Call (.Attribute o m apos) [] [] pos) P :=
  PE.mono (pe_methSl0 he c' hm F (hr.mono hk) pass0 ht) fun σ H Q ⟨z, w⟩ => ⟨z, fun v H1 d q r a => by
    obtain ⟨l, rfl⟩ := h1 d q
    obtain ⟨b, dx, xs, rfl, hs, hx⟩ := obj_slt a
    exact ⟨b, dx, _, rfl, hs, spd_go (E := E0) z r (Ats.one a) (h _ q) w⟩⟩
/-- what a property asks of the text -/
structure Prop1 (K : PySem.W.Frag) (C : Addr) (f : Str) (p g : Addr) : Prop where
  at_ : PySem.W.findIn K (.ref C) f = some (some (.ref p))
  get : PySem.W.specialIn K (.ref p) "__get__" = some (some (.builtin "property.__get__"))
  tk : PySem.W.takesIn K (.ref p) = some true
  rc : ∃ rest, PySem.W.recIn K p "property" = some (.ref g :: rest)
/-- o.f, a property -/
theorem px_prop (he : PX X c δ e A) (c' : SCls X.K C) (t : Prop1 X.K C f pr g) (F : FnR X.prog X.w X.K X.mg X.base CX0 k g (spD (kw X) R)) (hr : Room j X.A) (hk : k + 1 ≤ j)
    (h1 : ∀ d, A d → ∃ l, d = .obj C l) (h : ∀ d, A d → R [d] P) (hb : attributeBase e f X.env (eval e X.env) = eval e X.env := by rfl) : PX X c δ (.Attribute e f pos) P :=
  PE.mono (pe_propSl (E := E0) he c' t.at_ t.get t.tk t.rc F (hr.mono hk) (fun _ _ _ _ z => z) hb) fun σ H Q ⟨z, w⟩ => ⟨z, fun v H1 d q r a => by
    obtain ⟨l, rfl⟩ := h1 d q
    obtain ⟨b, dx, xs, rfl, hs, hx⟩ := obj_slt a
    exact ⟨b, dx, _, rfl, hs, spd_go (E := E0) z r (Ats.one a) (h _ q) w⟩⟩
/-- o[i] by an own __getitem__ -/
theorem px_getOwn {b : Expr} {B : D → Prop} (hs : PySem.W.findIn X.K (.ref C) "__getitem__" = some (some (.ref g))) (hf : PySem.W.isFn X.K (.ref g) = true) (hf2 : PySem.W.fnIn X.K g = true) (F : FnR X.prog X.w X.K X.mg X.base CX0 k g (spD (kw X) R))
    (hr : Room j X.A) (hk : k + 1 ≤ j) (ha : PX X c δ a A) (hb : PX X c δ b B) (hl : LifeIx b) (h1 : ∀ d, A d → ∃ l, d = .obj C l) (h : ∀ d y, A d → B y → R [d, y] P) : PX X c δ (.Subscript a b pos) P :=
  PE.mono (pe_own hs hf hf2 F (hr.mono hk) ha hb hl) fun σ H Q ⟨z, w⟩ => ⟨z, fun v H1 d q r a => ⟨z.rl r, fun u H2 y q2 r2 a2 => by
    obtain ⟨l, rfl⟩ := h1 d q
    have a' := a.rl (z.rl r).bs.toBw (Rl.wide (O := c.O) r2)
    obtain ⟨b, dx, xs, rfl, hs, hx⟩ := obj_slt a'
    exact ⟨b, dx, _, rfl, hs, spd_go (E := E0) z (r.trans0 r2) (Ats.cons a' (Ats.one a2)) (h _ y q q2) w⟩⟩⟩
end

/-! ### comprehensions -/
section
variable {X : Cx} {c : Fm} {δ : List Cell} {elt kx vx tg iter : Expr} {ifs : List Expr} {scope : Scope} {own : List (Str × Nat)} {pos : Pos} {t : Tg}
/-- [elt for tg in iter if ..] -/
theorem pn_lc {α : Type} {emb : α → D} {Px : List α → Prop} {ok : α → Prop} {δ' : α → List Cell} {B : α → Bool → Prop} {Pe : α → D → Prop} {P : List D → Prop}
    (hc : X.calm = true) (hN : X.N.Nodup) (hi : PIX X c δ tg iter fun ds => ∃ xs, Px xs ∧ ds = xs.map emb) (bo : BlkOk X.N X.env.scope scope own) (hok : ∀ xs, Px xs → ∀ x ∈ xs, ok x)
    (hg : ∀ (s : Shared) (H : Hp) (C : Addr) (cl : List (Str × Addr)) (fp : List Addr), PGX (X.blk s H scope (compEnvC scope cl C X.env) fp) tg t)
    (hp : ∀ x, ok x → t.put (emb x) (wipeD δ (own.map (·.2))) = some (δ' x)) (hv : ∀ i ∈ t.ix, i ∈ own.map (·.2))
    (ht : ∀ (s : Shared) (H : Hp) (C : Addr) (cl : List (Str × Addr)) (fp : List Addr) (x : α) (D : Addr), ok x → PTXs (X.blk s H scope (compEnvC scope cl C X.env) fp) (c.add D) (δ' x) ifs (B x))
    (he : ∀ (s : Shared) (H : Hp) (C : Addr) (cl : List (Str × Addr)) (fp : List Addr) (x : α) (D : Addr), ok x → PX (X.blk s H scope (compEnvC scope cl C X.env) fp) (c.add D) (δ' x) elt (Pe x))
    (hP : ∀ xs r, Px xs → LcR B Pe xs r → P r) (hs : ∀ x, foldedSetIterable iter X.env x = pure x := by intro _; rfl) : PN X c δ (.ListComp elt [⟨tg, iter, ifs, 0⟩] scope pos) P :=
  PE.mono (pe_lc (g := t.g X.K) (tt := ttX (kw X) c ok δ' B) (te := teX (kw X) c ok δ' Pe) hc hN hi bo hg (fun s H C cl fp => pts_ex (C := fun i : α × Addr => ok i.1) (t := fun i => tT (kw X) (c.add i.2) (δ' i.1) (B i.1)) fun i h => ht s H C cl fp i.1 i.2 h) (fun s H C cl fp => pe_ex (C := fun i : α × Addr => ok i.1) (t := fun i => tX (kw X) (c.add i.2) (δ' i.1) (Pe i.1)) fun i h => he s H C cl fp i.1 i.2 h) hs) (lc_of hok hp hv hP)
/-- .. stored at once in a local name -/
theorem pb_setLc {α : Type} {emb : α → D} {Px : List α → Prop} {ok : α → Prop} {δ' : α → List Cell} {B : α → Bool → Prop} {Pe : α → D → Prop} {P : D → Prop} {y : Str} {py spos : Pos} {rest : List Stmt} {w : Wi} (i : Nat)
    (hc : X.calm = true) (hN : X.N.Nodup) (hy : X.N[i]? = some y) (hyl : X.env.scope.names.lookup y = some .local)
    (hsw : swapsWith (.ListComp elt [⟨tg, iter, ifs, 0⟩] scope pos) (some (.Name y py)) spos.line X.env = pure true)
    (hi : PIX X c δ tg iter fun ds => ∃ xs, Px xs ∧ ds = xs.map emb) (bo : BlkOk X.N X.env.scope scope own) (hok : ∀ xs, Px xs → ∀ x ∈ xs, ok x)
    (hg : ∀ (s : Shared) (H : Hp) (C : Addr) (cl : List (Str × Addr)) (fp : List Addr), PGX (X.blk s H scope (compEnvC scope cl C X.env) fp) tg t)
    (hp : ∀ x, ok x → t.put (emb x) (wipeD δ (own.map (·.2))) = some (δ' x)) (hv : ∀ i ∈ t.ix, i ∈ own.map (·.2))
    (ht : ∀ (s : Shared) (H : Hp) (C : Addr) (cl : List (Str × Addr)) (fp : List Addr) (x : α) (D : Addr), ok x → PTXs (X.blk s H scope (compEnvC scope cl C X.env) fp) (c.add D) (δ' x) ifs (B x))
    (he : ∀ (s : Shared) (H : Hp) (C : Addr) (cl : List (Str × Addr)) (fp : List Addr) (x : α) (D : Addr), ok x → PX (X.blk s H scope (compEnvC scope cl C X.env) fp) (c.add D) (δ' x) elt (Pe x))
    (hP : ∀ xs r, Px xs → LcR B Pe xs r → P (.lst r)) (q : ∀ d, P d → PB X c (δ.set i (.d d)) rest w) (hs : ∀ x, foldedSetIterable iter X.env x = pure x := by intro _; rfl) :
    PB X c δ (.Assign [.Name y py] (.ListComp elt [⟨tg, iter, ifs, 0⟩] scope pos) spos :: rest) w :=
  pb_raw i (ps_setLc (g := t.g X.K) (tt := ttX (kw X) c ok δ' B) (te := teX (kw X) c ok δ' Pe) hc hN hy hyl hsw hi bo hg (fun s H C cl fp => pts_ex (C := fun i : α × Addr => ok i.1) (t := fun i => tT (kw X) (c.add i.2) (δ' i.1) (B i.1)) fun i h => ht s H C cl fp i.1 i.2 h) (fun s H C cl fp => pe_ex (C := fun i : α × Addr => ok i.1) (t := fun i => tX (kw X) (c.add i.2) (δ' i.1) (Pe i.1)) fun i h => he s H C cl fp i.1 i.2 h) hs)
    (fun σ H Q ⟨z, w⟩ => lc_of (k := kw X) (P := fun r => P (.lst r)) hok hp hv hP σ H Q ⟨z, fun a H' xs ds p r h1 h2 h3 h4 => w _ H' _ p r ⟨a, xs, rfl, h4, h2, h3.unadd⟩⟩) q
end
end G81
set_option maxRecDepth 100000
set_option maxHeartbeats 2000000
/-! rules of values, read on data -/
namespace G81
open PySem PySem.Spec PyProof.Rows L2 SlX

section
variable {X : Cx} {c : Fm} {δ : List Cell} {a b e f : Expr} {es rest : List Expr} {pos p : Pos} {A B P : D → Prop} {d x y : D} {T U : Bool → Prop}
theorem pvv (i : Nat) {z : Str} (hd : δ[i]? = some (.d d) := by rfl) (hN : X.N[i]? = some z := by rfl) (hv : Vis X.env.scope z := by first | exact Or.inl rfl | exact Or.inr (Or.inl rfl) | exact Or.inr (Or.inr rfl))
    (h1 : (z == ("__debug__" : Str)) = false := by decide) (h2 : (z == ("__classdict__" : Str)) = false := by decide) : PV X c δ (.Name z pos) d := pv_var i hd hN hv h1 h2
/-- a name of the module -/
theorem pv_glob {z : Str} {v : V} {u : Value} (hm : X.mg z = some u) (r : RelV v u) (q : ∀ k c H, At k c H d v) (hg : Gl X z := by rfl) (hd : (z == ("__debug__" : Str)) = false := by decide) : PV X c δ (.Name z pos) d := px_c (pe_glob hg hm r hd) q
/-! comparisons -/
theorem px_cmp {op : CmpOp} {r : R2} (ho : OpR X (compareOp op) r) (ha : PX X c δ a A) (hb : PX X c δ b B) (l : ∀ x y, A x → B y → R2L (kw X) c r x y P) (hm : behindInMarks op b = false := by first | exact nomark _ | rfl | with_unfolding_all rfl) : PX X c δ (.Compare a [op] [b] pos) P :=
  PE.mono (pe_cmpR ho ha hb hm) fun σ H Q ⟨z, w⟩ => ⟨z, fun v H1 x p1 r1 a1 => ⟨z.rl r1, fun u H2 y p2 r2 a2 => l x y p1 p2 v u H2 Q ((z.rl r1).rl r2).bs (a1.rl (z.rl r1).bs.toBw r2.wide) a2 fun s H3 t p3 r3 a3 => w s H3 t p3 ((r1.trans0 r2).trans0 r3) a3⟩⟩
theorem pv_cmp {op : CmpOp} {r : R2} (ho : OpR X (compareOp op) r) (ha : PV X c δ a x) (hb : PV X c δ b y) (l : R2L (kw X) c r x y P) (hm : behindInMarks op b = false := by first | exact nomark _ | rfl | with_unfolding_all rfl) : PX X c δ (.Compare a [op] [b] pos) P :=
  px_cmp ho ha hb (fun _ _ e1 e2 => by cases e1; cases e2; exact l) hm
/-- a test that is a comparison -/
def Bl (T : Bool → Prop) : D → Prop := fun d => ∃ b, d = .bl b ∧ T b
theorem bl_is {k : Bool} : ∀ d, Is (.bl k) d → Bl (· = k) d := fun d h => ⟨k, h, rfl⟩
theorem tt_of {t : TE} (h : ∀ σ H Q, tX (kw X) c δ (Bl T) σ H Q → t σ H Q) : ∀ σ H Q, tT (kw X) c δ T σ H Q → tTest t σ H Q := fun σ H Q ⟨z, w⟩ => h σ H _ ⟨z, fun v H' d ⟨b, e, q⟩ r a => by
  subst e
  exact ⟨b, a, w b H' q r⟩⟩
theorem ptx_cmp {op : CmpOp} {r : R2} (ho : OpR X (compareOp op) r) (ha : PX X c δ a A) (hb : PX X c δ b B) (l : ∀ x y, A x → B y → R2L (kw X) c r x y (Bl T)) (hm : behindInMarks op b = false := by first | exact nomark _ | rfl | with_unfolding_all rfl) : PTX X c δ (.Compare a [op] [b] pos) T :=
  PT.mono (pt_cmpR ho ha hb hm) (tt_of fun σ H Q ⟨z, w⟩ => ⟨z, fun v H1 x p1 r1 a1 => ⟨z.rl r1, fun u H2 y p2 r2 a2 => l x y p1 p2 v u H2 Q ((z.rl r1).rl r2).bs (a1.rl (z.rl r1).bs.toBw r2.wide) a2 fun s H3 t p3 r3 a3 => w s H3 t p3 ((r1.trans0 r2).trans0 r3) a3⟩⟩)
theorem ptv_cmp {op : CmpOp} {r : R2} {k : Bool} (ho : OpR X (compareOp op) r) (ha : PV X c δ a x) (hb : PV X c δ b y) (l : R2L (kw X) c r x y (Is (.bl k))) (hm : behindInMarks op b = false := by first | exact nomark _ | rfl | with_unfolding_all rfl) : PTX X c δ (.Compare a [op] [b] pos) (· = k) :=
  ptx_cmp ho ha hb (fun _ _ e1 e2 => by
    cases e1
    cases e2
    exact fun v w H Q b a1 a2 q => l v w H Q b a1 a2 fun z H' d h => q z H' d (bl_is d h)) hm
theorem ptx_val (h : PX X c δ e (Bl T)) (he : ∀ whole, isTrue e X.env whole = (do let v ← whole; standAt e.pos; holding [v] (truthy v)) := by intro _; rfl) : PTX X c δ e T :=
  PT.mono (pt_val h he) fun σ H Q ⟨z, w⟩ => ⟨z, fun v H' d ⟨b, e, q⟩ r a => by
    subst e
    exact ⟨b, a, w b H' q r⟩⟩
theorem ptv_val {k : Bool} (h : PV X c δ e (.bl k)) (he : ∀ whole, isTrue e X.env whole = (do let v ← whole; standAt e.pos; holding [v] (truthy v)) := by intro _; rfl) : PTX X c δ e (· = k) := ptx_val (PX.mono h bl_is) he
theorem ptx_not (h : PTX X c δ a T) (q : ∀ k, T k → U (!k)) : PTX X c δ (.UnaryOp .Not a pos) U := PT.mono (pt_not h) fun σ H Q ⟨z, w⟩ => ⟨z, fun b H' t r => w _ H' (q b t) r⟩
theorem ptv_not {k : Bool} (h : PTX X c δ a (· = k)) : PTX X c δ (.UnaryOp .Not a pos) (· = !k) := ptx_not h fun _ e => by rw [e]
theorem PTX.imp (h : PTX X c δ a T) (q : ∀ k, T k → U k) : PTX X c δ a U := PT.mono h fun σ H Q ⟨z, w⟩ => ⟨z, fun b H' t r => w _ H' (q b t) r⟩
/-! and, or as tests -/
def PWX (X : Cx) (c : Fm) (δ : List Cell) (e : Expr) (T : Bool → Prop) : Prop := PW X e (tT (kw X) c δ T)
theorem PW.mono {t t' : TT} (h : PW X e t) (q : ∀ σ H Q, t' σ H Q → t σ H Q) : PW X e t' := ⟨fun wh pins s σ H Q I z => h.run wh pins s σ H Q I (q σ H Q z)⟩
theorem pw_off {P : Prop} {t : TT} (h : P → PW X e t) : PW X e (fun σ H Q => P ∧ t σ H Q) := ⟨fun wh pins s σ H Q I ⟨p, z⟩ => (h p).run wh pins s σ H Q I z⟩
theorem pe_off {P : Prop} {t : TE} (h : P → PE X e t) : PE X e (fun σ H Q => P ∧ t σ H Q) := ⟨fun pins s σ H Q I ⟨p, z⟩ => (h p).run pins s σ H Q I z⟩
theorem pwx_and1 (ha : PTX X c δ a T) : PWX X c δ (.BoolOp .And [a] pos) T := pw_and1 ha
theorem pwx_or1 (ha : PTX X c δ a T) : PWX X c δ (.BoolOp .Or [a] pos) T := pw_or1 ha
theorem pwx_and (ha : PTX X c δ a T) (hb : T true → PWX X c δ (.BoolOp .And (b :: rest) pos) U) (hf : T false → U false) : PWX X c δ (.BoolOp .And (a :: b :: rest) pos) U :=
  PW.mono (pw_and ha (pw_off hb)) fun σ H Q ⟨z, w⟩ => ⟨z, fun k H' t r => by
    cases k with
    | true => rw [if_pos rfl]; exact ⟨t, z.rl r, fun b H2 u r2 => w b H2 u (r.trans0 r2)⟩
    | false => rw [if_neg Bool.false_ne_true]; exact w false H' (hf t) r⟩
theorem pwx_or (ha : PTX X c δ a T) (hb : T false → PWX X c δ (.BoolOp .Or (b :: rest) pos) U) (ht : T true → U true) : PWX X c δ (.BoolOp .Or (a :: b :: rest) pos) U :=
  PW.mono (pw_or ha (pw_off hb)) fun σ H Q ⟨z, w⟩ => ⟨z, fun k H' t r => by
    cases k with
    | true => rw [if_pos rfl]; exact w true H' (ht t) r
    | false => rw [if_neg Bool.false_ne_true]; exact ⟨t, z.rl r, fun b H2 u r2 => w b H2 u (r.trans0 r2)⟩⟩
theorem ptx_bo (h : PWX X c δ e T) : PTX X c δ e T := PW.pt h
theorem pwv_and {k l : Bool} (ha : PTX X c δ a (· = k)) (hb : k = true → PWX X c δ (.BoolOp .And (b :: rest) pos) (· = l)) : PWX X c δ (.BoolOp .And (a :: b :: rest) pos) (· = (k && l)) := by
  cases k with
  | true => exact pwx_and ha (fun _ => hb rfl) fun h => nomatch h
  | false => exact pwx_and ha (fun h => nomatch h) fun _ => rfl
theorem pwv_or {k l : Bool} (ha : PTX X c δ a (· = k)) (hb : k = false → PWX X c δ (.BoolOp .Or (b :: rest) pos) (· = l)) : PWX X c δ (.BoolOp .Or (a :: b :: rest) pos) (· = (k || l)) := by
  cases k with
  | false => exact pwx_or ha (fun _ => hb rfl) fun h => nomatch h
  | true => exact pwx_or ha (fun h => nomatch h) fun _ => rfl
/-! and, or, not as values -/
theorem pv_one {op} (h : PX X c δ a P) : PX X c δ (.BoolOp op [a] pos) P := pe_one h
theorem pv_and {k l : Bool} (ha : PV X c δ a (.bl k)) (hb : k = true → PV X c δ (.BoolOp .And (b :: rest) pos) (.bl l)) : PV X c δ (.BoolOp .And (a :: b :: rest) pos) (.bl (k && l)) :=
  PE.mono (pe_and ha (pe_off hb)) fun σ H Q ⟨z, w⟩ => ⟨z, fun v H' d h r a => by
    cases (show d = _ from h)
    cases (show v = _ from a)
    refine ⟨k, rfl, ?_⟩
    cases k with
    | true => rw [if_pos rfl]; exact ⟨rfl, z.rl r, fun b H2 d u r2 a2 => w b H2 d u (r.trans0 r2) a2⟩
    | false => rw [if_neg Bool.false_ne_true]; exact w _ H' _ rfl r rfl⟩
theorem pv_or {k l : Bool} (ha : PV X c δ a (.bl k)) (hb : k = false → PV X c δ (.BoolOp .Or (b :: rest) pos) (.bl l)) : PV X c δ (.BoolOp .Or (a :: b :: rest) pos) (.bl (k || l)) :=
  PE.mono (pe_or ha (pe_off hb)) fun σ H Q ⟨z, w⟩ => ⟨z, fun v H' d h r a => by
    cases (show d = _ from h)
    cases (show v = _ from a)
    refine ⟨k, rfl, ?_⟩
    cases k with
    | true => rw [if_pos rfl]; exact w _ H' _ rfl r rfl
    | false => rw [if_neg Bool.false_ne_true]; exact ⟨rfl, z.rl r, fun b H2 d u r2 a2 => w b H2 d u (r.trans0 r2) a2⟩⟩
theorem pv_not {k : Bool} (ha : PV X c δ a (.bl k)) : PV X c δ (.UnaryOp .Not a pos) (.bl (!k)) :=
  PE.mono (pe_not ha) fun σ H Q ⟨z, w⟩ => ⟨z, fun v H' d h r a => by
    cases (show d = _ from h)
    cases (show v = _ from a)
    exact ⟨k, rfl, w _ H' _ rfl r rfl⟩⟩
theorem px_if {t : Expr} (ht : PTX X c δ t T) (ha : T true → PX X c δ a P) (hb : T false → PX X c δ b P) : PX X c δ (.IfExp t a b pos) P :=
  PE.mono (pe_ifExp ht (pe_off ha) (pe_off hb)) fun σ H Q ⟨z, w⟩ => ⟨z, fun k H' q r => by
    cases k with
    | true => rw [if_pos rfl]; exact ⟨q, z.rl r, fun b H2 d u r2 a2 => w b H2 d u (r.trans0 r2) a2⟩
    | false => rw [if_neg Bool.false_ne_true]; exact ⟨q, z.rl r, fun b H2 d u r2 a2 => w b H2 d u (r.trans0 r2) a2⟩⟩
/-! a op1 b op2 c of ints -/
theorem pv_chain {op op' : CmpOp} {g g' : Int → Int → Bool} {i j k : Int} {t : Expr} (ho : OpR X (compareOp op) (rI0 fun i j => .bl (g i j))) (ho' : OpR X (compareOp op') (rI0 fun i j => .bl (g' i j))) (ha : PV X c δ a (.int i)) (hb : PV X c δ b (.int j)) (hc : PV X c δ t (.int k))
    (hm : lastMarks [op, op'] [b, t] = false := by with_unfolding_all rfl) : PV X c δ (.Compare a [op, op'] [b, t] pos) (.bl (g i j && g' j k)) :=
  PE.mono (pe_chain ho ho' ha hb hc hm) fun σ H Q ⟨z, w⟩ => ⟨z, fun v H1 d h r a => by
    cases (show d = _ from h)
    cases (show v = _ from a)
    refine ⟨z.rl r, fun u H2 d h r2 a => ?_⟩
    cases (show d = _ from h)
    cases (show u = _ from a)
    refine ⟨i, j, rfl, rfl, g i j, rfl, ?_⟩
    have w' : ∀ v H' (b : Bool), b = (g i j && g' j k) → Rl c.E [] H H' → v = V.bl b → Q v H' := fun v H' b e r e2 => w v H' (.bl b) (congrArg D.bl e) r e2
    revert w'
    cases g i j with
    | true =>
      intro w'
      rw [if_pos rfl]
      refine ⟨(z.rl r).rl r2, fun y H3 d h r3 a => ?_⟩
      cases (show d = _ from h)
      cases (show y = _ from a)
      exact ⟨j, k, rfl, rfl, w' _ H3 _ rfl ((r.trans0 r2).trans0 r3) rfl⟩
    | false =>
      intro w'
      rw [if_neg Bool.false_ne_true]
      exact w' _ H2 false rfl (r.trans0 r2) rfl⟩
theorem ptv_chain {op op' : CmpOp} {g g' : Int → Int → Bool} {i j k : Int} {t : Expr} (ho : OpR X (compareOp op) (rI0 fun i j => .bl (g i j))) (ho' : OpR X (compareOp op') (rI0 fun i j => .bl (g' i j))) (ha : PV X c δ a (.int i)) (hb : PV X c δ b (.int j)) (hc : PV X c δ t (.int k))
    (hm : lastMarks [op, op'] [b, t] = false := by with_unfolding_all rfl) : PTX X c δ (.Compare a [op, op'] [b, t] pos) (· = (g i j && g' j k)) :=
  PT.mono (pt_chain ho ho' ha hb hc hm) (tt_of (t := tChain _ _ _ _ _) fun σ H Q ⟨z, w⟩ => ⟨z, fun v H1 d h r a => by
    cases (show d = _ from h)
    cases (show v = _ from a)
    refine ⟨z.rl r, fun u H2 d h r2 a => ?_⟩
    cases (show d = _ from h)
    cases (show u = _ from a)
    refine ⟨i, j, rfl, rfl, g i j, rfl, ?_⟩
    have w' : ∀ v H' (b : Bool), b = (g i j && g' j k) → Rl c.E [] H H' → v = V.bl b → Q v H' := fun v H' b e r e2 => w v H' (.bl b) ⟨b, rfl, e⟩ r e2
    revert w'
    cases g i j with
    | true =>
      intro w'
      rw [if_pos rfl]
      refine ⟨(z.rl r).rl r2, fun y H3 d h r3 a => ?_⟩
      cases (show d = _ from h)
      cases (show y = _ from a)
      exact ⟨j, k, rfl, rfl, w' _ H3 _ rfl ((r.trans0 r2).trans0 r3) rfl⟩
    | false =>
      intro w'
      rw [if_neg Bool.false_ne_true]
      exact w' _ H2 false rfl (r.trans0 r2) rfl⟩)
/-! built-ins by name -/
theorem px_cB {z : Str} {id : String} {r : List V → Hp → VK → Prop} {As : List D → Prop} (hc : CallR X (.builtin id) r) (hm : X.mg z = none) (hv : bootBuiltins z = some (.builtin id)) (ha : PXs X c δ (e :: es) As) (l : ∀ ds, As ds → CRL (kw X) c r ds P) (hg : Gl X z := by rfl) (hn : z ≠ "__name__" := by decide) (hdb : (z == ("__debug__" : Str)) = false := by decide)
    (he : starEach (e :: es) X.env = (false, eval e X.env) :: starEach es X.env := by rfl) (hpl : (backTo pos (starEach es X.env)).any (·.1) = false := by rfl) : PX X c δ (.Call (.Name z p) (e :: es) [] pos) P :=
  PE.mono (pe_callB hc hg hm hv ha hn hdb he hpl) fun σ H Q ⟨z, w⟩ => ⟨z, fun vs H1 ds q r a => l ds q vs H1 Q (z.rl r).bs a fun v H' d p r2 a2 => w v H' d p (r.trans0 r2) a2⟩
theorem pv_cB {z : Str} {id : String} {r : List V → Hp → VK → Prop} {ds : List D} (hc : CallR X (.builtin id) r) (hm : X.mg z = none) (hv : bootBuiltins z = some (.builtin id)) (ha : PXs X c δ (e :: es) (· = ds)) (l : CRL (kw X) c r ds P) (hg : Gl X z := by rfl) (hn : z ≠ "__name__" := by decide) (hdb : (z == ("__debug__" : Str)) = false := by decide)
    (he : starEach (e :: es) X.env = (false, eval e X.env) :: starEach es X.env := by rfl) (hpl : (backTo pos (starEach es X.env)).any (·.1) = false := by rfl) : PX X c δ (.Call (.Name z p) (e :: es) [] pos) P :=
  px_cB hc hm hv ha (fun _ e => by rw [e]; exact l) hg hn hdb he hpl
theorem px_cT {z : Str} {id : String} {r : List V → Hp → VK → Prop} {As : List D → Prop} (hc : CallR X (.type id) r) (hm : X.mg z = none) (hv : bootBuiltins z = some (.type id)) (ha : PXs X c δ (e :: es) As) (l : ∀ ds, As ds → CRL (kw X) c r ds P) (hg : Gl X z := by rfl) (hn : z ≠ "__name__" := by decide) (hdb : (z == ("__debug__" : Str)) = false := by decide)
    (he : starEach (e :: es) X.env = (false, eval e X.env) :: starEach es X.env := by rfl) (hpl : (backTo pos (starEach es X.env)).any (·.1) = false := by rfl) : PX X c δ (.Call (.Name z p) (e :: es) [] pos) P :=
  PE.mono (pe_callTy hc hg hm hv ha hn hdb he hpl) fun σ H Q ⟨z, w⟩ => ⟨z, fun vs H1 ds q r a => l ds q vs H1 Q (z.rl r).bs a fun v H' d p r2 a2 => w v H' d p (r.trans0 r2) a2⟩
theorem pv_cT {z : Str} {id : String} {r : List V → Hp → VK → Prop} {ds : List D} (hc : CallR X (.type id) r) (hm : X.mg z = none) (hv : bootBuiltins z = some (.type id)) (ha : PXs X c δ (e :: es) (· = ds)) (l : CRL (kw X) c r ds P) (hg : Gl X z := by rfl) (hn : z ≠ "__name__" := by decide) (hdb : (z == ("__debug__" : Str)) = false := by decide)
    (he : starEach (e :: es) X.env = (false, eval e X.env) :: starEach es X.env := by rfl) (hpl : (backTo pos (starEach es X.env)).any (·.1) = false := by rfl) : PX X c δ (.Call (.Name z p) (e :: es) [] pos) P :=
  px_cT hc hm hv ha (fun _ e => by rw [e]; exact l) hg hn hdb he hpl
/-- T(e, ..) whose value is a new list -/
theorem pn_cT {z : Str} {id : String} {r : List V → Hp → VK → Prop} {As : List D → Prop} {P : List D → Prop} (hc : CallR X (.type id) r) (hm : X.mg z = none) (hv : bootBuiltins z = some (.type id)) (ha : PXs X c δ (e :: es) As)
    (l : ∀ ds, As ds → ∀ vs H Q, Bs c H → Ats (kw X) c H ds vs → (∀ a H' xs ds, P ds → Rl c.E [] H H' → H a = none → H' a = some (.lst xs) → Ats (kw X) (c.add a) H' ds xs → a ∉ c.M → Q (.ref a) H') → r vs H Q) (hg : Gl X z := by rfl) (hn : z ≠ "__name__" := by decide) (hdb : (z == ("__debug__" : Str)) = false := by decide)
    (he : starEach (e :: es) X.env = (false, eval e X.env) :: starEach es X.env := by rfl) (hpl : (backTo pos (starEach es X.env)).any (·.1) = false := by rfl) : PN X c δ (.Call (.Name z p) (e :: es) [] pos) P :=
  PE.mono (pe_callTy hc hg hm hv ha hn hdb he hpl) fun σ H Q ⟨z, w⟩ => ⟨z, fun vs H1 ds q r a => l ds q vs H1 Q (z.rl r).bs a fun v H' xs d p r2 h1 h2 h3 h4 => w v H' xs d p (r.trans0 r2) (r.none h1) h2 h3 h4⟩
/-! a[b] -/
theorem px_ix {r : R2} (hr : IxR X r) (ha : PX X c δ a A) (hb : PX X c δ b B) (l : ∀ x y, A x → B y → R2L (kw X) c r x y P) (hs : PlainIx b := by exact fun _ _ => rfl) : PX X c δ (.Subscript a b pos) P :=
  PE.mono (pe_ix hr ha hb hs) fun σ H Q ⟨z, w⟩ => ⟨z, fun v H1 x p1 r1 a1 => ⟨z.rl r1, fun u H2 y p2 r2 a2 => l x y p1 p2 v u H2 Q ((z.rl r1).rl r2).bs (a1.rl (z.rl r1).bs.toBw r2.wide) a2 fun s H3 t p3 r3 a3 => w s H3 t p3 ((r1.trans0 r2).trans0 r3) a3⟩⟩
theorem pv_ix {r : R2} (hr : IxR X r) (ha : PV X c δ a x) (hb : PV X c δ b y) (l : R2L (kw X) c r x y P) (hs : PlainIx b := by exact fun _ _ => rfl) : PX X c δ (.Subscript a b pos) P := px_ix hr ha hb (fun _ _ e1 e2 => by cases e1; cases e2; exact l) hs
end
section
variable {k : KW} {c : Fm}
theorem l_int {g : Int → Int → Int} {i j : Int} : R2L k c (rI0 fun i j => .int (g i j)) (.int i) (.int j) (Is (.int (g i j))) := fun v w H Q _ a b q => ⟨i, j, a, b, q _ H _ rfl .refl rfl⟩
theorem l_intC {C : Int → Int → Prop} {g : Int → Int → Int} {i j : Int} (h : C i j) : R2L k c (rI C fun i j => .int (g i j)) (.int i) (.int j) (Is (.int (g i j))) := fun v w H Q _ a b q => ⟨i, j, a, b, h, q _ H _ rfl .refl rfl⟩
theorem l_bl {g : Int → Int → Bool} {i j : Int} : R2L k c (rI0 fun i j => .bl (g i j)) (.int i) (.int j) (Is (.bl (g i j))) := fun v w H Q _ a b q => ⟨i, j, a, b, q _ H _ rfl .refl rfl⟩
theorem l_eqI {i j : Int} : R2L k c rEq (.int i) (.int j) (Is (.bl (decide (i = j)))) := fun v w H Q _ a b q => by
  cases (show v = _ from a)
  cases (show w = _ from b)
  exact ⟨rfl, q _ H _ rfl .refl (congrArg V.bl (by simp))⟩
theorem l_eqS {i j : Str} : R2L k c rEq (.txt i) (.txt j) (Is (.bl (decide (i = j)))) := fun v w H Q _ a b q => by
  cases (show v = _ from a)
  cases (show w = _ from b)
  exact ⟨rfl, q _ H _ rfl .refl (congrArg V.bl (by simp))⟩
theorem l_neI {i j : Int} : R2L k c rNe (.int i) (.int j) (Is (.bl (!decide (i = j)))) := fun v w H Q _ a b q => by
  cases (show v = _ from a)
  cases (show w = _ from b)
  exact ⟨rfl, q _ H _ rfl .refl (congrArg V.bl (by simp))⟩
theorem l_neS {i j : Str} : R2L k c rNe (.txt i) (.txt j) (Is (.bl (!decide (i = j)))) := fun v w H Q _ a b q => by
  cases (show v = _ from a)
  cases (show w = _ from b)
  exact ⟨rfl, q _ H _ rfl .refl (congrArg V.bl (by simp))⟩
theorem l_cat {i j : Str} (h : i.length + j.length ≤ sizeLine) : R2L k c (fun x y H Q => ∃ i j, x = .str i ∧ y = .str j ∧ i.length + j.length ≤ sizeLine ∧ Q (.str (i ++ j)) H) (.txt i) (.txt j) (Is (.txt (i ++ j))) := fun v w H Q _ a b q => ⟨i, j, a, b, h, q _ H _ rfl .refl rfl⟩
/-- x + y of lists -/
theorem l_catL {l m : List D} (h : l.length + m.length ≤ sizeLine) : R2L k c rCat (.lst l) (.lst m) (Is (.lst (l ++ m))) := fun v w H Q bs ⟨a, xs, e1, m1, h1, x1⟩ ⟨b, ys, e2, m2, h2, x2⟩ q =>
  ⟨a, b, xs, ys, e1, e2, h1, h2, by rw [x1.length, x2.length]; exact h, fun p hp => q _ _ _ rfl (.new hp) ⟨p, xs ++ ys, rfl, bs.free hp, upd_same, (x1.append x2).rl bs.toBw (.new hp)⟩⟩
theorem atI_at {α : Type} {xs : List α} {i : Int} {x : α} (h : atI xs i = some x) : ∃ j, ixN xs.length i = some j ∧ xs[j]? = some x := by
  unfold atI at h
  cases e : ixN xs.length i with
  | none => rw [e] at h; cases h
  | some j => rw [e] at h; exact ⟨j, rfl, h⟩
theorem ats_atI {H : Hp} {l : List D} {xs : List V} {i : Int} {d : D} (a : Ats k c H l xs) (h : atI l i = some d) : ∃ v, atI xs i = some v ∧ At k c H d v := by
  obtain ⟨j, h1, h2⟩ := atI_at h
  obtain ⟨v, e, q⟩ := a.get h2
  exact ⟨v, by unfold atI; rw [a.length, h1]; exact e, q⟩
theorem l_ixT {l : List D} {i : Int} {d : D} (h : atI l i = some d) : R2L k c (rIxT k.K) (.tup l) (.int i) (Is d) := fun v w H Q bs ⟨a, xs, e1, h1, x1⟩ e2 q => by
  obtain ⟨u, hu, ha⟩ := ats_atI x1 h
  exact ⟨a, xs, i, u, e1, e2, h1, hu, q u H d rfl .refl ha⟩
theorem l_ixL {l : List D} {i : Int} {d : D} (h : atI l i = some d) : R2L k c (rIxL k.K) (.lst l) (.int i) (Is d) := fun v w H Q bs ⟨a, xs, e1, m1, h1, x1⟩ e2 q => by
  obtain ⟨u, hu, ha⟩ := ats_atI x1 h
  exact ⟨a, xs, i, u, e1, e2, SqL.of h1, hu, q u H d rfl .refl ha⟩
theorem l_lenL {l : List D} : CRL k c (fun xs H Q => ∃ p ys, xs = [.ref p] ∧ (SqL k.K H p ys ∨ SqT k.K H p ys) ∧ Q (.int ys.length) H) [.lst l] (Is (.int l.length)) := fun vs H Q bs ⟨v, r, e, ⟨a, xs, e1, m1, h1, x1⟩, e2⟩ q => by
  subst e e1
  cases (show r = [] from e2)
  exact ⟨a, xs, rfl, .inl (SqL.of h1), by rw [x1.length]; exact q _ H _ rfl .refl rfl⟩
theorem l_lenT {l : List D} : CRL k c (fun xs H Q => ∃ p ys, xs = [.ref p] ∧ (SqL k.K H p ys ∨ SqT k.K H p ys) ∧ Q (.int ys.length) H) [.tup l] (Is (.int l.length)) := fun vs H Q bs ⟨v, r, e, ⟨a, xs, e1, h1, x1⟩, e2⟩ q => by
  subst e e1
  cases (show r = [] from e2)
  exact ⟨a, xs, rfl, .inr h1, by rw [x1.length]; exact q _ H _ rfl .refl rfl⟩
theorem l_lenS {z : Str} (h : z.length ≤ sizeLine) : CRL k c (fun xs H Q => ∃ z, xs = [.str z] ∧ z.length ≤ sizeLine ∧ Q (.int z.length) H) [.txt z] (Is (.int z.length)) := fun vs H Q bs ⟨v, r, e, e1, e2⟩ q => by
  subst e
  cases (show r = [] from e2)
  cases (show v = _ from e1)
  exact ⟨z, rfl, h, q _ H _ rfl .refl rfl⟩
theorem l_sum {ns : List Int} : CRL k c (rSum k.K) [.lst (ns.map D.int)] (Is (.int ns.sum)) := fun vs H Q bs ⟨v, r, e, ⟨a, xs, e1, m1, h1, x1⟩, e2⟩ q => by
  subst e e1
  cases (show r = [] from e2)
  rw [x1.ints] at h1
  exact ⟨a, ns, rfl, SqL.of h1, q _ H _ rfl .refl rfl⟩
theorem Ats.bls {H : Hp} : ∀ {ns : List Bool} {xs : List V}, Ats k c H (ns.map D.bl) xs → xs = ns.map V.bl
  | [], _, h => h
  | n :: ns, _, h => by obtain ⟨x, t, rfl, p, q⟩ := h; rw [Ats.bls (ns := ns) q, show x = _ from p]; rfl
theorem l_all {bs : List Bool} : CRL k c (rAll k.K) [.lst (bs.map D.bl)] (Is (.bl (bs.all id))) := fun vs H Q _ ⟨v, r, e, ⟨a, xs, e1, m1, h1, x1⟩, e2⟩ q => by
  subst e e1
  cases (show r = [] from e2)
  rw [x1.bls] at h1
  exact ⟨a, bs, rfl, SqL.of h1, q _ H _ rfl .refl rfl⟩
theorem l_tupL {l : List D} : CRL k c (fun xs H Q => ∃ p ys, xs = [.ref p] ∧ ((SqL k.K H p ys ∧ ∀ l, H l = none → Q (.ref l) (upd H l (.tup ys))) ∨ (SqT k.K H p ys ∧ Q (.ref p) H))) [.lst l] (Is (.tup l)) := fun vs H Q bs ⟨v, r, e, ⟨a, xs, e1, m1, h1, x1⟩, e2⟩ q => by
  subst e e1
  cases (show r = [] from e2)
  exact ⟨a, xs, rfl, .inl ⟨SqL.of h1, fun p hp => q _ _ _ rfl (.new hp) ⟨p, xs, rfl, SqT.of upd_same, x1.rl bs.toBw (.new hp)⟩⟩⟩
/-- list(a list, a tuple): a new list -/
theorem ln_list {l : List D} {d : D} (hd : d = .lst l ∨ d = .tup l) : ∀ vs H Q, Bs c H → Ats k c H [d] vs → (∀ a H' xs ds, ds = l → Rl c.E [] H H' → H a = none → H' a = some (.lst xs) → Ats k (c.add a) H' ds xs → a ∉ c.M → Q (.ref a) H') →
    (fun xs H Q => ∃ p ys, xs = [.ref p] ∧ (SqL k.K H p ys ∨ SqT k.K H p ys) ∧ ∀ l, H l = none → Q (.ref l) (upd H l (.lst ys)) : List V → Hp → VK → Prop) vs H Q := fun vs H Q bs ⟨v, r, e, a, e2⟩ q => by
  subst e
  cases (show r = [] from e2)
  rcases hd with rfl | rfl
  · obtain ⟨a, xs, rfl, m1, h1, x1⟩ := a
    exact ⟨a, xs, rfl, .inl (SqL.of h1), fun p hp => q p _ xs l rfl (.new hp) hp upd_same ((x1.up (Up.add bs hp)).rl (Up.add bs hp).b (.new hp)) (bs.free hp)⟩
  · obtain ⟨a, xs, rfl, h1, x1⟩ := a
    exact ⟨a, xs, rfl, .inr h1, fun p hp => q p _ xs l rfl (.new hp) hp upd_same ((x1.up (Up.add bs hp)).rl (Up.add bs hp).b (.new hp)) (bs.free hp)⟩
end
/-! comprehensions whose items are known -/
section
variable {X : Cx} {c : Fm} {δ : List Cell} {elt tg iter test : Expr} {scope : Scope} {own : List (Str × Nat)} {pos : Pos} {t : Tg} {α : Type} {emb : α → D} {xs : List α} {δ' : α → List Cell}
theorem pvn_lc {f : α → D} (t : Tg) (own : List (Str × Nat)) (hi : PIX X c δ tg iter (· = xs.map emb)) (hp : ∀ x, x ∈ xs → t.put (emb x) (wipeD δ (own.map (·.2))) = some (δ' x)) (bo : BlkOk X.N X.env.scope scope own)
    (hg : ∀ (s : Shared) (H : Hp) (C : Addr) (cl : List (Str × Addr)) (fp : List Addr), PGX (X.blk s H scope (compEnvC scope cl C X.env) fp) tg t)
    (he : ∀ (s : Shared) (H : Hp) (C : Addr) (cl : List (Str × Addr)) (fp : List Addr) (x : α) (D : Addr), x ∈ xs → PV (X.blk s H scope (compEnvC scope cl C X.env) fp) (c.add D) (δ' x) elt (f x))
    (hN : X.N.Nodup) (hc : X.calm = true := by rfl) (hv : ∀ i ∈ t.ix, i ∈ own.map (·.2) := by decide) (hs : ∀ x, foldedSetIterable iter X.env x = pure x := by intro _; rfl) : PN X c δ (.ListComp elt [⟨tg, iter, [], 0⟩] scope pos) (· = xs.map f) :=
  pn_lc (Px := (· = xs)) (ok := (· ∈ xs)) (B := fun _ b => b = true) (Pe := fun x y => y = f x) hc hN (PIX.mono hi fun _ e => ⟨xs, rfl, e⟩) bo (fun _ e _ h => e ▸ h) hg hp hv (fun _ _ _ _ _ _ _ _ => ptxs_nil) he (fun ys r e h => by rw [← e]; exact h.map1) hs
theorem pvn_lcf {f : α → D} {q : α → Bool} (t : Tg) (own : List (Str × Nat)) (hi : PIX X c δ tg iter (· = xs.map emb)) (hp : ∀ x, x ∈ xs → t.put (emb x) (wipeD δ (own.map (·.2))) = some (δ' x)) (bo : BlkOk X.N X.env.scope scope own)
    (hg : ∀ (s : Shared) (H : Hp) (C : Addr) (cl : List (Str × Addr)) (fp : List Addr), PGX (X.blk s H scope (compEnvC scope cl C X.env) fp) tg t)
    (ht : ∀ (s : Shared) (H : Hp) (C : Addr) (cl : List (Str × Addr)) (fp : List Addr) (x : α) (D : Addr), x ∈ xs → PTX (X.blk s H scope (compEnvC scope cl C X.env) fp) (c.add D) (δ' x) test (· = q x))
    (he : ∀ (s : Shared) (H : Hp) (C : Addr) (cl : List (Str × Addr)) (fp : List Addr) (x : α) (D : Addr), x ∈ xs → PV (X.blk s H scope (compEnvC scope cl C X.env) fp) (c.add D) (δ' x) elt (f x))
    (hN : X.N.Nodup) (hc : X.calm = true := by rfl) (hv : ∀ i ∈ t.ix, i ∈ own.map (·.2) := by decide) (hs : ∀ x, foldedSetIterable iter X.env x = pure x := by intro _; rfl) : PN X c δ (.ListComp elt [⟨tg, iter, [test], 0⟩] scope pos) (· = (xs.filter q).map f) :=
  pn_lc (Px := (· = xs)) (ok := (· ∈ xs)) (B := fun x b => b = q x) (Pe := fun x y => y = f x) hc hN (PIX.mono hi fun _ e => ⟨xs, rfl, e⟩) bo (fun _ e _ h => e ▸ h) hg hp hv (fun s H C cl fp x D h => ptxs_one (ht s H C cl fp x D h)) he (fun ys r e h => by rw [← e]; exact h.map) hs
theorem pix_lstv {e : Expr} (he : PV X c δ e (.lst (xs.map emb))) : PIX X c δ tg e (· = xs.map emb) := pix_list he fun d h => ⟨_, h, rfl⟩
theorem pix_tupv {e : Expr} (he : PV X c δ e (.tup (xs.map emb))) : PIX X c δ tg e (· = xs.map emb) := pix_tup he fun d h => ⟨_, h, rfl⟩
end
end G81
set_option maxRecDepth 100000
set_option maxHeartbeats 2000000
/-! dicts, one's own lists and dicts, walks over dicts and ranges, isinstance, by data -/
namespace G81
open PySem PySem.Spec PyProof.Rows L2 SlX

/-! ### dicts with texts as keys -/
def lookD : List Str → List D → Str → Option D
  | k :: ks, d :: l, x => if k = x then some d else lookD ks l x
  | _, _, _ => none
def putD (ks : List Str) (l : List D) (x : Str) (y : D) : List Str × List D := if x ∈ ks then (ks, List.zipWith (fun k d => if k = x then y else d) ks l) else (ks ++ [x], l ++ [y])
theorem kvz_cons {k : Str} {ks : List Str} {x : V} {xs : List V} : kvz (k :: ks) (x :: xs) = (Sum.inr k, x) :: kvz ks xs := rfl
theorem kvz_len : ∀ {ks : List Str} {xs : List V}, ks.length = xs.length → (kvz ks xs).length = ks.length
  | [], _, _ => by cases ‹List V› <;> rfl
  | k :: ks, [], h => by simp at h
  | k :: ks, x :: xs, h => by rw [kvz_cons, List.length_cons, List.length_cons, kvz_len (by simpa using h)]
theorem kvz_fst : ∀ {ks : List Str} {xs : List V}, ks.length = xs.length → (kvz ks xs).map (·.1) = ks.map Sum.inr
  | [], _, _ => by cases ‹List V› <;> rfl
  | k :: ks, [], h => by simp at h
  | k :: ks, x :: xs, h => by rw [kvz_cons, List.map_cons, List.map_cons, kvz_fst (by simpa using h)]
theorem kvz_snd : ∀ {ks : List Str} {xs : List V}, ks.length = xs.length → (kvz ks xs).map (·.2) = xs
  | [], xs, h => by cases xs with | nil => rfl | cons x xs => simp at h
  | k :: ks, [], h => by simp at h
  | k :: ks, x :: xs, h => by rw [kvz_cons, List.map_cons, kvz_snd (by simpa using h)]
theorem kvz_get : ∀ {ks : List Str} {xs : List V} {i : Nat} {k : Str} {x : V}, ks[i]? = some k → xs[i]? = some x → (kvz ks xs)[i]? = some (Sum.inr k, x)
  | [], _, _, _, _, h, _ => by simp at h
  | _ :: _, [], _, _, _, _, h => by simp at h
  | k :: ks, x :: xs, 0, _, _, h1, h2 => by simp at h1 h2; rw [kvz_cons, h1, h2]; rfl
  | k :: ks, x :: xs, i + 1, _, _, h1, h2 => by simp at h1 h2; rw [kvz_cons, List.getElem?_cons_succ]; exact kvz_get h1 h2
section
variable {k : KW} {c : Fm} {H : Hp}
theorem look_some : ∀ {ks : List Str} {l : List D} {xs : List V} {z : Str} {d : D}, Ats k c H l xs → lookD ks l z = some d → ∃ v, valV (kvz ks xs) (Sum.inr z) = some v ∧ At k c H d v
  | [], _, _, _, _, _, h => by simp [lookD] at h
  | _ :: _, [], _, _, _, _, h => by simp [lookD] at h
  | y :: ks, e :: l, _, z, d, a, h => by
    obtain ⟨x, t, rfl, p, q⟩ := a
    unfold lookD at h
    rw [kvz_cons]
    by_cases hy : y = z
    · rw [if_pos hy] at h
      cases h
      exact ⟨x, valV_pos (by rw [hy]), p⟩
    · rw [if_neg hy] at h
      rw [valV_neg (fun z => hy (Sum.inr.inj z))]
      exact look_some q h
theorem look_none : ∀ {ks : List Str} {l : List D} {xs : List V} {z : Str}, Ats k c H l xs → lookD ks l z = none → valV (kvz ks xs) (Sum.inr z) = none
  | [], _, xs, _, _, _ => by cases xs <;> rfl
  | _ :: _, [], _, _, a, _ => by rw [show _ = [] from a]; rfl
  | y :: ks, e :: l, _, z, a, h => by
    obtain ⟨x, t, rfl, p, q⟩ := a
    unfold lookD at h
    rw [kvz_cons]
    by_cases hy : y = z
    · rw [if_pos hy] at h; cases h
    · rw [if_neg hy] at h
      rw [valV_neg (fun z => hy (Sum.inr.inj z))]
      exact look_none q h
theorem look_is {ks : List Str} {l : List D} {xs : List V} {z : Str} (a : Ats k c H l xs) : (valV (kvz ks xs) (Sum.inr z)).isSome = (lookD ks l z).isSome := by
  cases h : lookD ks l z with
  | none => rw [look_none a h]; rfl
  | some d => obtain ⟨v, e, _⟩ := look_some a h; rw [e]; rfl
/-- what may be read as a dict -/
inductive Dl (ks : List Str) (l : List D) : D → Prop
  | dct : Dl ks l (.dct ks l)
  | mdc : Dl ks l (.mdc ks l)
theorem Dl.rd {ks : List Str} {l : List D} {d : D} {v : V} (h : Dl ks l d) (a : At k c H d v) : ∃ p xs, v = .ref p ∧ Rd H p (.dK (kvz ks xs)) ∧ ks.length = xs.length ∧ Ats k c H l xs := by
  cases h with
  | dct => obtain ⟨p, o, _, _, xs, e, q, _, y, z⟩ := a; exact ⟨p, xs, e, .inr ⟨o, q⟩, y, z⟩
  | mdc => obtain ⟨p, xs, e, _, q, y, z⟩ := a; exact ⟨p, xs, e, .inl q, y, z⟩
end
section
variable {X : Cx} {c : Fm} {δ : List Cell} {o i e f : Expr} {ks : List Str} {l : List D} {z : Str} {d x : D} {pos apos cpos : Pos} {P : D → Prop}
/-- d[k] -/
theorem pv_dget (hu : X.A.units + 1 < cLine) (ho : PV X c δ o x) (hx : Dl ks l x) (hi : PV X c δ i (.txt z)) (h : lookD ks l z = some d) (hs : NoSl i := by exact fun _ _ => rfl) : PV X c δ (.Subscript o i pos) d :=
  PE.mono (pe_dget hu ho hi hs) fun σ H Q ⟨ev, w⟩ => ⟨ev, fun v H1 d1 e1 r1 a1 => by
    cases (show d1 = _ from e1)
    refine ⟨ev.rl r1, fun u H2 d2 e2 r2 a2 => ?_⟩
    cases (show d2 = _ from e2)
    cases (show u = _ from a2)
    obtain ⟨p, xs, rfl, hr, hl, hz⟩ := hx.rd (a1.rl (ev.rl r1).bs.toBw (Rl.wide (O := c.O) r2))
    obtain ⟨u, hu2, au⟩ := look_some (ks := ks) hz h
    exact ⟨p, u, rfl, .inl ⟨_, .inr z, hr, rfl, hu2.symm⟩, w u H2 d rfl (r1.trans0 r2) au⟩⟩
theorem ptv_din (hu : X.A.units + 1 < cLine) (hi : PV X c δ i (.txt z)) (ho : PV X c δ o x) (hx : Dl ks l x) (h1 : behindInMarks .In o = false := by first | rfl | with_unfolding_all rfl) : PTX X c δ (.Compare i [.In] [o] pos) (· = (lookD ks l z).isSome) :=
  PT.mono (pt_cmp (pc_din hu hi ho) h1) fun σ H Q ⟨ev, w⟩ => ⟨ev, fun v H1 d1 e1 r1 a1 => by
    cases (show d1 = _ from e1)
    cases (show v = _ from a1)
    refine ⟨ev.rl r1, fun u H2 d2 e2 r2 a2 => ?_⟩
    cases (show d2 = _ from e2)
    obtain ⟨p, xs, rfl, hr, hl, hz⟩ := hx.rd a2
    exact ⟨p, _, rfl, .inl ⟨_, .inr z, hr, rfl, rfl⟩, _, rfl, w _ H2 (look_is hz) (r1.trans0 r2)⟩⟩
theorem pv_din (hu : X.A.units + 1 < cLine) (hi : PV X c δ i (.txt z)) (ho : PV X c δ o x) (hx : Dl ks l x) (h1 : behindInMarks .In o = false := by first | rfl | with_unfolding_all rfl) : PV X c δ (.Compare i [.In] [o] pos) (.bl (lookD ks l z).isSome) :=
  PE.mono (pe_cmp (pc_din hu hi ho) h1) fun σ H Q ⟨ev, w⟩ => ⟨ev, fun v H1 d1 e1 r1 a1 => by
    cases (show d1 = _ from e1)
    cases (show v = _ from a1)
    refine ⟨ev.rl r1, fun u H2 d2 e2 r2 a2 => ?_⟩
    cases (show d2 = _ from e2)
    obtain ⟨p, xs, rfl, hr, hl, hz⟩ := hx.rd a2
    exact ⟨p, _, rfl, .inl ⟨_, .inr z, hr, rfl, rfl⟩, w _ H2 _ rfl (r1.trans0 r2) (congrArg V.bl (look_is hz))⟩⟩
theorem ptv_dnotin (hu : X.A.units + 1 < cLine) (hi : PV X c δ i (.txt z)) (ho : PV X c δ o x) (hx : Dl ks l x) (h1 : behindInMarks .NotIn o = false := by first | rfl | with_unfolding_all rfl) : PTX X c δ (.Compare i [.NotIn] [o] pos) (· = !(lookD ks l z).isSome) :=
  PT.mono (pt_cmp (pc_dnotin hu hi ho) h1) fun σ H Q ⟨ev, w⟩ => ⟨ev, fun v H1 d1 e1 r1 a1 => by
    cases (show d1 = _ from e1)
    cases (show v = _ from a1)
    refine ⟨ev.rl r1, fun u H2 d2 e2 r2 a2 => ?_⟩
    cases (show d2 = _ from e2)
    obtain ⟨p, xs, rfl, hr, hl, hz⟩ := hx.rd a2
    exact ⟨p, _, rfl, .inl ⟨_, .inr z, hr, rfl, rfl⟩, _, rfl, w _ H2 (congrArg (!·) (look_is hz)) (r1.trans0 r2)⟩⟩
/-- d.get(k, y) -/
theorem pv_dget2 {y : D} (hu : X.A.units + 1 < cLine) (ho : PV X c δ o x) (hx : Dl ks l x) (hi : PV X c δ e (.txt z)) (hy : PV X c δ f y) (m : M2 X o "get" apos e f cpos) : PV X c δ (.Call (.Attribute o "get" apos) [e, f] [] cpos) ((lookD ks l z).getD y) :=
  PE.mono (pe_dget2 hu ho hi hy m) fun σ H Q ⟨ev, w⟩ => ⟨ev, fun v H1 d1 e1 r1 a1 => by
    cases (show d1 = _ from e1)
    obtain ⟨p, xs, ep, hr, hl, hz⟩ := hx.rd a1
    subst ep
    refine ⟨p, rfl, .inl ⟨_, hr⟩, ev.rl r1, fun u H2 d2 e2 r2 a2 => ?_⟩
    cases (show d2 = _ from e2)
    cases (show u = _ from a2)
    refine ⟨(ev.rl r1).rl r2, fun u3 H3 d3 e3 r3 a3 => ?_⟩
    cases (show d3 = _ from e3)
    obtain ⟨p', xs', ep, hr', hl', hz'⟩ := hx.rd (a1.rl (ev.rl r1).bs.toBw (Rl.wide (O := c.O) (r2.trans0 r3)))
    cases ep
    refine ⟨_, .inl ⟨_, .inr z, hr', rfl, rfl⟩, w _ H3 _ rfl ((r1.trans0 r2).trans0 r3) ?_⟩
    cases h : lookD ks l z with
    | none => rw [look_none hz' h]; exact a3
    | some d => obtain ⟨v, e, q⟩ := look_some hz' h; rw [e]; exact q⟩
/-! walks over dicts -/
theorem pix_items {α : Type} {emb : α → D} {xs : List α} {kf : α → Str} {vf : α → D} {elts : List Expr} {kk : Nat} {tpos : Pos} (he : PV X c δ e (.dct (xs.map kf) (xs.map vf))) (hemb : ∀ x, emb x = .tup [.txt (kf x), vf x]) (hbase : attributeBase e "items" X.env (eval e X.env) = eval e X.env := by rfl) (hline : (apos.endLine == cpos.line) = true := by rfl) :
    PIX X c δ (.Tuple elts kk tpos) (.Call (.Attribute e "items" apos) [] [] cpos) (· = xs.map emb) :=
  PI.mono (pi_len (pi_items he hbase hline)) fun σ H R ⟨ev, w⟩ => ⟨ev, fun v H1 d1 e1 r a => by
    cases (show d1 = _ from e1)
    obtain ⟨p, o, es, ep, vs, rfl, h1, h2, h3, h4⟩ := a
    have hz : (kvz (xs.map kf) vs).length = xs.length := by rw [kvz_len h3, List.length_map]
    refine ⟨p, o, _, rfl, h1, fun len => w _ H1 _ rfl r ⟨_, _, _, walk_items, by rw [hz, List.length_map], fun c' u => ⟨fun H' r' => r'.keep h1 not_frz, fun i H' x H2 hi r' y => ?_⟩⟩ (by rw [List.length_map, ← hz]; exact len.2.2 p _ (.inr ⟨o, h1⟩))⟩
    obtain ⟨T, x1, y1, rfl, hT, rfl, hx1, hy1⟩ := y
    have hi' : i < xs.length := by rw [← hz]; exact hi
    have ek : (xs.map kf)[i]? = some (kf xs[i]) := by rw [List.getElem?_map, List.getElem?_eq_getElem hi']; rfl
    obtain ⟨v', hv', av⟩ := h4.get (show (xs.map vf)[i]? = some (vf xs[i]) by rw [List.getElem?_map, List.getElem?_eq_getElem hi']; rfl)
    have hk := kvz_get ek hv'
    dsimp only at hx1 hy1
    rw [hk] at hx1 hy1
    cases hx1
    cases hy1
    have b1 := u.b.rl (fun _ h => h) r'
    refine ⟨_, by rw [List.getElem?_map, List.getElem?_eq_getElem hi']; rfl, fun b o e => by rw [upd_ne (ne_of_none e hT)]; exact e, ?_⟩
    rw [hemb]
    exact ⟨T, _, rfl, SqT.of upd_same, _, _, rfl, rfl, _, _, rfl, (((av.up u).rl u.b r').rl b1 (Rl.new hT)), rfl⟩⟩
theorem pix_values {xs : List D} (he : PV X c δ e (.dct ks xs)) (hbase : attributeBase e "values" X.env (eval e X.env) = eval e X.env := by rfl) (hline : (apos.endLine == cpos.line) = true := by rfl) {tg : Expr} :
    PIX X c δ tg (.Call (.Attribute e "values" apos) [] [] cpos) (· = xs) :=
  PI.mono (pi_len (pi_values he hbase hline)) fun σ H R ⟨ev, w⟩ => ⟨ev, fun v H1 d1 e1 r a => by
    cases (show d1 = _ from e1)
    obtain ⟨p, o, es, ep, vs, rfl, h1, h2, h3, h4⟩ := a
    have hz : (kvz ks vs).length = xs.length := by rw [kvz_len h3, h3, h4.length]
    refine ⟨p, o, _, rfl, h1, fun len => w _ H1 _ rfl r ⟨_, _, _, walk_values, by rw [hz], fun c' u => ⟨fun H' r' => r'.keep h1 not_frz, fun i H' x H2 hi r' y => ?_⟩⟩ (by rw [← hz]; exact len.2.2 p _ (.inr ⟨o, h1⟩))⟩
    obtain ⟨rfl, k', hk'⟩ := y
    have hi' : i < xs.length := by rw [← hz]; exact hi
    obtain ⟨v', hv', av⟩ := h4.get (List.getElem?_eq_getElem hi')
    have hk := kvz_get (List.getElem?_eq_getElem (show i < ks.length by rw [h3, h4.length]; exact hi')) hv'
    rw [hk] at hk'
    cases hk'
    exact ⟨_, List.getElem?_eq_getElem hi', fun _ _ e => e, (av.up u).rl u.b r'⟩⟩
/-- range(n) -/
theorem pix_range {n : Nat} {tg a : Expr} {p : Pos} (hm : X.mg "range" = none) (ha : PV X c δ a (.int n)) (hn : n < 2 ^ 20) (hg : Gl X "range" := by rfl) (hs : starEach [a] X.env = [(false, eval a X.env)] := by rfl) :
    PIX X c δ tg (.Call (.Name "range" p) [a] [] pos) (· = (List.range n).map fun i => .int (i : Nat)) :=
  PI.mono (pi_range1 hg hm (pa_cons ha pa_nil hs) hs) fun σ H R ⟨ev, w⟩ => ⟨ev, fun v H1 d1 e1 r a => by
    cases (show d1 = _ from e1)
    cases (show v = _ from a)
    refine ⟨n, rfl, by omega, by omega, w _ H1 _ rfl r ⟨n, _, _, (by have := walk_range (lo := 0) (n := (n : Int).toNat); rw [Int.toNat_natCast] at this ⊢; exact this), by simp, fun c' u => ⟨fun _ _ => trivial, fun i H' x H2 hi r' y => ?_⟩⟩ (by rw [List.length_map, List.length_range, sizeLine_eq]; omega)⟩
    obtain ⟨rfl, rfl⟩ := y
    exact ⟨.int (i : Nat), by rw [List.getElem?_map, List.getElem?_range hi]; rfl, fun _ _ e => e, by show V.int (0 + (i : Int)) = V.int i; rw [Int.zero_add]⟩⟩
/-- enumerate(list) -/
theorem pix_enum {xs : List D} {a : Expr} {p tpos : Pos} {elts : List Expr} {kk : Nat} (hm : X.mg "enumerate" = none) (ha : PV X c δ a (.lst xs)) (hg : Gl X "enumerate" := by rfl) (hs : starEach [a] X.env = [(false, eval a X.env)] := by rfl) :
    PIX X c δ (.Tuple elts kk tpos) (.Call (.Name "enumerate" p) [a] [] pos) (· = (List.range xs.length).map fun i => .tup [.int (i : Nat), xs.getD i .non]) :=
  PI.mono (pi_len (pi_enum hg hm (pa_cons ha pa_nil hs) hs)) fun σ H R ⟨ev, w⟩ => ⟨ev, fun v H1 d1 e1 r a => by
    cases (show d1 = _ from e1)
    obtain ⟨b, vs, rfl, hm, hb, hx⟩ := a
    refine ⟨b, vs, rfl, SqL.of hb, fun len => w _ H1 _ rfl r ⟨_, _, _, walk_enum, by rw [List.length_map, List.length_range, hx.length], fun c' u => ⟨fun H' r' => SqL.of (r'.keepM u.b.em u.b.om hb fun m => hm (u.m b ⟨_, hb⟩ m)), fun i H' x H2 hi r' y => ?_⟩⟩ (by rw [List.length_map, List.length_range, ← hx.length]; exact len.1 b vs (SqL.of hb))⟩
    obtain ⟨T, x1, y1, rfl, hT, rfl, hx1, hy1⟩ := y
    have hi' : i < xs.length := by rw [← hx.length]; exact hi
    obtain ⟨v', hv', av⟩ := hx.get (List.getElem?_eq_getElem hi')
    dsimp only at hx1 hy1
    rw [hv'] at hy1
    cases hy1
    cases hx1
    have b1 := u.b.rl (fun _ h => h) r'
    refine ⟨.tup [.int (i : Nat), xs[i]], by rw [List.getElem?_map, List.getElem?_range hi', Option.map_some, List.getD_eq_getElem?_getD, List.getElem?_eq_getElem hi']; rfl, fun b o e => by rw [upd_ne (ne_of_none e hT)]; exact e, ?_⟩
    exact ⟨T, _, rfl, SqT.of upd_same, _, _, rfl, rfl, _, _, rfl, (((av.up u).rl u.b r').rl b1 (Rl.new hT)), rfl⟩⟩
end
end G81
set_option maxRecDepth 100000
set_option maxHeartbeats 2000000
/-! one's own lists and dicts in the slots -/
namespace G81
open PySem PySem.Spec PyProof.Rows L2 SlX

/-- no slot holds the address -/
def offAll (l : Addr) : List Cell → Prop
  | [] => True
  | x :: r => l ∉ x.adr ∧ offAll l r
theorem offAll.at {l : Addr} : ∀ {δ : List Cell}, offAll l δ → ∀ (i : Nat) (x : Cell), δ[i]? = some x → l ∉ x.adr
  | [], _, _, _, h => by simp at h
  | y :: δ, h, 0, x, e => by simp at e; rw [← e]; exact h.1
  | y :: δ, h, i + 1, x, e => offAll.at h.2 i x (by simpa using e)
/-- the frame itself is in order -/
structure Fok (c : Fm) : Prop where
  em : ∀ a ∈ c.E, a ∈ c.M
  om : ∀ a ∈ c.O, a ∈ c.M
  oe : ∀ a ∈ c.O, a ∉ c.E
theorem Bw.fok {c : Fm} {H : Hp} (b : Bw c H) : Fok c := ⟨b.em, b.om, b.oe⟩
/-- a value for a slot: data, or a new thing of one's own (then the frame is wider) -/
abbrev SC := Fm → Cell → Prop
/-- the frame has grown by new things -/
structure Gr (c c' : Fm) (H : Hp) : Prop where
  e : c'.E = c.E
  o : ∀ b ∈ c'.O, b ∈ c.O ∨ H b = .none
theorem Gr.refl {c : Fm} {H : Hp} : Gr c c H := ⟨rfl, fun _ h => .inl h⟩
theorem Gr.add {c : Fm} {H : Hp} {l : Addr} (h : H l = .none) : Gr c (c.add l) H := ⟨rfl, fun b m => by
  rcases List.mem_cons.mp m with z | z
  · rw [z]; exact .inr h
  · exact .inl z⟩
theorem Rl.back {c c' : Fm} {H H1 : Hp} (g : Gr c c' H) (r0 : Rl c.E [] H H1) {H2 : Hp} (r : Rl c'.E c'.O H1 H2) (oe : ∀ b ∈ c.O, b ∉ c.E) : Rl c.E c.O H H2 := by
  have r' : Rl c.E c.O H H2 := fun b o e => by
    rcases r0 b o e with z | ⟨m, d, o1, z, d1⟩ | ⟨z, _⟩
    · rcases r b o z with z | ⟨m, z⟩ | ⟨m, z⟩
      · exact .inl z
      · exact .inr (.inl ⟨by rw [← g.e]; exact m, z⟩)
      · rcases g.o b m with y | y
        · exact .inr (.inr ⟨y, z⟩)
        · rw [y] at e; cases e
    · rcases r b o1 z with z | ⟨m2, _, o2, z, d2⟩ | ⟨m2, _, o2, z⟩
      · exact .inr (.inl ⟨m, d, o1, z, d1⟩)
      · exact .inr (.inl ⟨m, d, o2, z, d2⟩)
      · rcases g.o b m2 with y | y
        · exact absurd m (oe b y)
        · rw [y] at e; cases e
    · cases z
  exact r'
def tCl (k : KW) (c : Fm) (δ : List Cell) (S : SC) : TE := fun σ H Q => Ev k c H σ δ ∧ ∀ v H' c' x, S c' x → Rl c.E [] H H' → Gr c c' H → (∀ τ ε, Ev k c H τ ε → Ev k c' H' τ ε) → CellAt k c' H' x (some v) → Q v H'
def CX (X : Cx) (c : Fm) (δ : List Cell) (e : Expr) (S : SC) : Prop := PE X e (tCl (kw X) c δ S)
def SD (c : Fm) (P : D → Prop) : SC := fun c' x => c' = c ∧ ∃ d, x = .d d ∧ P d
def SO (c : Fm) (P : List D → Prop) : SC := fun c' x => Fok c ∧ ∃ l ds, l ∉ c.M ∧ c' = c.add l ∧ x = .own l ds ∧ P ds
def SK (c : Fm) : SC := fun c' x => Fok c ∧ ∃ l, l ∉ c.M ∧ c' = c.add l ∧ x = .owk l [] []
section
variable {X : Cx} {c : Fm} {δ : List Cell} {e : Expr} {P : D → Prop} {pos : Pos} {rest : List Stmt} {w : Wi}
theorem cx_d (h : PX X c δ e P) : CX X c δ e (SD c P) := PE.mono h fun σ H Q ⟨z, w⟩ => ⟨z, fun v H' d p r a => w v H' c (.d d) ⟨rfl, d, rfl, p⟩ r .refl (fun _ _ e => e.rl r) ⟨v, rfl, a⟩⟩
theorem cv_d {d : D} (h : PV X c δ e d) : CX X c δ e (SD c (Is d)) := cx_d h
/-- what is new may be taken as one's own -/
theorem ev_own {k : KW} {H H' : Hp} {σ : L2.St} {a : Addr} {o : HO} (z : Ev k c H σ δ) (r : Rl c.E [] H H') (hn : H a = none) (h' : H' a = some o) : Ev k (c.add a) H' σ δ := by
  have z1 := z.add (D := a) (o := o) hn
  have g : ∀ b u, upd H a o b = some u → b ≠ a → H b = some u := fun b u e n => by rw [upd_ne n] at e; exact e
  have r1 : Rl (c.add a).E [] (upd H a o) H' := fun b u e => by
    by_cases hb : b = a
    · rw [hb, upd_same] at e
      cases e
      exact .inl (by rw [hb]; exact h')
    · exact r b u (g b u e hb)
  exact z1.rl r1
theorem cx_own {P : List D → Prop} (h : PN X c δ e P) : CX X c δ e (SO c P) := PE.mono h fun σ H Q ⟨z, w⟩ => ⟨z, fun a H' xs ds p r hn h' hx hm =>
  w (.ref a) H' (c.add a) (.own a ds) ⟨z.bs.toBw.fok, a, ds, hm, rfl, rfl, p⟩ r (.add hn) (fun _ _ e => ev_own e r hn h') ⟨rfl, List.mem_cons_self, xs, h', hx⟩⟩
theorem cx_dict : CX X c δ (.Dict [] [] pos) (SK c) := PE.mono pe_dnewK fun σ H Q ⟨z, w⟩ a hn =>
  w (.ref a) _ (c.add a) (.owk a [] []) ⟨z.bs.toBw.fok, a, z.bs.free hn, rfl, rfl⟩ (.new hn) (.add hn) (fun _ _ e => e.add hn) ⟨rfl, List.mem_cons_self, [], upd_same, rfl, rfl⟩
/-- name = value -/
theorem pb_setC {S : SC} (i : Nat) {x : Str} {pos' : Pos} (he : CX X c δ e S) (q : ∀ c' y, S c' y → PB X c' (δ.set i y) rest w) (hN : X.N.Nodup) (hi : X.N[i]? = some x := by rfl) (hx : Loc X.env.scope x := by first | exact Or.inl rfl | exact Or.inr rfl)
    (hs : swapsWith e (some (.Name x pos')) pos.line X.env = pure false := by rfl) (hf : X.fn x = true ∨ X.env.scope.names.lookup x = some .local := by first | exact .inl rfl | exact .inr rfl | assumption) : PB X c δ (.Assign [.Name x pos'] e pos :: rest) w := by
  have key : PSs X rest (fun D σ H => ∃ c' y, S c' y ∧ tB (kw X) c' (δ.set i y) w D σ H) := ⟨fun pins s σ H D I ⟨c', y, p, z⟩ => (q c' y p).run pins s σ H D I z⟩
  refine PSs.mono (pss_cons (ps_set hN hi hx he hs hf) key) fun D σ H ⟨z, n, rt, bk⟩ => ⟨z, fun v H' c' y s r g e' a => ⟨c', y, s, (e' σ δ z).set i a, fun σ' H2 δ' hn r2 e2 => n σ' H2 δ' hn (Rl.back g r r2 z.oe) e2, fun v H2 d' hr r2 a2 => rt v H2 d' hr (Rl.back g r r2 z.oe) a2, fun σ' H2 δ' hn r2 e2 => bk σ' H2 δ' hn (Rl.back g r r2 z.oe) e2⟩⟩
/-- two values, one behind the other -/
theorem Gr.trans {c c1 c2 : Fm} {H H1 : Hp} (a : Gr c c1 H) (r : Rl c.E [] H H1) (b : Gr c1 c2 H1) : Gr c c2 H := ⟨b.e.trans a.e, fun x m => by
  rcases b.o x m with z | z
  · exact a.o x z
  · exact .inr (r.none z)⟩
def tCl2 (k : KW) (c : Fm) (δ : List Cell) (S : Fm → Cell → Cell → Prop) : TA := fun σ H Q => Ev k c H σ δ ∧ ∀ v1 v2 H' c' y1 y2, S c' y1 y2 → Rl c.E [] H H' → Gr c c' H → (∀ τ ε, Ev k c H τ ε → Ev k c' H' τ ε) → CellAt k c' H' y1 (some v1) → CellAt k c' H' y2 (some v2) → Q [v1, v2] H'
theorem pa2C {S1 : SC} {S2 : Fm → Cell → SC} {e2 : Expr} (h1 : CX X c δ e S1) (h2 : ∀ c' y, S1 c' y → CX X c' δ e2 (S2 c' y)) (hd : starEach [e, e2] X.env = (false, eval e X.env) :: starEach [e2] X.env := by rfl) (hd2 : starEach [e2] X.env = (false, eval e2 X.env) :: starEach [] X.env := by rfl) :
    PA X [e, e2] (tCl2 (kw X) c δ fun c' y1 y2 => ∃ c1, S1 c1 y1 ∧ S2 c1 y1 c' y2) := by
  have k2 : PE X e2 (fun σ H Q => ∃ c' y, S1 c' y ∧ tCl (kw X) c' δ (S2 c' y) σ H Q) := ⟨fun pins s σ H Q I ⟨c', y, p, z⟩ => (h2 c' y p).run pins s σ H Q I z⟩
  refine PA.mono (pa_cons h1 (pa_cons k2 pa_nil hd2) hd) fun σ H Q ⟨z, w⟩ => ⟨z, fun v1 H1 c1 y1 s1 r1 g1 e1 a1 => ⟨c1, y1, s1, e1 σ δ z, fun v2 H2 c2 y2 s2 r2 g2 e2 a2 => ?_⟩⟩
  have r2' : Rl c.E [] H1 H2 := by rw [← g1.e]; exact r2
  have e1' : Ev (kw X) c1 H1 [some v1] [y1] := ⟨(e1 σ δ z).bs, fun i x h => by
    cases i with
    | zero => simp at h; subst h; exact ⟨some v1, rfl, a1⟩
    | succ i => simp at h⟩
  obtain ⟨y, h3, h4⟩ := (e2 _ _ e1').at_ 0 y1 rfl
  cases h3
  exact w v1 v2 H2 c2 y1 y2 ⟨c1, s1, s2⟩ (r1.trans0 r2') (g1.trans r1 g2) (fun τ ε h => e2 τ ε (e1 τ ε h)) h4 a2
theorem tB_back {D : Ends} {c' : Fm} {δ' : List Cell} {σ σ' : L2.St} {H H' : Hp} (z : tB (kw X) c δ w D σ H) (g : Gr c c' H) (r : Rl c.E [] H H') (e : Ev (kw X) c' H' σ' δ') : tB (kw X) c' δ' w D σ' H' := by
  obtain ⟨z, n, rt, bk⟩ := z
  exact ⟨e, fun σ' H2 δ' hn r2 e2 => n σ' H2 δ' hn (Rl.back g r r2 z.oe) e2, fun v H2 d' hr r2 a2 => rt v H2 d' hr (Rl.back g r r2 z.oe) a2, fun σ' H2 δ' hn r2 e2 => bk σ' H2 δ' hn (Rl.back g r r2 z.oe) e2⟩
/-- x, y = a, b (plain locals) -/
theorem pb_par {S : Fm → Cell → Cell → Prop} (i j : Nat) {x y : Str} {a b : Expr} {px py pt : Pos} {kt k2 pt2} (ha : PA X [a, b] (tCl2 (kw X) c δ S)) (q : ∀ c' y1 y2, S c' y1 y2 → PB X c' ((δ.set i y1).set j y2) rest w) (hN : X.N.Nodup) (hc : X.calm = true := by rfl) (hi : X.N[i]? = some x := by rfl) (hj : X.N[j]? = some y := by rfl) (hij : i ≠ j := by decide)
    (hx : X.env.scope.names.lookup x = some .local := by rfl) (hy : X.env.scope.names.lookup y = some .local := by rfl)
    (hw : swappedStores [.Tuple [.Name x px, .Name y py] kt pt] (.Tuple [a, b] k2 pt2) X.env = pure (some [x, y]) := by rfl)
    (hs : swapsWithSole [.Tuple [.Name x px, .Name y py] kt pt] (.Tuple [a, b] k2 pt2) pos.line X.env = pure false := by rfl) : PB X c δ (.Assign [.Tuple [.Name x px, .Name y py] kt pt] (.Tuple [a, b] k2 pt2) pos :: rest) w := by
  have key : PSs X rest (fun D σ H => ∃ c' y1 y2, S c' y1 y2 ∧ tB (kw X) c' ((δ.set i y1).set j y2) w D σ H) := ⟨fun pins s σ H D I ⟨c', y1, y2, p, z⟩ => (q c' y1 y2 p).run pins s σ H D I z⟩
  exact PSs.mono (pss_cons (ps_par hc hN hi hj hij hx hy ha hw hs) key) fun D σ H z => ⟨z.1, fun v1 v2 H' c' y1 y2 s r g e a1 a2 => ⟨v1, v2, rfl, c', y1, y2, s, tB_back z g r (((e σ δ z.1).set i a1).set j a2)⟩⟩
/-- x, y = a, b (by a tuple) -/
theorem pb_tup2 {S : Fm → Cell → Cell → Prop} (i j : Nat) {x y : Str} {a b : Expr} {px py pt : Pos} {kt k2 pt2} (ha : PA X [a, b] (tCl2 (kw X) c δ S)) (q : ∀ c' y1 y2, S c' y1 y2 → PB X c' ((δ.set i y1).set j y2) rest w) (hN : X.N.Nodup) (hc : X.calm = true := by rfl) (hi : X.N[i]? = some x := by rfl) (hj : X.N[j]? = some y := by rfl)
    (hx : Loc X.env.scope x := by first | exact Or.inl rfl | exact Or.inr rfl) (hy : Loc X.env.scope y := by first | exact Or.inl rfl | exact Or.inr rfl)
    (hf : X.fn x = true ∨ X.env.scope.names.lookup x = some .local := by first | exact .inl rfl | exact .inr rfl) (hg : X.fn y = true ∨ X.env.scope.names.lookup y = some .local := by first | exact .inl rfl | exact .inr rfl)
    (hs : swapsWithSole [.Tuple [.Name x px, .Name y py] kt pt] (.Tuple [a, b] k2 pt2) pos.line X.env = pure false := by rfl) (hw : swappedStores [.Tuple [.Name x px, .Name y py] kt pt] (.Tuple [a, b] k2 pt2) X.env = pure none := by rfl)
    (h1 : (assignEach [Expr.Tuple [.Name x px, .Name y py] kt pt] X.env).map (·.2) = [assign (.Tuple [.Name x px, .Name y py] kt pt) X.env] := by rfl)
    (h2 : (assignEach [Expr.Name x px, .Name y py] X.env).map (·.2) = assign (.Name x px) X.env :: (assignEach [Expr.Name y py] X.env).map (·.2) := by rfl) (h3 : (assignEach [Expr.Name y py] X.env).map (·.2) = assign (.Name y py) X.env :: (assignEach [] X.env).map (·.2) := by rfl)
    (hn : (assignEach [Expr.Name x px, .Name y py] X.env).length = 2 := by rfl) (hst : (assignEach [Expr.Name x px, .Name y py] X.env).findIdx? (·.1) = none := by rfl) : PB X c δ (.Assign [.Tuple [.Name x px, .Name y py] kt pt] (.Tuple [a, b] k2 pt2) pos :: rest) w := by
  have key : PSs X rest (fun D σ H => ∃ c' y1 y2, S c' y1 y2 ∧ tB (kw X) c' ((δ.set i y1).set j y2) w D σ H) := ⟨fun pins s σ H D I ⟨c', y1, y2, p, z⟩ => (q c' y1 y2 p).run pins s σ H D I z⟩
  exact PSs.mono (pss_cons (ps_asg (pe_tup ha) (pg_tup hc (pgs_cons (pg_name hN hi hx hf) (pgs_cons (pg_name hN hj hy hg) pgs_nil h3) h2) hn hst) hs hw h1) key) fun D σ H z => ⟨z.1, fun v1 v2 H' c' y1 y2 s r g e a1 a2 => ⟨by show 2 ≤ sizeLine; decide, fun p hp =>
    ⟨p, [v1, v2], rfl, SqT.of upd_same, rfl, v1, [v2], rfl, v2, [], rfl, rfl, c', y1, y2, s, tB_back z g (r.trans0 (Rl.new hp)) (by
      have e3 := ((e σ δ z.1).set i a1).set j a2
      exact e3.rl (Rl.new hp))⟩⟩⟩
/-! what one owned is data from now on -/
theorem ev_drop {k : KW} {l : Addr} {i : Nat} {y : Cell} {H : Hp} {σ : L2.St} (fk : Fok c) (e : Ev k (c.add l) H σ δ) (off : offAll l (δ.set i .no)) (hi : i < δ.length) (hy : ∀ v, σ[i]? = some v → CellAt k c H y v) : Ev k c H σ (δ.set i y) := by
  have bs : Bs c H := ⟨⟨fk.em, e.bs.dice, fk.om, fk.oe⟩, fun a m => e.bs.dom a (List.mem_cons_of_mem _ m)⟩
  have fm : ∀ {d v}, At k (c.add l) H d v → At k c H d v := fun {d v} h => At.fm (c := c.add l) (c' := c) (fun _ m => m) (fun _ _ m => List.mem_cons_of_mem _ m) h
  refine ⟨bs, fun j x hx => ?_⟩
  by_cases hj : j = i
  · subst hj
    rw [List.getElem?_set_self hi] at hx
    cases hx
    obtain ⟨v, hv, _⟩ := e.at_ j δ[j] (List.getElem?_eq_getElem hi)
    exact ⟨v, hv, hy v hv⟩
  · rw [List.getElem?_set_ne (Ne.symm hj)] at hx
    have nx := off.at j x (by rw [List.getElem?_set_ne (Ne.symm hj)]; exact hx)
    obtain ⟨v, hv, hc⟩ := e.at_ j x hx
    refine ⟨v, hv, ?_⟩
    have inO : ∀ {a}, a ∈ (c.add l).O → a ∈ x.adr → a ∈ c.O := fun {a} m ma => by
      rcases List.mem_cons.mp m with z | z
      · rw [z] at ma; exact absurd ma nx
      · exact z
    cases x with
    | no => trivial
    | d x => obtain ⟨u, e1, z⟩ := hc; exact ⟨u, e1, fm z⟩
    | own a ds => obtain ⟨e1, m, xs, q, z⟩ := hc; exact ⟨e1, inO m (by simp [Cell.adr]), xs, q, z.unadd⟩
    | owk a ks ds => obtain ⟨e1, m, xs, q, y, z⟩ := hc; exact ⟨e1, inO m (by simp [Cell.adr]), xs, q, y, z.unadd⟩
    | slf a dx C ds => obtain ⟨e1, m, m2, xs, q, q2, z⟩ := hc; exact ⟨e1, inO m (by simp [Cell.adr]), inO m2 (by simp [Cell.adr]), xs, q, q2, z.imp fun d v a => a.unadd⟩
    | ow2 a b ks ds kk ks2 ds2 => obtain ⟨e1, m1, m2, ne, xs, ys, q1, y1, z1, q2, y2, z2⟩ := hc; exact ⟨e1, inO m1 (by simp [Cell.adr]), inO m2 (by simp [Cell.adr]), ne, xs, ys, q1, y1, z1.unadd, q2, y2, z2.unadd⟩
/-- the list in slot i is no longer one's own -/
theorem pb_disown {l : Addr} {ds : List D} {sts : List Stmt} (i : Nat) (fk : Fok c) (hl : l ∉ c.M) (hd : δ[i]? = some (.own l ds)) (off : offAll l (δ.set i .no)) (q : PB X c (δ.set i (.d (.lst ds))) sts w) : PB X (c.add l) δ sts w := by
  refine PSs.mono q fun D σ H ⟨z, n, rt, bk⟩ => ?_
  have hi := (List.getElem?_eq_some_iff.mp hd).1
  have up : ∀ {H'}, Rl c.E c.O H H' → Rl (c.add l).E (c.add l).O H H' := fun {H'} r b o e => by
    rcases r b o e with z | z | ⟨m, z⟩
    · exact .inl z
    · exact .inr (.inl z)
    · exact .inr (.inr ⟨List.mem_cons_of_mem _ m, z⟩)
  refine ⟨ev_drop fk z off hi fun v hv => ?_, fun σ' H' δ' hn r e => n σ' H' δ' hn (up r) e, fun v H' d hr r a => rt v H' d hr (up r) a, fun σ' H' δ' hn r e => bk σ' H' δ' hn (up r) e⟩
  obtain ⟨v', hv', e1, m, xs, h1, hx⟩ := z.at_ i _ hd
  rw [hv] at hv'
  cases hv'
  exact ⟨.ref l, e1, l, xs, rfl, hl, h1, hx.unadd⟩
/-- .. is forgotten -/
theorem pb_forget {l : Addr} {sts : List Stmt} (i : Nat) (hi : i < δ.length) (fk : Fok c) (off : offAll l (δ.set i .no)) (q : PB X c (δ.set i .no) sts w) : PB X (c.add l) δ sts w := by
  refine PSs.mono q fun D σ H ⟨z, n, rt, bk⟩ => ?_
  have up : ∀ {H'}, Rl c.E c.O H H' → Rl (c.add l).E (c.add l).O H H' := fun {H'} r b o e => by
    rcases r b o e with z | z | ⟨m, z⟩
    · exact .inl z
    · exact .inr (.inl z)
    · exact .inr (.inr ⟨List.mem_cons_of_mem _ m, z⟩)
  exact ⟨ev_drop fk z off hi fun v hv => trivial, fun σ' H' δ' hn r e => n σ' H' δ' hn (up r) e, fun v H' d hr r a => rt v H' d hr (up r) a, fun σ' H' δ' hn r e => bk σ' H' δ' hn (up r) e⟩
/-- the dict in slot i is known for good from now on -/
theorem pb_lock {l : Addr} {ks : List Str} {ds : List D} {sts : List Stmt} (i : Nat) (fk : Fok c) (hl : l ∉ c.M) (hd : δ[i]? = some (.owk l ks ds)) (off : offAll l (δ.set i .no)) (q : PB X c (δ.set i (.d (.dct ks ds))) sts w) : PB X (c.add l) δ sts w := by
  refine PSs.mono (pss_freeze (fun σ H a => a = l ∧ ∃ kvs, H a = some (.dK kvs)) q) fun D σ H ⟨z, n, rt, bk⟩ => ?_
  have hi := (List.getElem?_eq_some_iff.mp hd).1
  obtain ⟨v', hv', e1, m, xs, h1, hk, hx⟩ := z.at_ i _ hd
  refine ⟨l, _, ⟨rfl, _, h1⟩, h1, fun o es ep hdt => ?_⟩
  have r0 : Rl (c.add l).E [l] H (upd H l (.frz o (.dK (kvz ks xs)))) := fun b u e => by
    by_cases hb : b = l
    · subst hb
      rw [h1] at e
      cases e
      exact .inr (.inr ⟨List.mem_singleton.mpr rfl, ownK_dK, _, upd_same⟩)
    · exact .inl (by rw [upd_ne hb]; exact e)
  have r0' : Rl (c.add l).E (c.add l).O H (upd H l (.frz o (.dK (kvz ks xs)))) := fun b u e => by
    rcases r0 b u e with z | z | ⟨m, z⟩
    · exact .inl z
    · exact .inr (.inl z)
    · exact .inr (.inr ⟨by rw [List.mem_singleton.mp m]; exact List.mem_cons_self, z⟩)
  have up : ∀ {H'}, Rl c.E c.O (upd H l (.frz o (.dK (kvz ks xs)))) H' → Rl (c.add l).E (c.add l).O H H' := fun {H'} r => by
    refine Rl.trans z.oe r0' fun b o e => ?_
    rcases r b o e with z | z | ⟨m, z⟩
    · exact .inl z
    · exact .inr (.inl z)
    · exact .inr (.inr ⟨List.mem_cons_of_mem _ m, z⟩)
  have z0 : Ev (kw X) (c.add l) H σ (δ.set i .no) := ⟨z.bs, fun j x hx => by
    by_cases hj : j = i
    · subst hj
      rw [List.getElem?_set_self hi] at hx
      cases hx
      exact ⟨v', hv', trivial⟩
    · rw [List.getElem?_set_ne (Ne.symm hj)] at hx
      exact z.at_ j x hx⟩
  have z1 : Ev (kw X) (c.add l) (upd H l (.frz o (.dK (kvz ks xs)))) σ (δ.set i .no) := z0.rlO (O := [l]) (fun a m => by rw [List.mem_singleton.mp m]; exact List.mem_cons_self) (fun j x hj a m => by rw [List.mem_singleton.mp m]; exact off.at j x hj) r0
  have fin := ev_drop (i := i) (y := .d (.dct ks ds)) fk z1 (by rw [List.set_set]; exact off) (by rw [List.length_set]; exact hi) (fun v hv => by
    rw [hv] at hv'
    cases hv'
    exact ⟨.ref l, e1, l, o, es, ep, xs, rfl, upd_same, hdt, hk, (hx.rl z.bs.toBw r0').unadd⟩)
  rw [List.set_set] at fin
  exact ⟨fin, fun σ' H' δ' hn r e => n σ' H' δ' hn (up r) e, fun v H' d hr r a => rt v H' d hr (up r) a, fun σ' H' δ' hn r e => bk σ' H' δ' hn (up r) e⟩
end
end G81
set_option maxRecDepth 100000
set_option maxHeartbeats 2000000
/-! what is done with one's own lists and dicts; dict comprehensions and displays; isinstance -/
namespace G81
open PySem PySem.Spec PyProof.Rows L2 SlX
section
variable {X : Cx} {c : Fm} {δ : List Cell} {e o k : Expr} {P : D → Prop} {pos apos cpos : Pos} {rest : List Stmt} {w : Wi} {l : Addr} {ds : List D}
/-- the thing at l, one's own, holds something else -/
theorem rl_own {E O : List Addr} {H : Hp} {o o' : HO} (m : l ∈ O) (h : H l = some o) (k : OwnK o) : Rl E O H (upd H l o') := fun b u e => by
  by_cases hb : b = l
  · subst hb
    rw [h] at e
    cases e
    exact .inr (.inr ⟨m, k, _, upd_same⟩)
  · exact .inl (by rw [upd_ne hb]; exact e)
theorem ev_put {kk : KW} {H : Hp} {σ : L2.St} {i : Nat} {o' : HO} {o : HO} {y : Cell} (z : Ev kk c H σ δ) (m : l ∈ c.O) (h : H l = some o) (kn : OwnK o) (hi : i < δ.length) (off : offAll l (δ.set i .no)) (hy : ∀ v, σ[i]? = some v → CellAt kk c (upd H l o') y v) : Ev kk c (upd H l o') σ (δ.set i y) := by
  have z0 : Ev kk c H σ (δ.set i .no) := ⟨z.bs, fun j x hx => by
    by_cases hj : j = i
    · subst hj
      rw [List.getElem?_set_self hi] at hx
      cases hx
      obtain ⟨v, hv, _⟩ := z.at_ j δ[j] (List.getElem?_eq_getElem hi)
      exact ⟨v, hv, trivial⟩
    · rw [List.getElem?_set_ne (Ne.symm hj)] at hx
      exact z.at_ j x hx⟩
  have z1 : Ev kk c (upd H l o') σ (δ.set i .no) := z0.rlO (O := [l]) (fun a m' => by rw [List.mem_singleton.mp m']; exact m) (fun j x hj a m => by rw [List.mem_singleton.mp m]; exact off.at j x hj) (rl_own (List.mem_singleton.mpr rfl) h kn)
  refine ⟨z1.bs, fun j x hx => ?_⟩
  by_cases hj : j = i
  · subst hj
    rw [List.getElem?_set_self hi] at hx
    cases hx
    obtain ⟨v, hv, _⟩ := z.at_ j δ[j] (List.getElem?_eq_getElem hi)
    exact ⟨v, hv, hy v hv⟩
  · rw [List.getElem?_set_ne (Ne.symm hj)] at hx
    exact z1.at_ j x (by rw [List.getElem?_set_ne (Ne.symm hj)]; exact hx)
theorem tB_own {D : Ends} {δ' : List Cell} {σ σ' : L2.St} {H H' : Hp} (z : tB (kw X) c δ w D σ H) (r : Rl c.E c.O H H') (e : Ev (kw X) c H' σ' δ') : tB (kw X) c δ' w D σ' H' := by
  obtain ⟨z, n, rt, bk⟩ := z
  exact ⟨e, fun σ' H2 δ' hn r2 e2 => n σ' H2 δ' hn (Rl.trans z.oe r r2) e2, fun v H2 d' hr r2 a2 => rt v H2 d' hr (Rl.trans z.oe r r2) a2, fun σ' H2 δ' hn r2 e2 => bk σ' H2 δ' hn (Rl.trans z.oe r r2) e2⟩
theorem pe_slot {z : Str} (i : Nat) (hN : X.N[i]? = some z) (hv : Vis X.env.scope z) (h1 : (z == ("__debug__" : Str)) = false) (h2 : (z == ("__classdict__" : Str)) = false) : PE X (.Name z pos) (tVar i) := pe_var hN hv h1 h2
theorem own_keep {H H' : Hp} {o : HO} (oe : ∀ b ∈ c.O, b ∉ c.E) (m : l ∈ c.O) (r : Rl c.E [] H H') (h : H l = some o) : H' l = some o := by
  rcases r l o h with z | ⟨z, _⟩ | ⟨z, _⟩
  · exact z
  · exact absurd z (oe l m)
  · cases z
/-- x.append(e), x one's own -/
theorem pb_app {z : Str} {zp : Pos} (i : Nat) (hd : δ[i]? = some (.own l ds)) (he : PX X c δ e P) (off : offAll l (δ.set i .no)) (hz : ds.length < sizeLine) (q : ∀ d, P d → PB X c (δ.set i (.own l (ds ++ [d]))) rest w)
    (hN : X.N[i]? = some z := by rfl) (hv : Vis X.env.scope z := by first | exact Or.inl rfl | exact Or.inr (Or.inl rfl) | exact Or.inr (Or.inr rfl)) (h1 : (z == ("__debug__" : Str)) = false := by decide) (h2 : (z == ("__classdict__" : Str)) = false := by decide)
    (hbase : attributeBase (.Name z zp) "append" X.env (eval (.Name z zp) X.env) = eval (.Name z zp) X.env := by rfl)
    (hfew : ((backTo cpos (starEach [e] X.env)).all (fun x => !x.1) && (backToKw cpos (keywordEach [] X.env)).all (fun x => x.1.isSome) && decide (([e] : List Expr).length + ([] : List Keyword).length + (if ([] : List Keyword).isEmpty then 0 else 1) < 30)) = true := by rfl)
    (hline : (apos.endLine == cpos.line) = true := by rfl) (hs : starEach [e] X.env = (false, eval e X.env) :: starEach [] X.env := by rfl) (hplain : (backTo cpos (starEach [] X.env)).any (·.1) = false := by rfl)
    (hsw : swapsWith (.Call (.Attribute (.Name z zp) "append" apos) [e] [] cpos) none pos.line X.env = pure false := by rfl) :
    PB X c δ (.Expr (.Call (.Attribute (.Name z zp) "append" apos) [e] [] cpos) pos :: rest) w := by
  have key : PSs X rest (fun D σ H => ∃ d, P d ∧ tB (kw X) c (δ.set i (.own l (ds ++ [d]))) w D σ H) := ⟨fun pins s σ H D I ⟨d, p, z⟩ => (q d p).run pins s σ H D I z⟩
  have hi := (List.getElem?_eq_some_iff.mp hd).1
  refine PSs.mono (pss_cons (ps_expr (pe_bm PySem.F.plainAttrs_list PySem.F.slot_list_append PySem.F.type_list_append mt_append (pe_slot i hN hv h1 h2) (pa_cons he pa_nil hs) hbase hfew hline hs hplain) hsw) key) fun D σ H tb => ?_
  obtain ⟨v, e0, e1, m, xs, hl, hx⟩ := tb.1.at_ i _ hd
  subst e1
  refine ⟨.ref l, e0, .inl ⟨rfl, xs, SqL.of hl⟩, tb.1, fun y H1 d p r a => ?_⟩
  have ev1 := tb.1.rl r
  have hl1 := own_keep tb.1.oe m r hl
  have hx1 := hx.rl tb.1.bs.toBw (Rl.wide (O := c.O) r)
  refine ⟨l, xs, y, rfl, rfl, hl1, by rw [hx.length]; exact hz, d, p, tB_own tb (r.wide.trans tb.1.oe (rl_own m hl1 ownK_lst)) (ev_put ev1 m hl1 ownK_lst hi off fun v hv => ?_)⟩
  rw [e0] at hv
  cases hv
  exact ⟨rfl, m, xs ++ [y], upd_same, (hx1.append (Ats.one a)).rl ev1.bs.toBw (rl_own m hl1 ownK_lst)⟩
/-- x.extend(e), x one's own, e a list or a tuple -/
theorem pb_ext {z : Str} {zp : Pos} {ms : List D} {x : D} (i : Nat) (hd : δ[i]? = some (.own l ds)) (he : PV X c δ e x) (hx : x = .lst ms ∨ x = .tup ms) (off : offAll l (δ.set i .no)) (hz : ds.length + ms.length ≤ sizeLine) (q : PB X c (δ.set i (.own l (ds ++ ms))) rest w)
    (hN : X.N[i]? = some z := by rfl) (hv : Vis X.env.scope z := by first | exact Or.inl rfl | exact Or.inr (Or.inl rfl) | exact Or.inr (Or.inr rfl)) (h1 : (z == ("__debug__" : Str)) = false := by decide) (h2 : (z == ("__classdict__" : Str)) = false := by decide)
    (hbase : attributeBase (.Name z zp) "extend" X.env (eval (.Name z zp) X.env) = eval (.Name z zp) X.env := by rfl)
    (hfew : ((backTo cpos (starEach [e] X.env)).all (fun x => !x.1) && (backToKw cpos (keywordEach [] X.env)).all (fun x => x.1.isSome) && decide (([e] : List Expr).length + ([] : List Keyword).length + (if ([] : List Keyword).isEmpty then 0 else 1) < 30)) = true := by rfl)
    (hline : (apos.endLine == cpos.line) = true := by rfl) (hs : starEach [e] X.env = (false, eval e X.env) :: starEach [] X.env := by rfl) (hplain : (backTo cpos (starEach [] X.env)).any (·.1) = false := by rfl)
    (hsw : swapsWith (.Call (.Attribute (.Name z zp) "extend" apos) [e] [] cpos) none pos.line X.env = pure false := by rfl) :
    PB X c δ (.Expr (.Call (.Attribute (.Name z zp) "extend" apos) [e] [] cpos) pos :: rest) w := by
  have hi := (List.getElem?_eq_some_iff.mp hd).1
  have rule : MtR X "list.extend" (fun x vs H Q => rExtend x vs H Q ∨ rExtT X.K x vs H Q) := MtR.or mt_extend mt_extT
  refine PSs.mono (pss_cons (ps_expr (pe_bm PySem.F.plainAttrs_list PySem.F.slot_list_extend PySem.F.type_list_extend rule (pe_slot i hN hv h1 h2) (pa_cons he pa_nil hs) hbase hfew hline hs hplain) hsw) q) fun D σ H tb => ?_
  obtain ⟨v, e0, e1, m, xs, hl, hxs⟩ := tb.1.at_ i _ hd
  subst e1
  refine ⟨.ref l, e0, .inl ⟨rfl, xs, SqL.of hl⟩, tb.1, fun y H1 d p r a => ?_⟩
  cases (show d = _ from p)
  have ev1 := tb.1.rl r
  have hl1 := own_keep tb.1.oe m r hl
  have hx1 := hxs.rl tb.1.bs.toBw (Rl.wide (O := c.O) r)
  have fin : ∀ {ys : List V}, Ats (kw X) c H1 ms ys → tB (kw X) c (δ.set i (.own l (ds ++ ms))) w D σ (upd H1 l (.lst (xs ++ ys))) := fun {ys} hy =>
    tB_own tb (r.wide.trans tb.1.oe (rl_own m hl1 ownK_lst)) (ev_put ev1 m hl1 ownK_lst hi off fun v hv => by
      rw [e0] at hv
      cases hv
      exact ⟨rfl, m, xs ++ ys, upd_same, (hx1.append hy).rl ev1.bs.toBw (rl_own m hl1 ownK_lst)⟩)
  rcases hx with rfl | rfl
  · obtain ⟨b, ys, rfl, hb, hb2, hy⟩ := a
    exact .inl ⟨l, b, xs, ys, rfl, rfl, hl1, hb2, by rw [hxs.length, hy.length]; exact hz, fin hy⟩
  · obtain ⟨b, ys, rfl, hb, hy⟩ := a
    exact .inr ⟨l, b, xs, ys, rfl, rfl, hl1, hb, by rw [hxs.length, hy.length]; exact hz, fin hy⟩
/-- y = x.pop(), x one's own -/
theorem pb_pop {z y : Str} {zp yp : Pos} {d : D} (i j : Nat) (hd : δ[i]? = some (.own l (ds ++ [d]))) (off : offAll l (δ.set i .no)) (q : PB X c ((δ.set i (.own l ds)).set j (.d d)) rest w) (hNd : X.N.Nodup)
    (hN : X.N[i]? = some z := by rfl) (hj : X.N[j]? = some y := by rfl) (hv : Vis X.env.scope z := by first | exact Or.inl rfl | exact Or.inr (Or.inl rfl) | exact Or.inr (Or.inr rfl)) (h1 : (z == ("__debug__" : Str)) = false := by decide) (h2 : (z == ("__classdict__" : Str)) = false := by decide)
    (hy : Loc X.env.scope y := by first | exact Or.inl rfl | exact Or.inr rfl) (hf : X.fn y = true ∨ X.env.scope.names.lookup y = some .local := by first | exact .inl rfl | exact .inr rfl)
    (hbase : attributeBase (.Name z zp) "pop" X.env (eval (.Name z zp) X.env) = eval (.Name z zp) X.env := by rfl) (hline : (apos.endLine == cpos.line) = true := by rfl)
    (hsw : swapsWith (.Call (.Attribute (.Name z zp) "pop" apos) [] [] cpos) (some (.Name y yp)) pos.line X.env = pure false := by rfl) :
    PB X c δ (.Assign [.Name y yp] (.Call (.Attribute (.Name z zp) "pop" apos) [] [] cpos) pos :: rest) w := by
  have hi := (List.getElem?_eq_some_iff.mp hd).1
  refine PSs.mono (pss_cons (ps_set hNd hj hy (pe_bm0 PySem.F.plainAttrs_list PySem.F.slot_list_pop PySem.F.type_list_pop mt_pop (pe_slot i hN hv h1 h2) hbase hline) hsw hf) q) fun D σ H tb => ?_
  obtain ⟨v, e0, e1, m, xs, hl, hxs⟩ := tb.1.at_ i _ hd
  subst e1
  refine ⟨.ref l, e0, .inl ⟨rfl, xs, SqL.of hl⟩, ?_⟩
  obtain ⟨xs', x, rfl, hx1, hx2⟩ := snoc_of hxs
  refine ⟨l, xs' ++ [x], x, rfl, rfl, hl, by rw [List.length_append]; simp, ?_⟩
  rw [List.dropLast_concat]
  have e2 : Ev (kw X) c (upd H l (.lst xs')) σ (δ.set i (.own l ds)) := ev_put tb.1 m hl ownK_lst hi off fun v hv => by
    rw [e0] at hv
    cases hv
    exact ⟨rfl, m, xs', upd_same, hx1.rl tb.1.bs.toBw (rl_own m hl ownK_lst)⟩
  exact tB_own tb (rl_own m hl ownK_lst) (e2.set j (x := .d d) ⟨x, rfl, hx2.rl tb.1.bs.toBw (rl_own m hl ownK_lst)⟩)
where snoc_of {kk : KW} {H : Hp} {d : D} : ∀ {ds : List D} {xs : List V}, Ats kk c H (ds ++ [d]) xs → ∃ xs' x, xs = xs' ++ [x] ∧ Ats kk c H ds xs' ∧ At kk c H d x := by
        intro ds
        induction ds with
        | nil => intro xs h; obtain ⟨x, t, rfl, p, rfl⟩ := h; exact ⟨[], x, rfl, rfl, p⟩
        | cons e ds ih =>
          intro xs h
          obtain ⟨x, t, rfl, p, q⟩ := h
          obtain ⟨xs', y, rfl, h1, h2⟩ := ih q
          exact ⟨x :: xs', y, rfl, ⟨x, xs', rfl, p, h1⟩, h2⟩
/-- what one owns, read within an expression: the result holds no list of one's own -/
def flat : D → Prop
  | .int _ | .bl _ | .txt _ | .non => True
  | _ => False
theorem flat.any {kk : KW} {c' : Fm} {H : Hp} {d : D} {v : V} (h : flat d) (a : At kk c H d v) : At kk c' H d v := by
  cases d with
  | int i => exact a
  | bl i => exact a
  | txt i => exact a
  | non => exact a
  | _ => exact h.elim
theorem px_borrow (i : Nat) {c0 : Fm} (hc : c = c0.add l) (fk : Fok c0) (hl : l ∉ c0.M) (hd : δ[i]? = some (.own l ds)) (off : offAll l (δ.set i .no)) (he : PX X c0 (δ.set i (.d (.lst ds))) e P) (hf : ∀ d, P d → flat d) : PX X c δ e P := by
  subst hc
  refine PE.mono he fun σ H Q ⟨z, w⟩ => ⟨?_, fun v H' d p r a => w v H' d p r ((hf d p).any a)⟩
  have hi := (List.getElem?_eq_some_iff.mp hd).1
  refine ev_drop fk z off hi fun v hv => ?_
  obtain ⟨v', hv', e1, m, xs, h1, hx⟩ := z.at_ i _ hd
  rw [hv] at hv'
  cases hv'
  exact ⟨.ref l, e1, l, xs, rfl, hl, h1, hx.unadd⟩
theorem px_borrowK (i : Nat) {ks : List Str} {c0 : Fm} (hc : c = c0.add l) (fk : Fok c0) (hl : l ∉ c0.M) (hd : δ[i]? = some (.owk l ks ds)) (off : offAll l (δ.set i .no)) (he : PX X c0 (δ.set i (.d (.mdc ks ds))) e P) (hf : ∀ d, P d → flat d) : PX X c δ e P := by
  subst hc
  refine PE.mono he fun σ H Q ⟨z, w⟩ => ⟨?_, fun v H' d p r a => w v H' d p r ((hf d p).any a)⟩
  have hi := (List.getElem?_eq_some_iff.mp hd).1
  refine ev_drop fk z off hi fun v hv => ?_
  obtain ⟨v', hv', e1, m, xs, h1, hk, hx⟩ := z.at_ i _ hd
  rw [hv] at hv'
  cases hv'
  exact ⟨.ref l, e1, l, xs, rfl, hl, h1, hk, hx.unadd⟩
end
/-! ### d[k] = v, d[k] += n -/
section
theorem kvz_any {z : Str} : ∀ {ks : List Str} {xs : List V}, ks.length = xs.length → ((kvz ks xs).any fun kv => decide (kv.1 = Sum.inr z)) = decide (z ∈ ks)
  | [], xs, _ => by cases xs <;> simp [kvz]
  | k :: ks, [], h => by simp at h
  | k :: ks, x :: xs, h => by
    rw [kvz_cons, List.any_cons, kvz_any (by simpa using h)]
    by_cases e : k = z
    · subst e; simp
    · have e1 : ¬ (Sum.inr k : Key) = Sum.inr z := fun q => e (Sum.inr.inj q)
      have e2 : ¬ z = k := fun q => e q.symm
      simp [e1, e2]
theorem kvz_map {z : Str} {v : V} : ∀ {ks : List Str} {xs : List V}, (kvz ks xs).map (fun kv => if kv.1 = Sum.inr z then (kv.1, v) else kv) = kvz ks (List.zipWith (fun k x => if k = z then v else x) ks xs)
  | [], xs => by cases xs <;> rfl
  | k :: ks, [] => rfl
  | k :: ks, x :: xs => by
    rw [kvz_cons, List.map_cons, kvz_map, List.zipWith_cons_cons, kvz_cons]
    by_cases e : k = z
    · subst e; simp
    · have e1 : ¬ (Sum.inr k : Key) = Sum.inr z := fun q => e (Sum.inr.inj q)
      simp [e, e1]
theorem kvz_snoc {z : Str} {v : V} : ∀ {ks : List Str} {xs : List V}, ks.length = xs.length → kvz ks xs ++ [(Sum.inr z, v)] = kvz (ks ++ [z]) (xs ++ [v])
  | [], [], _ => rfl
  | [], x :: xs, h => by simp at h
  | k :: ks, [], h => by simp at h
  | k :: ks, x :: xs, h => by rw [kvz_cons, List.cons_append, List.cons_append, List.cons_append, kvz_cons, kvz_snoc (by simpa using h)]
theorem ats_zip {kk : KW} {c : Fm} {H : Hp} {z : Str} {d : D} {v : V} (ad : At kk c H d v) : ∀ {ks : List Str} {l : List D} {xs : List V}, Ats kk c H l xs → Ats kk c H (List.zipWith (fun k e => if k = z then d else e) ks l) (List.zipWith (fun k x => if k = z then v else x) ks xs)
  | [], _, _, _ => by simp [Ats]
  | _ :: _, [], _, a => by rw [show _ = [] from a]; simp [Ats]
  | k :: ks, e :: l, _, a => by
    obtain ⟨x, t, rfl, p, q⟩ := a
    rw [List.zipWith_cons_cons, List.zipWith_cons_cons]
    refine ⟨_, _, rfl, ?_, ats_zip ad q⟩
    by_cases h : k = z
    · rw [if_pos h, if_pos h]; exact ad
    · rw [if_neg h, if_neg h]; exact p
theorem put_kvz {ks : List Str} {l : List D} {xs : List V} {z : Str} {d : D} {v : V} {kk : KW} {c : Fm} {H : Hp} (hk : ks.length = xs.length) (a : Ats kk c H l xs) (ad : At kk c H d v) :
    ∃ xs', putK (kvz ks xs) (Sum.inr z) v = kvz (putD ks l z d).1 xs' ∧ (putD ks l z d).1.length = xs'.length ∧ Ats kk c H (putD ks l z d).2 xs' := by
  unfold putK putD
  rw [kvz_any hk]
  by_cases h : z ∈ ks
  · rw [if_pos (by simp [h]), if_pos h]
    exact ⟨_, kvz_map, by rw [List.length_zipWith]; show ks.length = _; omega, ats_zip ad a⟩
  · rw [if_neg (by simp [h]), if_neg h]
    exact ⟨xs ++ [v], kvz_snoc hk, by simp [hk], a.append (Ats.one ad)⟩
variable {X : Cx} {c : Fm} {δ : List Cell} {e o k : Expr} {P : D → Prop} {pos apos cpos tpos : Pos} {rest : List Stmt} {w : Wi} {l : Addr} {ks : List Str} {ds : List D}
/-- x[k] = e, x a dict of one's own -/
theorem pb_dput {z s : Str} {zp : Pos} (i : Nat) (hu : X.A.units + 1 < cLine) (hd : δ[i]? = some (.owk l ks ds)) (he : PX X c δ e P) (hk : PV X c δ k (.txt s)) (off : offAll l (δ.set i .no)) (hz : ks.length < sizeLine) (q : ∀ d, P d → PB X c (δ.set i (.owk l (putD ks ds s d).1 (putD ks ds s d).2)) rest w)
    (hN : X.N[i]? = some z := by rfl) (hv : Vis X.env.scope z := by first | exact Or.inl rfl | exact Or.inr (Or.inl rfl) | exact Or.inr (Or.inr rfl)) (h1 : (z == ("__debug__" : Str)) = false := by decide) (h2 : (z == ("__classdict__" : Str)) = false := by decide)
    (hsw : swapsWith e (some (.Subscript (.Name z zp) k tpos)) pos.line X.env = pure false := by rfl) : PB X c δ (.Assign [.Subscript (.Name z zp) k tpos] e pos :: rest) w := by
  have key : PSs X rest (fun D σ H => ∃ d, P d ∧ tB (kw X) c (δ.set i (.owk l (putD ks ds s d).1 (putD ks ds s d).2)) w D σ H) := ⟨fun pins s σ H D I ⟨d, p, z⟩ => (q d p).run pins s σ H D I z⟩
  have hi := (List.getElem?_eq_some_iff.mp hd).1
  refine PSs.mono (pss_cons (ps_dput hu (pe_slot i hN hv h1 h2) hk he hsw) key) fun D σ H tb => ⟨tb.1, fun y H1 d p r a => ?_⟩
  obtain ⟨v, e0, e1, m, xs, hl, hlen, hx⟩ := tb.1.at_ i _ hd
  subst e1
  refine ⟨.ref l, e0, tb.1.rl r, fun y2 H2 d2 p2 r2 a2 => ?_⟩
  cases (show d2 = _ from p2)
  cases (show y2 = _ from a2)
  have r12 := r.trans0 r2
  have ev2 := tb.1.rl r12
  have hl2 := own_keep tb.1.oe m r12 hl
  obtain ⟨xs', e3, e4, e5⟩ := put_kvz (z := s) hlen (hx.rl tb.1.bs.toBw (Rl.wide (O := c.O) r12)) (a.rl (tb.1.rl r).bs.toBw (Rl.wide (O := c.O) r2))
  refine ⟨l, _, rfl, DPut.k (k := Sum.inr s) hl2 (by rw [kvz_len hlen]; exact hz), d, p, ?_⟩
  rw [e3]
  refine tB_own tb (r12.wide.trans tb.1.oe (rl_own m hl2 ownK_dK)) (ev_put ev2 m hl2 ownK_dK hi off fun v hv => ?_)
  rw [e0] at hv
  cases hv
  exact ⟨rfl, m, xs', upd_same, e4, e5.rl ev2.bs.toBw (rl_own m hl2 ownK_dK)⟩
/-- x[k] += e, of ints -/
theorem pb_daug {z s : Str} {zp : Pos} {n j : Int} (i : Nat) (hu : X.A.units + 1 < cLine) (hd : δ[i]? = some (.owk l ks ds)) (hlk : lookD ks ds s = some (.int n)) (hk : PV X c δ k (.txt s)) (he : PV X c δ e (.int j)) (off : offAll l (δ.set i .no)) (hz : ks.length < sizeLine)
    (q : PB X c (δ.set i (.owk l (putD ks ds s (.int (n + j))).1 (putD ks ds s (.int (n + j))).2)) rest w)
    (hN : X.N[i]? = some z := by rfl) (hv : Vis X.env.scope z := by first | exact Or.inl rfl | exact Or.inr (Or.inl rfl) | exact Or.inr (Or.inr rfl)) (h1 : (z == ("__debug__" : Str)) = false := by decide) (h2 : (z == ("__classdict__" : Str)) = false := by decide)
    (ha : ∀ ov iv new, augStore k ov iv new = (do holding [new, ov, iv] (setItem ov iv new); release [new, ov, iv] []; pure .next) := by intros; rfl) : PB X c δ (.AugAssign (.Subscript (.Name z zp) k tpos) .Add e pos :: rest) w := by
  have hi := (List.getElem?_eq_some_iff.mp hd).1
  refine PSs.mono (pss_cons (ps_daug hu (pe_slot i hN hv h1 h2) hk he in_add ha) q) fun D σ H tb => ?_
  obtain ⟨v, e0, e1, m, xs, hl, hlen, hx⟩ := tb.1.at_ i _ hd
  subst e1
  refine ⟨.ref l, e0, tb.1, fun y2 H2 d2 p2 r2 a2 => ?_⟩
  cases (show d2 = _ from p2)
  cases (show y2 = _ from a2)
  have ev2 := tb.1.rl r2
  have hl2 := own_keep tb.1.oe m r2 hl
  have hx2 := hx.rl tb.1.bs.toBw (Rl.wide (O := c.O) r2)
  obtain ⟨u, hu2, au⟩ := look_some (ks := ks) hx2 hlk
  cases (show u = _ from au)
  refine ⟨l, .int n, rfl, .inl ⟨_, .inr s, .inl hl2, rfl, hu2.symm⟩, ev2, fun y3 H3 d3 p3 r3 a3 => ?_⟩
  cases (show d3 = _ from p3)
  cases (show y3 = _ from a3)
  have r13 := r2.trans0 r3
  have ev3 := tb.1.rl r13
  have hl3 := own_keep tb.1.oe m r13 hl
  have hx3 := hx.rl tb.1.bs.toBw (Rl.wide (O := c.O) r13)
  obtain ⟨xs', e3, e4, e5⟩ := put_kvz (z := s) (d := .int (n + j)) (v := .int (n + j)) hlen hx3 rfl
  refine ⟨n, j, rfl, rfl, _, DPut.k (k := Sum.inr s) hl3 (by rw [kvz_len hlen]; exact hz), ?_⟩
  rw [e3]
  refine tB_own tb (r13.wide.trans tb.1.oe (rl_own m hl3 ownK_dK)) (ev_put ev3 m hl3 ownK_dK hi off fun v hv => ?_)
  rw [e0] at hv
  cases hv
  exact ⟨rfl, m, xs', upd_same, e4, e5.rl ev3.bs.toBw (rl_own m hl3 ownK_dK)⟩
end
end G81
set_option maxRecDepth 100000
set_option maxHeartbeats 2000000
/-! isinstance, dict comprehensions and displays, stars, texts, slices, own objects walked and measured -/
namespace G81
open PySem PySem.Spec PyProof.Rows L2 SlX
section
variable {X : Cx} {c : Fm} {δ : List Cell} {e e2 o a b : Expr} {es : List Expr} {P A B : D → Prop} {d x y : D} {pos p apos cpos : Pos}
/-! isinstance -/
theorem pv_isi {v2 : V} {u2 : Value} {k : Bool} (hm : X.mg "isinstance" = none) (he : PV X c δ e d) (h2 : PE X e2 (tC v2)) (hk : ClsV v2 u2) (ty : ∀ H v, At (kw X) c H d v → ∃ t, TyX X.K H v t ∧ PySem.W.kitOne X.K t u2 = some k) (hg : Gl X "isinstance" := by rfl)
    (hs : starEach [e, e2] X.env = (false, eval e X.env) :: starEach [e2] X.env := by rfl) (hs2 : starEach [e2] X.env = (false, eval e2 X.env) :: starEach [] X.env := by rfl) (hpl : (backTo pos (starEach [e2] X.env)).any (·.1) = false := by rfl) : PV X c δ (.Call (.Name "isinstance" p) [e, e2] [] pos) (.bl k) :=
  PE.mono (pe_callB call_isi hg hm boot_isinstance (pa_cons he (pa_cons h2 pa_nil hs2) hs) (by decide) (by decide) hs hpl) fun σ H Q ⟨z, w⟩ => ⟨z, fun v H1 d' q r a => by
    cases (show d' = _ from q)
    obtain ⟨t, h1, h2⟩ := ty H1 v a
    exact ⟨v, v2, t, u2, k, rfl, hk, h1, h2, w _ H1 _ rfl r rfl⟩⟩
theorem ty_int {K : PySem.W.Frag} {H : Hp} {i : Int} {v : V} {k : KW} {c : Fm} {T : String} {b : Bool} (h : kitB "int" T = some b) (a : At k c H (.int i) v) : ∃ t, TyX K H v t ∧ PySem.W.kitOne K t (.type T) = some b := ⟨_, .base (by cases (show v = _ from a); exact .int i), kit_ty h⟩
theorem ty_txt {K : PySem.W.Frag} {H : Hp} {i : Str} {v : V} {k : KW} {c : Fm} {T : String} {b : Bool} (h : kitB "str" T = some b) (a : At k c H (.txt i) v) : ∃ t, TyX K H v t ∧ PySem.W.kitOne K t (.type T) = some b := ⟨_, .base (by cases (show v = _ from a); exact .str i), kit_ty h⟩
theorem ty_tup {k : KW} {H : Hp} {l : List D} {v : V} {c : Fm} {T : String} {b : Bool} (h : kitB "tuple" T = some b) (a : At k c H (.tup l) v) : ∃ t, TyX k.K H v t ∧ PySem.W.kitOne k.K t (.type T) = some b := by
  obtain ⟨p, xs, rfl, hp, _⟩ := a
  refine ⟨.type "tuple", ?_, kit_ty h⟩
  rcases hp with (hp | ⟨o, hp⟩) | ⟨o, its, n, h1, h2, _⟩
  · exact .base (.tup hp)
  · exact .fTuple hp
  · exact .kTuple h1 h2
theorem ty_dct {k : KW} {H : Hp} {ks : List Str} {l : List D} {v : V} {c : Fm} {T : String} {b : Bool} (h : kitB "dict" T = some b) (a : At k c H (.dct ks l) v) : ∃ t, TyX k.K H v t ∧ PySem.W.kitOne k.K t (.type T) = some b := by
  obtain ⟨p, o, _, _, xs, rfl, hp, _⟩ := a
  exact ⟨.type "dict", .fDict hp, kit_ty h⟩
/-- an instance with slots of its own class -/
theorem pv_isiSl {C : Addr} {l : List D} (hm : X.mg "isinstance" = none) (he : PV X c δ e (.obj C l)) (h2 : PE X e2 (tC (.ref C))) (hc : SCls X.K C) (hi : SIsi X.K C) (hg : Gl X "isinstance" := by rfl)
    (hs : starEach [e, e2] X.env = (false, eval e X.env) :: starEach [e2] X.env := by rfl) (hs2 : starEach [e2] X.env = (false, eval e2 X.env) :: starEach [] X.env := by rfl) (hpl : (backTo pos (starEach [e2] X.env)).any (·.1) = false := by rfl) : PV X c δ (.Call (.Name "isinstance" p) [e, e2] [] pos) (.bl true) :=
  PE.mono (pe_callB (call_isiSl (.ref C)) hg hm boot_isinstance (pa_cons he (pa_cons h2 pa_nil hs2) hs) (by decide) (by decide) hs hpl) fun σ H Q ⟨z, w⟩ => ⟨z, fun v H1 d' q r a => by
    cases (show d' = _ from q)
    obtain ⟨b, dx, xs, rfl, hsl, hx⟩ := obj_slt a
    refine ⟨b, C, dx, _, .ref C, true, rfl, rfl, fun w h => h, hsl, hc, hi, ?_, w _ H1 _ rfl r rfl⟩
    unfold PySem.W.kitOne
    rw [beq_self_eq_true, if_pos rfl]⟩
/-! stars among the items of a display -/
theorem pxs_star {As : List D → Prop} {l : List D} (hx : x = .lst l ∨ x = .tup l) (he : PV X c δ e x) (hr : PXs X c δ es As) (hs : starEach (.Starred e p :: es) X.env = (true, eval e X.env) :: starEach es X.env := by rfl) : PXs X c δ (.Starred e p :: es) (fun m => ∃ r, m = l ++ r ∧ As r) := by
  refine PA.mono (StX.pa_star he hr hs) fun σ H Q ⟨z, w⟩ => ⟨z, fun v H1 d q r a => ?_⟩
  cases (show d = _ from q)
  have go : ∀ (xs : List V), Ats (kw X) c H1 l xs → tXs (kw X) c δ As σ H1 (fun ys H2 => Q (xs ++ ys) H2) := fun xs hx => ⟨z.rl r, fun ys H2 m q2 r2 a2 => w _ H2 (l ++ m) ⟨m, rfl, q2⟩ (r.trans0 r2) ((hx.rl (z.rl r).bs.toBw (Rl.wide (O := c.O) r2)).append a2)⟩
  rcases hx with rfl | rfl
  · obtain ⟨b, xs, rfl, hb, hb2, hxs⟩ := a
    exact ⟨b, xs, rfl, .inr (SqL.of hb2), go xs hxs⟩
  · obtain ⟨b, xs, rfl, hb, hxs⟩ := a
    exact ⟨b, xs, rfl, .inl hb, go xs hxs⟩
theorem pxs_starVals {As : List D → Prop} {ks : List Str} {l : List D} (hc : X.calm = true) (he : PV X c δ e (.dct ks l)) (hr : PXs X c δ es As) (hbase : attributeBase e "values" X.env (eval e X.env) = eval e X.env := by rfl) (hline : (apos.endLine == cpos.line) = true := by rfl)
    (hs : starEach (.Starred (.Call (.Attribute e "values" apos) [] [] cpos) p :: es) X.env = (true, eval (.Call (.Attribute e "values" apos) [] [] cpos) X.env) :: starEach es X.env := by rfl) : PXs X c δ (.Starred (.Call (.Attribute e "values" apos) [] [] cpos) p :: es) (fun m => ∃ r, m = l ++ r ∧ As r) := by
  refine PA.mono (pa_starVals hc (pe_vals he hbase hline) hr hs) fun σ H Q ⟨z, w⟩ => ⟨z, fun v H1 d q r a => ?_⟩
  cases (show d = _ from q)
  obtain ⟨b, o, es, ep, xs, rfl, hb, hd, hl, hx⟩ := a
  refine ⟨b, _, rfl, .inr ⟨o, hb⟩, fun v hv => ⟨v, b, _, rfl, upd_same, .inr ⟨o, by rw [upd_ne (ne_of_none hb hv)]; exact hb⟩, ?_⟩⟩
  have r1 := r.trans0 (Rl.new (E := c.E) (o := ValsO b v) hv)
  refine ⟨z.rl r1, fun ys H2 m q2 r2 a2 => ?_⟩
  rw [kvz_snd hl]
  exact w _ H2 (l ++ m) ⟨m, rfl, q2⟩ (r1.trans0 r2) (((hx.rl (z.rl r).bs.toBw (Rl.new hv)).rl (z.rl r1).bs.toBw (Rl.wide (O := c.O) r2)).append a2)
/-! sum(d.values()), list(d.values()) -/
theorem pv_sumVals {ks : List Str} {ns : List Int} {p2 : Pos} (hm : X.mg "sum" = none) (he : PV X c δ e (.dct ks (ns.map D.int))) (hc : X.calm = true := by rfl) (hg : Gl X "sum" := by rfl) (hbase : attributeBase e "values" X.env (eval e X.env) = eval e X.env := by rfl) (hline : (apos.endLine == cpos.line) = true := by rfl)
    (hs : starEach [.Call (.Attribute e "values" apos) [] [] cpos] X.env = (false, eval (.Call (.Attribute e "values" apos) [] [] cpos) X.env) :: starEach [] X.env := by rfl) (hpl : (backTo pos (starEach [] X.env)).any (·.1) = false := by rfl) : PV X c δ (.Call (.Name "sum" p2) [.Call (.Attribute e "values" apos) [] [] cpos] [] pos) (.int ns.sum) :=
  PE.mono (pe_callB (call_sumVals hc) hg hm boot_sum (pa_cons (pe_vals he hbase hline) pa_nil hs) (by decide) (by decide) hs hpl) fun σ H Q ⟨z, w⟩ => ⟨z, fun v H1 d q r a => by
    cases (show d = _ from q)
    obtain ⟨b, o, es, ep, xs, rfl, hb, hd, hl, hx⟩ := a
    refine ⟨b, _, rfl, .inr ⟨o, hb⟩, fun v hv => ⟨v, b, _, ns, rfl, upd_same, .inr ⟨o, by rw [upd_ne (ne_of_none hb hv)]; exact hb⟩, ?_, ?_⟩⟩
    · rw [kvz_snd hl, hx.ints]
    · exact w _ _ _ rfl (r.trans0 (Rl.new hv)) rfl⟩
theorem pn_listVals {ks : List Str} {l : List D} {p2 : Pos} (hm : X.mg "list" = none) (he : PV X c δ e (.dct ks l)) (hc : X.calm = true := by rfl) (hg : Gl X "list" := by rfl) (hbase : attributeBase e "values" X.env (eval e X.env) = eval e X.env := by rfl) (hline : (apos.endLine == cpos.line) = true := by rfl)
    (hs : starEach [.Call (.Attribute e "values" apos) [] [] cpos] X.env = (false, eval (.Call (.Attribute e "values" apos) [] [] cpos) X.env) :: starEach [] X.env := by rfl) (hpl : (backTo pos (starEach [] X.env)).any (·.1) = false := by rfl) : PN X c δ (.Call (.Name "list" p2) [.Call (.Attribute e "values" apos) [] [] cpos] [] pos) (· = l) :=
  PE.mono (pe_callTy (call_listVals hc) hg hm boot_list (pa_cons (pe_vals he hbase hline) pa_nil hs) (by decide) (by decide) hs hpl) fun σ H Q ⟨z, w⟩ => ⟨z, fun v H1 d q r a => by
    cases (show d = _ from q)
    obtain ⟨b, o, es, ep, xs, rfl, hb, hd, hl, hx⟩ := a
    refine ⟨b, _, rfl, .inr ⟨o, hb⟩, fun v hv => ⟨v, b, _, rfl, upd_same, .inr ⟨o, by rw [upd_ne (ne_of_none hb hv)]; exact hb⟩, fun p hp => ?_⟩⟩
    have r1 : Rl c.E [] H (upd H1 v (ValsO b v)) := r.trans0 (Rl.new hv)
    have ev1 := z.rl r1
    rw [kvz_snd hl]
    exact w p _ xs l rfl (r1.trans0 (Rl.new hp)) (r1.none hp) upd_same (((hx.rl (z.rl r).bs.toBw (Rl.new hv)).up (Up.add ev1.bs hp)).rl (Up.add ev1.bs hp).b (Rl.new hp)) (ev1.bs.free hp)⟩
/-- tuple(d) -/
theorem l_tupD {k : KW} {ks : List Str} {l : List D} {x : D} (hx : Dl ks l x) : CRL k c rTupD [x] (Is (.tup (ks.map D.txt))) := fun vs H Q bs ⟨v, r, e, a, e2⟩ q => by
  subst e
  cases (show r = [] from e2)
  obtain ⟨p, xs, rfl, hr, hl, hz⟩ := hx.rd a
  refine ⟨p, _, rfl, hr, fun t ht => q _ _ _ rfl (.new ht) ⟨t, _, rfl, SqT.of upd_same, ?_⟩⟩
  have e : (kvz ks xs).map (fun q => kV q.1) = ks.map V.str := by
    have h := congrArg (List.map kV) (kvz_fst hl)
    rw [List.map_map, List.map_map] at h
    exact h
  rw [e]
  exact Ats.of_txts ks
/-! len of a dict -/
theorem callLenRd : CallR X (.builtin "len") (fun xs H Q => ∃ a kvs, xs = [V.ref a] ∧ Rd H a (.dK kvs) ∧ Q (.int kvs.length) H) := by
  intro pins s σ H xs us Q I r h
  obtain ⟨a, kvs, rfl, hd, q⟩ := h
  rw [Vals.ref1 r]
  exact d_len I hd fun t s' I' => ⟨.int kvs.length, H, I', ⟨t, rfl⟩, q⟩
theorem l_lenD {k : KW} {ks : List Str} {l : List D} {x : D} (hx : Dl ks l x) : CRL k c (fun xs H Q => ∃ a kvs, xs = [V.ref a] ∧ Rd H a (.dK kvs) ∧ Q (.int kvs.length) H) [x] (Is (.int ks.length)) := fun vs H Q bs ⟨v, r, e, a, e2⟩ q => by
  subst e
  cases (show r = [] from e2)
  obtain ⟨p, xs, rfl, hr, hl, hz⟩ := hx.rd a
  exact ⟨p, _, rfl, hr, by rw [kvz_len hl]; exact q _ H _ rfl .refl rfl⟩
/-! ### own objects: walked, measured, compared, written -/
variable {C g : Addr} {n j : Nat} {R : RD}
theorem l_lenSl {k : KW} {l : List D} {m : Int} (h : R [.obj C l] (Is (.int m))) (h0 : 0 ≤ m) (h1 : m < 2 ^ 63) : CRL k c (rLenSl C (spD k R)) [.obj C l] (Is (.int m)) := fun vs H Q bs ⟨v, r, e, a, e2⟩ q => by
  subst e
  cases (show r = [] from e2)
  obtain ⟨b, dx, xs, rfl, hs, hx⟩ := obj_slt a
  refine ⟨b, dx, _, rfl, hs, c, [.obj C l], _, h, bs, Ats.one a, fun z H' d e r2 a2 => ?_⟩
  cases (show d = _ from e)
  exact ⟨m, a2, h0, h1, q _ H' _ rfl r2 rfl⟩
theorem l_eqSl {k : KW} {l m : List D} {b neg : Bool} (h : R [.obj C l, .obj C m] (Is (.bl b))) : R2L k c (rEqSl k.K C (spD k R) neg) (.obj C l) (.obj C m) (Is (.bl (if neg then !b else b))) := fun v w H Q bs a1 a2 q => by
  obtain ⟨p, dx, xs, rfl, hs, hx⟩ := obj_slt a1
  obtain ⟨p2, dx2, xs2, rfl, hs2, hx2⟩ := obj_slt a2
  refine ⟨p, dx, _, p2, dx2, _, rfl, rfl, hs, hs2, c, _, _, h, bs, Ats.cons a1 (Ats.one a2), fun z H' d e r2 a3 => ?_⟩
  cases (show d = _ from e)
  exact ⟨b, a3, q _ H' _ rfl r2 rfl⟩
/-- a walk over the keys of the dict in slot i -/
theorem pix_ownK {tg : Expr} {i : Nat} {l : List D} {ks : List Str} {ms : List D} (he : PV X c δ e (.obj C l)) (hs : PySem.W.findIn X.K (.ref C) "__iter__" = some (some (.ref g))) (hf : PySem.W.isFn X.K (.ref g) = true) (F : FnS X.prog X.w X.K X.mg X.base CX0 n g (spItK C i)) (hr : Room j X.A) (hk : n ≤ j)
    (hd : l[i]? = some (.dct ks ms)) : PIX X c δ tg e (· = ks.map D.txt) :=
  PI.mono (pi_len (pi_ownK he hs hf F (hr.mono hk))) fun σ H R ⟨z, w⟩ => ⟨z, fun v H1 d q r a => by
    cases (show d = _ from q)
    obtain ⟨b, dx, xs, rfl, hsl, hx⟩ := obj_slt a
    obtain ⟨y, e1, p, o, es, ep, vs, rfl, h1, h2, h3, h4⟩ := hx.get hd
    have hz : (kvz ks vs).length = ks.length := kvz_len h3
    refine ⟨b, dx, _, p, o, _, rfl, hsl, by rw [List.getElem?_map, e1] <;> rfl, h1, fun len => w _ H1 _ rfl r ⟨_, _, _, walk_keys, by rw [hz, List.length_map], fun c' u => ⟨fun H' r' => r'.keep h1 not_frz, fun i H' x H2 hi r' y => ?_⟩⟩ (by rw [List.length_map, ← hz]; exact len.2.2 p _ (.inr ⟨o, h1⟩))⟩
    obtain ⟨rfl, k', v', hk', rfl⟩ := y
    have hi' : i < ks.length := by rw [← hz]; exact hi
    have hk := kvz_get (List.getElem?_eq_getElem hi') (List.getElem?_eq_getElem (show i < vs.length by rw [← h3]; exact hi'))
    rw [hk] at hk'
    cases hk'
    exact ⟨.txt ks[i], by rw [List.getElem?_map, List.getElem?_eq_getElem hi']; rfl, fun _ _ e => e, rfl⟩⟩
theorem pix_ownT {tg : Expr} {i : Nat} {l : List D} {ms : List D} (he : PV X c δ e (.obj C l)) (hs : PySem.W.findIn X.K (.ref C) "__iter__" = some (some (.ref g))) (hf : PySem.W.isFn X.K (.ref g) = true) (F : FnS X.prog X.w X.K X.mg X.base CX0 n g (spItT X.K C i)) (hr : Room j X.A) (hk : n ≤ j)
    (hd : l[i]? = some (.tup ms)) : PIX X c δ tg e (· = ms) :=
  PI.mono (pi_len (pi_ownT he hs hf F (hr.mono hk))) fun σ H R ⟨z, w⟩ => ⟨z, fun v H1 d q r a => by
    cases (show d = _ from q)
    obtain ⟨b, dx, xs, rfl, hsl, hx⟩ := obj_slt a
    obtain ⟨y, e1, p, vs, rfl, hp, hy⟩ := hx.get hd
    refine ⟨b, dx, _, p, vs, rfl, hsl, by rw [List.getElem?_map, e1] <;> rfl, hp, fun len => w _ H1 _ rfl r ⟨_, _, _, walk_tup, hy.length, fun c' u => ⟨fun H' r' => sqT_rl r' hp, fun i H' x H2 hi r' y => ?_⟩⟩ (by rw [← hy.length]; exact len.2.1 p vs hp)⟩
    obtain ⟨rfl, y⟩ := y
    have hd : i < ms.length := by rw [← hy.length]; exact hi
    obtain ⟨x', e1, e2⟩ := (hy.up u).get (List.getElem?_eq_getElem hd)
    rw [y] at e1
    cases e1
    exact ⟨_, List.getElem?_eq_getElem hd, fun _ _ e => e, e2.rl u.b r'⟩⟩
end
end G81
set_option maxRecDepth 100000
set_option maxHeartbeats 2000000
/-! dict comprehensions and displays by data -/
namespace G81
open PySem PySem.Spec PyProof.Rows L2 SlX

/-- an expression whose value is a new dict -/
def tK (k : KW) (c : Fm) (δ : List Cell) (ks : List Str) (ds : List D) : TE := fun σ H Q => Ev k c H σ δ ∧ ∀ a H' xs, Rl c.E [] H H' → H a = none → H' a = some (.dK (kvz ks xs)) → ks.length = xs.length → Ats k (c.add a) H' ds xs → a ∉ c.M → Q (.ref a) H'
def PK (X : Cx) (c : Fm) (δ : List Cell) (e : Expr) (ks : List Str) (ds : List D) : Prop := PE X e (tK (kw X) c δ ks ds)
def SKo (c : Fm) (ks : List Str) (ds : List D) : SC := fun c' x => Fok c ∧ ∃ l, l ∉ c.M ∧ c' = c.add l ∧ x = .owk l ks ds
section
variable {X : Cx} {c : Fm} {δ : List Cell} {e : Expr} {ks : List Str} {ds : List D} {pos : Pos}
theorem frz_go {k : KW} {H H' : Hp} {a : Addr} {xs : List V} {o : Obj} {es : Array DictEntry} {ep : Nat} (em : ∀ b ∈ c.E, b ∈ c.M) (bs : Bw (c.add a) H') (hdt : o.data = .dict es ep) (r : Rl c.E [] H H') (hn : H a = none) (h' : H' a = some (.dK (kvz ks xs))) (hl : ks.length = xs.length) (hx : Ats k (c.add a) H' ds xs) :
    Rl c.E [] H (upd H' a (.frz o (.dK (kvz ks xs)))) ∧ At k c (upd H' a (.frz o (.dK (kvz ks xs)))) (.dct ks ds) (.ref a) := by
  refine ⟨fun b u e => ?_, a, o, es, ep, xs, rfl, upd_same, hdt, hl, ?_⟩
  · have hb : b ≠ a := ne_of_none e hn
    rw [upd_ne hb]
    exact r b u e
  · exact (hx.rl bs (rl_own List.mem_cons_self h' ownK_dK)).unadd
theorem add_bw {H H' : Hp} {a : Addr} (b : Bs c H) (r : Rl c.E [] H H') (hn : H a = none) : Bw (c.add a) H' :=
  (Up.add b hn).b.rl (O := []) (by intro a h; cases h) r
/-- .. known for good at once -/
theorem px_k (h : PK X c δ e ks ds) : PV X c δ e (.dct ks ds) :=
  PE.mono (pe_frz h) fun σ H Q ⟨z, w⟩ => ⟨z, fun a H' xs r h1 h2 h3 h4 h5 => ⟨a, _, rfl, h2, fun o es ep hdt =>
    let g := frz_go z.bs.em (add_bw z.bs r h1) hdt r h1 h2 h3 h4
    w _ _ _ rfl g.1 g.2⟩⟩
theorem cx_k (h : PK X c δ e ks ds) : CX X c δ e (SKo c ks ds) := PE.mono h fun σ H Q ⟨z, w⟩ => ⟨z, fun a H' xs r hn h' hl hx hm =>
  w (.ref a) H' (c.add a) (.owk a ks ds) ⟨z.bs.toBw.fok, a, hm, rfl, rfl⟩ r (.add hn) (fun _ _ e => ev_own e r hn h') ⟨rfl, List.mem_cons_self, xs, h', hl, hx⟩⟩
end
section
variable {X : Cx} {c : Fm} {δ : List Cell} {kx vx tg iter : Expr} {scope : Scope} {own : List (Str × Nat)} {pos : Pos} {t : Tg} {α : Type} {emb : α → D} {xs : List α} {δ' : α → List Cell} {kf : α → Str} {vf : α → D}
def tvX (k : KW) (c : Fm) (xs : List α) (δ' : α → List Cell) (f : α → D) : TE := fun σ H Q => ∃ i : α × Addr, i.1 ∈ xs ∧ tX k (c.add i.2) (δ' i.1) (Is (f i.1)) σ H Q
theorem dc_of {k : KW} {vs : List Nat} (hp : ∀ x, x ∈ xs → t.put (emb x) (wipeD δ vs) = some (δ' x)) (hv : ∀ i ∈ t.ix, i ∈ vs) (nd : (xs.map kf).Nodup) :
    ∀ σ H Q, tK k c δ (xs.map kf) (xs.map vf) σ H Q → tDc (tI k c δ (· = xs.map emb)) (t.g k.K) tYes (tvX k c xs δ' fun x => .txt (kf x)) (tvX k c xs δ' vf) vs σ H Q := by
  intro σ H Q ⟨ev, w⟩
  refine ⟨ev, fun J H1 ds hds r1 ⟨n, G, Y, W, hn, wk⟩ hz D hD => ?_⟩
  subst hds
  have ev1 := ev.rl r1
  have up := Up.add ev1.bs hD
  obtain ⟨wg, wy⟩ := wk (c.add D) up
  have nE : D ∉ c.E := up.b.oe D List.mem_cons_self
  have toH1 : ∀ {H'}, Rl c.E [D] (upd H1 D (.dK [])) H' → Rl c.E [] H1 H' := fun {H'} r b o e => by
    have hb : b ≠ D := ne_of_none e hD
    rcases r b o (by rw [upd_ne hb]; exact e) with z | z | ⟨z, _⟩
    · exact .inl z
    · exact .inr (.inl z)
    · exact absurd (List.mem_singleton.mp z) hb
  have sD : ∀ a ∈ [D], a ∉ c.E := fun a m => by rw [List.mem_singleton.mp m]; exact nE
  have ev2 : Ev k (c.add D) (upd H1 D (.dK [])) σ δ := ev1.add hD
  have hlen : xs.length ≤ sizeLine := by rw [← List.length_map (f := emb)]; exact hz
  have hn : n = xs.length := by rw [hn, List.length_map]
  have fin : ∀ H', (Rl c.E [D] (upd H1 D (.dK [])) H' ∧ ∃ us, H' D = some (.dK (kvz ((xs.map kf).take n) us)) ∧ ((xs.map kf).take n).length = us.length ∧ Ats k (c.add D) H' ((xs.map vf).take n) us) → Q (.ref D) H' := fun H' ⟨r, us, hA, hL, hat⟩ => by
    have e1 : (xs.map kf).take n = xs.map kf := List.take_of_length_le (by rw [List.length_map]; omega)
    have e2 : (xs.map vf).take n = xs.map vf := List.take_of_length_le (by rw [List.length_map]; omega)
    rw [e1] at hA hL
    rw [e2] at hat
    exact w D H' us (r1.trans0 (toH1 r)) (r1.none hD) hA hL hat (ev1.bs.free hD)
  refine ⟨fun i m H' => m = n - i ∧ i ≤ n ∧ Rl c.E [D] (upd H1 D (.dK [])) H' ∧ ∃ us, H' D = some (.dK (kvz ((xs.map kf).take i) us)) ∧ ((xs.map kf).take i).length = us.length ∧ Ats k (c.add D) H' ((xs.map vf).take i) us, ⟨n, by simp, Nat.zero_le _, .refl, [], by rw [upd_same]; rfl, rfl, rfl⟩, ?_⟩
  rintro i m H' ⟨rfl, hi, r, us, hA, hL, hat⟩
  by_cases hlt : i < n
  · refine .inr ⟨W.goes i H' hlt (wg H' (toH1 r).wide), fun H2 => Rl c.E [D] (upd H1 D (.dK [])) H2 ∧ ∃ us, H2 D = some (.dK (kvz ((xs.map kf).take (i + 1)) us)) ∧ ((xs.map kf).take (i + 1)).length = us.length ∧ Ats k (c.add D) H2 ((xs.map vf).take (i + 1)) us, fun H2 q => ⟨n - (i + 1), by omega, rfl, hlt, q⟩, fun x H2 y => ?_⟩
    have hy := W.yields i H' x H2 hlt (wg H' (toH1 r).wide) y
    obtain ⟨d, hd, kp, ha⟩ := wy i H' x H2 hlt ((toH1 r).wide) hy
    have hi' : i < xs.length := by rw [← hn]; exact hlt
    have ex : xs[i]? = some xs[i] := List.getElem?_eq_getElem hi'
    rw [List.getElem?_map, ex] at hd
    obtain rfl : emb xs[i] = d := Option.some.inj hd
    have hin : xs[i] ∈ xs := List.getElem_mem hi'
    have r2 : Rl c.E [D] (upd H1 D (.dK [])) H2 := r.trans sD (.of_same kp)
    have evH : ∀ {H3}, Rl c.E [D] (upd H1 D (.dK [])) H3 → Ev k (c.add D) H3 σ δ := fun {H3} r => ev2.rlO (O := [D]) (fun a m => by rw [List.mem_singleton.mp m]; exact List.mem_cons_self) (fun j y hj a m => by rw [List.mem_singleton.mp m]; exact ev1.fresh hD j y hj) r
    have ev3 := evH r2
    refine put_go (vs := vs) (ev3.wipe vs) ha (hp _ hin) fun σ3 ev4 hw => ⟨by rw [hw hv]; exact lc_of.wipe_idem σ vs, ?_⟩
    unfold tYes
    dsimp only
    rw [if_pos rfl]
    have keepD : ∀ {Ha Hb : Hp} {o : HO}, Rl c.E [] Ha Hb → Ha D = some o → Hb D = some o := fun {Ha Hb o} r e => by
      rcases r D o e with z | ⟨z, _⟩ | ⟨z, _⟩
      · exact z
      · exact absurd z nE
      · cases z
    refine ⟨(xs[i], D), hin, ev4, fun ky H3 d3 e3 r3 a3 => ?_⟩
    cases (show d3 = _ from e3)
    cases (show ky = _ from a3)
    refine ⟨(xs[i], D), hin, ev4.rl r3, fun vy H4 d4 e4 r4 a4 => ?_⟩
    cases (show d4 = _ from e4)
    have r24 : Rl c.E [] H2 H4 := r3.trans0 r4
    have hD4 := keepD r24 (kp D _ hA)
    have rr : Rl c.E [D] (upd H1 D (.dK [])) H4 := r2.trans sD r24.wide
    have lk : ((xs.map kf).take i).length = i := by rw [List.length_take, List.length_map]; omega
    have tk : (xs.map kf).take (i + 1) = (xs.map kf).take i ++ [kf xs[i]] := by rw [List.take_succ, List.getElem?_map, ex]; rfl
    have tv : (xs.map vf).take (i + 1) = (xs.map vf).take i ++ [vf xs[i]] := by rw [List.take_succ, List.getElem?_map, ex]; rfl
    have nin : kf xs[i] ∉ (xs.map kf).take i := by
      rw [← List.take_append_drop (i + 1) (xs.map kf), tk] at nd
      have h1 := (List.nodup_append.mp (List.nodup_append.mp nd).1).2.2
      exact fun m => h1 _ m _ (List.mem_singleton.mpr rfl) rfl
    have pk : putK (kvz ((xs.map kf).take i) us) (Sum.inr (kf xs[i])) vy = kvz ((xs.map kf).take (i + 1)) (us ++ [vy]) := by
      unfold putK
      rw [kvz_any hL, if_neg (by simpa using nin), kvz_snoc hL, ← tk]
    refine ⟨_, Sum.inr (kf xs[i]), rfl, hD4, by rw [kvz_len hL, lk]; omega, ?_⟩
    rw [pk]
    have rp : Rl c.E [D] H4 (upd H4 D (.dK (kvz ((xs.map kf).take (i + 1)) (us ++ [vy])))) := rl_own (List.mem_singleton.mpr rfl) hD4 ownK_dK
    have rp' : Rl (c.add D).E (c.add D).O H4 (upd H4 D (.dK (kvz ((xs.map kf).take (i + 1)) (us ++ [vy])))) := rl_own List.mem_cons_self hD4 ownK_dK
    have b4 := (evH rr).bs.toBw
    have bH := (evH r).bs.toBw
    have hat4 : Ats k (c.add D) H4 ((xs.map vf).take i) us := (hat.rl bH (.of_same kp)).rl ev3.bs.toBw (Rl.wide (O := (c.add D).O) r24)
    refine ⟨rr.trans sD rp, us ++ [vy], upd_same, by rw [tk, List.length_append, List.length_append, hL]; rfl, ?_⟩
    rw [tv]
    exact (hat4.append (Ats.one a4)).rl b4 rp'
  · have e : i = n := by omega
    subst e
    exact .inl ⟨W.stops H' (wg H' (toH1 r).wide), fin H' ⟨r, us, hA, hL, hat⟩⟩
theorem pe_vx {X : Cx} {e : Expr} {f : α → D} (h : ∀ (x : α) (D : Addr), x ∈ xs → PV X (c.add D) (δ' x) e (f x)) : PE X e (tvX (kw X) c xs δ' f) := pe_ex (C := fun i : α × Addr => i.1 ∈ xs) (t := fun i => tX (kw X) (c.add i.2) (δ' i.1) (Is (f i.1))) fun i m => h i.1 i.2 m
/-- {k: v for tg in iter} -/
theorem pk_dc (t : Tg) (own : List (Str × Nat)) (hi : PIX X c δ tg iter (· = xs.map emb)) (hp : ∀ x, x ∈ xs → t.put (emb x) (wipeD δ (own.map (·.2))) = some (δ' x)) (bo : BlkOk X.N X.env.scope scope own)
    (hg : ∀ (s : Shared) (H : Hp) (C : Addr) (cl : List (Str × Addr)) (fp : List Addr), PGX (X.blk s H scope (compEnvC scope cl C X.env) fp) tg t)
    (hk : ∀ (s : Shared) (H : Hp) (C : Addr) (cl : List (Str × Addr)) (fp : List Addr) (x : α) (D : Addr), x ∈ xs → PV (X.blk s H scope (compEnvC scope cl C X.env) fp) (c.add D) (δ' x) kx (.txt (kf x)))
    (he : ∀ (s : Shared) (H : Hp) (C : Addr) (cl : List (Str × Addr)) (fp : List Addr) (x : α) (D : Addr), x ∈ xs → PV (X.blk s H scope (compEnvC scope cl C X.env) fp) (c.add D) (δ' x) vx (vf x))
    (hN : X.N.Nodup) (nd : (xs.map kf).Nodup) (hc : X.calm = true := by rfl) (hv : ∀ i ∈ t.ix, i ∈ own.map (·.2) := by decide) (hs : ∀ x, foldedSetIterable iter X.env x = pure x := by intro _; rfl) :
    PK X c δ (.DictComp kx vx [⟨tg, iter, [], 0⟩] scope pos) (xs.map kf) (xs.map vf) :=
  PE.mono (pe_dc (g := t.g X.K) (tk := tvX (kw X) c xs δ' fun x => .txt (kf x)) (tv := tvX (kw X) c xs δ' vf) hc hN hi bo hg (fun _ _ _ _ _ => pts_nil) (fun s H C cl fp => pe_vx (hk s H C cl fp)) (fun s H C cl fp => pe_vx (he s H C cl fp)) hs) (dc_of hp hv nd)
/-- name = {..} on one line, the name a local -/
theorem ps_setDc {i : Nat} {y : Str} {py : Pos} {ifs : List Expr} {spos : Pos} {wi : TI} {g : TG} {tt : TT} {tk tv : TE} (hc : X.calm = true) (hN : X.N.Nodup) (hy : X.N[i]? = some y) (hyl : X.env.scope.names.lookup y = some .local)
    (hsw : swapsWith (.DictComp kx vx [⟨tg, iter, ifs, 0⟩] scope pos) (some (.Name y py)) spos.line X.env = pure true) (hi : PI X tg iter wi) (ok : BlkOk X.N X.env.scope scope own)
    (hg : ∀ (s : Shared) (H : Hp) (C : Addr) (cl : List (Str × Addr)) (fp : List Addr), PG (X.blk s H scope (compEnvC scope cl C X.env) fp) tg g) (ht : ∀ (s : Shared) (H : Hp) (C : Addr) (cl : List (Str × Addr)) (fp : List Addr), PTs (X.blk s H scope (compEnvC scope cl C X.env) fp) ifs tt)
    (hk : ∀ (s : Shared) (H : Hp) (C : Addr) (cl : List (Str × Addr)) (fp : List Addr), PE (X.blk s H scope (compEnvC scope cl C X.env) fp) kx tk)
    (he : ∀ (s : Shared) (H : Hp) (C : Addr) (cl : List (Str × Addr)) (fp : List Addr), PE (X.blk s H scope (compEnvC scope cl C X.env) fp) vx tv) (hs : ∀ x, foldedSetIterable iter X.env x = pure x) :
    PS X (.Assign [.Name y py] (.DictComp kx vx [⟨tg, iter, ifs, 0⟩] scope pos) spos) (tAsg (tDc wi g tt tk tv (own.map (·.2))) (gName i)) := by
  refine ⟨fun pins s σ H D I h => ?_⟩
  rw [exec_Assign_Name_used _ _ _ _ hsw]
  refine wpAny_bind (wpAny_standAt (wpAny_bind ?_))
  show wpAny _ X.A (do let _ ← comprehension (.DictComp kx vx [⟨tg, iter, ifs, 0⟩] scope pos) scope X.env (firstIterPos [⟨tg, iter, ifs, 0⟩] pos) newDict false (eval iter X.env) (some (assign (.Name y py) X.env))) _ _ s
  have h : tDc wi g tt tk tv (own.map (·.2)) σ H (fun x H1 => gName i x σ H1 D.nx) := h
  refine wpAny_bind (thn (dc_core (Qf := fun _ s' => SP X pins D .next s') hc hN I hi ok hg ht hk he hs h fun L C s' m H' I' q hn f => ?_) fun _ s' hq => wpAny_pure (wpAny_pure hq))
  show wpAny _ _ (assign (.Name y py) X.env (.ref L)) _ _ _
  refine wpAny_assign_Name (store_ok2 (v := V.ref L) I' hN hy (.inl hyl) rfl (fun s2 I2 h0 => ?_) (.inr hyl))
  cases h0 with
  | intro a h1 =>
    have sb := h1.1
    have haC : C ≠ a := by
      rcases h1.2 with z | z
      · rw [z]
        exact f.2.1
      · exact fun e => f.2.2.2.2.1 y a z e.symm
    exact ⟨m, hn.sameBut sb haC, fun h3 sb3 => ⟨_, H', I2.turned (t' := s2.toks) (fun b o hb e => (sb3.2 b hb).trans e) f.1 f.2.1 f.2.2.2.1 f.2.2.2.2.1 f.2.2.2.2.2, q⟩⟩
theorem pb_setDc {i : Nat} {y : Str} {py spos : Pos} {rest : List Stmt} {w : Wi} (t : Tg) (own : List (Str × Nat)) (hi : PIX X c δ tg iter (· = xs.map emb)) (hp : ∀ x, x ∈ xs → t.put (emb x) (wipeD δ (own.map (·.2))) = some (δ' x)) (bo : BlkOk X.N X.env.scope scope own)
    (hg : ∀ (s : Shared) (H : Hp) (C : Addr) (cl : List (Str × Addr)) (fp : List Addr), PGX (X.blk s H scope (compEnvC scope cl C X.env) fp) tg t)
    (hk : ∀ (s : Shared) (H : Hp) (C : Addr) (cl : List (Str × Addr)) (fp : List Addr) (x : α) (D : Addr), x ∈ xs → PV (X.blk s H scope (compEnvC scope cl C X.env) fp) (c.add D) (δ' x) kx (.txt (kf x)))
    (he : ∀ (s : Shared) (H : Hp) (C : Addr) (cl : List (Str × Addr)) (fp : List Addr) (x : α) (D : Addr), x ∈ xs → PV (X.blk s H scope (compEnvC scope cl C X.env) fp) (c.add D) (δ' x) vx (vf x))
    (hN : X.N.Nodup) (nd : (xs.map kf).Nodup) (q : ∀ c' y, SKo c (xs.map kf) (xs.map vf) c' y → PB X c' (δ.set i y) rest w) (hy : X.N[i]? = some y := by rfl) (hyl : X.env.scope.names.lookup y = some .local := by rfl)
    (hsw : swapsWith (.DictComp kx vx [⟨tg, iter, [], 0⟩] scope pos) (some (.Name y py)) spos.line X.env = pure true := by rfl) (hc : X.calm = true := by rfl) (hv : ∀ i ∈ t.ix, i ∈ own.map (·.2) := by decide) (hs : ∀ x, foldedSetIterable iter X.env x = pure x := by intro _; rfl) :
    PB X c δ (.Assign [.Name y py] (.DictComp kx vx [⟨tg, iter, [], 0⟩] scope pos) spos :: rest) w := by
  have key : PSs X rest (fun D σ H => ∃ c' y, SKo c (xs.map kf) (xs.map vf) c' y ∧ tB (kw X) c' (δ.set i y) w D σ H) := ⟨fun pins s σ H D I ⟨c', y, p, z⟩ => (q c' y p).run pins s σ H D I z⟩
  refine PSs.mono (pss_cons (ps_setDc (g := t.g X.K) (tk := tvX (kw X) c xs δ' fun x => .txt (kf x)) (tv := tvX (kw X) c xs δ' vf) hc hN hy hyl hsw hi bo hg (fun _ _ _ _ _ => pts_nil) (fun s H C cl fp => pe_vx (hk s H C cl fp)) (fun s H C cl fp => pe_vx (he s H C cl fp)) hs) key) fun D σ H z => ?_
  show tDc _ _ _ _ _ _ σ H (fun x H1 => gName i x σ H1 fun σ' H' => ∃ c' y, SKo c (xs.map kf) (xs.map vf) c' y ∧ tB (kw X) c' (δ.set i y) w D σ' H')
  refine dc_of (k := kw X) (kf := kf) (vf := vf) hp hv nd σ H _ ⟨z.1, fun a H' us r hn h' hl hx hm => ?_⟩
  exact ⟨c.add a, .owk a _ _, ⟨z.1.bs.toBw.fok, a, hm, rfl, rfl⟩, tB_back z (.add hn) r ((ev_own z.1 r hn h').set i ⟨rfl, List.mem_cons_self, us, h', hl, hx⟩)⟩
end
end G81
set_option maxRecDepth 100000
set_option maxHeartbeats 2000000
/-! texts, numbers, slices, order by data -/
namespace G81
open PySem PySem.Spec PyProof.Rows L2 SlX
section
variable {X : Cx} {c : Fm} {δ : List Cell} {e e2 o a b : Expr} {es : List Expr} {P A B : D → Prop} {d x y : D} {pos p apos cpos : Pos} {z s : Str} {i : Int}
/-! f-strings -/
theorem pv_fmtT (he : PV X c δ e (.txt z)) (hz : z.length ≤ sizeLine) : PV X c δ (.FormattedValue e (-1) none pos) (.txt z) :=
  PE.mono (pe_fmt he) fun σ H Q ⟨ev, w⟩ => ⟨ev, fun v H1 d q r a => by
    cases (show d = _ from q)
    exact .inl ⟨z, a, hz, w _ H1 _ rfl r rfl⟩⟩
theorem pv_fmtI (he : PV X c δ e (.int i)) (hz : i.natAbs.log2 < 1920) : PV X c δ (.FormattedValue e (-1) none pos) (.txt (toString i)) :=
  PE.mono (pe_fmt he) fun σ H Q ⟨ev, w⟩ => ⟨ev, fun v H1 d q r a => by
    cases (show d = _ from q)
    exact .inr ⟨i, a, hz, w _ H1 _ rfl r rfl⟩⟩
theorem pv_fmtSl {C g : Addr} {l : List D} {R : RD} {n j : Nat} (he : PV X c δ e (.obj C l)) (hfm : PySem.W.findIn X.K (.ref C) "__format__" = some (some (.builtin "object.__format__"))) (hm : PySem.W.mroIn X.K C (.type "object") = some true)
    (hs : PySem.W.findIn X.K (.ref C) "__str__" = some (some (.ref g))) (hf : PySem.W.isFn X.K (.ref g) = true) (F : FnR X.prog X.w X.K X.mg X.base CX0 n g (spD (kw X) R)) (hr : Room j X.A) (hk : n + 1 ≤ j) (h : R [.obj C l] (Is (.txt z))) : PV X c δ (.FormattedValue e (-1) none pos) (.txt z) :=
  PE.mono (pe_fmtSl he hfm hm hs hf F (hr.mono hk)) fun σ H Q ⟨ev, w⟩ => ⟨ev, fun v H1 d q r a => by
    cases (show d = _ from q)
    obtain ⟨b, dx, xs, rfl, hsl, hx⟩ := obj_slt a
    refine ⟨b, dx, _, rfl, hsl, c, [.obj C l], _, h, (ev.rl r).bs, Ats.one a, fun v H' d e r2 a2 => ?_⟩
    cases (show d = _ from e)
    exact ⟨z, a2, w _ H' _ rfl (r.trans0 r2) rfl⟩⟩
inductive PJV (X : Cx) (c : Fm) (δ : List Cell) : List Expr → List Str → Prop where
  | nil : PJV X c δ [] []
  | cons {e : Expr} {z : Str} {es : List Expr} {zs : List Str} (h : PV X c δ e (.txt z)) (r : PJV X c δ es zs) : PJV X c δ (e :: es) (z :: zs)
def cats : Str → List Str → Str
  | acc, [] => acc
  | acc, z :: zs => cats (acc ++ z) zs
/-- no part is longer than a line -/
def catsOk : Str → List Str → Prop
  | _, [] => True
  | acc, z :: zs => (acc ++ z).length ≤ sizeLine ∧ catsOk (acc ++ z) zs
theorem pjv_pj : ∀ {es : List Expr} {zs : List Str}, PJV X c δ es zs → PJ X es (zs.map fun z => tX (kw X) c δ (Is (.txt z)))
  | _, _, .nil => .nil
  | _, _, .cons h r => .cons h (pjv_pj r)
theorem tJs_go {σ : L2.St} {Q : Str → Hp → Prop} : ∀ (zs : List Str) (acc : Str) (H : Hp), Ev (kw X) c H σ δ → catsOk acc zs → (∀ H', Rl c.E [] H H' → Q (cats acc zs) H') → tJs (zs.map fun z => tX (kw X) c δ (Is (.txt z))) acc σ H Q
  | [], acc, H, _, _, q => q H .refl
  | z :: zs, acc, H, ev, ok, q => ⟨ev, fun v H1 d h r a => by
      cases (show d = _ from h)
      exact ⟨z, a, ok.1, tJs_go zs (acc ++ z) H1 (ev.rl r) ok.2 fun H' r' => q H' (r.trans0 r')⟩⟩
theorem pv_joined {v1 v2 : Expr} {rest : List Expr} {zs : List Str} (h : PJV X c δ (v1 :: v2 :: rest) zs) (ok : catsOk Str.empty zs) : PV X c δ (.JoinedStr (v1 :: v2 :: rest) pos) (.txt (cats Str.empty zs)) :=
  PE.mono (pe_joined (pjv_pj h)) fun σ H Q ⟨ev, w⟩ => tJs_go zs Str.empty H ev ok fun H' r => w _ H' _ rfl r rfl
/-! join, split -/
theorem pv_join {ys : List Str} (ho : PV X c δ o (.txt z)) (he : PV X c δ e (.lst (ys.map D.txt))) (hz : (ys.map (·.length)).sum + ys.length * z.length ≤ 16777216) (hs : starEach [e] X.env = [(false, eval e X.env)] := by rfl) (hbase : attributeBase o "join" X.env (eval o X.env) = eval o X.env := by rfl) (hline : (apos.endLine == pos.line) = true := by rfl) :
    PV X c δ (.Call (.Attribute o "join" apos) [e] [] pos) (.txt (Txt.join z ys)) :=
  PE.mono (pe_join ho he hs hbase hline) fun σ H Q ⟨ev, w⟩ => ⟨ev, fun v H1 d q r a => by
    cases (show d = _ from q)
    cases (show v = _ from a)
    refine ⟨⟨z, rfl⟩, ev.rl r, fun u H2 d q r2 a => ?_⟩
    cases (show d = _ from q)
    obtain ⟨l, xs, rfl, hm, hl, hx⟩ := a
    rw [hx.txts] at hl
    exact ⟨z, l, ys, rfl, rfl, .inl (SqL.of hl), hz, w _ H2 _ rfl (r.trans0 r2) rfl⟩⟩
theorem pn_split (ho : PV X c δ o (.txt z)) (he : PV X c δ e (.txt s)) (h0 : (s.length == 0) = false) (hz : z.length + 2 ≤ sizeLine) (hs : starEach [e] X.env = [(false, eval e X.env)] := by rfl) (hbase : attributeBase o "split" X.env (eval o X.env) = eval o X.env := by rfl) (hline : (apos.endLine == pos.line) = true := by rfl) :
    PN X c δ (.Call (.Attribute o "split" apos) [e] [] pos) (· = (Txt.split z s).map D.txt) :=
  PE.mono (pe_split ho he hs hbase hline) fun σ H Q ⟨ev, w⟩ => ⟨ev, fun v H1 d q r a => by
    cases (show d = _ from q)
    cases (show v = _ from a)
    refine ⟨⟨z, rfl⟩, ev.rl r, fun u H2 d q r2 a => ?_⟩
    cases (show d = _ from q)
    cases (show u = _ from a)
    have r12 := r.trans0 r2
    exact ⟨z, s, rfl, rfl, h0, hz, fun p hp => w p _ _ _ rfl (r12.trans0 (.new hp)) (r12.none hp) upd_same (Ats.of_txts _) ((ev.rl r12).bs.free hp)⟩⟩
/-! a slice -/
def IsO (X : Cx) (c : Fm) (δ : List Cell) (e : Option Expr) (i : Option Int) : Prop := PO X e (fun σ H Q => Ev (kw X) c H σ δ ∧ ∀ H', Rl c.E [] H H' → Q i H')
theorem PO.mono {e : Option Expr} {t t' : TO} (h : PO X e t) (q : ∀ σ H Q, t' σ H Q → t σ H Q) : PO X e t' := ⟨fun pins s σ H Q I z => h.run pins s σ H Q I (q σ H Q z)⟩
theorem io_none : IsO X c δ none none := PO.mono po_none fun σ H Q ⟨_, w⟩ => w H .refl
theorem io_some (h : PV X c δ e (.int i)) : IsO X c δ (some e) (some i) := PO.mono (po_some h) fun σ H Q ⟨ev, w⟩ => ⟨ev, fun v H1 d q r a => by
    cases (show d = _ from q)
    exact ⟨i, a, w H1 r⟩⟩
def cutD (l : List D) (lo hi : Option Int) : List D := (l.drop (HT.sIx l.length 0 lo)).take (HT.sIx l.length l.length hi - HT.sIx l.length 0 lo)
theorem pn_slice {lo hi : Option Expr} {i j : Option Int} {l : List D} {p2 : Pos} (he : PV X c δ e (.lst l)) (hl : IsO X c δ lo i) (hh : IsO X c δ hi j) : PN X c δ (.Subscript e (.Slice lo hi none p2) pos) (· = cutD l i j) :=
  PE.mono (pe_slice sl_list he hl hh) fun σ H Q ⟨ev, w⟩ => ⟨ev, fun v H1 d q r a => ⟨ev.rl r, fun H2 r2 => ⟨(ev.rl r).rl r2, fun H3 r3 => by
    cases (show d = _ from q)
    have r23 := r2.trans0 r3
    have r13 := r.trans0 r23
    obtain ⟨b, xs, rfl, hm, hb, hx⟩ := a.rl (ev.rl r).bs.toBw (Rl.wide (O := c.O) r23)
    refine ⟨b, xs, rfl, SqL.of hb, fun p hp => w p _ _ _ rfl (r13.trans0 (.new hp)) (r13.none hp) upd_same ?_ ((ev.rl r13).bs.free hp)⟩
    have u := Up.add (ev.rl r13).bs hp
    have hl := hx.length
    unfold cutV cutD
    rw [hl]
    exact (((hx.drop _).take _).up u).rl u.b (Rl.new hp)⟩⟩⟩
theorem pv_sliceT {lo hi : Option Expr} {i j : Option Int} {p2 : Pos} (he : PV X c δ e (.txt z)) (hz : z.length ≤ sizeLine) (hl : IsO X c δ lo i) (hh : IsO X c δ hi j) : PV X c δ (.Subscript e (.Slice lo hi none p2) pos) (.txt (cutS z i j)) :=
  PE.mono (pe_slice sl_str he hl hh) fun σ H Q ⟨ev, w⟩ => ⟨ev, fun v H1 d q r a => ⟨ev.rl r, fun H2 r2 => ⟨(ev.rl r).rl r2, fun H3 r3 => by
    cases (show d = _ from q)
    exact ⟨z, a, hz, w _ H3 _ rfl ((r.trans0 r2).trans0 r3) rfl⟩⟩⟩⟩
end
section
variable {k : KW} {c : Fm} {z s : Str} {i j : Int}
theorem l_ixS {n : Nat} (h : atI z.cps.toList i = some n) (hz : z.length ≤ sizeLine) : R2L k c rIxS (.txt z) (.int i) (Is (.txt ⟨#[n]⟩)) := fun v w H Q _ a b q => ⟨z, i, n, a, b, hz, h, q _ H _ rfl .refl rfl⟩
theorem Ats.one_ {H : Hp} {d : D} {vs : List V} (h : Ats k c H [d] vs) : ∃ v, vs = [v] ∧ At k c H d v := by
  obtain ⟨v, r, rfl, a, e⟩ := h
  cases (show r = [] from e)
  exact ⟨v, rfl, a⟩
theorem Ats.two_ {H : Hp} {d e : D} {vs : List V} (h : Ats k c H [d, e] vs) : ∃ v u, vs = [v, u] ∧ At k c H d v ∧ At k c H e u := by
  obtain ⟨v, r, rfl, a, h⟩ := h
  obtain ⟨u, rfl, b⟩ := h.one_
  exact ⟨v, u, rfl, a, b⟩
theorem l_intI : CRL k c (fun xs H Q => (∃ i, xs = [.int i] ∧ Q (.int i) H) ∨ ∃ k, xs = [.bl k] ∧ Q (.int (if k then 1 else 0)) H) [.int i] (Is (.int i)) := fun vs H Q bs a q => by
  obtain ⟨v, rfl, a1⟩ := a.one_
  cases (show v = _ from a1)
  exact .inl ⟨i, rfl, q _ H _ rfl .refl rfl⟩
theorem l_intB {b : Bool} : CRL k c (fun xs H Q => (∃ i, xs = [.int i] ∧ Q (.int i) H) ∨ ∃ k, xs = [.bl k] ∧ Q (.int (if k then 1 else 0)) H) [.bl b] (Is (.int (if b then 1 else 0))) := fun vs H Q bs a q => by
  obtain ⟨v, rfl, a1⟩ := a.one_
  cases (show v = _ from a1)
  exact .inr ⟨b, rfl, q _ H _ rfl .refl rfl⟩
theorem l_intS (h : PySem.intText? z = some i) (hz : z.length ≤ 640) : CRL k c (fun xs H Q => ∃ a n, xs = [.str a] ∧ PySem.intText? a = some n ∧ a.length ≤ 640 ∧ Q (.int n) H) [.txt z] (Is (.int i)) := fun vs H Q bs a q => by
  obtain ⟨v, rfl, a1⟩ := a.one_
  cases (show v = _ from a1)
  exact ⟨z, i, rfl, h, hz, q _ H _ rfl .refl rfl⟩
theorem l_strI (hz : i.natAbs.log2 < 1920) : CRL k c (fun xs H Q => ∃ i, xs = [.int i] ∧ i.natAbs.log2 < 1920 ∧ Q (.str (toString i)) H) [.int i] (Is (.txt (toString i))) := fun vs H Q bs a q => by
  obtain ⟨v, rfl, a1⟩ := a.one_
  cases (show v = _ from a1)
  exact ⟨i, rfl, hz, q _ H _ rfl .refl rfl⟩
theorem l_strS : CRL k c (fun xs H Q => ∃ a, xs = [.str a] ∧ Q (.str a) H) [.txt z] (Is (.txt z)) := fun vs H Q bs a q => by
  obtain ⟨v, rfl, a1⟩ := a.one_
  cases (show v = _ from a1)
  exact ⟨z, rfl, q _ H _ rfl .refl rfl⟩
theorem l_abs : CRL k c (fun xs H Q => ∃ i, xs = [.int i] ∧ Q (.int (if i < 0 then -i else i)) H) [.int i] (Is (.int (if i < 0 then -i else i))) := fun vs H Q bs a q => by
  obtain ⟨v, rfl, a1⟩ := a.one_
  cases (show v = _ from a1)
  exact ⟨i, rfl, q _ H _ rfl .refl rfl⟩
theorem l_max2 : CRL k c (fun xs H Q => ∃ i j, xs = [.int i, .int j] ∧ Q (.int (if j > i then j else i)) H) [.int i, .int j] (Is (.int (if j > i then j else i))) := fun vs H Q bs a q => by
  obtain ⟨v, u, rfl, a1, b1⟩ := a.two_
  cases (show v = _ from a1)
  cases (show u = _ from b1)
  exact ⟨i, j, rfl, q _ H _ rfl .refl rfl⟩
theorem l_min2 : CRL k c (fun xs H Q => ∃ i j, xs = [.int i, .int j] ∧ Q (.int (if j < i then j else i)) H) [.int i, .int j] (Is (.int (if j < i then j else i))) := fun vs H Q bs a q => by
  obtain ⟨v, u, rfl, a1, b1⟩ := a.two_
  cases (show v = _ from a1)
  cases (show u = _ from b1)
  exact ⟨i, j, rfl, q _ H _ rfl .refl rfl⟩
theorem l_inS {n : Nat} : R2L k c (fun x y H Q => ∃ (c : Nat) (z : Str), x = .str ⟨#[c]⟩ ∧ y = .str z ∧ Q (.bl (decide (c ∈ z.cps.toList))) H) (.txt ⟨#[n]⟩) (.txt z) (Is (.bl (decide (n ∈ z.cps.toList)))) := fun v w H Q _ a b q => ⟨n, z, a, b, q _ H _ rfl .refl rfl⟩
/-- sorted(d), sorted(list) of texts: a new list -/
def SortedOf (ks : List Str) (l : List D) : Prop := ∃ ys : List Str, l = ys.map D.txt ∧ ys.Perm ks ∧ sortedS ys = true
theorem ln_sortD {ks : List Str} {l : List D} {x : D} (hx : Dl ks l x) (h64 : ks.length < 64) : ∀ vs H Q, Bs c H → Ats k c H [x] vs → (∀ a H' xs ds, SortedOf ks ds → Rl c.E [] H H' → H a = none → H' a = some (.lst xs) → Ats k (c.add a) H' ds xs → a ∉ c.M → Q (.ref a) H') →
    (fun xs H Q => ∃ (a : Addr) (kvs : List (Key × V)) (ks : List Str), xs = [.ref a] ∧ Rd H a (.dK kvs) ∧ kvs.map (·.1) = ks.map Sum.inr ∧ ks.length < 64 ∧ ∀ ys p, ys.Perm ks → sortedS ys = true → H p = none → Q (.ref p) (upd H p (.lst (ys.map V.str))) : List V → Hp → VK → Prop) vs H Q := fun vs H Q bs a q => by
  obtain ⟨v, rfl, a1⟩ := a.one_
  obtain ⟨p, xs, rfl, hr, hl, hz⟩ := hx.rd a1
  exact ⟨p, _, ks, rfl, hr, kvz_fst hl, h64, fun ys t h1 h2 ht => q t _ _ _ ⟨ys, rfl, h1, h2⟩ (.new ht) ht upd_same (Ats.of_txts ys) (bs.free ht)⟩
theorem ln_sortL {ks : List Str} (h64 : ks.length < 64) : ∀ vs H Q, Bs c H → Ats k c H [.lst (ks.map D.txt)] vs → (∀ a H' xs ds, SortedOf ks ds → Rl c.E [] H H' → H a = none → H' a = some (.lst xs) → Ats k (c.add a) H' ds xs → a ∉ c.M → Q (.ref a) H') → rSortedS k.K vs H Q := fun vs H Q bs a q => by
  obtain ⟨v, rfl, a1⟩ := a.one_
  obtain ⟨p, xs, rfl, hm, hl, hx⟩ := a1
  rw [hx.txts] at hl
  exact ⟨p, ks, rfl, SqL.of hl, h64, fun ys t h1 h2 ht => q t _ _ _ ⟨ys, rfl, h1, h2⟩ (.new ht) ht upd_same (Ats.of_txts ys) (bs.free ht)⟩
end
/-- f(e), f a built-in def whose value is a new list -/
theorem pn_cB {X : Cx} {c : Fm} {δ : List Cell} {e : Expr} {es : List Expr} {pos p : Pos} {z : Str} {id : String} {r : List V → Hp → VK → Prop} {As : List D → Prop} {P : List D → Prop} (hc : CallR X (.builtin id) r) (hm : X.mg z = none) (hv : bootBuiltins z = some (.builtin id)) (ha : PXs X c δ (e :: es) As)
    (l : ∀ ds, As ds → ∀ vs H Q, Bs c H → Ats (kw X) c H ds vs → (∀ a H' xs ds, P ds → Rl c.E [] H H' → H a = none → H' a = some (.lst xs) → Ats (kw X) (c.add a) H' ds xs → a ∉ c.M → Q (.ref a) H') → r vs H Q) (hg : Gl X z := by rfl) (hn : z ≠ "__name__" := by decide) (hdb : (z == ("__debug__" : Str)) = false := by decide)
    (he : starEach (e :: es) X.env = (false, eval e X.env) :: starEach es X.env := by rfl) (hpl : (backTo pos (starEach es X.env)).any (·.1) = false := by rfl) : PN X c δ (.Call (.Name z p) (e :: es) [] pos) P :=
  PE.mono (pe_callB hc hg hm hv ha hn hdb he hpl) fun σ H Q ⟨z, w⟩ => ⟨z, fun vs H1 ds q r a => l ds q vs H1 Q (z.rl r).bs a fun v H' xs d p r2 h1 h2 h3 h4 => w v H' xs d p (r.trans0 r2) (r.none h1) h2 h3 h4⟩
end G81
set_option maxRecDepth 100000
set_option maxHeartbeats 2000000
/-! == and in of nested data -/
namespace G81
open PySem PySem.Spec PyProof.Rows L2 SlX
mutual
def D.py : D → PyData
  | .int i => .int i
  | .txt x => .str x
  | .tup l => .tuple (pys l)
  | .lst l => .list (pys l)
  | _ => .none
def pys : List D → List PyData
  | [] => []
  | d :: l => D.py d :: pys l
end
mutual
def Dq : D → Nat → Prop
  | .int _, _ => True
  | .txt x, _ => PyData.canLay0 (.str x) = true
  | .tup l, n + 1 => Dqs l n
  | .lst l, n + 1 => Dqs l n
  | _, _ => False
def Dqs : List D → Nat → Prop
  | [], _ => True
  | d :: l, n => Dq d n ∧ Dqs l n
end
theorem Dqs.all {n : Nat} : ∀ {l : List D}, (∀ d ∈ l, Dq d n) → Dqs l n
  | [], _ => trivial
  | d :: l, h => ⟨h d List.mem_cons_self, Dqs.all fun e m => h e (List.mem_cons_of_mem _ m)⟩
section
variable {k : KW} {c : Fm} {H : Hp}
mutual
theorem dq_dp : ∀ {d : D} {n : Nat} {v : V}, Dq d n → At k c H d v → Dp k.K H v d.py
  | .int i, _, _, _, a => by cases (show _ = V.int i from a); exact .int i
  | .txt x, _, _, _, a => by cases (show _ = V.str x from a); exact .str x
  | .tup l, n + 1, _, h, a => let ⟨p, xs, e, hp, hx⟩ := a; by subst e; exact .tup hp (dqs_dp (show Dqs l n from h) hx)
  | .lst l, n + 1, _, h, a => let ⟨p, xs, e, _, hp, hx⟩ := a; by subst e; exact .lst (SqL.of hp) (dqs_dp (show Dqs l n from h) hx)
  | .tup l, 0, _, h, _ => (show False from h).elim
  | .lst l, 0, _, h, _ => (show False from h).elim
  | .non, _, _, h, _ => (show False from h).elim
  | .bl _, _, _, h, _ => (show False from h).elim
  | .flst _, _, _, h, _ => (show False from h).elim
  | .dct _ _, _, _, h, _ => (show False from h).elim
  | .mdc _ _, _, _, h, _ => (show False from h).elim
  | .obj _ _, _, _, h, _ => (show False from h).elim
  | .set _, _, _, h, _ => (show False from h).elim
  | .dice, _, _, h, _ => (show False from h).elim
theorem dqs_dp : ∀ {l : List D} {n : Nat} {xs : List V}, Dqs l n → Ats k c H l xs → DpAll k.K H xs (pys l)
  | [], _, _, _, a => by cases (show _ = [] from a); exact .nil
  | d :: l, n, _, h, a => let ⟨x, t, e, p, q⟩ := a; by subst e; exact .cons (dq_dp h.1 p) (dqs_dp h.2 q)
end
end
mutual
theorem dq_lay : ∀ {d : D} {n : Nat}, Dq d n → PyData.canLay0 d.py = true ∧ PyData.depth d.py ≤ n
  | .int i, _, _ => ⟨rfl, Nat.zero_le _⟩
  | .txt x, _, h => ⟨h, Nat.zero_le _⟩
  | .tup l, n + 1, h => let z := dqs_lay (show Dqs l n from h); ⟨z.1, Nat.succ_le_succ z.2⟩
  | .lst l, n + 1, h => let z := dqs_lay (show Dqs l n from h); ⟨z.1, Nat.succ_le_succ z.2⟩
  | .tup l, 0, h => (show False from h).elim
  | .lst l, 0, h => (show False from h).elim
  | .non, _, h => (show False from h).elim
  | .bl _, _, h => (show False from h).elim
  | .flst _, _, h => (show False from h).elim
  | .dct _ _, _, h => (show False from h).elim
  | .mdc _ _, _, h => (show False from h).elim
  | .obj _ _, _, h => (show False from h).elim
  | .set _, _, h => (show False from h).elim
  | .dice, _, h => (show False from h).elim
theorem dqs_lay : ∀ {l : List D} {n : Nat}, Dqs l n → PyData.canLayAll0 (pys l) = true ∧ PyData.depthAll (pys l) ≤ n
  | [], _, _ => ⟨rfl, Nat.zero_le _⟩
  | d :: l, n, h => by
    have z1 := dq_lay h.1
    have z2 := dqs_lay h.2
    exact ⟨by rw [pys, PyData.canLayAll0, z1.1, z2.1]; rfl, by rw [pys, PyData.depthAll]; exact Nat.max_le.mpr ⟨z1.2, z2.2⟩⟩
end
theorem dq_shaped {d : D} {n : Nat} (h : Dq d n) (hn : n ≤ 64) : SeqAt.shaped d.py = true := by
  unfold SeqAt.shaped
  rw [(dq_lay h).1, Bool.true_and, decide_eq_true_eq]
  exact Nat.le_trans (dq_lay h).2 hn
mutual
theorem dq_eqv : ∀ {d e : D} {n m : Nat}, Dq d n → Dq e m → (PyData.eqv d.py e.py = true ↔ d = e)
  | .int i, .int j, _, _, _, _ => by simp [D.py, PyData.eqv]
  | .int i, .txt j, _, _, _, _ => by simp [D.py, PyData.eqv]
  | .int i, .tup j, _, _, _, _ => by simp [D.py, PyData.eqv]
  | .int i, .lst j, _, _, _, _ => by simp [D.py, PyData.eqv]
  | .txt i, .int j, _, _, _, _ => by simp [D.py, PyData.eqv]
  | .txt i, .txt j, _, _, _, _ => by simp [D.py, PyData.eqv]
  | .txt i, .tup j, _, _, _, _ => by simp [D.py, PyData.eqv]
  | .txt i, .lst j, _, _, _, _ => by simp [D.py, PyData.eqv]
  | .tup i, .int j, _, _, _, _ => by simp [D.py, PyData.eqv]
  | .tup i, .txt j, _, _, _, _ => by simp [D.py, PyData.eqv]
  | .tup i, .lst j, _, _, _, _ => by simp [D.py, PyData.eqv]
  | .lst i, .int j, _, _, _, _ => by simp [D.py, PyData.eqv]
  | .lst i, .txt j, _, _, _, _ => by simp [D.py, PyData.eqv]
  | .lst i, .tup j, _, _, _, _ => by simp [D.py, PyData.eqv]
  | .tup i, .tup j, n + 1, m + 1, h, h' => by
    have z := dqs_eqv (show Dqs i n from h) (show Dqs j m from h')
    rw [D.py, D.py, PyData.eqv, z, D.tup.injEq]
  | .lst i, .lst j, n + 1, m + 1, h, h' => by
    have z := dqs_eqv (show Dqs i n from h) (show Dqs j m from h')
    rw [D.py, D.py, PyData.eqv, z, D.lst.injEq]
  | .tup l, _, 0, _, h, _ => (show False from h).elim
  | .lst l, _, 0, _, h, _ => (show False from h).elim
  | _, .tup l, _, 0, _, h => (show False from h).elim
  | _, .lst l, _, 0, _, h => (show False from h).elim
  | .non, _, _, _, h, _ => (show False from h).elim
  | .bl _, _, _, _, h, _ => (show False from h).elim
  | .flst _, _, _, _, h, _ => (show False from h).elim
  | .dct _ _, _, _, _, h, _ => (show False from h).elim
  | .mdc _ _, _, _, _, h, _ => (show False from h).elim
  | .obj _ _, _, _, _, h, _ => (show False from h).elim
  | .set _, _, _, _, h, _ => (show False from h).elim
  | .dice, _, _, _, h, _ => (show False from h).elim
  | _, .non, _, _, _, h => (show False from h).elim
  | _, .bl _, _, _, _, h => (show False from h).elim
  | _, .flst _, _, _, _, h => (show False from h).elim
  | _, .dct _ _, _, _, _, h => (show False from h).elim
  | _, .mdc _ _, _, _, _, h => (show False from h).elim
  | _, .obj _ _, _, _, _, h => (show False from h).elim
  | _, .set _, _, _, _, h => (show False from h).elim
  | _, .dice, _, _, _, h => (show False from h).elim
theorem dqs_eqv : ∀ {l k : List D} {n m : Nat}, Dqs l n → Dqs k m → (PyData.eqvAll (pys l) (pys k) = true ↔ l = k)
  | [], [], _, _, _, _ => by simp [pys, PyData.eqvAll]
  | [], _ :: _, _, _, _, _ => by simp [pys, PyData.eqvAll]
  | _ :: _, [], _, _, _, _ => by simp [pys, PyData.eqvAll]
  | d :: l, e :: k, n, m, h, h' => by
    have z1 := dq_eqv h.1 h'.1
    have z2 := dqs_eqv h.2 h'.2
    rw [pys, pys, PyData.eqvAll, Bool.and_eq_true, z1, z2, List.cons.injEq]
end
section
variable {k : KW} {c : Fm}
/-- == of nested data: the answer tells whether they are the same -/
theorem l_eqD {d e : D} {n m : Nat} {P : D → Prop} (hd : Dq d n) (he : Dq e m) (hn : n ≤ 64) (hm : m ≤ 64) (q : ∀ b : Bool, (b = true ↔ d = e) → P (.bl b)) : R2L k c (rEqD k.K) d e P := fun v w H Q bs a1 a2 wn =>
  ⟨d.py, e.py, dq_dp hd a1, dq_dp he a2, dq_shaped hd hn, dq_shaped he hm, wn _ H (.bl (PyData.eqv d.py e.py)) (q _ (dq_eqv hd he)) .refl rfl⟩
theorem l_neD {d e : D} {n m : Nat} {P : D → Prop} (hd : Dq d n) (he : Dq e m) (hn : n ≤ 64) (hm : m ≤ 64) (q : ∀ b : Bool, (b = true ↔ d = e) → P (.bl (!b))) : R2L k c (rNeD k.K) d e P := fun v w H Q bs a1 a2 wn =>
  ⟨d.py, e.py, dq_dp hd a1, dq_dp he a2, dq_shaped hd hn, dq_shaped he hm, wn _ H (.bl (!PyData.eqv d.py e.py)) (q _ (dq_eqv hd he)) .refl rfl⟩
/-- .. by data that are embedded one to one -/
theorem l_eqE {α : Type} [DecidableEq α] {f : α → D} {x y : α} {n : Nat} (hd : ∀ x, Dq (f x) n) (hn : n ≤ 64) (inj : ∀ x y, f x = f y → x = y) : R2L k c (rEqD k.K) (f x) (f y) (Is (.bl (decide (x = y)))) :=
  l_eqD (hd x) (hd y) hn hn fun b h => congrArg D.bl (by
    rw [Bool.eq_iff_iff, h, decide_eq_true_eq]
    exact ⟨inj x y, fun e => by rw [e]⟩)
theorem l_neE {α : Type} [DecidableEq α] {f : α → D} {x y : α} {n : Nat} (hd : ∀ x, Dq (f x) n) (hn : n ≤ 64) (inj : ∀ x y, f x = f y → x = y) : R2L k c (rNeD k.K) (f x) (f y) (Is (.bl (!decide (x = y)))) :=
  l_neD (hd x) (hd y) hn hn fun b h => congrArg D.bl (by
    congr 1
    rw [Bool.eq_iff_iff, h, decide_eq_true_eq]
    exact ⟨inj x y, fun e => by rw [e]⟩)
theorem pys_map : ∀ l : List D, pys l = l.map D.py
  | [] => rfl
  | d :: l => by rw [pys, pys_map l]; rfl
/-- d in a list -/
theorem l_inD {d : D} {l : List D} {n m : Nat} {P : D → Prop} (hd : Dq d n) (he : Dqs l m) (hn : n ≤ 64) (hm : m + 1 ≤ 64) (q : ∀ b : Bool, (b = true ↔ d ∈ l) → P (.bl b)) : R2L k c (rInD k.K) d (.lst l) P := fun v w H Q bs a1 a2 wn => by
  refine ⟨d.py, pys l, dq_dp hd a1, dq_dp (d := .lst l) (n := m + 1) he a2, dq_shaped hd hn, dq_shaped (d := .lst l) (n := m + 1) he hm, wn _ H (.bl _) (q _ ?_) .refl rfl⟩
  rw [pys_map, List.any_map, List.any_eq_true]
  have al : ∀ {l : List D}, Dqs l m → ∀ x ∈ l, Dq x m := by
    intro l
    induction l with
    | nil => intro _ x h; cases h
    | cons y l ih =>
      intro h x hx
      rcases List.mem_cons.mp hx with z | z
      · rw [z]; exact h.1
      · exact ih h.2 x z
  constructor
  · rintro ⟨x, hx, e⟩
    exact ((dq_eqv (al he x hx) hd).mp e) ▸ hx
  · intro h
    exact ⟨d, h, (dq_eqv hd hd).mpr rfl⟩
theorem l_notInD {d : D} {l : List D} {n m : Nat} {P : D → Prop} (hd : Dq d n) (he : Dqs l m) (hn : n ≤ 64) (hm : m + 1 ≤ 64) (q : ∀ b : Bool, (b = true ↔ d ∈ l) → P (.bl (!b))) : R2L k c (rNotInD k.K) d (.lst l) P := fun v w H Q bs a1 a2 wn =>
  l_inD (k := k) (c := c) (P := fun x => ∃ b, x = .bl b ∧ P (.bl (!b))) hd he hn hm (fun b h => ⟨b, rfl, q b h⟩) v w H (fun z H' => ∃ b, z = .bl b ∧ Q (.bl (!b)) H') bs a1 a2 (fun z H' x ⟨b, e, p⟩ r a => by
    subst e
    exact ⟨b, a, wn _ H' _ p r rfl⟩) |> fun ⟨d', ds, h1, h2, h3, h4, b, e, h5⟩ => ⟨d', ds, h1, h2, h3, h4, by rw [V.bl.inj e]; exact h5⟩
/-- a text in a list or tuple of texts -/
theorem inV_txts {z : Str} : ∀ ys : List Str, inV (.str z) (ys.map V.str) = decide (z ∈ ys)
  | [] => rfl
  | y :: ys => by
    have h := inV_txts (z := z) ys
    unfold inV at h ⊢
    rw [List.map_cons, List.any_cons, h]
    by_cases e : z = y
    · subst e; simp [eqV]
    · have e' : ¬ y = z := fun q => e q.symm
      simp [eqV, e, e']
theorem flat_txts : ∀ ys : List Str, (ys.map V.str).all flatV = true
  | [] => rfl
  | y :: ys => by rw [List.map_cons, List.all_cons, flat_txts ys]; rfl
theorem l_inTs {z : Str} {ys : List Str} {d : D} {neg : Bool} (hd : d = .tup (ys.map D.txt) ∨ d = .lst (ys.map D.txt)) : R2L k c (rIn k.K neg) (.txt z) d (Is (.bl (if neg then !decide (z ∈ ys) else decide (z ∈ ys)))) := fun v w H Q bs a1 a2 wn => by
  cases (show v = _ from a1)
  rcases hd with rfl | rfl
  · obtain ⟨p, xs, rfl, hp, hx⟩ := a2
    rw [hx.txts] at hp
    exact ⟨p, _, rfl, .inr hp, rfl, flat_txts ys, by rw [inV_txts]; exact wn _ H _ rfl .refl rfl⟩
  · obtain ⟨p, xs, rfl, _, hp, hx⟩ := a2
    rw [hx.txts] at hp
    exact ⟨p, _, rfl, .inl (SqL.of hp), rfl, flat_txts ys, by rw [inV_txts]; exact wn _ H _ rfl .refl rfl⟩
end
end G81
set_option maxRecDepth 100000
set_option maxHeartbeats 2000000
/-! objects with slots are made -/
namespace G81
open PySem PySem.Spec PyProof.Rows L2 SlX
/-- R ds P: of the arguments ds slots of which P holds -/
abbrev RI := List D → (List D → Prop) → Prop
def Fm.two (c : Fm) (a dx : Addr) : Fm := (c.add dx).add a
def spI (k : KW) (C : Addr) (R : RI) : Sp := fun vs H Q _ => ∃ (c : Fm) (a dx : Addr) (us : List V) (ds : List D) (P : List D → Prop), vs = .ref a :: us ∧ R ds P ∧ Bs (c.two a dx) H ∧ Ats k (c.two a dx) H ds us ∧ H a = some (.ins C dx []) ∧ (∃ o, H dx = some o) ∧ c.O = [] ∧ a ∉ c.M ∧ dx ∉ c.M ∧ a ≠ dx ∧
  ∀ H' ss xs, P ss → Rl c.E [a, dx] H H' → Slt H' a C dx (xs.map some) → ss ≠ [] → Ats k (c.two a dx) H' ss xs → Q .non H'
def startI (N : List Str) (a dx C : Addr) (ds : List D) : List Cell := .slf a dx C [] :: (ds.map Cell.d ++ List.replicate (N.length - (ds.length + 1)) Cell.no)
/-- the wish of an __init__ -/
def wI (c : Fm) (a dx C : Addr) (P : List D → Prop) : Wi := ⟨c.two a dx, fun δ => ∃ ss : List D, δ[0]? = some (.slf a dx C (ss.map some)) ∧ P ss ∧ ss ≠ [], fun _ => False, fun _ => False, c.two a dx⟩
/-- all slots are filled -/
theorem sls_full {k : KW} {c : Fm} {H : Hp} : ∀ {ss : List D} {xs : List (Option V)}, SlsAt k c H (ss.map some) xs → ∃ vs, xs = vs.map some ∧ Ats k c H ss vs
  | [], xs, h => by
    have : xs = [] := List.eq_nil_of_length_eq_zero h.1
    exact ⟨[], this, rfl⟩
  | d :: ss, [], h => by have := h.1; simp at this
  | d :: ss, x :: xs, h => by
    obtain ⟨v, e, a⟩ := h.2 0 d rfl
    obtain ⟨vs, e2, a2⟩ := sls_full (ss := ss) (xs := xs) ⟨by simpa using h.1, fun i d e => by
      obtain ⟨v, e1, a⟩ := h.2 (i + 1) d (by simpa using e)
      exact ⟨v, by simpa using e1, a⟩⟩
    obtain rfl : x = some v := by simpa using e
    exact ⟨v :: vs, by rw [e2]; rfl, v, vs, rfl, a, a2⟩
section
variable {P : Program} {w : World} {K : PySem.W.Frag} {mg : Str → Option Value} {base : Heap}
def BodyI (P : Program) (w : World) (K : PySem.W.Frag) (mg : Str → Option Value) (base : Heap) (N : List Str) (k : Nat) (x : Str) (st : Stmt) (f C : Addr) (R : RI) : Prop :=
  ∀ (cdv : Value) (A : Around) (outer : List Env) (s : Shared) (H : Hp) (E : XK), Room k (A.deeper (envOfC x (defScope st) s.heap.objs.size f cdv)) → ∀ (c : Fm) (a dx : Addr) (ds : List D) (Pd : List D → Prop), c.O = [] → a ∉ c.M → dx ∉ c.M → a ≠ dx → Fok c → R ds Pd →
    PB (cxOf CX0 P w K mg base N x (defScope st) f cdv A outer s H E).nox (c.two a dx) (startI N a dx C ds) (defBody st) (wI c a dx C Pd)
theorem ini_run {k : Nat} {x : Str} {st : Stmt} {f C : Addr} {N : List Str} {R : RI} (hb : BodyI P w K mg base N k x st f C R) :
    ∀ (cdv : Value) (A : Around) (outer : List Env) (s : Shared) (H : Hp) (vs : List V) (Q : VK) (E : XK), Room k (A.deeper (envOfC x (defScope st) s.heap.objs.size f cdv)) → spI ⟨K, w⟩ C R vs H Q E →
      ∃ t, PSs (cxOf CX0 P w K mg base N x (defScope st) f cdv A outer s H E).nox (defBody st) t ∧ t { nx := fun _ H' => Q .non H', rt := Q } (L2.start N vs) H := by
  intro cdv A outer s H vs Q E hr ⟨c, a, dx, us, ds, Pd, ev, hR, bs, hA, h1, ⟨o, h2⟩, hO, n1, n2, n3, q⟩
  subst ev
  have fk : Fok c := by
    have b := bs.toBw
    refine ⟨fun x m => ?_, fun x m => absurd (hO ▸ m) (by simp), fun x m => absurd (hO ▸ m) (by simp)⟩
    have h := b.em x m
    rcases List.mem_cons.mp h with z | z
    · have := b.oe x (by rw [z]; exact List.mem_cons_self)
      exact absurd m this
    · rcases List.mem_cons.mp z with z | z
      · have := b.oe x (by rw [z]; exact List.mem_cons_of_mem _ List.mem_cons_self)
        exact absurd m this
      · exact z
  have e0 : (c.two a dx).O = [a, dx] := by show a :: dx :: c.O = _; rw [hO]
  refine ⟨_, hb cdv A outer s H E hr c a dx ds Pd hO n1 n2 n3 fk hR, ⟨bs, fun i y hy => ?_⟩, fun σ' H' δ' ⟨ss, hn, hp, hne⟩ r e => ?_, fun v H' d p => p.elim, fun _ _ _ n => n.elim⟩
  · have es := ev_start (N := N) (ds := .non :: ds) (vs := .non :: us) bs ⟨_, _, rfl, rfl, hA⟩
    have el : ∀ (vs : List V), (L2.start N (.ref a :: us)) = some (.ref a) :: (L2.start N (V.non :: us)).tail := fun _ => rfl
    rw [el us]
    have ed : startI N a dx C ds = .slf a dx C [] :: (startD N (.non :: ds)).tail := by
      unfold startI startD
      rw [List.map_cons, List.cons_append, List.tail_cons, List.length_cons]
    rw [ed] at hy
    cases i with
    | zero =>
      obtain rfl : Cell.slf a dx C [] = y := by simpa using hy
      exact ⟨_, rfl, rfl, by rw [e0]; simp, by rw [e0]; simp, [], .inl ⟨h1, rfl⟩, ⟨o, h2⟩, rfl, fun i d h => by simp at h⟩
    | succ i =>
      rw [List.getElem?_cons_succ] at hy ⊢
      have t1 : ∀ {α : Type} (l : List α) (j : Nat), l.tail[j]? = l[j + 1]? := fun l j => by cases l <;> simp
      rw [t1] at hy ⊢
      exact es.at_ (i + 1) y hy
  · obtain ⟨y, e1, e2, _, _, xs, hs, _, hx⟩ := e.at_ 0 _ hn
    obtain ⟨vs, rfl, ha⟩ := sls_full hx
    exact q H' ss vs hp (by rw [e0] at r; exact r) hs hne ha
theorem inD {x qual : Str} {st : Stmt} {f C : Addr} {fd : FuncData} {N ps : List Str} {k : Nat} {R : RI} (F : Fun K x qual st f fd) (S : FnScope N ps (defScope st)) (len : ∀ ds P, R ds P → ds.length + 1 = ps.length)
    (hb : BodyI P w K mg base N k qual st f C R) : FnOk P w K mg base CX0 (k + 1) f fd ps (spI ⟨K, w⟩ C R) :=
  F.ok S (fun vs H Q E ⟨c, a, dx, us, ds, Pd, e, hR, _, hA, _⟩ => by rw [e, List.length_cons, hA.length]; exact len ds Pd hR) (ini_run hb)
/-- a class that may be made by its name -/
structure Mak (P : Program) (w : World) (K : PySem.W.Frag) (mg : Str → Option Value) (base : Heap) (k : Nat) (x : Str) (C : Addr) (R : RI) : Prop where
  ex : ∃ (f : Addr) (fd : FuncData) (ps : List Str), Mk K C f ∧ FnOk P w K mg base CX0 k f fd ps (spI ⟨K, w⟩ C R) ∧ mg x = some (.ref C) ∧ Binds K fd ps []
end
section
variable {X : Cx} {c : Fm} {δ : List Cell} {e : Expr} {es : List Expr} {P : D → Prop} {As : List D → Prop} {R : RI} {j k : Nat} {x : Str} {C : Addr} {pos p : Pos}
theorem px_mk (m : Mak X.prog X.w X.K X.mg X.base k x C R) (hr : Room j X.A) (hk : k + 1 ≤ j) (hg : Gl X x) (ha : PXs X c δ (e :: es) As) (h : ∀ ds, As ds → ∃ Ps, R ds Ps ∧ ∀ ss, Ps ss → P (.obj C ss))
    (hdb : (x == ("__debug__" : Str)) = false := by decide) (he : starEach (e :: es) X.env = (false, eval e X.env) :: starEach es X.env := by rfl) (hpl : (backTo pos (starEach es X.env)).any (·.1) = false := by rfl) :
    PX X c δ (.Call (.Name x p) (e :: es) [] pos) P := by
  obtain ⟨f, fd, ps, M, F, hm, b⟩ := m.ex
  refine PE.mono (pe_make M F (hr.mono hk) hg hm b .nil pass0 ha hdb he hpl) fun σ H Q ⟨z, w⟩ => ⟨z, fun vs H1 ds q r a => fun x dx hx hdx ne => ?_⟩
  rw [List.append_nil]
  obtain ⟨Ps, hR, hP⟩ := h ds q
  have ev := z.rl r
  have b0 := ev.bs.base
  have up1 := Up.add b0 hdx
  have b1 : Bs (c.base.add dx) (upd H1 dx (.own x)) := b0.add hdx
  have hx1 : upd H1 dx (.own x) x = none := by rw [upd_ne (Ne.symm ne)]; exact hx
  have up2 := Up.add b1 hx1
  have b2 : Bs ((c.base.add dx).add x) (upd (upd H1 dx (.own x)) x (.ins C dx [])) := b1.add hx1
  have a1 : Ats (kw X) (c.base.add dx) (upd H1 dx (.own x)) ds vs := (a.base.up up1).rl up1.b (Rl.new hdx)
  have a2 : Ats (kw X) (c.base.two x dx) (upd (upd H1 dx (.own x)) x (.ins C dx [])) ds vs := (a1.up up2).rl up2.b (Rl.new hx1)
  refine ⟨c.base, x, dx, vs, ds, Ps, rfl, hR, b2, a2, upd_same, ⟨.own x, by rw [upd_ne ne, upd_same]⟩, rfl, ev.bs.free hx, ev.bs.free hdx, Ne.symm ne, fun H2 ss xs hp r2 hs hne hx2 => ⟨rfl, ?_⟩⟩
  have hs2 : H2 x = some (SlO x C dx (xs.map some)) ∧ H2 dx = some (.xd []) := by
    rcases hs with ⟨_, h2⟩ | h2
    · have e1 : xs = [] := by simpa using h2
      have e2 := hx2.length
      rw [e1] at e2
      exact absurd (List.eq_nil_of_length_eq_zero e2.symm) hne
    · exact h2
  have r3 : Rl c.E [] H1 H2 := fun b o e => by
    have n1 : b ≠ dx := ne_of_none e hdx
    have n2 : b ≠ x := ne_of_none e hx
    rcases r2 b o (by rw [upd_ne n2, upd_ne n1]; exact e) with z | z | ⟨z, _⟩
    · exact .inl z
    · exact .inr (.inl z)
    · rcases List.mem_cons.mp z with z | z
      · exact absurd z n2
      · exact absurd (List.mem_singleton.mp z) n1
  exact w (.ref x) H2 (.obj C ss) (hP ss hp) (r.trans0 r3) ⟨x, dx, xs, rfl, ev.bs.free hx, ev.bs.free hdx, hs2.1, hs2.2, hx2.unadd.unadd.unbase⟩
end
section
variable {X : Cx} {c : Fm} {δ : List Cell} {e o : Expr} {P : D → Prop} {rest : List Stmt} {w : Wi} {a dx C p : Addr} {ss : List (Option D)} {f : Str} {pos pos' : Pos} {n : Nat}
/-- slot i filled -/
def fillS (i : Nat) (d : D) (ss : List (Option D)) : List (Option D) := (ss ++ List.replicate (i + 1 - ss.length) none).set i (some d)
theorem sls_put {k : KW} {c : Fm} {H : Hp} {i : Nat} {d : D} {v : V} {ss : List (Option D)} {xs : List (Option V)} (h : SlsAt k c H ss xs) (a : At k c H d v) : SlsAt k c H (fillS i d ss) (putS i v xs) := by
  refine ⟨?_, fun j e hj => ?_⟩
  · unfold fillS putS
    rw [List.length_set, List.length_set, List.length_append, List.length_append, List.length_replicate, List.length_replicate, h.1]
  · by_cases q : j = i
    · subst q
      rw [putS_get]
      have z : (fillS j d ss)[j]? = some (some d) := by
        unfold fillS
        exact List.getElem?_set_self (by simp only [List.length_append, List.length_replicate]; omega)
      rw [z] at hj
      cases hj
      exact ⟨v, rfl, a⟩
    · have z : ss[j]? = some (some e) := by
        unfold fillS at hj
        rw [List.getElem?_set_ne (Ne.symm q)] at hj
        by_cases hl : j < ss.length
        · rw [List.getElem?_append_left hl] at hj
          exact hj
        · rw [List.getElem?_append_right (by omega), List.getElem?_replicate] at hj
          split at hj <;> cases hj
      obtain ⟨u, e1, a1⟩ := h.2 j e z
      exact ⟨u, (putS_ne q).mpr e1, a1⟩
theorem slt_own {H : Hp} {vs : List (Option V)} (h : Slt H a C dx vs) : ∃ u, H a = some u ∧ OwnK u := by
  rcases h with ⟨h1, _⟩ | ⟨h1, _⟩
  · exact ⟨_, h1, by intro xs; simp, by intro a b; simp⟩
  · exact ⟨_, h1, by intro xs; unfold SlO; simp, by intro a b; unfold SlO; simp⟩
/-- behind a store into one's own object -/
theorem slH_rl {E O : List Addr} {H : Hp} {vs vs' : List (Option V)} (m1 : a ∈ O) (m2 : dx ∈ O) (h : Slt H a C dx vs) (h2 : ∃ o, H dx = some o ∧ OwnK o) : Rl E O H (slH H a C dx vs') := fun b u e => by
  by_cases h1 : b = a
  · subst h1
    obtain ⟨u', hu, ku⟩ := slt_own h
    rw [hu] at e
    cases e
    exact .inr (.inr ⟨m1, ku, _, by unfold slH; rw [upd_same]⟩)
  · by_cases h2' : b = dx
    · subst h2'
      obtain ⟨o, ho, ko⟩ := h2
      rw [ho] at e
      cases e
      exact .inr (.inr ⟨m2, ko, .xd [], by unfold slH; rw [upd_ne h1, upd_same]⟩)
    · exact .inl (by rw [slH_ne h1 h2']; exact e)
theorem slf_own {X : Cx} {pins : List (Addr × Obj)} {σ : L2.St} {H : Hp} {s : Shared} {vs : List (Option V)} (I : L2.Inv X pins σ H s) (h : Slt H a C dx vs) : dx ≠ a ∧ ∃ o, H dx = some o ∧ OwnK o := by
  refine ⟨(slt_at I h).1, ?_⟩
  rcases h with ⟨h1, _⟩ | ⟨_, h2⟩
  · obtain ⟨_, _, _, _, _, ho⟩ := ins_get I.hok h1
    exact ⟨_, ho, by intro xs; simp, by intro a b; simp⟩
  · exact ⟨_, h2, by intro xs; simp, by intro a b; simp⟩
theorem pe_slf {e : Expr} {t : TE} (h : PE X e t) : PE X e (fun σ H Q => t σ H fun v H' => (∀ a C dx vs, Slt H' a C dx vs → dx ≠ a ∧ ∃ o, H' dx = some o ∧ OwnK o) → Q v H') := by
  refine ⟨fun pins s σ H Q I z => ?_⟩
  exact thn (h.run pins s σ H _ I z) fun u s1 ⟨v, H1, I1, r, q⟩ => ⟨v, H1, I1, r, q fun a C dx vs hs => slf_own I1 hs⟩
theorem ev_slf {kk : KW} {H : Hp} {σ : L2.St} {j : Nat} {d : D} {v : V} {xs : List (Option V)} (z : Ev kk c H σ δ) (hd : δ[j]? = some (.slf a dx C ss)) (e0 : σ[j]? = some (some (.ref a))) (m1 : a ∈ c.O) (m2 : dx ∈ c.O) (hs : Slt H a C dx xs) (ne : dx ≠ a) (ho : ∃ o, H dx = some o ∧ OwnK o) (hx : SlsAt kk c H ss xs) (hv : At kk c H d v)
    (off1 : offAll a (δ.set j .no)) (off2 : offAll dx (δ.set j .no)) : Ev kk c (slH H a C dx (putS n v xs)) σ (δ.set j (.slf a dx C (fillS n d ss))) := by
  have hi := (List.getElem?_eq_some_iff.mp hd).1
  have r : Rl c.E c.O H (slH H a C dx (putS n v xs)) := slH_rl m1 m2 hs ho
  have r2 : Rl c.E [a, dx] H (slH H a C dx (putS n v xs)) := slH_rl (by simp) (by simp) hs ho
  have z0 : Ev kk c H σ (δ.set j .no) := ⟨z.bs, fun i x hx => by
    by_cases hj : i = j
    · subst hj
      rw [List.getElem?_set_self hi] at hx
      cases hx
      exact ⟨_, e0, trivial⟩
    · rw [List.getElem?_set_ne (Ne.symm hj)] at hx
      exact z.at_ i x hx⟩
  have z1 := z0.rlO (O := [a, dx]) (fun b m => by
    rcases List.mem_cons.mp m with h | h
    · rw [h]; exact m1
    · rw [List.mem_singleton.mp h]; exact m2) (fun i x hx b m => by
    rcases List.mem_cons.mp m with h | h
    · rw [h]; exact off1.at i x hx
    · rw [List.mem_singleton.mp h]; exact off2.at i x hx) r2
  refine ⟨z1.bs, fun i x hx' => ?_⟩
  by_cases hj : i = j
  · subst hj
    rw [List.getElem?_set_self hi] at hx'
    cases hx'
    exact ⟨_, e0, rfl, m1, m2, putS n v xs, slH_slt ne, ⟨.xd [], by unfold slH; rw [upd_ne ne, upd_same]⟩, (sls_put hx hv).imp fun d v a => a.rl z.bs.toBw r⟩
  · rw [List.getElem?_set_ne (Ne.symm hj)] at hx'
    exact z1.at_ i x (by rw [List.getElem?_set_ne (Ne.symm hj)]; exact hx')
/-- self.f = e, the slot n -/
theorem pb_slot {z : Str} {zp : Pos} (j : Nat) (c' : SCls X.K C) (t : Slot1 X.K C f p n) (hd : δ[j]? = some (.slf a dx C ss)) (he : PX X c δ e P) (off1 : offAll a (δ.set j .no)) (off2 : offAll dx (δ.set j .no)) (q : ∀ d, P d → PB X c (δ.set j (.slf a dx C (fillS n d ss))) rest w)
    (hN : X.N[j]? = some z := by rfl) (hv : Vis X.env.scope z := by first | exact Or.inl rfl | exact Or.inr (Or.inl rfl) | exact Or.inr (Or.inr rfl)) (h1 : (z == ("__debug__" : Str)) = false := by decide) (h2 : (z == ("__classdict__" : Str)) = false := by decide)
    (hsw : swapsWith e (some (.Attribute (.Name z zp) f pos')) pos.line X.env = pure false := by rfl) : PB X c δ (.Assign [.Attribute (.Name z zp) f pos'] e pos :: rest) w := by
  have key : PSs X rest (fun D σ H => ∃ d, P d ∧ tB (kw X) c (δ.set j (.slf a dx C (fillS n d ss))) w D σ H) := ⟨fun pins s σ H D I ⟨d, p, z⟩ => (q d p).run pins s σ H D I z⟩
  refine PSs.mono (pss_cons (ps_sl (pe_slot j hN hv h1 h2) (pe_slf he) hsw) key) fun D σ H tb => ⟨tb.1, fun v H1 d pd r av own => ?_⟩
  have ev1 := tb.1.rl r
  obtain ⟨y, e0, e1, m1, m2, xs, hs, ho, hx⟩ := ev1.at_ j _ hd
  subst e1
  obtain ⟨ne, hO⟩ := own _ _ _ _ hs
  refine ⟨.ref a, e0, a, C, dx, p, _, n, rfl, hs, c', t, d, pd, ?_⟩
  exact tB_own tb (r.wide.trans tb.1.oe (slH_rl m1 m2 hs hO)) (ev_slf ev1 hd e0 m1 m2 hs ne hO hx av off1 off2)
/-- one's own object, read within an expression -/
theorem px_borrowS (i : Nat) {c0 : Fm} {ss : List D} (hc : c = c0.two a dx) (fk : Fok c0) (h1 : a ∉ c0.M) (h2 : dx ∉ c0.M) (ne : a ≠ dx) (hd : δ[i]? = some (.slf a dx C (ss.map some))) (hne : ss ≠ []) (off1 : offAll a (δ.set i .no)) (off2 : offAll dx (δ.set i .no)) (he : PX X c0 (δ.set i (.d (.obj C ss))) e P)
    (hf : ∀ d, P d → ∃ ys : List Str, d = .tup (ys.map D.txt)) : PX X c δ e P := by
  subst hc
  have hi := (List.getElem?_eq_some_iff.mp hd).1
  refine PE.mono he fun σ H Q ⟨z, w⟩ => ⟨?_, fun v H' d p r av => w v H' d p r ?_⟩
  · obtain ⟨y, e0, e1, m1, m2, xs', hs, ho, hx'⟩ := z.at_ i _ hd
    obtain ⟨xs, rfl, hx⟩ := sls_full hx'
    have fk1 : Fok (c0.add dx) := ⟨fun b m => List.mem_cons_of_mem _ (fk.em b m), fun b m => by
      rcases List.mem_cons.mp m with z | z
      · rw [z]; exact List.mem_cons_self
      · exact List.mem_cons_of_mem _ (fk.om b z), fun b m => z.bs.oe b (List.mem_cons_of_mem _ m)⟩
    have z1 : Ev (kw X) (c0.add dx) H σ (δ.set i .no) := ev_drop (i := i) (y := .no) fk1 z off1 hi fun _ _ => trivial
    have z2 := ev_drop (i := i) (y := .d (.obj C ss)) fk z1 (by rw [List.set_set]; exact off2) (by rw [List.length_set]; exact hi) fun v hv => ?_
    · rw [List.set_set] at z2
      exact z2
    · rw [e0] at hv
      cases hv
      subst e1
      have hs2 : H a = some (SlO a C dx (xs.map some)) ∧ H dx = some (.xd []) := by
        rcases hs with ⟨_, h2⟩ | h2
        · have e1 : xs = [] := by simpa using h2
          have e2 := hx.length
          rw [e1] at e2
          exact absurd (List.eq_nil_of_length_eq_zero e2.symm) hne
        · exact h2
      exact ⟨.ref a, rfl, a, dx, xs, rfl, h1, h2, hs2.1, hs2.2, hx.unadd.unadd⟩
  · obtain ⟨ys, rfl⟩ := hf d p
    obtain ⟨b, xs, e, hb, hx⟩ := av
    exact ⟨b, xs, e, hb, by rw [hx.txts]; exact Ats.of_txts ys⟩
end
end G81
set_option maxRecDepth 100000
set_option maxHeartbeats 2000000
/-! the text's facts, read off the heap that the top leaves -/
namespace G81
open PySem PySem.Spec PyProof.Rows L2 SlX
def topS (i : Nat) : Stmt := PySem.Challenge.pw_grownlines_k81_whole_spared_and_least.main.body.getD i (.Pass ⟨0, 0, 0, 0⟩)
/-- where a def stands: under a module's name, in a class, behind a property of a class -/
inductive Wh where
  | glo (x : Str) | met (C m : Str) | prp (C m : Str)
def Wh.adr (K : PySem.W.Frag) : Wh → Addr
  | .glo x => He.ga K x
  | .met C m => He.ma K (He.ga K C) m
  | .prp C m => match PySem.W.recIn K (He.ma K (He.ga K C) m) "property" with
    | some (.ref g :: _) => g
    | _ => 0
structure DefW where
  wh : Wh
  name : Str
  qual : Str
  st : Stmt
def fnAt (K : PySem.W.Frag) (a : Addr) : He.FnW := match K.lookup a with
  | some ⟨_, _, .func d, _⟩ => some (d.name, d.qualname, d.params, d.body, d.scope, d.globals, d.closure, d.builtins)
  | _ => none
def DefW.val (d : DefW) : He.FnW := some (d.name, d.qual, defArgs d.st, .stmts (defBody d.st), defScope d.st, mainGlobals, [], builtinsNs)
def noDf : Value → Bool
  | .none => true
  | _ => false
def DefW.ok (K : PySem.W.Frag) (d : DefW) : Bool := PySem.W.keepIn K (.ref (d.wh.adr K)) && (match K.lookup (d.wh.adr K) with
  | some ⟨_, _, .func e, _⟩ => PySem.W.codeIn K e.code d.qual && noDf e.defaults
  | _ => false)
theorem DefW.fun_ {K : PySem.W.Frag} {d : DefW} (e : fnAt K (d.wh.adr K) = d.val) (c : d.ok K = true) : ∃ fd, Fun K d.name d.qual d.st (d.wh.adr K) fd := by
  obtain ⟨kp, c2⟩ := Bool.and_eq_true_iff.mp c
  unfold fnAt at e
  cases hq : K.lookup (d.wh.adr K) with
  | none => rw [hq] at c2; cases c2
  | some o =>
    obtain ⟨oc, od, dt, osl⟩ := o
    rw [hq] at c2 e
    cases dt with
    | func g =>
      obtain ⟨m1, m2, m3, m4, m5, m6, m7, m8, m9, m10, m11, m12, m13, m14, m15⟩ := g
      have e2 : (some (m1, m2, m3, m4, m5, m6, m7, m15) : He.FnW) = some (d.name, d.qual, defArgs d.st, .stmts (defBody d.st), defScope d.st, mainGlobals, [], builtinsNs) := e
      simp only [Option.some.injEq, Prod.mk.injEq] at e2
      obtain ⟨e1, e2, e3, e4, e5, e6, e7, e8⟩ := e2
      subst e1 e2 e3 e4 e5 e6 e7 e8
      obtain ⟨c3, c4⟩ := Bool.and_eq_true_iff.mp (show (PySem.W.codeIn K m13 d.qual && noDf m8) = true from c2)
      cases m8 with
      | none => exact ⟨_, ⟨oc, od, m9, m10, m11, m12, m13, m14, osl, rfl, hq, c3⟩, kp⟩
      | _ => cases c4
    | _ => cases c2
theorem def_ok {K : PySem.W.Frag} {d : DefW} {ps : List Str} (h : ∃ fd, Fun K d.name d.qual d.st (d.wh.adr K) fd)
    (hb : ∀ (kV doc pm : Value) (an : Option Addr) (cdv ct : Value) (us : List Value), us.length = ps.length → bindArgs (PySem.W.fnOf d.name d.qual (defArgs d.st) (defBody d.st) (defScope d.st) .none kV doc pm an cdv ct) ⟨us, []⟩ = pure (ps.zip us)) :
    ∃ fd, Fun K d.name d.qual d.st (d.wh.adr K) fd ∧ Binds K fd ps [] := by
  obtain ⟨fd, F⟩ := h
  exact ⟨fd, F, F.binds hb⟩
def unitsS : List (Int × Int) := [(1, 0), (0, 1), (-1, 0), (0, -1)]
def unitsT : List (Int × Int) := [(1, 0), (0, 1), (-1, 1), (-1, 0), (0, -1), (1, -1)]
/-- a module's name that holds a tuple of texts | a tuple of pairs of ints -/
def TupTx (K : PySem.W.Frag) (mg : Str → Option Value) (x : Str) (zs : List Str) : Prop := ∃ a, mg x = some (.ref a) ∧ ∀ H, SqT K H a (zs.map V.str)
def UnitsTx (K : PySem.W.Frag) (mg : Str → Option Value) (x : Str) (us : List (Int × Int)) : Prop := ∃ (a : Addr) (ps : List Addr), mg x = some (.ref a) ∧ (∀ H, SqT K H a (ps.map V.ref)) ∧ ps.length = us.length ∧ ∀ (i : Nat) (p : Addr) (u : Int × Int), ps[i]? = some p → us[i]? = some u → ∀ H, SqT K H p [.int u.1, .int u.2]
inductive Fx where
  | free (x : Str) | glo (x : Str) | int (x : Str) (i : Int) | str (x z : Str) | cls (x : Str) | mkr (x : Str) | nat (C m : Str) (id : String) | slot (C f : Str) (i : Nat) | prop (C f : Str) | meth (C m : Str) | fnin (C m : Str)
  | tup (x : Str) (zs : List Str) | units (x : Str) (us : List (Int × Int))
def eqB (a b : Option (Option Value)) : Bool := decide (a = b)
def seqAt (K : PySem.W.Frag) (a : Addr) : Option (List Value) := match K.lookup a with
  | some ⟨.type c, _, .seq its _, _⟩ => if c = "tuple" ∧ its.size ≤ sizeLine then some its.toList else none
  | _ => none
theorem seqAt_ok {K : PySem.W.Frag} {a : Addr} {us : List Value} {vs : List V} (h : seqAt K a = some us) (r : He.relAll vs us = true) (H : Hp) : SqT K H a vs := by
  unfold seqAt at h
  split at h
  · rename_i c od its n sl e
    split at h
    · rename_i hh
      cases h
      exact .inr ⟨_, its, n, e, congrArg Value.type hh.1, rfl, hh.2, He.relAll_ok r⟩
    · cases h
  · cases h
def addrsOf : List Value → Option (List Addr)
  | [] => some []
  | v :: r => match v with
    | .ref a => (addrsOf r).map (a :: ·)
    | _ => none
def unitsOk (K : PySem.W.Frag) : List Addr → List (Int × Int) → Bool
  | [], [] => true
  | p :: ps, u :: us => (match seqAt K p with
    | some vs => He.relAll [.int u.1, .int u.2] vs
    | none => false) && unitsOk K ps us
  | _, _ => false
def Fx.ok (K : PySem.W.Frag) : Fx → Bool
  | .free x => eqB (PySem.W.nsIn K mainGlobals x) (some none)
  | .glo x => eqB (PySem.W.nsIn K mainGlobals x) (some (some (.ref (He.ga K x))))
  | .int x i => (match PySem.W.nsIn K mainGlobals x with
    | some (some (.int j _)) => decide (j = i)
    | _ => false)
  | .str x z => (match PySem.W.nsIn K mainGlobals x with
    | some (some (.str y _)) => decide (y = z)
    | _ => false)
  | .cls x => (PySem.W.plainGet K (He.ga K x) Str.empty && (PySem.W.isClsIn K (He.ga K x) && (PySem.W.plainOver K (He.ga K x) && eqB (PySem.W.findIn K (.ref (He.ga K x)) "__setattr__") (some (some (.builtin "object.__setattr__"))))))
      && (eqB (PySem.W.findIn K (.ref (He.ga K x)) "__class__") (some (some (.builtin "object.__class__"))) && (eqB (PySem.W.specialIn K (.builtin "object.__class__") "__get__") (some (some (.builtin "getset_descriptor.__get__"))) && (decide (PySem.W.takesIn K (.builtin "object.__class__") = some true) && decide (PySem.W.mroIn K (He.ga K x) (.type "object") = some true))))
  | .mkr x => PySem.W.makesIn K (He.ga K x) && (eqB (PySem.W.findIn K (.ref (He.ga K x)) "__init__") (some (some (.ref (He.ma K (He.ga K x) "__init__")))) && (PySem.W.isFn K (.ref (He.ma K (He.ga K x) "__init__")) && PySem.W.keepIn K (.ref (He.ga K x))))
  | .nat C m id => eqB (PySem.W.findIn K (.ref (He.ga K C)) m) (some (some (.builtin id)))
  | .slot C f i => eqB (PySem.W.findIn K (.ref (He.ga K C)) f) (some (some (.ref (He.ma K (He.ga K C) f)))) && (eqB (PySem.W.specialIn K (.ref (He.ma K (He.ga K C) f)) "__get__") (some (some (.builtin "member_descriptor.__get__"))) && (decide (PySem.W.takesIn K (.ref (He.ma K (He.ga K C) f)) = some true)
      && (decide (PySem.W.typeIn K (.ref (He.ma K (He.ga K C) f)) = some (.type "member_descriptor")) && (decide (PySem.W.slotIn K (He.ma K (He.ga K C) f) (He.ga K C) = some i) && decide (i < 1000)))))
  | .prop C f => eqB (PySem.W.findIn K (.ref (He.ga K C)) f) (some (some (.ref (He.ma K (He.ga K C) f)))) && (eqB (PySem.W.specialIn K (.ref (He.ma K (He.ga K C) f)) "__get__") (some (some (.builtin "property.__get__"))) && (decide (PySem.W.takesIn K (.ref (He.ma K (He.ga K C) f)) = some true)
      && (match PySem.W.recIn K (He.ma K (He.ga K C) f) "property" with
        | some (.ref g :: _) => decide (g = (Wh.prp C f).adr K)
        | _ => false)))
  | .meth C m => eqB (PySem.W.findIn K (.ref (He.ga K C)) m) (some (some (.ref (He.ma K (He.ga K C) m)))) && (PySem.W.isFn K (.ref (He.ma K (He.ga K C) m)) && PySem.W.keepIn K (.ref (He.ma K (He.ga K C) m)))
  | .fnin C m => PySem.W.fnIn K (He.ma K (He.ga K C) m)
  | .tup x zs => eqB (PySem.W.nsIn K mainGlobals x) (some (some (.ref (He.ga K x)))) && (match seqAt K (He.ga K x) with
    | some vs => He.relAll (zs.map V.str) vs
    | none => false)
  | .units x us => eqB (PySem.W.nsIn K mainGlobals x) (some (some (.ref (He.ga K x)))) && (match (seqAt K (He.ga K x)).bind addrsOf with
    | some ps => unitsOk K ps us
    | none => false)
def defs0 : List DefW := [
  ⟨.glo "is_integer", "is_integer", "is_integer", topS 4⟩,
  ⟨.glo "is_count", "is_count", "is_count", topS 5⟩,
  ⟨.glo "is_letter", "is_letter", "is_letter", topS 6⟩,
  ⟨.met "Grid" "__init__", "__init__", "Grid.__init__", inClass (topS 23) 1⟩,
  ⟨.prp "Grid" "name", "name", "Grid.name", inClass (topS 23) 2⟩,
  ⟨.prp "Grid" "units", "units", "Grid.units", inClass (topS 23) 4⟩,
  ⟨.met "Grid" "square_of", "square_of", "Grid.square_of", inClass (topS 23) 10⟩,
  ⟨.met "Grid" "__len__", "__len__", "Grid.__len__", inClass (topS 23) 20⟩,
  ⟨.met "Grid" "__eq__", "__eq__", "Grid.__eq__", inClass (topS 23) 22⟩,
  ⟨.met "Grid" "__str__", "__str__", "Grid.__str__", inClass (topS 23) 23⟩,
  ⟨.glo "require_grid", "require_grid", "require_grid", topS 24⟩,
  ⟨.glo "is_item_of", "is_item_of", "is_item_of", topS 28⟩,
  ⟨.glo "is_row_of", "is_row_of", "is_row_of", topS 29⟩,
  ⟨.glo "row_text", "row_text", "row_text", topS 30⟩,
  ⟨.met "Rule" "__init__", "__init__", "Rule.__init__", inClass (topS 31) 1⟩,
  ⟨.prp "Rule" "grid", "grid", "Rule.grid", inClass (topS 31) 3⟩,
  ⟨.prp "Rule" "row", "row", "Rule.row", inClass (topS 31) 4⟩,
  ⟨.prp "Rule" "letters", "letters", "Rule.letters", inClass (topS 31) 5⟩,
  ⟨.prp "Rule" "end", "end", "Rule.end", inClass (topS 31) 7⟩,
  ⟨.met "Rule" "steps_in", "steps_in", "Rule.steps_in", inClass (topS 31) 8⟩]
def defs1 : List DefW := [
  ⟨.met "Rule" "__iter__", "__iter__", "Rule.__iter__", inClass (topS 31) 16⟩,
  ⟨.met "Rule" "__len__", "__len__", "Rule.__len__", inClass (topS 31) 17⟩,
  ⟨.met "Rule" "__eq__", "__eq__", "Rule.__eq__", inClass (topS 31) 18⟩,
  ⟨.met "Rule" "__str__", "__str__", "Rule.__str__", inClass (topS 31) 19⟩,
  ⟨.glo "end_of_row", "end_of_row", "end_of_row", topS 38⟩,
  ⟨.glo "are_rules", "are_rules", "are_rules", topS 39⟩,
  ⟨.glo "are_parts", "are_parts", "are_parts", topS 40⟩,
  ⟨.met "Scheme" "__init__", "__init__", "Scheme.__init__", inClass (topS 41) 1⟩,
  ⟨.met "Scheme" "letters_met", "letters_met", "Scheme.letters_met", inClass (topS 41) 3⟩,
  ⟨.prp "Scheme" "grid", "grid", "Scheme.grid", inClass (topS 41) 4⟩,
  ⟨.prp "Scheme" "axiom", "axiom", "Scheme.axiom", inClass (topS 41) 5⟩,
  ⟨.prp "Scheme" "letters", "letters", "Scheme.letters", inClass (topS 41) 6⟩,
  ⟨.prp "Scheme" "growth", "growth", "Scheme.growth", inClass (topS 41) 7⟩,
  ⟨.prp "Scheme" "lines", "lines", "Scheme.lines", inClass (topS 41) 8⟩,
  ⟨.prp "Scheme" "is_even", "is_even", "Scheme.is_even", inClass (topS 41) 10⟩,
  ⟨.prp "Scheme" "used", "used", "Scheme.used", inClass (topS 41) 11⟩,
  ⟨.met "Scheme" "require_letter", "require_letter", "Scheme.require_letter", inClass (topS 41) 14⟩,
  ⟨.met "Scheme" "__getitem__", "__getitem__", "Scheme.__getitem__", inClass (topS 41) 15⟩,
  ⟨.met "Scheme" "__iter__", "__iter__", "Scheme.__iter__", inClass (topS 41) 17⟩,
  ⟨.met "Scheme" "__len__", "__len__", "Scheme.__len__", inClass (topS 41) 18⟩]
def defs2 : List DefW := [
  ⟨.met "Scheme" "__eq__", "__eq__", "Scheme.__eq__", inClass (topS 41) 19⟩,
  ⟨.glo "require_scheme", "require_scheme", "require_scheme", topS 42⟩,
  ⟨.glo "require_order", "require_order", "require_order", topS 46⟩,
  ⟨.glo "counts_behind", "counts_behind", "counts_behind", topS 47⟩,
  ⟨.glo "counts_of", "counts_of", "counts_of", topS 48⟩,
  ⟨.glo "letter_counts", "letter_counts", "letter_counts", topS 49⟩,
  ⟨.glo "replaced", "replaced", "replaced", topS 50⟩,
  ⟨.glo "row_grown", "row_grown", "row_grown", topS 51⟩,
  ⟨.glo "steps_of", "steps_of", "steps_of", topS 52⟩,
  ⟨.glo "called", "called", "called", topS 54⟩,
  ⟨.glo "is_renaming", "is_renaming", "is_renaming", topS 55⟩,
  ⟨.glo "renamed_scheme", "renamed_scheme", "renamed_scheme", topS 56⟩,
  ⟨.glo "spared", "spared", "spared", topS 57⟩,
  ⟨.glo "sequels_alike", "sequels_alike", "sequels_alike", topS 58⟩,
  ⟨.glo "least_scheme", "least_scheme", "least_scheme", topS 59⟩,
  ⟨.glo "_law_dice", "_law_dice", "_law_dice", topS 61⟩,
  ⟨.glo "_law_roll", "_law_roll", "_law_roll", topS 62⟩,
  ⟨.glo "_law_pick", "_law_pick", "_law_pick", topS 63⟩,
  ⟨.glo "_law_mixed", "_law_mixed", "_law_mixed", topS 64⟩,
  ⟨.glo "_law_around", "_law_around", "_law_around", topS 65⟩]
def defs3 : List DefW := [
  ⟨.glo "_law_row", "_law_row", "_law_row", topS 66⟩,
  ⟨.glo "_law_row_text", "_law_row_text", "_law_row_text", topS 67⟩,
  ⟨.glo "_law_plain", "_law_plain", "_law_plain", topS 68⟩,
  ⟨.glo "_law_made", "_law_made", "_law_made", topS 69⟩,
  ⟨.glo "_law_more", "_law_more", "_law_more", topS 70⟩,
  ⟨.glo "_law_line", "_law_line", "_law_line", topS 71⟩,
  ⟨.glo "_law_low_order", "_law_low_order", "_law_low_order", topS 72⟩,
  ⟨.glo "_law_written", "_law_written", "_law_written", topS 73⟩,
  ⟨.glo "_law_turns", "_law_turns", "_law_turns", topS 74⟩,
  ⟨.glo "_law_drawn_rule", "_law_drawn_rule", "_law_drawn_rule", topS 75⟩,
  ⟨.glo "_law_drawn", "_law_drawn", "_law_drawn", topS 76⟩,
  ⟨.glo "_law_any", "_law_any", "_law_any", topS 77⟩,
  ⟨.glo "_law_used", "_law_used", "_law_used", topS 78⟩,
  ⟨.glo "_law_wild_lines", "_law_wild_lines", "_law_wild_lines", topS 79⟩,
  ⟨.glo "_law_with_copies", "_law_with_copies", "_law_with_copies", topS 80⟩,
  ⟨.glo "_law_directions", "_law_directions", "_law_directions", topS 81⟩,
  ⟨.glo "_law_spared_right", "_law_spared_right", "_law_spared_right", topS 82⟩,
  ⟨.glo "_law_least_right", "_law_least_right", "_law_least_right", topS 83⟩,
  ⟨.glo "law", "law", "law", topS 84⟩]
def allDefs : List DefW := defs0 ++ defs1 ++ defs2 ++ defs3
def fx0 : List Fx := [.free "len", .free "isinstance", .free "all", .free "tuple", .free "sorted", .free "sum", .free "set", .free "list", .free "dict", .free "range", .free "max", .free "min", .free "abs", .free "int", .free "str", .free "iter", .free "zip", .free "enumerate", .free "bool", .glo "is_integer"]
def fx1 : List Fx := [.glo "is_count", .glo "is_letter", .glo "require_grid", .glo "is_item_of", .glo "is_row_of", .glo "row_text", .glo "end_of_row", .glo "are_rules", .glo "are_parts", .glo "require_scheme", .glo "require_order", .glo "counts_behind", .glo "counts_of", .glo "letter_counts", .glo "replaced", .glo "row_grown", .glo "steps_of", .glo "called", .glo "is_renaming", .glo "renamed_scheme"]
def fx2 : List Fx := [.glo "spared", .glo "sequels_alike", .glo "least_scheme", .glo "_law_dice", .glo "_law_roll", .glo "_law_pick", .glo "_law_mixed", .glo "_law_around", .glo "_law_row", .glo "_law_row_text", .glo "_law_plain", .glo "_law_made", .glo "_law_more", .glo "_law_line", .glo "_law_low_order", .glo "_law_written", .glo "_law_turns", .glo "_law_drawn_rule", .glo "_law_drawn", .glo "_law_any"]
def fx3 : List Fx := [.glo "_law_used", .glo "_law_wild_lines", .glo "_law_with_copies", .glo "_law_directions", .glo "_law_spared_right", .glo "_law_least_right", .glo "law", .int "MIN_ITEMS" 2, .int "MAX_ITEMS" 12, .int "MAX_LETTERS" 6, .int "MIN_NORM" 2, .int "MAX_ORDER" 200, .int "MAX_STEPS" 5000, .int "LIMIT" (10 ^ 400), .str "LETTERS" "abcdefghijklmnopqrstuvwxyz", .str "SQUARE" "square", .str "TRIANGLE" "triangle", .str "GRID" "grid", .str "AXIOM" "axiom", .str "RULE" "rule"]
def fx4 : List Fx := [.glo "Grid", .cls "Grid", .mkr "Grid", .nat "Grid" "__ne__" "object.__ne__", .nat "Grid" "__format__" "object.__format__", .slot "Grid" "own_name" 0, .slot "Grid" "own_units" 1, .prop "Grid" "name", .prop "Grid" "units", .glo "Rule", .cls "Rule", .mkr "Rule", .nat "Rule" "__ne__" "object.__ne__", .nat "Rule" "__format__" "object.__format__", .slot "Rule" "own_end" 0, .slot "Rule" "own_grid" 1, .slot "Rule" "own_row" 2, .slot "Rule" "own_starts" 3, .prop "Rule" "grid", .prop "Rule" "row"]
def fx5 : List Fx := [.prop "Rule" "letters", .prop "Rule" "end", .glo "Scheme", .cls "Scheme", .mkr "Scheme", .nat "Scheme" "__ne__" "object.__ne__", .nat "Scheme" "__format__" "object.__format__", .slot "Scheme" "own_axiom" 0, .slot "Scheme" "own_grid" 1, .slot "Scheme" "own_growth" 2, .slot "Scheme" "own_lines" 3, .slot "Scheme" "own_rules" 4, .slot "Scheme" "own_used" 5, .prop "Scheme" "grid", .prop "Scheme" "axiom", .prop "Scheme" "letters", .prop "Scheme" "growth", .prop "Scheme" "lines", .prop "Scheme" "is_even", .prop "Scheme" "used"]
def fx6 : List Fx := [.meth "Grid" "__init__", .meth "Grid" "square_of", .meth "Grid" "__len__", .meth "Grid" "__eq__", .meth "Grid" "__str__", .meth "Rule" "__init__", .meth "Rule" "steps_in", .meth "Rule" "__iter__", .meth "Rule" "__len__", .meth "Rule" "__eq__", .meth "Rule" "__str__", .meth "Scheme" "__init__", .meth "Scheme" "letters_met", .meth "Scheme" "require_letter", .meth "Scheme" "__getitem__", .meth "Scheme" "__iter__", .meth "Scheme" "__len__", .meth "Scheme" "__eq__", .fnin "Scheme" "__getitem__", .tup "GRIDS" ["square", "triangle"]]
def fx7 : List Fx := [.units "SQUARE_UNITS" unitsS, .units "TRIANGLE_UNITS" unitsT]
def allFx : List Fx := fx0 ++ fx1 ++ fx2 ++ fx3 ++ fx4 ++ fx5 ++ fx6 ++ fx7
/-- the text's facts -/
structure Tx (K : PySem.W.Frag) (mg : Str → Option Value) : Prop where
  fx : ∀ (i : Nat) (f : Fx), allFx[i]? = some f → f.ok K = true
  df : ∀ (i : Nat) (d : DefW), allDefs[i]? = some d → ∃ fd, Fun K d.name d.qual d.st (d.wh.adr K) fd
  mgv : ∀ (x : Str) (v : Option Value), PySem.W.nsIn K mainGlobals x = some v → mg x = v
theorem ba' {a b : Bool} (h : (a && b) = true) : a = true ∧ b = true := Bool.and_eq_true_iff.mp h
theorem eqB_ok {a b : Option (Option Value)} (h : eqB a b = true) : a = b := of_decide_eq_true h
section
variable {K : PySem.W.Frag} {mg : Str → Option Value}
theorem free_ok (T : Tx K mg) {x : Str} (c : (Fx.free x).ok K = true) : mg x = none := T.mgv x _ (eqB_ok c)
theorem glo_ok (T : Tx K mg) {x : Str} (c : (Fx.glo x).ok K = true) : mg x = some (.ref (He.ga K x)) := T.mgv x _ (eqB_ok c)
theorem int_ok (T : Tx K mg) {x : Str} {i : Int} (c : (Fx.int x i).ok K = true) : ∃ t, mg x = some (.int i t) := by
  have c2 : (match PySem.W.nsIn K mainGlobals x with
    | some (some (.int j _)) => decide (j = i)
    | _ => false) = true := c
  split at c2
  · rename_i j t e
    obtain rfl : j = i := of_decide_eq_true c2
    exact ⟨t, T.mgv x _ e⟩
  · cases c2
theorem str_ok (T : Tx K mg) {x z : Str} (c : (Fx.str x z).ok K = true) : ∃ t, mg x = some (.str z t) := by
  have c2 : (match PySem.W.nsIn K mainGlobals x with
    | some (some (.str y _)) => decide (y = z)
    | _ => false) = true := c
  split at c2
  · rename_i j t e
    obtain rfl : j = z := of_decide_eq_true c2
    exact ⟨t, T.mgv x _ e⟩
  · cases c2
theorem cls_ok (T : Tx K mg) {x : Str} (c : (Fx.cls x).ok K = true) : SCls K (He.ga K x) ∧ SIsi K (He.ga K x) := by
  obtain ⟨c, d⟩ := ba' c
  obtain ⟨c1, c⟩ := ba' c
  obtain ⟨c2, c⟩ := ba' c
  obtain ⟨c3, c4⟩ := ba' c
  obtain ⟨d1, d⟩ := ba' d
  obtain ⟨d2, d⟩ := ba' d
  obtain ⟨d3, d4⟩ := ba' d
  exact ⟨⟨c1, c2, c3, eqB_ok c4⟩, ⟨eqB_ok d1, eqB_ok d2, of_decide_eq_true d3, of_decide_eq_true d4⟩⟩
theorem mkr_ok (T : Tx K mg) {x : Str} (c : (Fx.mkr x).ok K = true) : Mk K (He.ga K x) (He.ma K (He.ga K x) "__init__") := by
  obtain ⟨c1, c⟩ := ba' c
  obtain ⟨c2, c⟩ := ba' c
  obtain ⟨c3, c4⟩ := ba' c
  exact ⟨c1, eqB_ok c2, c3, c4⟩
theorem nat_ok (T : Tx K mg) {C m : Str} {id : String} (c : (Fx.nat C m id).ok K = true) : PySem.W.findIn K (.ref (He.ga K C)) m = some (some (.builtin id)) := eqB_ok c
theorem slot_ok (T : Tx K mg) {C f : Str} {i : Nat} (c : (Fx.slot C f i).ok K = true) : Slot1 K (He.ga K C) f (He.ma K (He.ga K C) f) i := by
  obtain ⟨c1, c⟩ := ba' c
  obtain ⟨c2, c⟩ := ba' c
  obtain ⟨c3, c⟩ := ba' c
  obtain ⟨c4, c⟩ := ba' c
  obtain ⟨c5, c6⟩ := ba' c
  exact ⟨eqB_ok c1, eqB_ok c2, of_decide_eq_true c3, of_decide_eq_true c4, of_decide_eq_true c5, of_decide_eq_true c6⟩
theorem prop_ok (T : Tx K mg) {C f : Str} (c : (Fx.prop C f).ok K = true) : Prop1 K (He.ga K C) f (He.ma K (He.ga K C) f) ((Wh.prp C f).adr K) := by
  obtain ⟨c1, c⟩ := ba' c
  obtain ⟨c2, c⟩ := ba' c
  obtain ⟨c3, c4⟩ := ba' c
  refine ⟨eqB_ok c1, eqB_ok c2, of_decide_eq_true c3, ?_⟩
  split at c4
  · rename_i g r e
    obtain rfl : g = (Wh.prp C f).adr K := of_decide_eq_true c4
    exact ⟨r, e⟩
  · cases c4
theorem meth_ok (T : Tx K mg) {C m : Str} (c : (Fx.meth C m).ok K = true) : Meth K (He.ga K C) m (He.ma K (He.ga K C) m) := by
  obtain ⟨c1, c⟩ := ba' c
  obtain ⟨c2, c3⟩ := ba' c
  exact ⟨eqB_ok c1, c2, c3⟩
theorem fnin_ok (T : Tx K mg) {C m : Str} (c : (Fx.fnin C m).ok K = true) : PySem.W.fnIn K (He.ma K (He.ga K C) m) = true := c
theorem tup_ok (T : Tx K mg) {x : Str} {zs : List Str} (c : (Fx.tup x zs).ok K = true) : TupTx K mg x zs := by
  obtain ⟨c1, c2⟩ := ba' c
  refine ⟨_, T.mgv x _ (eqB_ok c1), fun H => ?_⟩
  split at c2
  · rename_i vs e
    exact seqAt_ok e c2 H
  · cases c2
theorem addrsOf_ok : ∀ {us : List Value} {ps : List Addr}, addrsOf us = some ps → He.relAll (ps.map V.ref) us = true
  | [], _, h => by cases h; rfl
  | v :: r, ps, h => by
    unfold addrsOf at h
    split at h
    · rename_i a
      cases e : addrsOf r with
      | none => rw [e] at h; cases h
      | some qs =>
        rw [e] at h
        cases h
        show (decide (a = a) && He.relAll (qs.map V.ref) r) = true
        rw [addrsOf_ok e, decide_eq_true rfl] <;> rfl
    · cases h
theorem unitsOk_ok {K : PySem.W.Frag} : ∀ {ps : List Addr} {us : List (Int × Int)}, unitsOk K ps us = true → ps.length = us.length ∧ ∀ (i : Nat) (p : Addr) (u : Int × Int), ps[i]? = some p → us[i]? = some u → ∀ H, SqT K H p [.int u.1, .int u.2]
  | [], [], _ => ⟨rfl, fun i p u h => by simp at h⟩
  | [], _ :: _, h => by cases h
  | _ :: _, [], h => by cases h
  | p :: ps, u :: us, h => by
    obtain ⟨h1, h2⟩ := ba' (show ((match seqAt K p with
      | some vs => He.relAll [.int u.1, .int u.2] vs
      | none => false) && unitsOk K ps us) = true from h)
    obtain ⟨e, r⟩ := unitsOk_ok h2
    refine ⟨by rw [List.length_cons, List.length_cons, e], fun i q v hq hv H => ?_⟩
    cases i with
    | zero =>
      obtain rfl : p = q := by simpa using hq
      obtain rfl : u = v := by simpa using hv
      split at h1
      · rename_i vs e
        exact seqAt_ok e h1 H
      · cases h1
    | succ i => exact r i q v (by simpa using hq) (by simpa using hv) H
theorem units_ok (T : Tx K mg) {x : Str} {us : List (Int × Int)} (c : (Fx.units x us).ok K = true) : UnitsTx K mg x us := by
  obtain ⟨c1, c2⟩ := ba' c
  split at c2
  · rename_i ps e
    cases e2 : seqAt K (He.ga K x) with
    | none => rw [e2] at e; cases e
    | some vs =>
      rw [e2] at e
      obtain ⟨h1, h2⟩ := unitsOk_ok c2
      exact ⟨_, ps, T.mgv x _ (eqB_ok c1), fun H => seqAt_ok e2 (addrsOf_ok e) H, h1, h2⟩
  · cases c2
end
section
variable {K : PySem.W.Frag} {mg : Str → Option Value} (T : Tx K mg)
include T
theorem Tx.n_len : mg "len" = none := free_ok T (T.fx 0 (.free "len") rfl)
theorem Tx.n_isinstance : mg "isinstance" = none := free_ok T (T.fx 1 (.free "isinstance") rfl)
theorem Tx.n_all : mg "all" = none := free_ok T (T.fx 2 (.free "all") rfl)
theorem Tx.n_tuple : mg "tuple" = none := free_ok T (T.fx 3 (.free "tuple") rfl)
theorem Tx.n_sorted : mg "sorted" = none := free_ok T (T.fx 4 (.free "sorted") rfl)
theorem Tx.n_sum : mg "sum" = none := free_ok T (T.fx 5 (.free "sum") rfl)
theorem Tx.n_set : mg "set" = none := free_ok T (T.fx 6 (.free "set") rfl)
theorem Tx.n_list : mg "list" = none := free_ok T (T.fx 7 (.free "list") rfl)
theorem Tx.n_dict : mg "dict" = none := free_ok T (T.fx 8 (.free "dict") rfl)
theorem Tx.n_range : mg "range" = none := free_ok T (T.fx 9 (.free "range") rfl)
theorem Tx.n_max : mg "max" = none := free_ok T (T.fx 10 (.free "max") rfl)
theorem Tx.n_min : mg "min" = none := free_ok T (T.fx 11 (.free "min") rfl)
theorem Tx.n_abs : mg "abs" = none := free_ok T (T.fx 12 (.free "abs") rfl)
theorem Tx.n_int : mg "int" = none := free_ok T (T.fx 13 (.free "int") rfl)
theorem Tx.n_str : mg "str" = none := free_ok T (T.fx 14 (.free "str") rfl)
theorem Tx.n_iter : mg "iter" = none := free_ok T (T.fx 15 (.free "iter") rfl)
theorem Tx.n_zip : mg "zip" = none := free_ok T (T.fx 16 (.free "zip") rfl)
theorem Tx.n_enumerate : mg "enumerate" = none := free_ok T (T.fx 17 (.free "enumerate") rfl)
theorem Tx.n_bool : mg "bool" = none := free_ok T (T.fx 18 (.free "bool") rfl)
theorem Tx.g_is_integer : mg "is_integer" = some (.ref (He.ga K "is_integer")) := glo_ok T (T.fx 19 (.glo "is_integer") rfl)
theorem Tx.g_is_count : mg "is_count" = some (.ref (He.ga K "is_count")) := glo_ok T (T.fx 20 (.glo "is_count") rfl)
theorem Tx.g_is_letter : mg "is_letter" = some (.ref (He.ga K "is_letter")) := glo_ok T (T.fx 21 (.glo "is_letter") rfl)
theorem Tx.g_require_grid : mg "require_grid" = some (.ref (He.ga K "require_grid")) := glo_ok T (T.fx 22 (.glo "require_grid") rfl)
theorem Tx.g_is_item_of : mg "is_item_of" = some (.ref (He.ga K "is_item_of")) := glo_ok T (T.fx 23 (.glo "is_item_of") rfl)
theorem Tx.g_is_row_of : mg "is_row_of" = some (.ref (He.ga K "is_row_of")) := glo_ok T (T.fx 24 (.glo "is_row_of") rfl)
theorem Tx.g_row_text : mg "row_text" = some (.ref (He.ga K "row_text")) := glo_ok T (T.fx 25 (.glo "row_text") rfl)
theorem Tx.g_end_of_row : mg "end_of_row" = some (.ref (He.ga K "end_of_row")) := glo_ok T (T.fx 26 (.glo "end_of_row") rfl)
theorem Tx.g_are_rules : mg "are_rules" = some (.ref (He.ga K "are_rules")) := glo_ok T (T.fx 27 (.glo "are_rules") rfl)
theorem Tx.g_are_parts : mg "are_parts" = some (.ref (He.ga K "are_parts")) := glo_ok T (T.fx 28 (.glo "are_parts") rfl)
theorem Tx.g_require_scheme : mg "require_scheme" = some (.ref (He.ga K "require_scheme")) := glo_ok T (T.fx 29 (.glo "require_scheme") rfl)
theorem Tx.g_require_order : mg "require_order" = some (.ref (He.ga K "require_order")) := glo_ok T (T.fx 30 (.glo "require_order") rfl)
theorem Tx.g_counts_behind : mg "counts_behind" = some (.ref (He.ga K "counts_behind")) := glo_ok T (T.fx 31 (.glo "counts_behind") rfl)
theorem Tx.g_counts_of : mg "counts_of" = some (.ref (He.ga K "counts_of")) := glo_ok T (T.fx 32 (.glo "counts_of") rfl)
theorem Tx.g_letter_counts : mg "letter_counts" = some (.ref (He.ga K "letter_counts")) := glo_ok T (T.fx 33 (.glo "letter_counts") rfl)
theorem Tx.g_replaced : mg "replaced" = some (.ref (He.ga K "replaced")) := glo_ok T (T.fx 34 (.glo "replaced") rfl)
theorem Tx.g_row_grown : mg "row_grown" = some (.ref (He.ga K "row_grown")) := glo_ok T (T.fx 35 (.glo "row_grown") rfl)
theorem Tx.g_steps_of : mg "steps_of" = some (.ref (He.ga K "steps_of")) := glo_ok T (T.fx 36 (.glo "steps_of") rfl)
theorem Tx.g_called : mg "called" = some (.ref (He.ga K "called")) := glo_ok T (T.fx 37 (.glo "called") rfl)
theorem Tx.g_is_renaming : mg "is_renaming" = some (.ref (He.ga K "is_renaming")) := glo_ok T (T.fx 38 (.glo "is_renaming") rfl)
theorem Tx.g_renamed_scheme : mg "renamed_scheme" = some (.ref (He.ga K "renamed_scheme")) := glo_ok T (T.fx 39 (.glo "renamed_scheme") rfl)
theorem Tx.g_spared : mg "spared" = some (.ref (He.ga K "spared")) := glo_ok T (T.fx 40 (.glo "spared") rfl)
theorem Tx.g_sequels_alike : mg "sequels_alike" = some (.ref (He.ga K "sequels_alike")) := glo_ok T (T.fx 41 (.glo "sequels_alike") rfl)
theorem Tx.g_least_scheme : mg "least_scheme" = some (.ref (He.ga K "least_scheme")) := glo_ok T (T.fx 42 (.glo "least_scheme") rfl)
theorem Tx.g__law_dice : mg "_law_dice" = some (.ref (He.ga K "_law_dice")) := glo_ok T (T.fx 43 (.glo "_law_dice") rfl)
theorem Tx.g__law_roll : mg "_law_roll" = some (.ref (He.ga K "_law_roll")) := glo_ok T (T.fx 44 (.glo "_law_roll") rfl)
theorem Tx.g__law_pick : mg "_law_pick" = some (.ref (He.ga K "_law_pick")) := glo_ok T (T.fx 45 (.glo "_law_pick") rfl)
theorem Tx.g__law_mixed : mg "_law_mixed" = some (.ref (He.ga K "_law_mixed")) := glo_ok T (T.fx 46 (.glo "_law_mixed") rfl)
theorem Tx.g__law_around : mg "_law_around" = some (.ref (He.ga K "_law_around")) := glo_ok T (T.fx 47 (.glo "_law_around") rfl)
theorem Tx.g__law_row : mg "_law_row" = some (.ref (He.ga K "_law_row")) := glo_ok T (T.fx 48 (.glo "_law_row") rfl)
theorem Tx.g__law_row_text : mg "_law_row_text" = some (.ref (He.ga K "_law_row_text")) := glo_ok T (T.fx 49 (.glo "_law_row_text") rfl)
theorem Tx.g__law_plain : mg "_law_plain" = some (.ref (He.ga K "_law_plain")) := glo_ok T (T.fx 50 (.glo "_law_plain") rfl)
theorem Tx.g__law_made : mg "_law_made" = some (.ref (He.ga K "_law_made")) := glo_ok T (T.fx 51 (.glo "_law_made") rfl)
theorem Tx.g__law_more : mg "_law_more" = some (.ref (He.ga K "_law_more")) := glo_ok T (T.fx 52 (.glo "_law_more") rfl)
theorem Tx.g__law_line : mg "_law_line" = some (.ref (He.ga K "_law_line")) := glo_ok T (T.fx 53 (.glo "_law_line") rfl)
theorem Tx.g__law_low_order : mg "_law_low_order" = some (.ref (He.ga K "_law_low_order")) := glo_ok T (T.fx 54 (.glo "_law_low_order") rfl)
theorem Tx.g__law_written : mg "_law_written" = some (.ref (He.ga K "_law_written")) := glo_ok T (T.fx 55 (.glo "_law_written") rfl)
theorem Tx.g__law_turns : mg "_law_turns" = some (.ref (He.ga K "_law_turns")) := glo_ok T (T.fx 56 (.glo "_law_turns") rfl)
theorem Tx.g__law_drawn_rule : mg "_law_drawn_rule" = some (.ref (He.ga K "_law_drawn_rule")) := glo_ok T (T.fx 57 (.glo "_law_drawn_rule") rfl)
theorem Tx.g__law_drawn : mg "_law_drawn" = some (.ref (He.ga K "_law_drawn")) := glo_ok T (T.fx 58 (.glo "_law_drawn") rfl)
theorem Tx.g__law_any : mg "_law_any" = some (.ref (He.ga K "_law_any")) := glo_ok T (T.fx 59 (.glo "_law_any") rfl)
theorem Tx.g__law_used : mg "_law_used" = some (.ref (He.ga K "_law_used")) := glo_ok T (T.fx 60 (.glo "_law_used") rfl)
theorem Tx.g__law_wild_lines : mg "_law_wild_lines" = some (.ref (He.ga K "_law_wild_lines")) := glo_ok T (T.fx 61 (.glo "_law_wild_lines") rfl)
theorem Tx.g__law_with_copies : mg "_law_with_copies" = some (.ref (He.ga K "_law_with_copies")) := glo_ok T (T.fx 62 (.glo "_law_with_copies") rfl)
theorem Tx.g__law_directions : mg "_law_directions" = some (.ref (He.ga K "_law_directions")) := glo_ok T (T.fx 63 (.glo "_law_directions") rfl)
theorem Tx.g__law_spared_right : mg "_law_spared_right" = some (.ref (He.ga K "_law_spared_right")) := glo_ok T (T.fx 64 (.glo "_law_spared_right") rfl)
theorem Tx.g__law_least_right : mg "_law_least_right" = some (.ref (He.ga K "_law_least_right")) := glo_ok T (T.fx 65 (.glo "_law_least_right") rfl)
theorem Tx.g_law : mg "law" = some (.ref (He.ga K "law")) := glo_ok T (T.fx 66 (.glo "law") rfl)
theorem Tx.i_MIN_ITEMS : ∃ t, mg "MIN_ITEMS" = some (.int 2 t) := int_ok T (T.fx 67 (.int "MIN_ITEMS" 2) rfl)
theorem Tx.i_MAX_ITEMS : ∃ t, mg "MAX_ITEMS" = some (.int 12 t) := int_ok T (T.fx 68 (.int "MAX_ITEMS" 12) rfl)
theorem Tx.i_MAX_LETTERS : ∃ t, mg "MAX_LETTERS" = some (.int 6 t) := int_ok T (T.fx 69 (.int "MAX_LETTERS" 6) rfl)
theorem Tx.i_MIN_NORM : ∃ t, mg "MIN_NORM" = some (.int 2 t) := int_ok T (T.fx 70 (.int "MIN_NORM" 2) rfl)
theorem Tx.i_MAX_ORDER : ∃ t, mg "MAX_ORDER" = some (.int 200 t) := int_ok T (T.fx 71 (.int "MAX_ORDER" 200) rfl)
theorem Tx.i_MAX_STEPS : ∃ t, mg "MAX_STEPS" = some (.int 5000 t) := int_ok T (T.fx 72 (.int "MAX_STEPS" 5000) rfl)
theorem Tx.i_LIMIT : ∃ t, mg "LIMIT" = some (.int (10 ^ 400) t) := int_ok T (T.fx 73 (.int "LIMIT" (10 ^ 400)) rfl)
theorem Tx.s_LETTERS : ∃ t, mg "LETTERS" = some (.str "abcdefghijklmnopqrstuvwxyz" t) := str_ok T (T.fx 74 (.str "LETTERS" "abcdefghijklmnopqrstuvwxyz") rfl)
theorem Tx.s_SQUARE : ∃ t, mg "SQUARE" = some (.str "square" t) := str_ok T (T.fx 75 (.str "SQUARE" "square") rfl)
theorem Tx.s_TRIANGLE : ∃ t, mg "TRIANGLE" = some (.str "triangle" t) := str_ok T (T.fx 76 (.str "TRIANGLE" "triangle") rfl)
theorem Tx.s_GRID : ∃ t, mg "GRID" = some (.str "grid" t) := str_ok T (T.fx 77 (.str "GRID" "grid") rfl)
theorem Tx.s_AXIOM : ∃ t, mg "AXIOM" = some (.str "axiom" t) := str_ok T (T.fx 78 (.str "AXIOM" "axiom") rfl)
theorem Tx.s_RULE : ∃ t, mg "RULE" = some (.str "rule" t) := str_ok T (T.fx 79 (.str "RULE" "rule") rfl)
theorem Tx.g_Grid : mg "Grid" = some (.ref (He.ga K "Grid")) := glo_ok T (T.fx 80 (.glo "Grid") rfl)
theorem Tx.c_Grid : SCls K (He.ga K "Grid") ∧ SIsi K (He.ga K "Grid") := cls_ok T (T.fx 81 (.cls "Grid") rfl)
theorem Tx.k_Grid : Mk K (He.ga K "Grid") (He.ma K (He.ga K "Grid") "__init__") := mkr_ok T (T.fx 82 (.mkr "Grid") rfl)
theorem Tx.ne_Grid : PySem.W.findIn K (.ref (He.ga K "Grid")) "__ne__" = some (some (.builtin "object.__ne__")) := nat_ok T (T.fx 83 (.nat "Grid" "__ne__" "object.__ne__") rfl)
theorem Tx.fm_Grid : PySem.W.findIn K (.ref (He.ga K "Grid")) "__format__" = some (some (.builtin "object.__format__")) := nat_ok T (T.fx 84 (.nat "Grid" "__format__" "object.__format__") rfl)
theorem Tx.sl_Grid_own_name : Slot1 K (He.ga K "Grid") "own_name" (He.ma K (He.ga K "Grid") "own_name") 0 := slot_ok T (T.fx 85 (.slot "Grid" "own_name" 0) rfl)
theorem Tx.sl_Grid_own_units : Slot1 K (He.ga K "Grid") "own_units" (He.ma K (He.ga K "Grid") "own_units") 1 := slot_ok T (T.fx 86 (.slot "Grid" "own_units" 1) rfl)
theorem Tx.p_Grid_name : Prop1 K (He.ga K "Grid") "name" (He.ma K (He.ga K "Grid") "name") ((Wh.prp "Grid" "name").adr K) := prop_ok T (T.fx 87 (.prop "Grid" "name") rfl)
theorem Tx.p_Grid_units : Prop1 K (He.ga K "Grid") "units" (He.ma K (He.ga K "Grid") "units") ((Wh.prp "Grid" "units").adr K) := prop_ok T (T.fx 88 (.prop "Grid" "units") rfl)
theorem Tx.g_Rule : mg "Rule" = some (.ref (He.ga K "Rule")) := glo_ok T (T.fx 89 (.glo "Rule") rfl)
theorem Tx.c_Rule : SCls K (He.ga K "Rule") ∧ SIsi K (He.ga K "Rule") := cls_ok T (T.fx 90 (.cls "Rule") rfl)
theorem Tx.k_Rule : Mk K (He.ga K "Rule") (He.ma K (He.ga K "Rule") "__init__") := mkr_ok T (T.fx 91 (.mkr "Rule") rfl)
theorem Tx.ne_Rule : PySem.W.findIn K (.ref (He.ga K "Rule")) "__ne__" = some (some (.builtin "object.__ne__")) := nat_ok T (T.fx 92 (.nat "Rule" "__ne__" "object.__ne__") rfl)
theorem Tx.fm_Rule : PySem.W.findIn K (.ref (He.ga K "Rule")) "__format__" = some (some (.builtin "object.__format__")) := nat_ok T (T.fx 93 (.nat "Rule" "__format__" "object.__format__") rfl)
theorem Tx.sl_Rule_own_end : Slot1 K (He.ga K "Rule") "own_end" (He.ma K (He.ga K "Rule") "own_end") 0 := slot_ok T (T.fx 94 (.slot "Rule" "own_end" 0) rfl)
theorem Tx.sl_Rule_own_grid : Slot1 K (He.ga K "Rule") "own_grid" (He.ma K (He.ga K "Rule") "own_grid") 1 := slot_ok T (T.fx 95 (.slot "Rule" "own_grid" 1) rfl)
theorem Tx.sl_Rule_own_row : Slot1 K (He.ga K "Rule") "own_row" (He.ma K (He.ga K "Rule") "own_row") 2 := slot_ok T (T.fx 96 (.slot "Rule" "own_row" 2) rfl)
theorem Tx.sl_Rule_own_starts : Slot1 K (He.ga K "Rule") "own_starts" (He.ma K (He.ga K "Rule") "own_starts") 3 := slot_ok T (T.fx 97 (.slot "Rule" "own_starts" 3) rfl)
theorem Tx.p_Rule_grid : Prop1 K (He.ga K "Rule") "grid" (He.ma K (He.ga K "Rule") "grid") ((Wh.prp "Rule" "grid").adr K) := prop_ok T (T.fx 98 (.prop "Rule" "grid") rfl)
theorem Tx.p_Rule_row : Prop1 K (He.ga K "Rule") "row" (He.ma K (He.ga K "Rule") "row") ((Wh.prp "Rule" "row").adr K) := prop_ok T (T.fx 99 (.prop "Rule" "row") rfl)
theorem Tx.p_Rule_letters : Prop1 K (He.ga K "Rule") "letters" (He.ma K (He.ga K "Rule") "letters") ((Wh.prp "Rule" "letters").adr K) := prop_ok T (T.fx 100 (.prop "Rule" "letters") rfl)
theorem Tx.p_Rule_end : Prop1 K (He.ga K "Rule") "end" (He.ma K (He.ga K "Rule") "end") ((Wh.prp "Rule" "end").adr K) := prop_ok T (T.fx 101 (.prop "Rule" "end") rfl)
theorem Tx.g_Scheme : mg "Scheme" = some (.ref (He.ga K "Scheme")) := glo_ok T (T.fx 102 (.glo "Scheme") rfl)
theorem Tx.c_Scheme : SCls K (He.ga K "Scheme") ∧ SIsi K (He.ga K "Scheme") := cls_ok T (T.fx 103 (.cls "Scheme") rfl)
theorem Tx.k_Scheme : Mk K (He.ga K "Scheme") (He.ma K (He.ga K "Scheme") "__init__") := mkr_ok T (T.fx 104 (.mkr "Scheme") rfl)
theorem Tx.ne_Scheme : PySem.W.findIn K (.ref (He.ga K "Scheme")) "__ne__" = some (some (.builtin "object.__ne__")) := nat_ok T (T.fx 105 (.nat "Scheme" "__ne__" "object.__ne__") rfl)
theorem Tx.fm_Scheme : PySem.W.findIn K (.ref (He.ga K "Scheme")) "__format__" = some (some (.builtin "object.__format__")) := nat_ok T (T.fx 106 (.nat "Scheme" "__format__" "object.__format__") rfl)
theorem Tx.sl_Scheme_own_axiom : Slot1 K (He.ga K "Scheme") "own_axiom" (He.ma K (He.ga K "Scheme") "own_axiom") 0 := slot_ok T (T.fx 107 (.slot "Scheme" "own_axiom" 0) rfl)
theorem Tx.sl_Scheme_own_grid : Slot1 K (He.ga K "Scheme") "own_grid" (He.ma K (He.ga K "Scheme") "own_grid") 1 := slot_ok T (T.fx 108 (.slot "Scheme" "own_grid" 1) rfl)
theorem Tx.sl_Scheme_own_growth : Slot1 K (He.ga K "Scheme") "own_growth" (He.ma K (He.ga K "Scheme") "own_growth") 2 := slot_ok T (T.fx 109 (.slot "Scheme" "own_growth" 2) rfl)
theorem Tx.sl_Scheme_own_lines : Slot1 K (He.ga K "Scheme") "own_lines" (He.ma K (He.ga K "Scheme") "own_lines") 3 := slot_ok T (T.fx 110 (.slot "Scheme" "own_lines" 3) rfl)
theorem Tx.sl_Scheme_own_rules : Slot1 K (He.ga K "Scheme") "own_rules" (He.ma K (He.ga K "Scheme") "own_rules") 4 := slot_ok T (T.fx 111 (.slot "Scheme" "own_rules" 4) rfl)
theorem Tx.sl_Scheme_own_used : Slot1 K (He.ga K "Scheme") "own_used" (He.ma K (He.ga K "Scheme") "own_used") 5 := slot_ok T (T.fx 112 (.slot "Scheme" "own_used" 5) rfl)
theorem Tx.p_Scheme_grid : Prop1 K (He.ga K "Scheme") "grid" (He.ma K (He.ga K "Scheme") "grid") ((Wh.prp "Scheme" "grid").adr K) := prop_ok T (T.fx 113 (.prop "Scheme" "grid") rfl)
theorem Tx.p_Scheme_axiom : Prop1 K (He.ga K "Scheme") "axiom" (He.ma K (He.ga K "Scheme") "axiom") ((Wh.prp "Scheme" "axiom").adr K) := prop_ok T (T.fx 114 (.prop "Scheme" "axiom") rfl)
theorem Tx.p_Scheme_letters : Prop1 K (He.ga K "Scheme") "letters" (He.ma K (He.ga K "Scheme") "letters") ((Wh.prp "Scheme" "letters").adr K) := prop_ok T (T.fx 115 (.prop "Scheme" "letters") rfl)
theorem Tx.p_Scheme_growth : Prop1 K (He.ga K "Scheme") "growth" (He.ma K (He.ga K "Scheme") "growth") ((Wh.prp "Scheme" "growth").adr K) := prop_ok T (T.fx 116 (.prop "Scheme" "growth") rfl)
theorem Tx.p_Scheme_lines : Prop1 K (He.ga K "Scheme") "lines" (He.ma K (He.ga K "Scheme") "lines") ((Wh.prp "Scheme" "lines").adr K) := prop_ok T (T.fx 117 (.prop "Scheme" "lines") rfl)
theorem Tx.p_Scheme_is_even : Prop1 K (He.ga K "Scheme") "is_even" (He.ma K (He.ga K "Scheme") "is_even") ((Wh.prp "Scheme" "is_even").adr K) := prop_ok T (T.fx 118 (.prop "Scheme" "is_even") rfl)
theorem Tx.p_Scheme_used : Prop1 K (He.ga K "Scheme") "used" (He.ma K (He.ga K "Scheme") "used") ((Wh.prp "Scheme" "used").adr K) := prop_ok T (T.fx 119 (.prop "Scheme" "used") rfl)
theorem Tx.m_Grid_init : Meth K (He.ga K "Grid") "__init__" (He.ma K (He.ga K "Grid") "__init__") := meth_ok T (T.fx 120 (.meth "Grid" "__init__") rfl)
theorem Tx.m_Grid_square_of : Meth K (He.ga K "Grid") "square_of" (He.ma K (He.ga K "Grid") "square_of") := meth_ok T (T.fx 121 (.meth "Grid" "square_of") rfl)
theorem Tx.m_Grid_len : Meth K (He.ga K "Grid") "__len__" (He.ma K (He.ga K "Grid") "__len__") := meth_ok T (T.fx 122 (.meth "Grid" "__len__") rfl)
theorem Tx.m_Grid_eq : Meth K (He.ga K "Grid") "__eq__" (He.ma K (He.ga K "Grid") "__eq__") := meth_ok T (T.fx 123 (.meth "Grid" "__eq__") rfl)
theorem Tx.m_Grid_str : Meth K (He.ga K "Grid") "__str__" (He.ma K (He.ga K "Grid") "__str__") := meth_ok T (T.fx 124 (.meth "Grid" "__str__") rfl)
theorem Tx.m_Rule_init : Meth K (He.ga K "Rule") "__init__" (He.ma K (He.ga K "Rule") "__init__") := meth_ok T (T.fx 125 (.meth "Rule" "__init__") rfl)
theorem Tx.m_Rule_steps_in : Meth K (He.ga K "Rule") "steps_in" (He.ma K (He.ga K "Rule") "steps_in") := meth_ok T (T.fx 126 (.meth "Rule" "steps_in") rfl)
theorem Tx.m_Rule_iter : Meth K (He.ga K "Rule") "__iter__" (He.ma K (He.ga K "Rule") "__iter__") := meth_ok T (T.fx 127 (.meth "Rule" "__iter__") rfl)
theorem Tx.m_Rule_len : Meth K (He.ga K "Rule") "__len__" (He.ma K (He.ga K "Rule") "__len__") := meth_ok T (T.fx 128 (.meth "Rule" "__len__") rfl)
theorem Tx.m_Rule_eq : Meth K (He.ga K "Rule") "__eq__" (He.ma K (He.ga K "Rule") "__eq__") := meth_ok T (T.fx 129 (.meth "Rule" "__eq__") rfl)
theorem Tx.m_Rule_str : Meth K (He.ga K "Rule") "__str__" (He.ma K (He.ga K "Rule") "__str__") := meth_ok T (T.fx 130 (.meth "Rule" "__str__") rfl)
theorem Tx.m_Scheme_init : Meth K (He.ga K "Scheme") "__init__" (He.ma K (He.ga K "Scheme") "__init__") := meth_ok T (T.fx 131 (.meth "Scheme" "__init__") rfl)
theorem Tx.m_Scheme_letters_met : Meth K (He.ga K "Scheme") "letters_met" (He.ma K (He.ga K "Scheme") "letters_met") := meth_ok T (T.fx 132 (.meth "Scheme" "letters_met") rfl)
theorem Tx.m_Scheme_require_letter : Meth K (He.ga K "Scheme") "require_letter" (He.ma K (He.ga K "Scheme") "require_letter") := meth_ok T (T.fx 133 (.meth "Scheme" "require_letter") rfl)
theorem Tx.m_Scheme_getitem : Meth K (He.ga K "Scheme") "__getitem__" (He.ma K (He.ga K "Scheme") "__getitem__") := meth_ok T (T.fx 134 (.meth "Scheme" "__getitem__") rfl)
theorem Tx.m_Scheme_iter : Meth K (He.ga K "Scheme") "__iter__" (He.ma K (He.ga K "Scheme") "__iter__") := meth_ok T (T.fx 135 (.meth "Scheme" "__iter__") rfl)
theorem Tx.m_Scheme_len : Meth K (He.ga K "Scheme") "__len__" (He.ma K (He.ga K "Scheme") "__len__") := meth_ok T (T.fx 136 (.meth "Scheme" "__len__") rfl)
theorem Tx.m_Scheme_eq : Meth K (He.ga K "Scheme") "__eq__" (He.ma K (He.ga K "Scheme") "__eq__") := meth_ok T (T.fx 137 (.meth "Scheme" "__eq__") rfl)
theorem Tx.fn_Scheme_getitem : PySem.W.fnIn K (He.ma K (He.ga K "Scheme") "__getitem__") = true := fnin_ok T (T.fx 138 (.fnin "Scheme" "__getitem__") rfl)
theorem Tx.t_GRIDS : TupTx K mg "GRIDS" ["square", "triangle"] := tup_ok T (T.fx 139 (.tup "GRIDS" ["square", "triangle"]) rfl)
theorem Tx.u_SQUARE : UnitsTx K mg "SQUARE_UNITS" unitsS := units_ok T (T.fx 140 (.units "SQUARE_UNITS" unitsS) rfl)
theorem Tx.u_TRIANGLE : UnitsTx K mg "TRIANGLE_UNITS" unitsT := units_ok T (T.fx 141 (.units "TRIANGLE_UNITS" unitsT) rfl)
theorem Tx.d_is_integer : Def K mg "is_integer" (topS 4) ["value"] (He.ga K "is_integer") := ⟨def_ok (T.df 0 ⟨.glo "is_integer", "is_integer", "is_integer", topS 4⟩ rfl) fun _ _ _ _ _ _ us hl => match us, hl with | [_], _ => rfl, T.g_is_integer⟩
theorem Tx.d_is_count : Def K mg "is_count" (topS 5) ["value"] (He.ga K "is_count") := ⟨def_ok (T.df 1 ⟨.glo "is_count", "is_count", "is_count", topS 5⟩ rfl) fun _ _ _ _ _ _ us hl => match us, hl with | [_], _ => rfl, T.g_is_count⟩
theorem Tx.d_is_letter : Def K mg "is_letter" (topS 6) ["value"] (He.ga K "is_letter") := ⟨def_ok (T.df 2 ⟨.glo "is_letter", "is_letter", "is_letter", topS 6⟩ rfl) fun _ _ _ _ _ _ us hl => match us, hl with | [_], _ => rfl, T.g_is_letter⟩
theorem Tx.d_Grid_init : ∃ fd, Fun K "__init__" "Grid.__init__" (inClass (topS 23) 1) (He.ma K (He.ga K "Grid") "__init__") fd ∧ Binds K fd ["self", "name"] [] := def_ok (T.df 3 ⟨.met "Grid" "__init__", "__init__", "Grid.__init__", inClass (topS 23) 1⟩ rfl) fun _ _ _ _ _ _ us hl => match us, hl with | [_, _], _ => rfl
theorem Tx.d_Grid_name : ∃ fd, Fun K "name" "Grid.name" (inClass (topS 23) 2) ((Wh.prp "Grid" "name").adr K) fd ∧ Binds K fd ["self"] [] := def_ok (T.df 4 ⟨.prp "Grid" "name", "name", "Grid.name", inClass (topS 23) 2⟩ rfl) fun _ _ _ _ _ _ us hl => match us, hl with | [_], _ => rfl
theorem Tx.d_Grid_units : ∃ fd, Fun K "units" "Grid.units" (inClass (topS 23) 4) ((Wh.prp "Grid" "units").adr K) fd ∧ Binds K fd ["self"] [] := def_ok (T.df 5 ⟨.prp "Grid" "units", "units", "Grid.units", inClass (topS 23) 4⟩ rfl) fun _ _ _ _ _ _ us hl => match us, hl with | [_], _ => rfl
theorem Tx.d_Grid_square_of : ∃ fd, Fun K "square_of" "Grid.square_of" (inClass (topS 23) 10) (He.ma K (He.ga K "Grid") "square_of") fd ∧ Binds K fd ["self", "point"] [] := def_ok (T.df 6 ⟨.met "Grid" "square_of", "square_of", "Grid.square_of", inClass (topS 23) 10⟩ rfl) fun _ _ _ _ _ _ us hl => match us, hl with | [_, _], _ => rfl
theorem Tx.d_Grid_len : ∃ fd, Fun K "__len__" "Grid.__len__" (inClass (topS 23) 20) (He.ma K (He.ga K "Grid") "__len__") fd ∧ Binds K fd ["self"] [] := def_ok (T.df 7 ⟨.met "Grid" "__len__", "__len__", "Grid.__len__", inClass (topS 23) 20⟩ rfl) fun _ _ _ _ _ _ us hl => match us, hl with | [_], _ => rfl
theorem Tx.d_Grid_eq : ∃ fd, Fun K "__eq__" "Grid.__eq__" (inClass (topS 23) 22) (He.ma K (He.ga K "Grid") "__eq__") fd ∧ Binds K fd ["self", "value"] [] := def_ok (T.df 8 ⟨.met "Grid" "__eq__", "__eq__", "Grid.__eq__", inClass (topS 23) 22⟩ rfl) fun _ _ _ _ _ _ us hl => match us, hl with | [_, _], _ => rfl
theorem Tx.d_Grid_str : ∃ fd, Fun K "__str__" "Grid.__str__" (inClass (topS 23) 23) (He.ma K (He.ga K "Grid") "__str__") fd ∧ Binds K fd ["self"] [] := def_ok (T.df 9 ⟨.met "Grid" "__str__", "__str__", "Grid.__str__", inClass (topS 23) 23⟩ rfl) fun _ _ _ _ _ _ us hl => match us, hl with | [_], _ => rfl
theorem Tx.d_require_grid : Def K mg "require_grid" (topS 24) ["value"] (He.ga K "require_grid") := ⟨def_ok (T.df 10 ⟨.glo "require_grid", "require_grid", "require_grid", topS 24⟩ rfl) fun _ _ _ _ _ _ us hl => match us, hl with | [_], _ => rfl, T.g_require_grid⟩
theorem Tx.d_is_item_of : Def K mg "is_item_of" (topS 28) ["turns", "value"] (He.ga K "is_item_of") := ⟨def_ok (T.df 11 ⟨.glo "is_item_of", "is_item_of", "is_item_of", topS 28⟩ rfl) fun _ _ _ _ _ _ us hl => match us, hl with | [_, _], _ => rfl, T.g_is_item_of⟩
theorem Tx.d_is_row_of : Def K mg "is_row_of" (topS 29) ["turns", "value", "least"] (He.ga K "is_row_of") := ⟨def_ok (T.df 12 ⟨.glo "is_row_of", "is_row_of", "is_row_of", topS 29⟩ rfl) fun _ _ _ _ _ _ us hl => match us, hl with | [_, _, _], _ => rfl, T.g_is_row_of⟩
theorem Tx.d_row_text : Def K mg "row_text" (topS 30) ["items"] (He.ga K "row_text") := ⟨def_ok (T.df 13 ⟨.glo "row_text", "row_text", "row_text", topS 30⟩ rfl) fun _ _ _ _ _ _ us hl => match us, hl with | [_], _ => rfl, T.g_row_text⟩
theorem Tx.d_Rule_init : ∃ fd, Fun K "__init__" "Rule.__init__" (inClass (topS 31) 1) (He.ma K (He.ga K "Rule") "__init__") fd ∧ Binds K fd ["self", "grid", "items"] [] := def_ok (T.df 14 ⟨.met "Rule" "__init__", "__init__", "Rule.__init__", inClass (topS 31) 1⟩ rfl) fun _ _ _ _ _ _ us hl => match us, hl with | [_, _, _], _ => rfl
theorem Tx.d_Rule_grid : ∃ fd, Fun K "grid" "Rule.grid" (inClass (topS 31) 3) ((Wh.prp "Rule" "grid").adr K) fd ∧ Binds K fd ["self"] [] := def_ok (T.df 15 ⟨.prp "Rule" "grid", "grid", "Rule.grid", inClass (topS 31) 3⟩ rfl) fun _ _ _ _ _ _ us hl => match us, hl with | [_], _ => rfl
theorem Tx.d_Rule_row : ∃ fd, Fun K "row" "Rule.row" (inClass (topS 31) 4) ((Wh.prp "Rule" "row").adr K) fd ∧ Binds K fd ["self"] [] := def_ok (T.df 16 ⟨.prp "Rule" "row", "row", "Rule.row", inClass (topS 31) 4⟩ rfl) fun _ _ _ _ _ _ us hl => match us, hl with | [_], _ => rfl
theorem Tx.d_Rule_letters : ∃ fd, Fun K "letters" "Rule.letters" (inClass (topS 31) 5) ((Wh.prp "Rule" "letters").adr K) fd ∧ Binds K fd ["self"] [] := def_ok (T.df 17 ⟨.prp "Rule" "letters", "letters", "Rule.letters", inClass (topS 31) 5⟩ rfl) fun _ _ _ _ _ _ us hl => match us, hl with | [_], _ => rfl
theorem Tx.d_Rule_end : ∃ fd, Fun K "end" "Rule.end" (inClass (topS 31) 7) ((Wh.prp "Rule" "end").adr K) fd ∧ Binds K fd ["self"] [] := def_ok (T.df 18 ⟨.prp "Rule" "end", "end", "Rule.end", inClass (topS 31) 7⟩ rfl) fun _ _ _ _ _ _ us hl => match us, hl with | [_], _ => rfl
theorem Tx.d_Rule_steps_in : ∃ fd, Fun K "steps_in" "Rule.steps_in" (inClass (topS 31) 8) (He.ma K (He.ga K "Rule") "steps_in") fd ∧ Binds K fd ["self", "direction"] [] := def_ok (T.df 19 ⟨.met "Rule" "steps_in", "steps_in", "Rule.steps_in", inClass (topS 31) 8⟩ rfl) fun _ _ _ _ _ _ us hl => match us, hl with | [_, _], _ => rfl
theorem Tx.d_Rule_iter : ∃ fd, Fun K "__iter__" "Rule.__iter__" (inClass (topS 31) 16) (He.ma K (He.ga K "Rule") "__iter__") fd ∧ Binds K fd ["self"] [] := def_ok (T.df 20 ⟨.met "Rule" "__iter__", "__iter__", "Rule.__iter__", inClass (topS 31) 16⟩ rfl) fun _ _ _ _ _ _ us hl => match us, hl with | [_], _ => rfl
theorem Tx.d_Rule_len : ∃ fd, Fun K "__len__" "Rule.__len__" (inClass (topS 31) 17) (He.ma K (He.ga K "Rule") "__len__") fd ∧ Binds K fd ["self"] [] := def_ok (T.df 21 ⟨.met "Rule" "__len__", "__len__", "Rule.__len__", inClass (topS 31) 17⟩ rfl) fun _ _ _ _ _ _ us hl => match us, hl with | [_], _ => rfl
theorem Tx.d_Rule_eq : ∃ fd, Fun K "__eq__" "Rule.__eq__" (inClass (topS 31) 18) (He.ma K (He.ga K "Rule") "__eq__") fd ∧ Binds K fd ["self", "value"] [] := def_ok (T.df 22 ⟨.met "Rule" "__eq__", "__eq__", "Rule.__eq__", inClass (topS 31) 18⟩ rfl) fun _ _ _ _ _ _ us hl => match us, hl with | [_, _], _ => rfl
theorem Tx.d_Rule_str : ∃ fd, Fun K "__str__" "Rule.__str__" (inClass (topS 31) 19) (He.ma K (He.ga K "Rule") "__str__") fd ∧ Binds K fd ["self"] [] := def_ok (T.df 23 ⟨.met "Rule" "__str__", "__str__", "Rule.__str__", inClass (topS 31) 19⟩ rfl) fun _ _ _ _ _ _ us hl => match us, hl with | [_], _ => rfl
theorem Tx.d_end_of_row : Def K mg "end_of_row" (topS 38) ["grid", "items"] (He.ga K "end_of_row") := ⟨def_ok (T.df 24 ⟨.glo "end_of_row", "end_of_row", "end_of_row", topS 38⟩ rfl) fun _ _ _ _ _ _ us hl => match us, hl with | [_, _], _ => rfl, T.g_end_of_row⟩
theorem Tx.d_are_rules : Def K mg "are_rules" (topS 39) ["turns", "value"] (He.ga K "are_rules") := ⟨def_ok (T.df 25 ⟨.glo "are_rules", "are_rules", "are_rules", topS 39⟩ rfl) fun _ _ _ _ _ _ us hl => match us, hl with | [_, _], _ => rfl, T.g_are_rules⟩
theorem Tx.d_are_parts : Def K mg "are_parts" (topS 40) ["grid", "axiom", "rules"] (He.ga K "are_parts") := ⟨def_ok (T.df 26 ⟨.glo "are_parts", "are_parts", "are_parts", topS 40⟩ rfl) fun _ _ _ _ _ _ us hl => match us, hl with | [_, _, _], _ => rfl, T.g_are_parts⟩
theorem Tx.d_Scheme_init : ∃ fd, Fun K "__init__" "Scheme.__init__" (inClass (topS 41) 1) (He.ma K (He.ga K "Scheme") "__init__") fd ∧ Binds K fd ["self", "grid", "axiom", "rules"] [] := def_ok (T.df 27 ⟨.met "Scheme" "__init__", "__init__", "Scheme.__init__", inClass (topS 41) 1⟩ rfl) fun _ _ _ _ _ _ us hl => match us, hl with | [_, _, _, _], _ => rfl
theorem Tx.d_Scheme_letters_met : ∃ fd, Fun K "letters_met" "Scheme.letters_met" (inClass (topS 41) 3) (He.ma K (He.ga K "Scheme") "letters_met") fd ∧ Binds K fd ["self"] [] := def_ok (T.df 28 ⟨.met "Scheme" "letters_met", "letters_met", "Scheme.letters_met", inClass (topS 41) 3⟩ rfl) fun _ _ _ _ _ _ us hl => match us, hl with | [_], _ => rfl
theorem Tx.d_Scheme_grid : ∃ fd, Fun K "grid" "Scheme.grid" (inClass (topS 41) 4) ((Wh.prp "Scheme" "grid").adr K) fd ∧ Binds K fd ["self"] [] := def_ok (T.df 29 ⟨.prp "Scheme" "grid", "grid", "Scheme.grid", inClass (topS 41) 4⟩ rfl) fun _ _ _ _ _ _ us hl => match us, hl with | [_], _ => rfl
theorem Tx.d_Scheme_axiom : ∃ fd, Fun K "axiom" "Scheme.axiom" (inClass (topS 41) 5) ((Wh.prp "Scheme" "axiom").adr K) fd ∧ Binds K fd ["self"] [] := def_ok (T.df 30 ⟨.prp "Scheme" "axiom", "axiom", "Scheme.axiom", inClass (topS 41) 5⟩ rfl) fun _ _ _ _ _ _ us hl => match us, hl with | [_], _ => rfl
theorem Tx.d_Scheme_letters : ∃ fd, Fun K "letters" "Scheme.letters" (inClass (topS 41) 6) ((Wh.prp "Scheme" "letters").adr K) fd ∧ Binds K fd ["self"] [] := def_ok (T.df 31 ⟨.prp "Scheme" "letters", "letters", "Scheme.letters", inClass (topS 41) 6⟩ rfl) fun _ _ _ _ _ _ us hl => match us, hl with | [_], _ => rfl
theorem Tx.d_Scheme_growth : ∃ fd, Fun K "growth" "Scheme.growth" (inClass (topS 41) 7) ((Wh.prp "Scheme" "growth").adr K) fd ∧ Binds K fd ["self"] [] := def_ok (T.df 32 ⟨.prp "Scheme" "growth", "growth", "Scheme.growth", inClass (topS 41) 7⟩ rfl) fun _ _ _ _ _ _ us hl => match us, hl with | [_], _ => rfl
theorem Tx.d_Scheme_lines : ∃ fd, Fun K "lines" "Scheme.lines" (inClass (topS 41) 8) ((Wh.prp "Scheme" "lines").adr K) fd ∧ Binds K fd ["self"] [] := def_ok (T.df 33 ⟨.prp "Scheme" "lines", "lines", "Scheme.lines", inClass (topS 41) 8⟩ rfl) fun _ _ _ _ _ _ us hl => match us, hl with | [_], _ => rfl
theorem Tx.d_Scheme_is_even : ∃ fd, Fun K "is_even" "Scheme.is_even" (inClass (topS 41) 10) ((Wh.prp "Scheme" "is_even").adr K) fd ∧ Binds K fd ["self"] [] := def_ok (T.df 34 ⟨.prp "Scheme" "is_even", "is_even", "Scheme.is_even", inClass (topS 41) 10⟩ rfl) fun _ _ _ _ _ _ us hl => match us, hl with | [_], _ => rfl
theorem Tx.d_Scheme_used : ∃ fd, Fun K "used" "Scheme.used" (inClass (topS 41) 11) ((Wh.prp "Scheme" "used").adr K) fd ∧ Binds K fd ["self"] [] := def_ok (T.df 35 ⟨.prp "Scheme" "used", "used", "Scheme.used", inClass (topS 41) 11⟩ rfl) fun _ _ _ _ _ _ us hl => match us, hl with | [_], _ => rfl
theorem Tx.d_Scheme_require_letter : ∃ fd, Fun K "require_letter" "Scheme.require_letter" (inClass (topS 41) 14) (He.ma K (He.ga K "Scheme") "require_letter") fd ∧ Binds K fd ["self", "value"] [] := def_ok (T.df 36 ⟨.met "Scheme" "require_letter", "require_letter", "Scheme.require_letter", inClass (topS 41) 14⟩ rfl) fun _ _ _ _ _ _ us hl => match us, hl with | [_, _], _ => rfl
theorem Tx.d_Scheme_getitem : ∃ fd, Fun K "__getitem__" "Scheme.__getitem__" (inClass (topS 41) 15) (He.ma K (He.ga K "Scheme") "__getitem__") fd ∧ Binds K fd ["self", "letter"] [] := def_ok (T.df 37 ⟨.met "Scheme" "__getitem__", "__getitem__", "Scheme.__getitem__", inClass (topS 41) 15⟩ rfl) fun _ _ _ _ _ _ us hl => match us, hl with | [_, _], _ => rfl
theorem Tx.d_Scheme_iter : ∃ fd, Fun K "__iter__" "Scheme.__iter__" (inClass (topS 41) 17) (He.ma K (He.ga K "Scheme") "__iter__") fd ∧ Binds K fd ["self"] [] := def_ok (T.df 38 ⟨.met "Scheme" "__iter__", "__iter__", "Scheme.__iter__", inClass (topS 41) 17⟩ rfl) fun _ _ _ _ _ _ us hl => match us, hl with | [_], _ => rfl
theorem Tx.d_Scheme_len : ∃ fd, Fun K "__len__" "Scheme.__len__" (inClass (topS 41) 18) (He.ma K (He.ga K "Scheme") "__len__") fd ∧ Binds K fd ["self"] [] := def_ok (T.df 39 ⟨.met "Scheme" "__len__", "__len__", "Scheme.__len__", inClass (topS 41) 18⟩ rfl) fun _ _ _ _ _ _ us hl => match us, hl with | [_], _ => rfl
theorem Tx.d_Scheme_eq : ∃ fd, Fun K "__eq__" "Scheme.__eq__" (inClass (topS 41) 19) (He.ma K (He.ga K "Scheme") "__eq__") fd ∧ Binds K fd ["self", "value"] [] := def_ok (T.df 40 ⟨.met "Scheme" "__eq__", "__eq__", "Scheme.__eq__", inClass (topS 41) 19⟩ rfl) fun _ _ _ _ _ _ us hl => match us, hl with | [_, _], _ => rfl
theorem Tx.d_require_scheme : Def K mg "require_scheme" (topS 42) ["value"] (He.ga K "require_scheme") := ⟨def_ok (T.df 41 ⟨.glo "require_scheme", "require_scheme", "require_scheme", topS 42⟩ rfl) fun _ _ _ _ _ _ us hl => match us, hl with | [_], _ => rfl, T.g_require_scheme⟩
theorem Tx.d_require_order : Def K mg "require_order" (topS 46) ["order"] (He.ga K "require_order") := ⟨def_ok (T.df 42 ⟨.glo "require_order", "require_order", "require_order", topS 46⟩ rfl) fun _ _ _ _ _ _ us hl => match us, hl with | [_], _ => rfl, T.g_require_order⟩
theorem Tx.d_counts_behind : Def K mg "counts_behind" (topS 47) ["scheme", "counts"] (He.ga K "counts_behind") := ⟨def_ok (T.df 43 ⟨.glo "counts_behind", "counts_behind", "counts_behind", topS 47⟩ rfl) fun _ _ _ _ _ _ us hl => match us, hl with | [_, _], _ => rfl, T.g_counts_behind⟩
theorem Tx.d_counts_of : Def K mg "counts_of" (topS 48) ["scheme", "items", "order"] (He.ga K "counts_of") := ⟨def_ok (T.df 44 ⟨.glo "counts_of", "counts_of", "counts_of", topS 48⟩ rfl) fun _ _ _ _ _ _ us hl => match us, hl with | [_, _, _], _ => rfl, T.g_counts_of⟩
theorem Tx.d_letter_counts : Def K mg "letter_counts" (topS 49) ["scheme", "order"] (He.ga K "letter_counts") := ⟨def_ok (T.df 45 ⟨.glo "letter_counts", "letter_counts", "letter_counts", topS 49⟩ rfl) fun _ _ _ _ _ _ us hl => match us, hl with | [_, _], _ => rfl, T.g_letter_counts⟩
theorem Tx.d_replaced : Def K mg "replaced" (topS 50) ["scheme", "steps"] (He.ga K "replaced") := ⟨def_ok (T.df 46 ⟨.glo "replaced", "replaced", "replaced", topS 50⟩ rfl) fun _ _ _ _ _ _ us hl => match us, hl with | [_, _], _ => rfl, T.g_replaced⟩
theorem Tx.d_row_grown : Def K mg "row_grown" (topS 51) ["scheme", "items", "order"] (He.ga K "row_grown") := ⟨def_ok (T.df 47 ⟨.glo "row_grown", "row_grown", "row_grown", topS 51⟩ rfl) fun _ _ _ _ _ _ us hl => match us, hl with | [_, _, _], _ => rfl, T.g_row_grown⟩
theorem Tx.d_steps_of : Def K mg "steps_of" (topS 52) ["scheme", "order"] (He.ga K "steps_of") := ⟨def_ok (T.df 48 ⟨.glo "steps_of", "steps_of", "steps_of", topS 52⟩ rfl) fun _ _ _ _ _ _ us hl => match us, hl with | [_, _], _ => rfl, T.g_steps_of⟩
theorem Tx.d_called : Def K mg "called" (topS 54) ["items", "letters"] (He.ga K "called") := ⟨def_ok (T.df 49 ⟨.glo "called", "called", "called", topS 54⟩ rfl) fun _ _ _ _ _ _ us hl => match us, hl with | [_, _], _ => rfl, T.g_called⟩
theorem Tx.d_is_renaming : Def K mg "is_renaming" (topS 55) ["scheme", "value"] (He.ga K "is_renaming") := ⟨def_ok (T.df 50 ⟨.glo "is_renaming", "is_renaming", "is_renaming", topS 55⟩ rfl) fun _ _ _ _ _ _ us hl => match us, hl with | [_, _], _ => rfl, T.g_is_renaming⟩
theorem Tx.d_renamed_scheme : Def K mg "renamed_scheme" (topS 56) ["scheme", "letters"] (He.ga K "renamed_scheme") := ⟨def_ok (T.df 51 ⟨.glo "renamed_scheme", "renamed_scheme", "renamed_scheme", topS 56⟩ rfl) fun _ _ _ _ _ _ us hl => match us, hl with | [_, _], _ => rfl, T.g_renamed_scheme⟩
theorem Tx.d_spared : Def K mg "spared" (topS 57) ["scheme"] (He.ga K "spared") := ⟨def_ok (T.df 52 ⟨.glo "spared", "spared", "spared", topS 57⟩ rfl) fun _ _ _ _ _ _ us hl => match us, hl with | [_], _ => rfl, T.g_spared⟩
theorem Tx.d_sequels_alike : Def K mg "sequels_alike" (topS 58) ["scheme"] (He.ga K "sequels_alike") := ⟨def_ok (T.df 53 ⟨.glo "sequels_alike", "sequels_alike", "sequels_alike", topS 58⟩ rfl) fun _ _ _ _ _ _ us hl => match us, hl with | [_], _ => rfl, T.g_sequels_alike⟩
theorem Tx.d_least_scheme : Def K mg "least_scheme" (topS 59) ["scheme"] (He.ga K "least_scheme") := ⟨def_ok (T.df 54 ⟨.glo "least_scheme", "least_scheme", "least_scheme", topS 59⟩ rfl) fun _ _ _ _ _ _ us hl => match us, hl with | [_], _ => rfl, T.g_least_scheme⟩
theorem Tx.d__law_dice : Def K mg "_law_dice" (topS 61) ["_law_script", "_law_spot"] (He.ga K "_law_dice") := ⟨def_ok (T.df 55 ⟨.glo "_law_dice", "_law_dice", "_law_dice", topS 61⟩ rfl) fun _ _ _ _ _ _ us hl => match us, hl with | [_, _], _ => rfl, T.g__law_dice⟩
theorem Tx.d__law_roll : Def K mg "_law_roll" (topS 62) ["_law_dice_here", "_law_total"] (He.ga K "_law_roll") := ⟨def_ok (T.df 56 ⟨.glo "_law_roll", "_law_roll", "_law_roll", topS 62⟩ rfl) fun _ _ _ _ _ _ us hl => match us, hl with | [_, _], _ => rfl, T.g__law_roll⟩
theorem Tx.d__law_pick : Def K mg "_law_pick" (topS 63) ["_law_dice_here", "_law_items"] (He.ga K "_law_pick") := ⟨def_ok (T.df 57 ⟨.glo "_law_pick", "_law_pick", "_law_pick", topS 63⟩ rfl) fun _ _ _ _ _ _ us hl => match us, hl with | [_, _], _ => rfl, T.g__law_pick⟩
theorem Tx.d__law_mixed : Def K mg "_law_mixed" (topS 64) ["_law_dice_here", "_law_items"] (He.ga K "_law_mixed") := ⟨def_ok (T.df 58 ⟨.glo "_law_mixed", "_law_mixed", "_law_mixed", topS 64⟩ rfl) fun _ _ _ _ _ _ us hl => match us, hl with | [_, _], _ => rfl, T.g__law_mixed⟩
theorem Tx.d__law_around : Def K mg "_law_around" (topS 65) ["_law_plain_here"] (He.ga K "_law_around") := ⟨def_ok (T.df 59 ⟨.glo "_law_around", "_law_around", "_law_around", topS 65⟩ rfl) fun _ _ _ _ _ _ us hl => match us, hl with | [_], _ => rfl, T.g__law_around⟩
theorem Tx.d__law_row : Def K mg "_law_row" (topS 66) ["_law_text"] (He.ga K "_law_row") := ⟨def_ok (T.df 60 ⟨.glo "_law_row", "_law_row", "_law_row", topS 66⟩ rfl) fun _ _ _ _ _ _ us hl => match us, hl with | [_], _ => rfl, T.g__law_row⟩
theorem Tx.d__law_row_text : Def K mg "_law_row_text" (topS 67) ["_law_row_here"] (He.ga K "_law_row_text") := ⟨def_ok (T.df 61 ⟨.glo "_law_row_text", "_law_row_text", "_law_row_text", topS 67⟩ rfl) fun _ _ _ _ _ _ us hl => match us, hl with | [_], _ => rfl, T.g__law_row_text⟩
theorem Tx.d__law_plain : Def K mg "_law_plain" (topS 68) ["_law_lines"] (He.ga K "_law_plain") := ⟨def_ok (T.df 62 ⟨.glo "_law_plain", "_law_plain", "_law_plain", topS 68⟩ rfl) fun _ _ _ _ _ _ us hl => match us, hl with | [_], _ => rfl, T.g__law_plain⟩
theorem Tx.d__law_made : Def K mg "_law_made" (topS 69) ["_law_plain_here"] (He.ga K "_law_made") := ⟨def_ok (T.df 63 ⟨.glo "_law_made", "_law_made", "_law_made", topS 69⟩ rfl) fun _ _ _ _ _ _ us hl => match us, hl with | [_], _ => rfl, T.g__law_made⟩
theorem Tx.d__law_more : Def K mg "_law_more" (topS 70) ["_law_plain_here", "_law_row_here"] (He.ga K "_law_more") := ⟨def_ok (T.df 64 ⟨.glo "_law_more", "_law_more", "_law_more", topS 70⟩ rfl) fun _ _ _ _ _ _ us hl => match us, hl with | [_, _], _ => rfl, T.g__law_more⟩
theorem Tx.d__law_line : Def K mg "_law_line" (topS 71) ["_law_plain_here", "_law_order"] (He.ga K "_law_line") := ⟨def_ok (T.df 65 ⟨.glo "_law_line", "_law_line", "_law_line", topS 71⟩ rfl) fun _ _ _ _ _ _ us hl => match us, hl with | [_, _], _ => rfl, T.g__law_line⟩
theorem Tx.d__law_low_order : Def K mg "_law_low_order" (topS 72) ["_law_plain_here", "_law_bound"] (He.ga K "_law_low_order") := ⟨def_ok (T.df 66 ⟨.glo "_law_low_order", "_law_low_order", "_law_low_order", topS 72⟩ rfl) fun _ _ _ _ _ _ us hl => match us, hl with | [_, _], _ => rfl, T.g__law_low_order⟩
theorem Tx.d__law_written : Def K mg "_law_written" (topS 73) ["_law_way"] (He.ga K "_law_written") := ⟨def_ok (T.df 67 ⟨.glo "_law_written", "_law_written", "_law_written", topS 73⟩ rfl) fun _ _ _ _ _ _ us hl => match us, hl with | [_], _ => rfl, T.g__law_written⟩
theorem Tx.d__law_turns : Def K mg "_law_turns" (topS 74) ["_law_grid"] (He.ga K "_law_turns") := ⟨def_ok (T.df 68 ⟨.glo "_law_turns", "_law_turns", "_law_turns", topS 74⟩ rfl) fun _ _ _ _ _ _ us hl => match us, hl with | [_], _ => rfl, T.g__law_turns⟩
theorem Tx.d__law_drawn_rule : Def K mg "_law_drawn_rule" (topS 75) ["_law_dice_here", "_law_grid", "_law_letters", "_law_turns_here"] (He.ga K "_law_drawn_rule") := ⟨def_ok (T.df 69 ⟨.glo "_law_drawn_rule", "_law_drawn_rule", "_law_drawn_rule", topS 75⟩ rfl) fun _ _ _ _ _ _ us hl => match us, hl with | [_, _, _, _], _ => rfl, T.g__law_drawn_rule⟩
theorem Tx.d__law_drawn : Def K mg "_law_drawn" (topS 76) ["_law_dice_here"] (He.ga K "_law_drawn") := ⟨def_ok (T.df 70 ⟨.glo "_law_drawn", "_law_drawn", "_law_drawn", topS 76⟩ rfl) fun _ _ _ _ _ _ us hl => match us, hl with | [_], _ => rfl, T.g__law_drawn⟩
theorem Tx.d__law_any : Def K mg "_law_any" (topS 77) ["_law_dice_here"] (He.ga K "_law_any") := ⟨def_ok (T.df 71 ⟨.glo "_law_any", "_law_any", "_law_any", topS 77⟩ rfl) fun _ _ _ _ _ _ us hl => match us, hl with | [_], _ => rfl, T.g__law_any⟩
theorem Tx.d__law_used : Def K mg "_law_used" (topS 78) ["_law_own"] (He.ga K "_law_used") := ⟨def_ok (T.df 72 ⟨.glo "_law_used", "_law_used", "_law_used", topS 78⟩ rfl) fun _ _ _ _ _ _ us hl => match us, hl with | [_], _ => rfl, T.g__law_used⟩
theorem Tx.d__law_wild_lines : Def K mg "_law_wild_lines" (topS 79) ["_law_dice_here"] (He.ga K "_law_wild_lines") := ⟨def_ok (T.df 73 ⟨.glo "_law_wild_lines", "_law_wild_lines", "_law_wild_lines", topS 79⟩ rfl) fun _ _ _ _ _ _ us hl => match us, hl with | [_], _ => rfl, T.g__law_wild_lines⟩
theorem Tx.d__law_with_copies : Def K mg "_law_with_copies" (topS 80) ["_law_dice_here", "_law_own"] (He.ga K "_law_with_copies") := ⟨def_ok (T.df 74 ⟨.glo "_law_with_copies", "_law_with_copies", "_law_with_copies", topS 80⟩ rfl) fun _ _ _ _ _ _ us hl => match us, hl with | [_, _], _ => rfl, T.g__law_with_copies⟩
theorem Tx.d__law_directions : Def K mg "_law_directions" (topS 81) ["_law_row_here"] (He.ga K "_law_directions") := ⟨def_ok (T.df 75 ⟨.glo "_law_directions", "_law_directions", "_law_directions", topS 81⟩ rfl) fun _ _ _ _ _ _ us hl => match us, hl with | [_], _ => rfl, T.g__law_directions⟩
theorem Tx.d__law_spared_right : Def K mg "_law_spared_right" (topS 82) ["_law_own", "_law_scheme"] (He.ga K "_law_spared_right") := ⟨def_ok (T.df 76 ⟨.glo "_law_spared_right", "_law_spared_right", "_law_spared_right", topS 82⟩ rfl) fun _ _ _ _ _ _ us hl => match us, hl with | [_, _], _ => rfl, T.g__law_spared_right⟩
theorem Tx.d__law_least_right : Def K mg "_law_least_right" (topS 83) ["_law_own", "_law_scheme"] (He.ga K "_law_least_right") := ⟨def_ok (T.df 77 ⟨.glo "_law_least_right", "_law_least_right", "_law_least_right", topS 83⟩ rfl) fun _ _ _ _ _ _ us hl => match us, hl with | [_, _], _ => rfl, T.g__law_least_right⟩
theorem Tx.d_law : Def K mg "law" (topS 84) ["_law_script"] (He.ga K "law") := ⟨def_ok (T.df 78 ⟨.glo "law", "law", "law", topS 84⟩ rfl) fun _ _ _ _ _ _ us hl => match us, hl with | [_], _ => rfl, T.g_law⟩
end
end G81
set_option maxRecDepth 100000
set_option maxHeartbeats 0
/-! the head: one run of the kernel -/
namespace G81
open PySem PySem.W PySem.Calls PyProof.Rows
abbrev ROp : OpenRow := OpenLaw.row PySem.Challenge.rw_grownlines_k81_whole_spared_and_least
abbrev qv : Program := view ROp.prog [84]
def namesA : List PySem.Str := ["_wall", "LIMIT", "LETTERS", "is_integer", "is_count", "is_letter", "LineError", "InvalidGrid", "InvalidRule", "InvalidScheme", "InvalidOperation", "UnknownLetter", "InvalidNumber", "TooMany", "SQUARE", "TRIANGLE", "GRIDS", "SQUARE_UNITS", "TRIANGLE_UNITS", "require_integer", "Grid", "require_grid", "MIN_ITEMS", "MAX_ITEMS", "is_item_of", "is_row_of", "row_text", "Rule", "MAX_LETTERS", "MIN_NORM"]
def namesB : List PySem.Str := ["GRID", "AXIOM", "RULE", "end_of_row", "are_rules", "are_parts", "Scheme", "require_scheme", "MAX_ORDER", "MAX_STEPS", "require_order", "counts_behind", "counts_of", "letter_counts", "replaced", "row_grown", "steps_of", "called", "is_renaming", "renamed_scheme", "spared", "sequels_alike", "least_scheme", "_law_dice", "_law_roll", "_law_pick", "_law_mixed", "_law_around", "_law_row", "_law_row_text"]
def namesC : List PySem.Str := ["_law_plain", "_law_made", "_law_more", "_law_line", "_law_low_order", "_law_written", "_law_turns", "_law_drawn_rule", "_law_drawn", "_law_any", "_law_used", "_law_wild_lines", "_law_with_copies", "_law_directions", "_law_spared_right", "_law_least_right"]
def namesQ : List PySem.Str := namesA ++ namesB ++ namesC
abbrev AlW : Type := Bool × List He.FnW
def obsW (K : Frag) : AlW := ((allFx.all fun f => f.ok K) && (allDefs.all fun d => d.ok K), allDefs.map fun d => fnAt K (d.wh.adr K))
def valW : AlW := (true, allDefs.map DefW.val)
/-- what an object names, for the parts that are asked for -/
def oneG (g : Addr → Option Obj) (a : Addr) : List Addr := match g a with
  | some o => (match o.data with
    | .func d => He.refV d.code
    | .cls c => [c.ns]
    | .seq vs _ => vs.toList.flatMap He.refV
    | .fields vs => vs.toList.flatMap He.refV
    | _ => [])
  | none => []
def dicG (g : Addr → Option Obj) (a : Addr) : List Addr := match g a with
  | some o => (match o.data with
    | .dict es _ => es.toList.flatMap fun e => He.refV e.val
    | _ => [])
  | none => []
def codG (g : Addr → Option Obj) (a : Addr) : List Addr := match g a with
  | some o => (match o.data with
    | .func d => He.refV d.code
    | _ => [])
  | none => []
def stages (g : Addr → Option Obj) : List Addr :=
  let a1 := dicG g mainGlobals
  let a2 := a1.flatMap (oneG g)
  let a3 := a2.flatMap (dicG g)
  let a4 := a3.flatMap (oneG g)
  mainGlobals :: (a1 ++ (a2 ++ (a3 ++ (a4 ++ a4.flatMap (codG g)))))
def obsWG (g : Addr → Option Obj) : AlW := obsW (He.frG g (stages g))
def hookW : Hook where
  α := AlW
  obs := fun s => obsWG s.heap.get?
  val := fun _ => valW
  says := fun _ h => ∃ K : Frag, K.In h ∧ obsW K = valW
  of := fun _ _ e => ⟨_, He.frG_in, e⟩
  keeps := fun _ _ _ ⟨K, hK, c⟩ k => ⟨K, Frag.In.keeps hK k, c⟩
def obW (s : SharedT) : AlW := obsWG (HandSHeadRun.getT s)
theorem obW_eq (s : SharedT) : obW s = hookW.obs s.abs := by
  have e : HandSHeadRun.getT s = s.abs.heap.get? := funext (HandSHeadRun.getT_eq s)
  show obsWG (HandSHeadRun.getT s) = obsWG s.abs.heap.get?
  rw [e]
theorem runW (w : World) : HandSHeadRun.RunEq ROp qv hookW obW 20000 namesQ w := by
  intro os
  kernel_rfl
theorem tx_of {K : Frag} {h : Heap} {mg : Str → Option Value} (X : K.In h) (G : h.Ns mainGlobals mg) (c : obsW K = valW) : Tx K mg := by
  obtain ⟨c1, c2⟩ := Prod.mk.inj c
  obtain ⟨c3, c4⟩ := Bool.and_eq_true_iff.mp c1
  refine ⟨fun i f e => List.all_eq_true.mp c3 f (List.mem_of_getElem? e), fun i d e => ?_, fun x v e => ?_⟩
  · have e2 : (allDefs.map fun d => fnAt K (d.wh.adr K))[i]? = (allDefs.map DefW.val)[i]? := by rw [c2]
    rw [List.getElem?_map, List.getElem?_map, e] at e2
    exact DefW.fun_ (Option.some.inj e2) (List.all_eq_true.mp c4 d (List.mem_of_getElem? e))
  · cases v with
    | none => exact mg_none_of X G e
    | some v => exact mg_of X G e
end G81
set_option maxRecDepth 100000
set_option maxHeartbeats 2000000
/-! the model: letters as codes, rows, rules, schemes; what they are as data -/
namespace G81
open PySem PySem.Spec PyProof.Rows L2 SlX
open SX (S)
abbrev It2 := Nat × Nat
abbrev Row := List It2
abbrev Rls := List (Nat × Row)
def lt (c : Nat) : Str := ⟨#[c]⟩
theorem lt_inj {a b : Nat} (h : lt a = lt b) : a = b := by
  have h1 : (#[a] : Array Nat) = #[b] := congrArg Str.cps h
  simpa using h1
def dIt (p : It2) : D := .tup [.txt (lt p.1), .int (p.2 : Nat)]
abbrev dRow (r : Row) : D := .tup (r.map dIt)
abbrev dRowL (r : Row) : D := .lst (r.map dIt)
def dPt (p : Int × Int) : D := .tup [.int p.1, .int p.2]
def gname (sq : Bool) : Str := if sq then "square" else "triangle"
def units (sq : Bool) : List (Int × Int) := if sq then unitsS else unitsT
def ar (sq : Bool) : Nat := if sq then 4 else 6
theorem units_len (sq : Bool) : (units sq).length = ar sq := by cases sq <;> rfl
def uat (sq : Bool) (t : Nat) : Int × Int := (units sq).getD t (0, 0)
def padd (p q : Int × Int) : Int × Int := (p.1 + q.1, p.2 + q.2)
def endOf (sq : Bool) : Int × Int → Row → Int × Int
  | p, [] => p
  | p, x :: r => endOf sq (padd p (uat sq x.2)) r
def startsOf (sq : Bool) : Int × Int → Row → List (Int × Int)
  | _, [] => []
  | p, x :: r => p :: startsOf sq (padd p (uat sq x.2)) r
def norm (sq : Bool) (p : Int × Int) : Int := p.1 * p.1 + p.2 * p.2 + (if sq then 0 else p.1 * p.2)
structure Sc where
  sq : Bool
  ax : Row
  rs : Rls
def Sc.keys (s : Sc) : List Nat := s.rs.map (·.1)
/-- letters that the axiom leads to -/
inductive Reach (ax : Row) (rs : Rls) : Nat → Prop
  | ax {p : It2} : p ∈ ax → Reach ax rs p.1
  | step {l : Nat} {r : Row} {p : It2} : Reach ax rs l → (l, r) ∈ rs → p ∈ r → Reach ax rs p.1
open Classical in
noncomputable def Sc.used (s : Sc) : List Nat := s.keys.filter fun l => decide (Reach s.ax s.rs l)
def itemC (p : It2) : List Nat := [p.1, 48 + p.2]
def rowC (r : Row) : List Nat := TL.joinL [32] (r.map itemC)
def codes (s : String) : List Nat := s.toList.map Char.toNat
def lineG (sq : Bool) : Str := S (codes "grid " ++ (gname sq).cps.toList)
def lineA (r : Row) : Str := S (codes "axiom " ++ rowC r)
def lineR (p : Nat × Row) : Str := S (codes "rule " ++ (p.1 :: 32 :: rowC p.2))
def linesOf (sq : Bool) (ax : Row) (rs : Rls) : List Str := lineG sq :: lineA ax :: rs.map lineR
def Sc.growth (s : Sc) : Int × Int := match s.rs with
  | p :: _ => endOf s.sq (0, 0) p.2
  | [] => (0, 0)
section
variable (K : PySem.W.Frag)
abbrev cG : Addr := He.ga K "Grid"
abbrev cR : Addr := He.ga K "Rule"
abbrev cS : Addr := He.ga K "Scheme"
def dGrid (sq : Bool) : D := .obj (cG K) [.txt (gname sq), .tup ((units sq).map dPt)]
def dRule (sq : Bool) (r : Row) : D := .obj (cR K) [dPt (endOf sq (0, 0) r), dGrid K sq, dRow r, .tup ((startsOf sq (0, 0) r).map dPt)]
abbrev dLet (c : Nat) : D := .txt (lt c)
/-- the slots ahead of the last -/
noncomputable def Sc.five (s : Sc) : List D := [dRow s.ax, dGrid K s.sq, dPt s.growth, .tup ((linesOf s.sq s.ax s.rs).map D.txt), .dct (s.rs.map fun p => lt p.1) (s.rs.map fun p => dRule K s.sq p.2)]
noncomputable def dSch (s : Sc) : D := .obj (cS K) (s.five K ++ [.tup (s.used.map dLet)])
end
/-- the law's own plain dict -/
def dRls (rs : Rls) : D := .dct (rs.map fun p => lt p.1) (rs.map fun p => dRow p.2)
def dPl (s : Sc) : D := .dct ["grid", "axiom", "rules"] [.txt (gname s.sq), dRow s.ax, dRls s.rs]
/-- all is as a scheme asks -/
structure Wf (s : Sc) : Prop where
  nd : s.keys.Nodup
  len : 1 ≤ s.rs.length ∧ s.rs.length ≤ 6
  let_ : ∀ p ∈ s.rs, 97 ≤ p.1 ∧ p.1 ≤ 122
  rows : ∀ p ∈ s.rs, 2 ≤ p.2.length ∧ p.2.length ≤ 12 ∧ ∀ q ∈ p.2, q.1 ∈ s.keys ∧ q.2 < ar s.sq
  ax : 1 ≤ s.ax.length ∧ s.ax.length ≤ 12 ∧ ∀ q ∈ s.ax, q.1 ∈ s.keys ∧ q.2 < ar s.sq
  ends : ∃ g, 2 ≤ norm s.sq g ∧ ∀ p ∈ s.rs, endOf s.sq (0, 0) p.2 = g
/-- .. with its letters in order -/
structure Ws (s : Sc) : Prop extends Wf s where
  ord : s.keys.Pairwise (· < ·)
/-! names of the module as values -/
section
variable {X : Cx} {c : Fm} {δ : List Cell} {x : Str} {pos : Pos}
theorem pv_gI {i : Int} (h : ∃ t, X.mg x = some (.int i t)) (hg : Gl X x := by rfl) (hd : (x == ("__debug__" : Str)) = false := by decide) : PV X c δ (.Name x pos) (.int i) := by
  obtain ⟨t, h⟩ := h
  exact pv_glob (v := .int i) h ⟨t, rfl⟩ (fun _ _ _ => rfl) hg hd
theorem pv_gS {z : Str} (h : ∃ t, X.mg x = some (.str z t)) (hg : Gl X x := by rfl) (hd : (x == ("__debug__" : Str)) = false := by decide) : PV X c δ (.Name x pos) (.txt z) := by
  obtain ⟨t, h⟩ := h
  exact pv_glob (v := .str z) h ⟨t, rfl⟩ (fun _ _ _ => rfl) hg hd
theorem pv_gT {zs : List Str} (h : TupTx X.K X.mg x zs) (hg : Gl X x := by rfl) (hd : (x == ("__debug__" : Str)) = false := by decide) : PV X c δ (.Name x pos) (.tup (zs.map D.txt)) := by
  obtain ⟨a, h, q⟩ := h
  exact PE.mono (pe_glob hg h (v := .ref a) rfl hd) fun σ H Q ⟨z, w⟩ => w _ H _ rfl .refl ⟨a, _, rfl, q H, Ats.of_txts zs⟩
theorem ats_units {K : PySem.W.Frag} {k : KW} (hk : k.K = K) {H : Hp} : ∀ (ps : List Addr) (us : List (Int × Int)), ps.length = us.length → (∀ (i : Nat) (p : Addr) (u : Int × Int), ps[i]? = some p → us[i]? = some u → ∀ H, SqT K H p [.int u.1, .int u.2]) → Ats k c H (us.map dPt) (ps.map V.ref)
  | [], [], _, _ => rfl
  | [], _ :: _, h, _ => by simp at h
  | _ :: _, [], h, _ => by simp at h
  | p :: ps, u :: us, h, q => by
    refine ⟨_, _, rfl, ⟨p, _, rfl, by rw [hk]; exact q 0 p u rfl rfl H, _, _, rfl, rfl, _, _, rfl, rfl, rfl⟩, ats_units hk ps us (by simpa using h) fun i p' u' h1 h2 => q (i + 1) p' u' (by simpa using h1) (by simpa using h2)⟩
theorem pv_gU {us : List (Int × Int)} (h : UnitsTx X.K X.mg x us) (hg : Gl X x := by rfl) (hd : (x == ("__debug__" : Str)) = false := by decide) : PV X c δ (.Name x pos) (.tup (us.map dPt)) := by
  obtain ⟨a, ps, h, h1, h2, h3⟩ := h
  exact PE.mono (pe_glob hg h (v := .ref a) rfl hd) fun σ H Q ⟨z, w⟩ => w _ H _ rfl .refl ⟨a, _, rfl, h1 H, ats_units rfl ps us h2 h3⟩
/-- a class of one's own, as what isinstance is asked of -/
theorem pe_gC {C : Addr} (h : X.mg x = some (.ref C)) (hg : Gl X x := by rfl) (hd : (x == ("__debug__" : Str)) = false := by decide) : PE X (.Name x pos) (tC (.ref C)) := pe_glob hg h rfl hd
theorem pe_gB {T : String} (hm : X.mg x = none) (hv : bootBuiltins x = some (.type T)) (hg : Gl X x := by rfl) (hn : x ≠ "__name__" := by decide) (hd : (x == ("__debug__" : Str)) = false := by decide) : PE X (.Name x pos) (tC (.ty T)) := pe_bltn hg hm hv rfl hn hd
theorem pv_eq {e : Expr} {d d' : D} (h : PV X c δ e d) (q : d = d') : PV X c δ e d' := q ▸ h
theorem ptx_eq {e : Expr} {k k' : Bool} (h : PTX X c δ e (· = k)) (q : k = k') : PTX X c δ e (· = k') := q ▸ h
end
end G81
set_option maxRecDepth 100000
set_option maxHeartbeats 2000000
/-! short words for this program's expressions -/
namespace G81
open PySem PySem.Spec PyProof.Rows L2 SlX
theorem bb_len : bootBuiltins "len" = some (.builtin "len") := by decide +kernel
theorem bb_all : bootBuiltins "all" = some (.builtin "all") := by decide +kernel
theorem bb_sum : bootBuiltins "sum" = some (.builtin "sum") := by decide +kernel
theorem bb_sorted : bootBuiltins "sorted" = some (.builtin "sorted") := by decide +kernel
theorem bb_abs : bootBuiltins "abs" = some (.builtin "abs") := by decide +kernel
theorem bb_max : bootBuiltins "max" = some (.builtin "max") := by decide +kernel
theorem bb_min : bootBuiltins "min" = some (.builtin "min") := by decide +kernel
theorem bb_tuple : bootBuiltins "tuple" = some (.type "tuple") := by decide +kernel
theorem bb_list : bootBuiltins "list" = some (.type "list") := by decide +kernel
theorem bb_int : bootBuiltins "int" = some (.type "int") := by decide +kernel
theorem bb_str : bootBuiltins "str" = some (.type "str") := by decide +kernel
theorem bb_bool : bootBuiltins "bool" = some (.type "bool") := by decide +kernel
theorem bb_dict : bootBuiltins "dict" = some (.type "dict") := by decide +kernel
theorem bb_set : bootBuiltins "set" = some (.type "set") := by decide +kernel
section
variable {X : Cx} {c : Fm} {δ : List Cell} {a b e o : Expr} {p pos q apos : Pos} {l : List D} {ks : List Str} {z : Str} (T : Tx X.K X.mg)
include T
section
variable (hs : starEach [a] X.env = (false, eval a X.env) :: starEach [] X.env := by rfl) (hpl : (backTo pos (starEach [] X.env)).any (·.1) = false := by rfl)
variable {n : Str}
theorem v_lenL (h : PV X c δ a (.lst l)) (hs : starEach [a] X.env = (false, eval a X.env) :: starEach [] X.env := by rfl) (hg : Gl X "len" := by rfl) (hpl : (backTo pos (starEach [] X.env)).any (·.1) = false := by rfl) : PV X c δ (.Call (.Name "len" p) [a] [] pos) (.int l.length) := pv_cB call_len_seq T.n_len bb_len (pvs_cons h pvs_nil hs) l_lenL hg (by decide) (by decide) hs hpl
theorem v_lenT (h : PV X c δ a (.tup l)) (hs : starEach [a] X.env = (false, eval a X.env) :: starEach [] X.env := by rfl) (hg : Gl X "len" := by rfl) (hpl : (backTo pos (starEach [] X.env)).any (·.1) = false := by rfl) : PV X c δ (.Call (.Name "len" p) [a] [] pos) (.int l.length) := pv_cB call_len_seq T.n_len bb_len (pvs_cons h pvs_nil hs) l_lenT hg (by decide) (by decide) hs hpl
theorem v_lenS (h : PV X c δ a (.txt z)) (hz : z.length ≤ sizeLine) (hs : starEach [a] X.env = (false, eval a X.env) :: starEach [] X.env := by rfl) (hg : Gl X "len" := by rfl) (hpl : (backTo pos (starEach [] X.env)).any (·.1) = false := by rfl) : PV X c δ (.Call (.Name "len" p) [a] [] pos) (.int z.length) := pv_cB call_len_str T.n_len bb_len (pvs_cons h pvs_nil hs) (l_lenS hz) hg (by decide) (by decide) hs hpl
theorem v_lenD (h : PV X c δ a (.dct ks l)) (hs : starEach [a] X.env = (false, eval a X.env) :: starEach [] X.env := by rfl) (hg : Gl X "len" := by rfl) (hpl : (backTo pos (starEach [] X.env)).any (·.1) = false := by rfl) : PV X c δ (.Call (.Name "len" p) [a] [] pos) (.int ks.length) := pv_cB callLenRd T.n_len bb_len (pvs_cons h pvs_nil hs) (l_lenD .dct) hg (by decide) (by decide) hs hpl
theorem v_all {bs : List Bool} (h : PV X c δ a (.lst (bs.map D.bl))) (hc : X.calm = true := by rfl) (hs : starEach [a] X.env = (false, eval a X.env) :: starEach [] X.env := by rfl) (hg : Gl X "all" := by rfl) (hpl : (backTo pos (starEach [] X.env)).any (·.1) = false := by rfl) : PV X c δ (.Call (.Name "all" p) [a] [] pos) (.bl (bs.all id)) := pv_cB (cr_all hc) T.n_all bb_all (pvs_cons h pvs_nil hs) l_all hg (by decide) (by decide) hs hpl
theorem v_sum {ns : List Int} (h : PV X c δ a (.lst (ns.map D.int))) (hc : X.calm = true := by rfl) (hs : starEach [a] X.env = (false, eval a X.env) :: starEach [] X.env := by rfl) (hg : Gl X "sum" := by rfl) (hpl : (backTo pos (starEach [] X.env)).any (·.1) = false := by rfl) : PV X c δ (.Call (.Name "sum" p) [a] [] pos) (.int ns.sum) := pv_cB (cr_sum hc) T.n_sum bb_sum (pvs_cons h pvs_nil hs) l_sum hg (by decide) (by decide) hs hpl
theorem v_tupL (h : PV X c δ a (.lst l)) (hs : starEach [a] X.env = (false, eval a X.env) :: starEach [] X.env := by rfl) (hg : Gl X "tuple" := by rfl) (hpl : (backTo pos (starEach [] X.env)).any (·.1) = false := by rfl) : PV X c δ (.Call (.Name "tuple" p) [a] [] pos) (.tup l) := pv_cT call_tuple_of T.n_tuple bb_tuple (pvs_cons h pvs_nil hs) l_tupL hg (by decide) (by decide) hs hpl
theorem v_tupD (h : PV X c δ a (.dct ks l)) (hc : X.calm = true := by rfl) (hs : starEach [a] X.env = (false, eval a X.env) :: starEach [] X.env := by rfl) (hg : Gl X "tuple" := by rfl) (hpl : (backTo pos (starEach [] X.env)).any (·.1) = false := by rfl) : PV X c δ (.Call (.Name "tuple" p) [a] [] pos) (.tup (ks.map D.txt)) := pv_cT (call_tupD hc) T.n_tuple bb_tuple (pvs_cons h pvs_nil hs) (l_tupD .dct) hg (by decide) (by decide) hs hpl
theorem n_listL (h : PV X c δ a (.lst l)) (hs : starEach [a] X.env = (false, eval a X.env) :: starEach [] X.env := by rfl) (hg : Gl X "list" := by rfl) (hpl : (backTo pos (starEach [] X.env)).any (·.1) = false := by rfl) : PN X c δ (.Call (.Name "list" p) [a] [] pos) (· = l) := pn_cT call_list_of T.n_list bb_list (pvs_cons h pvs_nil hs) (fun _ e => by rw [e]; exact ln_list (.inl rfl)) hg (by decide) (by decide) hs hpl
theorem n_listT (h : PV X c δ a (.tup l)) (hs : starEach [a] X.env = (false, eval a X.env) :: starEach [] X.env := by rfl) (hg : Gl X "list" := by rfl) (hpl : (backTo pos (starEach [] X.env)).any (·.1) = false := by rfl) : PN X c δ (.Call (.Name "list" p) [a] [] pos) (· = l) := pn_cT call_list_of T.n_list bb_list (pvs_cons h pvs_nil hs) (fun _ e => by rw [e]; exact ln_list (.inr rfl)) hg (by decide) (by decide) hs hpl
theorem n_sortD (h : PV X c δ a (.dct ks l)) (h64 : ks.length < 64) (hc : X.calm = true := by rfl) (hs : starEach [a] X.env = (false, eval a X.env) :: starEach [] X.env := by rfl) (hg : Gl X "sorted" := by rfl) (hpl : (backTo pos (starEach [] X.env)).any (·.1) = false := by rfl) : PN X c δ (.Call (.Name "sorted" p) [a] [] pos) (SortedOf ks) := pn_cB (call_sortedD hc) T.n_sorted bb_sorted (pvs_cons h pvs_nil hs) (fun _ e => by rw [e]; exact ln_sortD .dct h64) hg (by decide) (by decide) hs hpl
theorem n_sortL (h : PV X c δ a (.lst (ks.map D.txt))) (h64 : ks.length < 64) (hs : starEach [a] X.env = (false, eval a X.env) :: starEach [] X.env := by rfl) (hg : Gl X "sorted" := by rfl) (hpl : (backTo pos (starEach [] X.env)).any (·.1) = false := by rfl) : PN X c δ (.Call (.Name "sorted" p) [a] [] pos) (SortedOf ks) := pn_cB cr_sortedS T.n_sorted bb_sorted (pvs_cons h pvs_nil hs) (fun _ e => by rw [e]; exact ln_sortL h64) hg (by decide) (by decide) hs hpl
theorem v_intI {i : Int} (h : PV X c δ a (.int i)) (hs : starEach [a] X.env = (false, eval a X.env) :: starEach [] X.env := by rfl) (hg : Gl X "int" := by rfl) (hpl : (backTo pos (starEach [] X.env)).any (·.1) = false := by rfl) : PV X c δ (.Call (.Name "int" p) [a] [] pos) (.int i) := pv_cT call_int1 T.n_int bb_int (pvs_cons h pvs_nil hs) l_intI hg (by decide) (by decide) hs hpl
theorem v_intB {i : Bool} (h : PV X c δ a (.bl i)) (hs : starEach [a] X.env = (false, eval a X.env) :: starEach [] X.env := by rfl) (hg : Gl X "int" := by rfl) (hpl : (backTo pos (starEach [] X.env)).any (·.1) = false := by rfl) : PV X c δ (.Call (.Name "int" p) [a] [] pos) (.int (if i then 1 else 0)) := pv_cT call_int1 T.n_int bb_int (pvs_cons h pvs_nil hs) l_intB hg (by decide) (by decide) hs hpl
theorem v_intS {i : Int} (h : PV X c δ a (.txt z)) (hi : PySem.intText? z = some i) (hz : z.length ≤ 640) (hs : starEach [a] X.env = (false, eval a X.env) :: starEach [] X.env := by rfl) (hg : Gl X "int" := by rfl) (hpl : (backTo pos (starEach [] X.env)).any (·.1) = false := by rfl) : PV X c δ (.Call (.Name "int" p) [a] [] pos) (.int i) := pv_cT call_int_str T.n_int bb_int (pvs_cons h pvs_nil hs) (l_intS hi hz) hg (by decide) (by decide) hs hpl
theorem v_strI {i : Int} (h : PV X c δ a (.int i)) (hz : i.natAbs.log2 < 1920) (hs : starEach [a] X.env = (false, eval a X.env) :: starEach [] X.env := by rfl) (hg : Gl X "str" := by rfl) (hpl : (backTo pos (starEach [] X.env)).any (·.1) = false := by rfl) : PV X c δ (.Call (.Name "str" p) [a] [] pos) (.txt (toString i)) := pv_cT call_str_int T.n_str bb_str (pvs_cons h pvs_nil hs) (l_strI hz) hg (by decide) (by decide) hs hpl
theorem v_strS (h : PV X c δ a (.txt z)) (hs : starEach [a] X.env = (false, eval a X.env) :: starEach [] X.env := by rfl) (hg : Gl X "str" := by rfl) (hpl : (backTo pos (starEach [] X.env)).any (·.1) = false := by rfl) : PV X c δ (.Call (.Name "str" p) [a] [] pos) (.txt z) := pv_cT SkE.call_str_str T.n_str bb_str (pvs_cons h pvs_nil hs) l_strS hg (by decide) (by decide) hs hpl
theorem v_abs {i : Int} (h : PV X c δ a (.int i)) (hs : starEach [a] X.env = (false, eval a X.env) :: starEach [] X.env := by rfl) (hg : Gl X "abs" := by rfl) (hpl : (backTo pos (starEach [] X.env)).any (·.1) = false := by rfl) : PV X c δ (.Call (.Name "abs" p) [a] [] pos) (.int (if i < 0 then -i else i)) := pv_cB call_abs T.n_abs bb_abs (pvs_cons h pvs_nil hs) l_abs hg (by decide) (by decide) hs hpl
theorem v_max {i j : Int} (h : PV X c δ a (.int i)) (h2 : PV X c δ b (.int j)) (hc : X.calm = true := by rfl) (hs : starEach [a, b] X.env = (false, eval a X.env) :: starEach [b] X.env := by rfl) (hs2 : starEach [b] X.env = (false, eval b X.env) :: starEach [] X.env := by rfl) (hg : Gl X "max" := by rfl) (hpl : (backTo pos (starEach [b] X.env)).any (·.1) = false := by rfl) : PV X c δ (.Call (.Name "max" p) [a, b] [] pos) (.int (if j > i then j else i)) := pv_cB (call_max2 hc) T.n_max bb_max (pvs_cons h (pvs_cons h2 pvs_nil hs2) hs) l_max2 hg (by decide) (by decide) hs hpl
theorem v_min {i j : Int} (h : PV X c δ a (.int i)) (h2 : PV X c δ b (.int j)) (hc : X.calm = true := by rfl) (hs : starEach [a, b] X.env = (false, eval a X.env) :: starEach [b] X.env := by rfl) (hs2 : starEach [b] X.env = (false, eval b X.env) :: starEach [] X.env := by rfl) (hg : Gl X "min" := by rfl) (hpl : (backTo pos (starEach [b] X.env)).any (·.1) = false := by rfl) : PV X c δ (.Call (.Name "min" p) [a, b] [] pos) (.int (if j < i then j else i)) := pv_cB (call_min2 hc) T.n_min bb_min (pvs_cons h (pvs_cons h2 pvs_nil hs2) hs) l_min2 hg (by decide) (by decide) hs hpl
end
/-! isinstance -/
theorem v_isI {i : Int} (h : PV X c δ a (.int i)) (h1 : starEach [a, .Name "int" q] X.env = (false, eval a X.env) :: starEach [.Name "int" q] X.env := by rfl) (h2 : starEach [.Name "int" q] X.env = (false, eval (.Name "int" q) X.env) :: starEach [] X.env := by rfl) (hg : Gl X "isinstance" := by rfl) (hg2 : Gl X "int" := by rfl) (hpl : (backTo pos (starEach [.Name "int" q] X.env)).any (·.1) = false := by rfl) : PV X c δ (.Call (.Name "isinstance" p) [a, .Name "int" q] [] pos) (.bl true) := pv_isi T.n_isinstance h (pe_gB T.n_int bb_int hg2) (.ty _) (fun H v => ty_int (by decide +kernel)) hg h1 h2 hpl
theorem v_isB {i : Int} (h : PV X c δ a (.int i)) (h1 : starEach [a, .Name "bool" q] X.env = (false, eval a X.env) :: starEach [.Name "bool" q] X.env := by rfl) (h2 : starEach [.Name "bool" q] X.env = (false, eval (.Name "bool" q) X.env) :: starEach [] X.env := by rfl) (hg : Gl X "isinstance" := by rfl) (hg2 : Gl X "bool" := by rfl) (hpl : (backTo pos (starEach [.Name "bool" q] X.env)).any (·.1) = false := by rfl) : PV X c δ (.Call (.Name "isinstance" p) [a, .Name "bool" q] [] pos) (.bl false) := pv_isi T.n_isinstance h (pe_gB T.n_bool bb_bool hg2) (.ty _) (fun H v => ty_int (by decide +kernel)) hg h1 h2 hpl
theorem v_isS (h : PV X c δ a (.txt z)) (h1 : starEach [a, .Name "str" q] X.env = (false, eval a X.env) :: starEach [.Name "str" q] X.env := by rfl) (h2 : starEach [.Name "str" q] X.env = (false, eval (.Name "str" q) X.env) :: starEach [] X.env := by rfl) (hg : Gl X "isinstance" := by rfl) (hg2 : Gl X "str" := by rfl) (hpl : (backTo pos (starEach [.Name "str" q] X.env)).any (·.1) = false := by rfl) : PV X c δ (.Call (.Name "isinstance" p) [a, .Name "str" q] [] pos) (.bl true) := pv_isi T.n_isinstance h (pe_gB T.n_str bb_str hg2) (.ty _) (fun H v => ty_txt (by decide +kernel)) hg h1 h2 hpl
theorem v_isT (h : PV X c δ a (.tup l)) (h1 : starEach [a, .Name "tuple" q] X.env = (false, eval a X.env) :: starEach [.Name "tuple" q] X.env := by rfl) (h2 : starEach [.Name "tuple" q] X.env = (false, eval (.Name "tuple" q) X.env) :: starEach [] X.env := by rfl) (hg : Gl X "isinstance" := by rfl) (hg2 : Gl X "tuple" := by rfl) (hpl : (backTo pos (starEach [.Name "tuple" q] X.env)).any (·.1) = false := by rfl) : PV X c δ (.Call (.Name "isinstance" p) [a, .Name "tuple" q] [] pos) (.bl true) := pv_isi T.n_isinstance h (pe_gB T.n_tuple bb_tuple hg2) (.ty _) (fun H v => ty_tup (by decide +kernel)) hg h1 h2 hpl
theorem v_isD (h : PV X c δ a (.dct ks l)) (h1 : starEach [a, .Name "dict" q] X.env = (false, eval a X.env) :: starEach [.Name "dict" q] X.env := by rfl) (h2 : starEach [.Name "dict" q] X.env = (false, eval (.Name "dict" q) X.env) :: starEach [] X.env := by rfl) (hg : Gl X "isinstance" := by rfl) (hg2 : Gl X "dict" := by rfl) (hpl : (backTo pos (starEach [.Name "dict" q] X.env)).any (·.1) = false := by rfl) : PV X c δ (.Call (.Name "isinstance" p) [a, .Name "dict" q] [] pos) (.bl true) := pv_isi T.n_isinstance h (pe_gB T.n_dict bb_dict hg2) (.ty _) (fun H v => ty_dct (by decide +kernel)) hg h1 h2 hpl
theorem v_isO {x : Str} {C : Addr} (h : PV X c δ a (.obj C l)) (hC : X.mg x = some (.ref C)) (cl : SCls X.K C ∧ SIsi X.K C) (h1 : starEach [a, .Name x q] X.env = (false, eval a X.env) :: starEach [.Name x q] X.env := by rfl) (h2 : starEach [.Name x q] X.env = (false, eval (.Name x q) X.env) :: starEach [] X.env := by rfl) (hg : Gl X "isinstance" := by rfl) (hg2 : Gl X x := by rfl) (hdb : (x == ("__debug__" : Str)) = false := by decide) (hpl : (backTo pos (starEach [.Name x q] X.env)).any (·.1) = false := by rfl) : PV X c δ (.Call (.Name "isinstance" p) [a, .Name x q] [] pos) (.bl true) := pv_isiSl T.n_isinstance h (pe_gC hC hg2 hdb) cl.1 cl.2 hg h1 h2 hpl
end
/-! comprehensions with a pair, a name as target -/
section
variable {X : Cx} {c : Fm} {δ : List Cell} {elt tg iter test : Expr} {scope : Scope} {pos : Pos} {α : Type} {emb : α → D} {xs : List α} {δ' : α → List Cell} {x y : Str} {px py pt : Pos} {kk : Nat}
theorem lcP {f : α → D} (i j : Nat) (own : List (Str × Nat)) (hi : PIX X c δ (.Tuple [.Name x px, .Name y py] kk pt) iter (· = xs.map emb)) (hp : ∀ x, x ∈ xs → (Tg.pr i j).put (emb x) (wipeD δ (own.map (·.2))) = some (δ' x))
    (he : ∀ (s : Shared) (H : Hp) (C : Addr) (cl : List (Str × Addr)) (fp : List Addr) (x : α) (D : Addr), x ∈ xs → PV (X.blk s H scope (compEnvC scope cl C X.env) fp) (c.add D) (δ' x) elt (f x)) (hN : X.N.Nodup)
    (bo : BlkOk X.N X.env.scope scope own := by exact blkOk_by (by rfl)) (hg : ∀ (s : Shared) (H : Hp) (C : Addr) (cl : List (Str × Addr)) (fp : List Addr), PGX (X.blk s H scope (compEnvC scope cl C X.env) fp) (.Tuple [.Name x px, .Name y py] kk pt) (.pr i j) := by intros; exact pgx_pr rfl (by assumption) rfl rfl (by first | exact Or.inl rfl | exact Or.inr rfl) (by first | exact Or.inl rfl | exact Or.inr rfl))
    (hc : X.calm = true := by rfl) (hv : ∀ i' ∈ (Tg.pr i j).ix, i' ∈ own.map (·.2) := by decide) (hs : ∀ x, foldedSetIterable iter X.env x = pure x := by intro _; rfl) : PN X c δ (.ListComp elt [⟨.Tuple [.Name x px, .Name y py] kk pt, iter, [], 0⟩] scope pos) (· = xs.map f) := pvn_lc (.pr i j) own hi hp bo hg he hN hc hv hs
theorem lcN {f : α → D} (i : Nat) (own : List (Str × Nat)) (hi : PIX X c δ (.Name x px) iter (· = xs.map emb)) (hp : ∀ x, x ∈ xs → (Tg.nm i).put (emb x) (wipeD δ (own.map (·.2))) = some (δ' x))
    (he : ∀ (s : Shared) (H : Hp) (C : Addr) (cl : List (Str × Addr)) (fp : List Addr) (x : α) (D : Addr), x ∈ xs → PV (X.blk s H scope (compEnvC scope cl C X.env) fp) (c.add D) (δ' x) elt (f x)) (hN : X.N.Nodup)
    (bo : BlkOk X.N X.env.scope scope own := by exact blkOk_by (by rfl)) (hg : ∀ (s : Shared) (H : Hp) (C : Addr) (cl : List (Str × Addr)) (fp : List Addr), PGX (X.blk s H scope (compEnvC scope cl C X.env) fp) (.Name x px) (.nm i) := by intros; exact pgx_nm (by assumption) rfl (by first | exact Or.inl rfl | exact Or.inr rfl))
    (hc : X.calm = true := by rfl) (hv : ∀ i' ∈ (Tg.nm i).ix, i' ∈ own.map (·.2) := by decide) (hs : ∀ x, foldedSetIterable iter X.env x = pure x := by intro _; rfl) : PN X c δ (.ListComp elt [⟨.Name x px, iter, [], 0⟩] scope pos) (· = xs.map f) := pvn_lc (.nm i) own hi hp bo hg he hN hc hv hs
end
end G81
set_option maxRecDepth 100000
set_option maxHeartbeats 2000000
/-! words, grids: what each def promises -/
namespace G81
open PySem PySem.Spec PyProof.Rows L2 SlX
variable {P : Program} {w : World} {K : PySem.W.Frag} {mg : Str → Option Value} {base : Heap}
theorem l_neg {k : KW} {c : Fm} {i : Int} : R1L k c (rU fun i => .int (-i)) (.int i) (Is (.int (-i))) := fun v H Q _ a q => ⟨i, a, q _ H _ rfl .refl rfl⟩
theorem sc4 : FnScope ["value"] ["value"] (defScope (topS 4)) := ⟨rfl, rfl, rfl, by decide +kernel, rfl, by decide +kernel, by decide +kernel⟩
def r_is_integer : RD := fun ds P => ∃ n : Int, ds = [.int n] ∧ -(10 ^ 400) < n ∧ n < 10 ^ 400 ∧ P = Is (.bl true)
theorem w_is_integer (T : Tx K mg) : Cal P w K mg base 1 "is_integer" r_is_integer :=
  calD T.d_is_integer sc4 (by rintro ds P ⟨n, rfl, _⟩; rfl) fun cdv A outer s H E hr c ds Pd hR => by
    obtain ⟨n, rfl, h1, h2, rfl⟩ := hR
    exact pb_ret .refl (pv_eq (pv_and (v_isI T (pvv 0)) fun _ => pv_and (pv_not (v_isB T (pvv 0))) fun _ => pv_one (pv_chain op_lt op_lt (pv_un un_neg (pv_gI T.i_LIMIT) l_neg) (pvv 0) (pv_gI T.i_LIMIT)))
      (by rw [decide_eq_true h1, decide_eq_true h2]; rfl)) fun _ h => h
theorem sc5 : FnScope ["value"] ["value"] (defScope (topS 5)) := ⟨rfl, rfl, rfl, by decide +kernel, rfl, by decide +kernel, by decide +kernel⟩
theorem big400 {n : Nat} (h : n < 2 ^ 64) : ((n : Nat) : Int) < 10 ^ 400 := by
  have h1 : ((2 ^ 64 : Nat) : Int) ≤ 10 ^ 400 := by decide +kernel
  omega
theorem neg400 {n : Nat} : -(10 ^ 400) < ((n : Nat) : Int) := by
  have h1 : (0 : Int) < 10 ^ 400 := by decide +kernel
  omega
def r_is_count : RD := fun ds P => ∃ n : Nat, ds = [.int n] ∧ n < 2 ^ 64 ∧ P = Is (.bl true)
theorem w_is_count (T : Tx K mg) : Cal P w K mg base 2 "is_count" r_is_count :=
  calD T.d_is_count sc5 (by rintro ds P ⟨n, rfl, _⟩; rfl) fun cdv A outer s H E hr c ds Pd hR => by
    obtain ⟨n, rfl, h, rfl⟩ := hR
    exact pb_ret .refl (pv_eq (pv_and (pv_call (w_is_integer T) hr (by decide) rfl (pvs_cons (pvv 0) pvs_nil) ⟨n, rfl, neg400, big400 h, rfl⟩) fun _ => pv_one (pv_cmp op_ge (pvv 0) pv_int l_bl))
      (by rw [decide_eq_true (Int.natCast_nonneg n)]; rfl)) fun _ h => h
theorem sc6 : FnScope ["value"] ["value"] (defScope (topS 6)) := ⟨rfl, rfl, rfl, by decide +kernel, rfl, by decide +kernel, by decide +kernel⟩
def r_is_letter : RD := fun ds P => ∃ l : Nat, ds = [dLet l] ∧ (97 ≤ l ∧ l ≤ 122) ∧ P = Is (.bl true)
theorem letters_mem {l : Nat} (h : 97 ≤ l ∧ l ≤ 122) : decide (l ∈ ("abcdefghijklmnopqrstuvwxyz" : Str).cps.toList) = true := by
  have key : ∀ l, l < 123 → 97 ≤ l → l ∈ ("abcdefghijklmnopqrstuvwxyz" : Str).cps.toList := by decide +kernel
  exact decide_eq_true (key l (by omega) h.1)
theorem w_is_letter (T : Tx K mg) : Cal P w K mg base 1 "is_letter" r_is_letter :=
  calD T.d_is_letter sc6 (by rintro ds P ⟨n, rfl, _⟩; rfl) fun cdv A outer s H E hr c ds Pd hR => by
    obtain ⟨l, rfl, h, rfl⟩ := hR
    exact pb_ret .refl (pv_eq (pv_and (v_isS T (pvv 0)) fun _ => pv_and (pv_cmp op_eq (v_lenS T (pvv 0) (by show 1 ≤ sizeLine; decide)) pv_int l_eqI) fun _ => pv_one (pv_cmp op_in_sign (pvv 0) (pv_gS T.s_LETTERS) l_inS))
      (by rw [letters_mem h]; rfl)) fun _ h => h
/-! Grid -/
theorem scGn : FnScope ["self"] ["self"] (defScope (inClass (topS 23) 2)) := ⟨rfl, rfl, rfl, by decide +kernel, rfl, by decide +kernel, by decide +kernel⟩
theorem scGu : FnScope ["self"] ["self"] (defScope (inClass (topS 23) 4)) := ⟨rfl, rfl, rfl, by decide +kernel, rfl, by decide +kernel, by decide +kernel⟩
theorem scGq : FnScope ["self", "point", "a", "b"] ["self", "point"] (defScope (inClass (topS 23) 10)) := ⟨rfl, rfl, rfl, by decide +kernel, rfl, by decide +kernel, by decide +kernel⟩
theorem scGl : FnScope ["self"] ["self"] (defScope (inClass (topS 23) 20)) := ⟨rfl, rfl, rfl, by decide +kernel, rfl, by decide +kernel, by decide +kernel⟩
theorem scGe : FnScope ["self", "value"] ["self", "value"] (defScope (inClass (topS 23) 22)) := ⟨rfl, rfl, rfl, by decide +kernel, rfl, by decide +kernel, by decide +kernel⟩
theorem scGs : FnScope ["self"] ["self"] (defScope (inClass (topS 23) 23)) := ⟨rfl, rfl, rfl, by decide +kernel, rfl, by decide +kernel, by decide +kernel⟩
theorem scGi : FnScope ["self", "name"] ["self", "name"] (defScope (inClass (topS 23) 1)) := ⟨rfl, rfl, rfl, by decide +kernel, rfl, by decide +kernel, by decide +kernel⟩
/-- a def of a class: by position -/
abbrev MR (P : Program) (w : World) (K : PySem.W.Frag) (mg : Str → Option Value) (base : Heap) (k : Nat) (g : Addr) (R : RD) : Prop := FnR P w K mg base CX0 k g (spD ⟨K, w⟩ R)
theorem met_of {x qual : Str} {st : Stmt} {f : Addr} {N ps : List Str} {k : Nat} {R : RD} (F : ∃ fd, Fun K x qual st f fd ∧ Binds K fd ps []) (S : FnScope N ps (defScope st)) (len : ∀ ds P, R ds P → ds.length = ps.length)
    (hb : BodyD P w K mg base N k qual st f R) : MR P w K mg base (k + 1) f R := by
  obtain ⟨fd, F1, b⟩ := F
  exact metD F1 b S len hb
def r_Grid_name (K : PySem.W.Frag) : RD := fun ds P => ∃ sq, ds = [dGrid K sq] ∧ P = Is (.txt (gname sq))
theorem w_Grid_name (T : Tx K mg) : MR P w K mg base 1 ((Wh.prp "Grid" "name").adr K) (r_Grid_name K) :=
  met_of T.d_Grid_name scGn (by rintro ds P ⟨n, rfl, _⟩; rfl) fun cdv A outer s H E hr c ds Pd hR => by
    obtain ⟨sq, rfl, rfl⟩ := hR
    exact pb_ret .refl (px_slot T.c_Grid.1 T.sl_Grid_own_name (pvv 0) rfl) fun _ h => h
def r_Grid_units (K : PySem.W.Frag) : RD := fun ds P => ∃ sq, ds = [dGrid K sq] ∧ P = Is (.tup ((units sq).map dPt))
theorem w_Grid_units (T : Tx K mg) : MR P w K mg base 1 ((Wh.prp "Grid" "units").adr K) (r_Grid_units K) :=
  met_of T.d_Grid_units scGu (by rintro ds P ⟨n, rfl, _⟩; rfl) fun cdv A outer s H E hr c ds Pd hR => by
    obtain ⟨sq, rfl, rfl⟩ := hR
    exact pb_ret .refl (px_slot T.c_Grid.1 T.sl_Grid_own_units (pvv 0) rfl) fun _ h => h
def r_Grid_len (K : PySem.W.Frag) : RD := fun ds P => ∃ sq, ds = [dGrid K sq] ∧ P = Is (.int (ar sq : Nat))
theorem w_Grid_len (T : Tx K mg) : MR P w K mg base 1 (He.ma K (He.ga K "Grid") "__len__") (r_Grid_len K) :=
  met_of T.d_Grid_len scGl (by rintro ds P ⟨n, rfl, _⟩; rfl) fun cdv A outer s H E hr c ds Pd hR => by
    obtain ⟨sq, rfl, rfl⟩ := hR
    exact pb_ret .refl (pv_eq (v_lenT T (px_slot T.c_Grid.1 T.sl_Grid_own_units (pvv 0) rfl)) (by rw [List.length_map, units_len])) fun _ h => h
def r_Grid_str (K : PySem.W.Frag) : RD := fun ds P => ∃ sq, ds = [dGrid K sq] ∧ P = Is (.txt (gname sq))
theorem w_Grid_str (T : Tx K mg) : MR P w K mg base 1 (He.ma K (He.ga K "Grid") "__str__") (r_Grid_str K) :=
  met_of T.d_Grid_str scGs (by rintro ds P ⟨n, rfl, _⟩; rfl) fun cdv A outer s H E hr c ds Pd hR => by
    obtain ⟨sq, rfl, rfl⟩ := hR
    exact pb_ret .refl (v_strS T (px_slot T.c_Grid.1 T.sl_Grid_own_name (pvv 0) rfl)) fun _ h => h
def r_Grid_eq (K : PySem.W.Frag) : RD := fun ds P => ∃ sq, ds = [dGrid K sq, dGrid K sq] ∧ P = Is (.bl true)
theorem w_Grid_eq (T : Tx K mg) : MR P w K mg base 1 (He.ma K (He.ga K "Grid") "__eq__") (r_Grid_eq K) :=
  met_of T.d_Grid_eq scGe (by rintro ds P ⟨n, rfl, _⟩; rfl) fun cdv A outer s H E hr c ds Pd hR => by
    obtain ⟨sq, rfl, rfl⟩ := hR
    exact pb_ret .refl (pv_eq (pv_and (v_isO T (pvv 1) T.g_Grid T.c_Grid) fun _ => pv_one (pv_cmp op_eq (px_slot T.c_Grid.1 T.sl_Grid_own_name (pvv 0) rfl) (px_slot T.c_Grid.1 T.sl_Grid_own_name (pvv 1) rfl) l_eqS))
      (by rw [decide_eq_true rfl]; rfl)) fun _ h => h
end G81
set_option maxRecDepth 100000
set_option maxHeartbeats 2000000
/-! grids made, items, rows, rules: what each def promises -/
namespace G81
open PySem PySem.Spec PyProof.Rows L2 SlX
section
variable {X : Cx} {c : Fm} {δ : List Cell} {e : Expr} {rest : List Stmt} {w : Wi} {pos : Pos}
/-- x, y = a pair -/
theorem pb_unp {a b : D} {x y : Str} {px py pt : Pos} {kt : Nat} (i j : Nat) (he : PV X c δ e (.tup [a, b])) (q : PB X c ((δ.set i (.d a)).set j (.d b)) rest w) (hN : X.N.Nodup) (hc : X.calm = true := by rfl) (hi : X.N[i]? = some x := by rfl) (hj : X.N[j]? = some y := by rfl)
    (hx : Loc X.env.scope x := by first | exact Or.inl rfl | exact Or.inr rfl) (hy : Loc X.env.scope y := by first | exact Or.inl rfl | exact Or.inr rfl)
    (hf : X.fn x = true ∨ X.env.scope.names.lookup x = some .local := by first | exact .inl rfl | exact .inr rfl) (hg : X.fn y = true ∨ X.env.scope.names.lookup y = some .local := by first | exact .inl rfl | exact .inr rfl)
    (hs : swapsWithSole [.Tuple [.Name x px, .Name y py] kt pt] e pos.line X.env = pure false := by rfl) (hw : swappedStores [.Tuple [.Name x px, .Name y py] kt pt] e X.env = pure none := by rfl)
    (h1 : (assignEach [Expr.Tuple [.Name x px, .Name y py] kt pt] X.env).map (·.2) = [assign (.Tuple [.Name x px, .Name y py] kt pt) X.env] := by rfl)
    (h2 : (assignEach [Expr.Name x px, .Name y py] X.env).map (·.2) = assign (.Name x px) X.env :: (assignEach [Expr.Name y py] X.env).map (·.2) := by rfl) (h3 : (assignEach [Expr.Name y py] X.env).map (·.2) = assign (.Name y py) X.env :: (assignEach [] X.env).map (·.2) := by rfl)
    (hn : (assignEach [Expr.Name x px, .Name y py] X.env).length = 2 := by rfl) (hst : (assignEach [Expr.Name x px, .Name y py] X.env).findIdx? (·.1) = none := by rfl) : PB X c δ (.Assign [.Tuple [.Name x px, .Name y py] kt pt] e pos :: rest) w :=
  PSs.mono (pss_cons (ps_asg he (pg_tup hc (pgs_cons (pg_name hN hi hx hf) (pgs_cons (pg_name hN hj hy hg) pgs_nil h3) h2) hn hst) hs hw h1) q) fun D σ H z => ⟨z.1, fun v H' d q r av => by
    cases (show d = _ from q)
    obtain ⟨p, xs, rfl, hp, hx⟩ := av
    obtain ⟨u, v, rfl, h1, h2⟩ := hx.two_
    exact ⟨p, [u, v], rfl, hp, rfl, u, [v], rfl, v, [], rfl, rfl, tB_back z .refl r (((z.1.rl r).set i (x := .d a) ⟨u, rfl, h1⟩).set j (x := .d b) ⟨v, rfl, h2⟩)⟩⟩
end
variable {P : Program} {w : World} {K : PySem.W.Frag} {mg : Str → Option Value} {base : Heap}
def Small (p : Int × Int) : Prop := (-(2 ^ 64) < p.1 ∧ p.1 < 2 ^ 64) ∧ (-(2 ^ 64) < p.2 ∧ p.2 < 2 ^ 64)
def r_Grid_square_of (K : PySem.W.Frag) : RD := fun ds P => ∃ sq p, ds = [dGrid K sq, dPt p] ∧ Small p ∧ P = Is (.int (norm sq p))
theorem w_Grid_square_of (T : Tx K mg) : MR P w K mg base 1 (He.ma K (He.ga K "Grid") "square_of") (r_Grid_square_of K) :=
  met_of T.d_Grid_square_of scGq (by rintro ds P ⟨n, p, rfl, _⟩; rfl) fun cdv A outer s H E hr c ds Pd hR => by
    have nd := scGq.nd
    obtain ⟨sq, p, rfl, hp, rfl⟩ := hR
    refine pb_unp 2 3 (pvv 1) (pb_ret .refl (pv_eq (pv_op op_add (pv_op op_add (pv_op op_mul (pvv 2) (pvv 2) (l_intC (.inl hp.1))) (pv_op op_mul (pvv 3) (pvv 3) (l_intC (.inl hp.2))) l_int)
      (px_if (P := Is (.int (if sq then 0 else p.1 * p.2))) (ptv_cmp op_eq (px_slot T.c_Grid.1 T.sl_Grid_own_name (pvv 0) rfl) (pv_gS T.s_TRIANGLE) l_eqS)
        (fun h => pv_eq (pv_op op_mul (pvv 2) (pvv 3) (l_intC (.inl hp.1))) ?_) (fun h => pv_eq pv_int ?_)) l_int) rfl) fun _ h => h) nd
    · cases sq
      · rfl
      · exact absurd h (by decide +kernel)
    · cases sq
      · exact absurd h (by decide +kernel)
      · rfl
/-! Grid(name) -/
def r_Grid_init : RI := fun ds P => ∃ sq, ds = [.txt (gname sq)] ∧ P = (· = [.txt (gname sq), .tup ((units sq).map dPt)])
theorem gname_in (sq : Bool) : decide (gname sq ∈ (["square", "triangle"] : List Str)) = true := by cases sq <;> decide +kernel
theorem off1 {l : Addr} {x : Cell} {δ : List Cell} (h : l ∉ x.adr) (q : offAll l δ) : offAll l (x :: δ) := ⟨h, q⟩
theorem k_Grid (T : Tx K mg) : Mak P w K mg base 1 "Grid" (cG K) r_Grid_init := by
  obtain ⟨fd, F, b⟩ := T.d_Grid_init
  refine ⟨_, fd, _, T.k_Grid, inD (N := ["self", "name"]) F scGi (by rintro ds P ⟨n, rfl, _⟩; rfl) ?_, T.g_Grid, b⟩
  intro cdv A outer s H E hr c a dx ds Pd hO h1 h2 h3 fk hR
  have nd := scGi.nd
  obtain ⟨sq, rfl, rfl⟩ := hR
  have c1 := T.c_Grid.1
  refine pb_ifRet (ptx_eq (ptx_bo (pwv_or (ptv_not (ptv_val (v_isS T (pvv 1)))) fun _ => pwx_or1 (ptv_cmp op_notIn_seq (pvv 1) (pv_gT T.t_GRIDS) (l_inTs (.inl rfl))))) (k' := false) ?_) (fun h => nomatch h) (fun _ => ?_)
  · rw [if_pos rfl, gname_in]
    rfl
  refine pb_slot 0 (a := a) (dx := dx) (C := cG K) c1 T.sl_Grid_own_name rfl (pvv 1) ?_ ?_ (fun d hd => ?_)
  · exact ⟨by simp [Cell.adr], by simp [Cell.adr], trivial⟩
  · exact ⟨by simp [Cell.adr], by simp [Cell.adr], trivial⟩
  cases (show d = _ from hd)
  refine pb_slot 0 (a := a) (dx := dx) (C := cG K) c1 T.sl_Grid_own_units rfl (px_if (P := Is (.tup ((units sq).map dPt))) (ptv_cmp op_eq (pvv 1) (pv_gS T.s_SQUARE) l_eqS) (fun h => pv_eq (pv_gU T.u_SQUARE) ?_) (fun h => pv_eq (pv_gU T.u_TRIANGLE) ?_)) ?_ ?_ (fun d hd => ?_)
  · cases sq
    · exact absurd h (by decide +kernel)
    · rfl
  · cases sq
    · rfl
    · exact absurd h (by decide +kernel)
  · exact ⟨by simp [Cell.adr], by simp [Cell.adr], trivial⟩
  · exact ⟨by simp [Cell.adr], by simp [Cell.adr], trivial⟩
  cases (show d = _ from hd)
  exact pb_nil (w := wI c a dx (cG K) _) ⟨_, rfl, rfl, by simp⟩
/-! require_grid -/
theorem sc24 : FnScope ["value"] ["value"] (defScope (topS 24)) := ⟨rfl, rfl, rfl, by decide +kernel, rfl, by decide +kernel, by decide +kernel⟩
def r_require_grid (K : PySem.W.Frag) : RD := fun ds P => ∃ sq, ds = [dGrid K sq] ∧ P = Is .non
theorem w_require_grid (T : Tx K mg) : Cal P w K mg base 1 "require_grid" (r_require_grid K) :=
  calD T.d_require_grid sc24 (by rintro ds P ⟨n, rfl, _⟩; rfl) fun cdv A outer s H E hr c ds Pd hR => by
    obtain ⟨sq, rfl, rfl⟩ := hR
    exact pb_ifRet (ptv_not (ptv_val (v_isO T (pvv 0) T.g_Grid T.c_Grid))) (fun h => nomatch h) fun _ => pb_nil (w := wD c _) rfl
/-! is_item_of, is_row_of, row_text -/
theorem sc28 : FnScope ["turns", "value"] ["turns", "value"] (defScope (topS 28)) := ⟨rfl, rfl, rfl, by decide +kernel, rfl, by decide +kernel, by decide +kernel⟩
def OkIt (n : Nat) (p : It2) : Prop := (97 ≤ p.1 ∧ p.1 ≤ 122) ∧ p.2 < n
def r_is_item_of : RD := fun ds P => ∃ (n : Nat) (p : It2), ds = [.int n, dIt p] ∧ n ≤ 6 ∧ OkIt n p ∧ P = Is (.bl true)
theorem w_is_item_of (T : Tx K mg) : Cal P w K mg base 3 "is_item_of" r_is_item_of :=
  calD T.d_is_item_of sc28 (by rintro ds P ⟨n, p, rfl, _⟩; rfl) fun cdv A outer s H E hr c ds Pd hR => by
    obtain ⟨n, p, rfl, hn, hp, rfl⟩ := hR
    exact pb_ifRet (ptx_eq (ptx_bo (pwv_or (ptv_not (ptv_val (v_isT T (pvv 1)))) fun _ => pwv_or (ptv_cmp op_ne (v_lenT T (pvv 1)) pv_int l_neI) fun _ => pwx_or1 (ptv_not (ptv_val (pv_call (w_is_letter T) hr (by decide) rfl (pvs_cons (pv_ix ix_tup (pvv 1) pv_int (l_ixT rfl)) pvs_nil) ⟨p.1, rfl, hp.1, rfl⟩))))) (k' := false) rfl) (fun h => nomatch h) fun _ =>
      pb_ret .refl (pv_eq (pv_and (pv_call (w_is_count T) hr (by decide) rfl (pvs_cons (pv_ix ix_tup (pvv 1) pv_int (l_ixT rfl)) pvs_nil) ⟨p.2, rfl, Nat.lt_of_lt_of_le hp.2 (Nat.le_trans hn (by decide)), rfl⟩) fun _ => pv_one (pv_cmp op_lt (pv_ix ix_tup (pvv 1) pv_int (l_ixT rfl)) (pvv 0) l_bl))
        (by rw [decide_eq_true (show ((p.2 : Nat) : Int) < n by exact Int.ofNat_lt.mpr hp.2)]; rfl)) fun _ h => h
theorem sc29 : FnScope ["turns", "value", "least", "item"] ["turns", "value", "least"] (defScope (topS 29)) := ⟨rfl, rfl, rfl, by decide +kernel, rfl, by decide +kernel, by decide +kernel⟩
def OkRow (n m : Nat) (r : Row) : Prop := (m ≤ r.length ∧ r.length ≤ 12) ∧ ∀ p ∈ r, OkIt n p
theorem all_true {α : Type} (l : List α) : ((l.map fun _ => true).all id) = true := by simp
def r_is_row_of : RD := fun ds P => ∃ (n : Nat) (r : Row) (m : Nat), ds = [.int n, dRow r, .int m] ∧ n ≤ 6 ∧ OkRow n m r ∧ P = Is (.bl true)
theorem w_is_row_of (T : Tx K mg) : Cal P w K mg base 4 "is_row_of" r_is_row_of :=
  calD T.d_is_row_of sc29 (by rintro ds P ⟨n, p, m, rfl, _⟩; rfl) fun cdv A outer s H E hr c ds Pd hR => by
    have nd := sc29.nd
    obtain ⟨n, r, m, rfl, hn, hp, rfl⟩ := hR
    refine pb_ifRet (ptx_eq (ptx_bo (pwv_or (ptv_not (ptv_val (v_isT T (pvv 1)))) fun _ => pwv_or (ptv_cmp op_lt (v_lenT T (pvv 1)) (pvv 2) l_bl) fun _ => pwx_or1 (ptv_cmp op_gt (v_lenT T (pvv 1)) (pv_gI T.i_MAX_ITEMS) l_bl))) (k' := false) ?_) (fun h => nomatch h) fun _ =>
      pb_ret .refl (pv_eq (v_all T (bs := r.map fun _ => true) (pv_eq (pv_n (lcN 3 [("item", 3)] (pix_tupv (pvv 1)) (fun _ _ => rfl) (fun _ _ _ _ _ x _ hx => pv_call (w_is_item_of T) hr (by decide) rfl (pvs_cons (pvv 0) (pvs_cons (pvv 3) pvs_nil)) ⟨n, x, rfl, hn, hp.2 x hx, rfl⟩) nd)) ?_)) (by rw [all_true])) fun _ h => h
    · rw [List.length_map, decide_eq_false (by have := hp.1; omega), decide_eq_false (by have := hp.1; omega)]
      rfl
    · rw [List.map_map]
      rfl
end G81
set_option maxRecDepth 100000
set_option maxHeartbeats 2000000
/-! sets, by kinds of members: what adding is -/
namespace G81
open PySem PySem.Spec PyProof.Rows L2 SlX
/-- a set's object, its members in whatever order -/
def SetW (w : World) (h : Heap) (a : Addr) (us : List Value) : Prop :=
  ∃ o es ep t, h.get? a = some o ∧ o.ExactSet ∧ o.data = .set es ep t ∧ es.size < 64 ∧ t.fits es.size = true ∧ Ris t.place.toList ∧
    (w.params.followText "set-order" = true ∨ t.led = true) ∧ (es.toList.map (·.2)).Perm us
def setE (w : World) : Obj := { cls := .type "set", dict := none, data := .set #[] 0 (.fresh 0 0 (!w.params.followText "set-order")) }
/-- members of one kind -/
structure EK (P : Program) (w : World) where
  κ : Type
  is : Heap → κ → Value → Prop
  inv : Heap → Addr → List (κ × Value) → Prop
  made : ∀ {h : Heap} {a : Addr} {L : List (κ × Value)}, inv h a L → SetW w h a (L.map (·.2))
  nd : ∀ {h : Heap} {a : Addr} {L : List (κ × Value)}, inv h a L → (L.map (·.1)).Nodup
  keep : ∀ {h h' : Heap} {k : κ} {v : Value}, is h k v → (∀ c o, h.get? c = some o → h'.get? c = some o) → is h' k v
  keepI : ∀ {h h' : Heap} {a : Addr} {L : List (κ × Value)}, inv h a L → (∀ o, h.get? a = some o → h'.get? a = some o) → (∀ p ∈ L, is h' p.1 p.2) → inv h' a L
  fresh : ∀ {h : Heap} {a : Addr}, h.get? a = some (setE w) → inv h a []
  add : ∀ {A : Around} {E : Value → Shared → Prop} {s : Shared} {a : Addr} {L : List (κ × Value)} {k : κ} {v : Value} {Q : Bool → Shared → Prop}, inv s.heap a L → is s.heap k v → L.length + 1 < 64 → A.units + 64 < cLine →
    (∀ b h' tk L', Heap.SameBut a s.heap h' → s.toks ≤ tk → inv h' a L' → (k ∈ L.map (·.1) → L' = L) → (k ∉ L.map (·.1) → L' = (k, v) :: L) → Q b { s with heap := h', toks := tk }) → wpAny (model P w) A (setAdd a v) Q E s
theorem led_new (w : World) : w.params.followText "set-order" = true ∨ (SetTable.fresh 0 0 (!w.params.followText "set-order")).led = true := by
  show _ ∨ (!w.params.followText "set-order") = true
  cases w.params.followText "set-order"
  · exact .inr rfl
  · exact .inl rfl
/-! texts and ints: the members are looked through -/
def ScI (w : World) (h : Heap) (a : Addr) (L : List (Key × Value)) : Prop :=
  ∃ o es ep t, h.get? a = some o ∧ o.ExactSet ∧ o.data = .set es ep t ∧ es.toList.Perm (L.map fun p => (keyH w p.1, p.2)) ∧ (∀ p ∈ L, RelV (kV p.1) p.2) ∧ (L.map (·.1)).Nodup ∧ es.size < 64 ∧ t.fits es.size = true ∧ Ris t.place.toList ∧
    (w.params.followText "set-order" = true ∨ t.led = true)
section
variable {P : Program} {w : World} {A : Around} {E : Value → Shared → Prop} {s : Shared} {a : Addr} {L : List (Key × Value)}
theorem sc_elems {es : Array (Int × Value)} (pm : es.toList.Perm (L.map fun p => (keyH w p.1, p.2))) (hr : ∀ p ∈ L, RelV (kV p.1) p.2) : ElemsOf (mixKind P w) es.toList := fun e he => by
  obtain ⟨p, hp, rfl⟩ := List.mem_map.mp (pm.mem_iff.mp he)
  exact ⟨⟨p.1, kV_is (hr p hp), rfl⟩, key_scan (hr p hp)⟩
theorem sc_mem {es : Array (Int × Value)} (pm : es.toList.Perm (L.map fun p => (keyH w p.1, p.2))) (hr : ∀ p ∈ L, RelV (kV p.1) p.2) (k : Key) : k ∈ L.map (·.1) ↔ ∃ e ∈ es.toList, (mixKind P w).is k e.2 = true := by
  constructor
  · intro h
    obtain ⟨p, hp, rfl⟩ := List.mem_map.mp h
    exact ⟨(keyH w p.1, p.2), pm.mem_iff.mpr (List.mem_map.mpr ⟨p, hp, rfl⟩), kV_is (hr p hp)⟩
  · rintro ⟨e, he, q⟩
    obtain ⟨p, hp, rfl⟩ := List.mem_map.mp (pm.mem_iff.mp he)
    exact List.mem_map.mpr ⟨p, hp, (mixKind P w).inj _ _ _ (kV_is (hr p hp)) q⟩
/-- what follows a new member's laying -/
theorem sc_store {gv : Bool → Sem Unit} (hg : ∀ (b : Bool) (s1 : Shared) (R : Unit → Shared → Prop), R () s1 → wpAny (model P w) A (gv b) R E s1) {o : Obj} {es : Array (Int × Value)} {ep : Nat} {t : SetTable} (ho : s.heap.get? a = some o) (hex : o.ExactSet) (hd : o.data = .set es ep t)
    {es1 : Array (Int × Value)} {t2 : SetTable} (pm : es1.toList.Perm (L.map fun p => (keyH w p.1, p.2))) (hr : ∀ p ∈ L, RelV (kV p.1) p.2) (nd : (L.map (·.1)).Nodup) (h64 : es1.size < 64) (hf : t2.fits es1.size = true) (ri : Ris t2.place.toList) (ld : w.params.followText "set-order" = true ∨ t2.led = true)
    {was : Bool} {R : Option Bool → Shared → Prop} (hR : ∀ h', Heap.SameBut a s.heap h' → ScI w h' a L → R (some true) { s with heap := h' }) :
    wpAny (model P w) A (do
        storeSet a es1 t2
        if (!was && t2.tooFull) = true then do
            gv (relayAll t2 es1 (SetTable.grown es1.size)).2.2
            storeSet a (relayAll t2 es1 (SetTable.grown es1.size)).1 (relayAll t2 es1 (SetTable.grown es1.size)).2.1
            pure (some true)
          else pure (some true)) R E s := by
  have sl : ∀ {n}, n < 64 → n ≤ sizeLine := fun h => by rw [sizeLine_eq]; omega
  refine wpAny_bind (wpAny_storeSet_of ho hd ?_ (sl h64))
  have at1 := store_at (es' := es1) (t' := t2) ho hd
  have same1 := Heap.SameBut.update s.heap a (Obj.putSet es1 t2)
  split
  · have p2 := relayAll_perm t2 es1 (SetTable.grown es1.size)
    have f2 := relayAll_fits t2 es1 (SetTable.grown es1.size)
    have r2 := relayAll_ris t2 es1 (SetTable.grown es1.size)
    have l2 := relayAll_led t2 es1 (SetTable.grown es1.size)
    generalize relayAll t2 es1 (SetTable.grown es1.size) = Y at p2 f2 r2 l2 ⊢
    obtain ⟨es2, t3, gave⟩ := Y
    dsimp only at p2 f2 r2 l2 ⊢
    have sz : es2.size = es1.size := by rw [← Array.length_toList, p2.length_eq, Array.length_toList]
    refine wpAny_bind (hg _ _ _ ?_)
    refine wpAny_bind (wpAny_storeSet_of at1 rfl ?_ (sl (by rw [sz]; exact h64)))
    refine wpAny_pure (hR _ (same1.trans (Heap.SameBut.update _ a _)) ⟨_, es2, _, t3, store_at (es' := es2) (t' := t3) at1 rfl, hex, rfl, p2.trans pm, hr, nd, by rw [sz]; exact h64, f2, r2, ld.imp id fun z => by rw [l2]; exact z⟩)
  · exact wpAny_pure (hR _ same1 ⟨_, es1, _, t2, at1, hex, rfl, pm, hr, nd, h64, hf, ri, ld⟩)
theorem sc_hashed {k : Key} {v : Value} {Q : Bool → Shared → Prop} (hi : ScI w s.heap a L) (hv : RelV (kV k) v) (few : L.length + 1 < 64)
    (hQ : ∀ b h' L', Heap.SameBut a s.heap h' → ScI w h' a L' → (k ∈ L.map (·.1) → L' = L) → (k ∉ L.map (·.1) → L' = (k, v) :: L) → Q b { s with heap := h' }) :
    wpAny (model P w) A (setAddHashed a v ((mixKind P w).hash k)) Q E s := by
  have hi0 := hi
  obtain ⟨o, es, ep, t, ho, hex, hd, pm, hr, nd, h64, hf, ri, ld⟩ := hi
  have sc := key_scan hv
  have el : ElemsOf (mixKind P w) es.toList := sc_elems pm hr
  have hb : es.size < scanBound := by unfold scanBound; omega
  unfold setAddHashed setAddHashedIn
  refine wpAny_holding (wpAny_bind (wpAny_setState_of ho hd hf ?_))
  dsimp only
  rw [byScan_of sc hb el]
  simp only [↓reduceIte]
  unfold setAddByScan
  refine wpAny_bind ?_
  refine wpAny_bind (wpAny_rule ?_)
  refine wpAny_bind (wpAny_setScan_of (kV_is hv) ho hd hf el ?_)
  cases hfi : List.findIdx? (fun e => (mixKind P w).is k e.2) es.toList with
  | some j =>
    dsimp only
    obtain ⟨hj, pj, _⟩ := List.findIdx?_eq_some_iff_getElem.mp hfi
    have hin : k ∈ L.map (·.1) := (sc_mem (P := P) pm hr k).mpr ⟨es.toList[j], List.getElem_mem hj, pj⟩
    exact wpAny_pure (wpAny_pure (hQ false s.heap L (Heap.SameBut.refl a s.heap) hi0 (fun _ => rfl) fun z => absurd hin z))
  | none =>
    dsimp only
    have hout : k ∉ L.map (·.1) := fun z => by
      obtain ⟨e, he, q⟩ := (sc_mem (P := P) pm hr k).mp z
      have c := List.findIdx?_eq_none_iff.mp hfi e he
      rw [q] at c
      cases c
    have gw : ∀ (b : Bool) {s1 : Shared} {R : Unit → Shared → Prop}, R () s1 → wpAny (model P w) A (match b with | true => rule "set.scan.the-table-gave-way" | false => pure ()) R E s1 := fun b s1 R q => by
      cases b <;> first | exact wpAny_pure q | exact wpAny_rule q
    have p1 := layNew_perm t es ((mixKind P w).hash k) v
    have f1 := layNew_fits t es ((mixKind P w).hash k) v
    have r1 := layNew_ris t es ((mixKind P w).hash k) v ri
    have l1 := layNew_led t es ((mixKind P w).hash k) v
    generalize layNew t es ((mixKind P w).hash k) v = Y at p1 f1 r1 l1 ⊢
    obtain ⟨es1, t1, was, gave⟩ := Y
    dsimp only at p1 f1 r1 l1 ⊢
    rw [Array.toList_push] at p1
    have pc : es1.toList.Perm (((k, v) :: L).map fun p => (keyH w p.1, p.2)) := (p1.trans (List.perm_append_singleton _ _)).trans (pm.cons _)
    have sz : es1.size < 64 := by
      have := pc.length_eq
      rw [Array.length_toList, List.length_map, List.length_cons] at this
      omega
    have hr1 : ∀ p ∈ (k, v) :: L, RelV (kV p.1) p.2 := fun p hp => by
      rcases List.mem_cons.mp hp with z | z
      · rw [z]; exact hv
      · exact hr p z
    have nd1 : (((k, v) :: L).map (·.1)).Nodup := List.nodup_cons.mpr ⟨hout, nd⟩
    have ld1 : w.params.followText "set-order" = true ∨ t1.led = true := ld.imp id fun z => by rw [l1]; exact z
    have fin : ∀ h', Heap.SameBut a s.heap h' → ScI w h' a ((k, v) :: L) → Q true { s with heap := h' } := fun h' sb r => hQ true h' _ sb r (fun z => absurd z hout) fun _ => rfl
    refine wpAny_bind (gw _ ?_)
    split
    · refine wpAny_bind ?_
      rw [hashByValue_scannable 8 sc]
      refine wpAny_pure ?_
      refine sc_store ?_ ho hex hd pc hr1 nd1 sz ?_ ?_ ?_ ?_
      · intro b s1 R q; cases b <;> first | exact wpAny_pure q | exact wpAny_rule q
      · first | (split <;> first | exact f1 | exact SetTable.fits_plain_off f1) | exact f1
      · first | (split <;> exact r1) | exact r1
      · first | (split <;> exact ld1) | exact ld1
      · intro h' sb r; dsimp only; exact wpAny_pure (fin h' sb r)
    · refine wpAny_bind (wpAny_pure ?_)
      simp only [↓reduceIte]
      refine sc_store ?_ ho hex hd pc hr1 nd1 sz f1 r1 ld1 ?_
      · intro b s1 R q; cases b <;> first | exact wpAny_pure q | exact wpAny_rule q
      · intro h' sb r; dsimp only; exact wpAny_pure (fin h' sb r)
end
/-- texts and ints -/
def ekS (P : Program) (w : World) : EK P w where
  κ := Key
  is := fun _ k v => RelV (kV k) v
  inv := ScI w
  made := fun ⟨o, es, ep, t, ho, hex, hd, pm, hr, nd, h64, hf, ri, ld⟩ => ⟨o, es, ep, t, ho, hex, hd, h64, hf, ri, ld, by
    have := pm.map (·.2)
    rw [List.map_map] at this
    exact this⟩
  nd := fun ⟨o, es, ep, t, ho, hex, hd, pm, hr, nd, _⟩ => nd
  keep := fun h _ => h
  keepI := fun ⟨o, es, ep, t, ho, r⟩ h _ => ⟨o, es, ep, t, h o ho, r⟩
  fresh := fun ho => ⟨_, #[], 0, _, ho, ⟨rfl, rfl, rfl⟩, rfl, List.Perm.nil, (fun p hp => by cases hp), List.nodup_nil, (by decide), (by rfl), List.Pairwise.nil, led_new w⟩
  add := fun {A E s a L k v Q} hi hv few hu hQ => by
    unfold setAdd
    refine wpAny_holding (wpAny_bind ((mixKind P w).pyHash (kV_is hv) ?_))
    exact sc_hashed (s := { s with toks := s.toks + 1 }) hi hv few fun b h' L' sb r c1 c2 => hQ b h' (s.toks + 1) L' sb (Nat.le_succ _) r c1 c2
end G81
set_option maxRecDepth 100000
set_option maxHeartbeats 2000000
/-! sets of nested tuples: the members are searched by the table -/
namespace G81
open PySem PySem.Spec PyProof.Rows L2 SlX
mutual
/-- no texts within -/
def nums : NestedKey → Prop
  | .none | .num _ => True
  | .text _ => False
  | .tup ks => numsAll ks
def numsAll : List NestedKey → Prop
  | [] => True
  | k :: ks => nums k ∧ numsAll ks
end
/-- a nested tuple as a member -/
def Nk (h : Heap) (k : NestedKey) (v : Value) : Prop := (∃ b, v = .ref b) ∧ NestedIs h k v ∧ k.depth ≤ 8 ∧ nums k
section
variable {P : Program} {w : World} {A : Around} {E : Value → Shared → Prop} {s : Shared}
/-! questions that a search asks -/
def AskN (P : Program) (w : World) (s : Shared) (m : Sem Bool) (b : Bool) : Prop := ∀ (A : Around) (E : Value → Shared → Prop) (Q : Bool → Shared → Prop), Q b s → wpAny (model P w) A m Q E s
theorem ask_class {a : Addr} {o : Obj} {vs : Array Value} {m n : Nat} (ho : s.heap.get? a = some o) (hc : o.cls = .type "tuple") (hd : o.data = .seq vs m) (hq : ∀ v ∈ vs.toList, AskN P w s (ofAClassStatement n v) false) : AskN P w s (ofAClassStatement (n + 1) (.ref a)) false := fun A E Q h => by
  unfold ofAClassStatement
  refine wpAny_bind (wpAny_typeOf (T := "tuple") ⟨o, ho, hc⟩ ?_)
  dsimp only
  have et : (("tuple" : String) == "tuple") = true := by decide
  simp only [et, if_true, Bool.not_true, Bool.false_eq_true, if_false]
  try refine wpAny_bind (wpAny_pure ?_)
  try simp only [Bool.not_true, Bool.false_eq_true, if_false]
  show wpAny _ _ (seqItems? (.ref a) >>= _) _ _ s
  refine wpAny_bind (wpAny_seqItems ho hd ?_)
  dsimp only
  refine wpAny_bind ?_
  show wpAny _ _ (forIn vs _ _) _ _ s
  rw [← Array.forIn_toList]
  refine wpAny_forIn_list _ (fun rest r s2 => r.1 = none ∧ s2 = s ∧ ∀ v ∈ rest, AskN P w s (ofAClassStatement n v) false) _ ?_ ?_ _ _ ⟨rfl, rfl, hq⟩
  · rintro v rest r s2 ⟨hr, rfl, hall⟩
    refine wpAny_bind (hall v List.mem_cons_self _ _ _ ?_)
    simp only [Bool.false_eq_true, if_false]
    exact wpAny_pure ⟨rfl, rfl, fun u hu' => hall u (List.mem_cons_of_mem _ hu')⟩
  · rintro ⟨r1, r2⟩ s2 ⟨hr, rfl, _⟩
    simp only at hr
    subst hr
    exact wpAny_pure h
theorem ask_value {a : Addr} {o : Obj} {vs : Array Value} {m n : Nat} (ho : s.heap.get? a = some o) (hc : o.cls = .type "tuple") (hd : o.data = .seq vs m) (hq : ∀ v ∈ vs.toList, AskN P w s (hashByValue n v) true) : AskN P w s (hashByValue (n + 1) (.ref a)) true := fun A E Q h => by
  have hT : s.TypeIs (.ref a) "tuple" := ⟨o, ho, hc⟩
  unfold hashByValue
  refine wpAny_bind (wpAny_specialOf hT F.slot_tuple_hash.lookup ?_)
  show wpAny _ _ (seqItems? (.ref a) >>= _) _ _ s
  refine wpAny_bind (wpAny_seqItems ho hd ?_)
  refine wpAny_bind ?_
  show wpAny _ _ (forIn vs _ _) _ _ s
  rw [← Array.forIn_toList]
  refine wpAny_forIn_list _ (fun rest r s2 => r.1 = none ∧ s2 = s ∧ ∀ v ∈ rest, AskN P w s (hashByValue n v) true) _ ?_ ?_ _ _ ⟨rfl, rfl, hq⟩
  · rintro v rest r s2 ⟨hr, rfl, hall⟩
    refine wpAny_bind (hall v List.mem_cons_self _ _ _ ?_)
    simp only [Bool.not_true, Bool.false_eq_true, if_false]
    exact wpAny_pure ⟨rfl, rfl, fun u hu' => hall u (List.mem_cons_of_mem _ hu')⟩
  · rintro ⟨r1, r2⟩ s2 ⟨hr, rfl, _⟩
    simp only at hr
    subst hr
    exact wpAny_pure h
theorem ask_pure {m : Sem Bool} {b : Bool} (h : m = pure b) : AskN P w s m b := fun A E Q q => by rw [h]; exact wpAny_pure q
mutual
theorem class_key : ∀ (k : NestedKey) (v : Value) (n : Nat), NestedIs s.heap k v → k.depth ≤ n → AskN P w s (ofAClassStatement n v) false
  | .none, _, n, x, _ => by cases x; exact ask_pure (by cases n <;> rfl)
  | .num i, _, n, x, _ => by cases x <;> exact ask_pure (by cases n <;> rfl)
  | .text y, _, n, x, _ => by cases x; exact ask_pure (by cases n <;> rfl)
  | .tup ks, _, n, x, hn => by
    cases x with
    | tup hg hc hd hk =>
      simp only [NestedKey.depth] at hn
      obtain ⟨n, rfl⟩ : ∃ m, n = m + 1 := ⟨n - 1, by omega⟩
      exact ask_class hg hc hd (class_keys ks _ n hk (by omega))
theorem class_keys : ∀ (ks : List NestedKey) (vs : List Value) (n : Nat), NestedAll s.heap ks vs → NestedKey.depthAll ks ≤ n → ∀ v ∈ vs, AskN P w s (ofAClassStatement n v) false
  | [], _, n, x, _, v, hv => by cases x; cases hv
  | k :: ks, _, n, x, hn, v, hv => by
    cases x with
    | cons x1 x2 =>
      simp only [NestedKey.depthAll] at hn
      rcases List.mem_cons.mp hv with z | z
      · rw [z]; exact class_key k _ n x1 (by omega)
      · exact class_keys ks _ n x2 (by omega) v z
end
mutual
theorem value_key : ∀ (k : NestedKey) (v : Value) (n : Nat), NestedIs s.heap k v → k.depth ≤ n → nums k → AskN P w s (hashByValue n v) true
  | .none, _, n, x, _, _ => by cases x; exact ask_pure (by cases n <;> rfl)
  | .num i, _, n, x, _, _ => by cases x <;> exact ask_pure (by cases n <;> rfl)
  | .text y, _, n, x, _, z => z.elim
  | .tup ks, _, n, x, hn, nm => by
    cases x with
    | tup hg hc hd hk =>
      simp only [NestedKey.depth] at hn
      obtain ⟨n, rfl⟩ : ∃ m, n = m + 1 := ⟨n - 1, by omega⟩
      exact ask_value hg hc hd (value_keys ks _ n hk (by omega) nm)
theorem value_keys : ∀ (ks : List NestedKey) (vs : List Value) (n : Nat), NestedAll s.heap ks vs → NestedKey.depthAll ks ≤ n → numsAll ks → ∀ v ∈ vs, AskN P w s (hashByValue n v) true
  | [], _, n, x, _, _, v, hv => by cases x; cases hv
  | k :: ks, _, n, x, hn, nm, v, hv => by
    cases x with
    | cons x1 x2 =>
      simp only [NestedKey.depthAll] at hn
      rcases List.mem_cons.mp hv with z | z
      · rw [z]; exact value_key k _ n x1 (by omega) nm.1
      · exact value_keys ks _ n x2 (by omega) nm.2 v z
end
theorem seen_key {k : NestedKey} {v : Value} {Q : Bool → Shared → Prop} (hk : Nk s.heap k v) {ys : List Value} (hy : ∀ y ∈ ys, ∃ k', Nk s.heap k' y) (h : Q false s) : wpAny (model P w) A (searchCouldBeSeen v ys) Q E s := by
  unfold searchCouldBeSeen
  refine wpAny_bind ?_
  refine wpAny_forIn_list _ (fun rest r s2 => r.1 = none ∧ s2 = s ∧ ∀ y ∈ rest, ∃ k', Nk s.heap k' y) _ ?_ ?_ _ _ ⟨rfl, rfl, hy⟩
  · rintro y rest r s2 ⟨hr, rfl, hall⟩
    obtain ⟨k2, n2⟩ := hall y List.mem_cons_self
    have more : ∀ y ∈ rest, ∃ k', Nk s2.heap k' y := fun u hu' => hall u (List.mem_cons_of_mem _ hu')
    obtain ⟨⟨b, rfl⟩, i1, d1, _⟩ := id hk
    obtain ⟨⟨b2, rfl⟩, i2, d2, _⟩ := id n2
    dsimp only
    by_cases hv : (b == b2 || (carriedByValue (.ref b) && carriedByValue (.ref b2))) = true
    · refine wp_if_pos hv ?_
      exact wpAny_pure ⟨rfl, rfl, more⟩
    · refine wp_if_neg hv ?_
      refine wpAny_bind (quiet_key k _ 8 s2 i1 d1 _ _ _ ?_)
      simp only [Bool.not_true, Bool.false_eq_true, if_false]
      refine wpAny_bind (quiet_key k2 _ 8 s2 i2 d2 _ _ _ ?_)
      simp only [Bool.not_true, Bool.false_eq_true, if_false]
      refine wpAny_bind (class_key k _ 8 i1 d1 _ _ _ ?_)
      simp only [Bool.false_eq_true, if_false]
      refine wpAny_bind (class_key k2 _ 8 i2 d2 _ _ _ ?_)
      simp only [Bool.false_eq_true, if_false]
      exact wpAny_pure ⟨rfl, rfl, more⟩
  · rintro ⟨r1, r2⟩ s2 ⟨hr, rfl, _⟩
    simp only at hr
    subst hr
    exact wpAny_pure h
/-! the set -/
def nRow (w : World) (p : NestedKey × Value) : Int × Value := (p.1.hash w, p.2)
structure NT (w : World) (h : Heap) (a : Addr) (L : List (NestedKey × Value)) (es : Array (Int × Value)) (ep : Nat) (t : SetTable) : Prop where
  ob : ∃ o, h.get? a = some o ∧ o.ExactSet ∧ o.data = .set es ep t
  rows : es.toList = L.map (nRow w)
  tab : TabOk t (L.map fun p => p.1.hash w)
  nd : (L.map (·.1)).Nodup
  mem : ∀ p ∈ L, Nk h p.1 p.2
  plain : t.plain = true
  led : w.params.followText "set-order" = true ∨ t.led = true
  room : L.length * 5 < t.mask * 3
  few : L.length < 64
variable {a : Addr} {L : List (NestedKey × Value)} {es : Array (Int × Value)} {ep : Nat} {t : SetTable}
theorem NT.size (R : NT w s.heap a L es ep t) : es.size = L.length := by
  have q := congrArg List.length R.rows
  rwa [Array.length_toList, List.length_map] at q
theorem NT.fits (R : NT w s.heap a L es ep t) : t.fits es.size = true := by
  have q := R.tab.sz
  rw [List.length_map] at q
  have q2 := R.size
  have q3 := R.room
  unfold SetTable.fits SetTable.fill
  rw [R.tab.dm, Bool.and_eq_true, beq_iff_eq, decide_eq_true_eq]
  exact ⟨by omega, by show t.place.size + 0 ≤ t.mask; omega⟩
theorem NT.entry (R : NT w s.heap a L es ep t) {i : Nat} {p : NestedKey × Value} (h : L[i]? = some p) : es[i]? = some (nRow w p) := by
  rw [← Array.getElem?_toList, R.rows, List.getElem?_map, h] <;> rfl
theorem dummy_none {m : Nat} : ∀ (n : Nat) (p : SetTable.Probe), p.dummy = none → (nth m p n).dummy = none
  | 0, p, h => h
  | n + 1, p, h => dummy_none n (adv m p) (by unfold adv; split <;> exact h)
/-- where the way of a key stands -/
abbrev nSt (w : World) (t : SetTable) (k : NestedKey) (c : Nat) : SetTable.Probe := nth t.mask (runAt t.mask (SetTable.bits (k.hash w) % (t.mask + 1)) (SetTable.bits (k.hash w))) c
theorem nt_search (R : NT w s.heap a L es ep t) {v : Value} {k : NestedKey} (hx : Nk s.heap k v) (hu : A.units + 8 < cLine) {K : Nat} (hKf : K < 10 * SetTable.turns t.mask)
    (hK : (nSt w t k K).j ∉ t.place.toList) (hKb : ∀ c, c < K → (nSt w t k c).j ∈ t.place.toList) {Q : SetFound → Shared → Prop}
    (hin : k ∈ L.map (·.1) → Q (.there none) s) (hout : k ∉ L.map (·.1) → Q (.free (nSt w t k K).j false) s) :
    ∀ (f c : Nat) (stand : Option SetTable.Probe), stand.getD (t.probeStart (k.hash w)) = nSt w t k c → c ≤ K → K - c < f →
      (∀ (i : Nat) p, L[i]? = some p → p.1 = k → ∃ c', c ≤ c' ∧ c' < K ∧ t.place.toList[i]? = some (nSt w t k c').j) →
      wpAny (model P w) A (setSearchFrom a v (k.hash w) true f stand) Q E s
  | 0, c, stand, _, _, hf, _ => absurd hf (Nat.not_lt_zero _)
  | f + 1, c, stand, hst, hc, hf, hre => by
    obtain ⟨o, ho, hex, hd⟩ := R.ob
    have gw : ¬ t.gaveWay = true := by
      unfold SetTable.gaveWay
      rw [mask_odd R.tab.mok]
      decide
    rw [setSearchFrom_succ]
    refine wpAny_bind (wpAny_setState_of ho hd R.fits ?_)
    dsimp only
    refine wp_if_neg gw ?_
    try refine wpAny_bind (wpAny_pure ?_)
    have shift : ∀ q, nth t.mask (nSt w t k c) q = nSt w t k (c + q) := fun q => (nth_add t.mask c _ q).symm
    have jq : ∀ q, (nth t.mask (nSt w t k c) q).j = (nSt w t k (c + q)).j := fun q => congrArg SetTable.Probe.j (shift q)
    have spec := go_spec t R.tab.ris R.tab.dm (fun i => (es[i]?.map (·.1)).getD 0) (k.hash w) (10 * SetTable.turns t.mask) (K - c) (nSt w t k c) (dummy_none c _ rfl) (by omega)
      (fun q hq => by rw [jq]; exact hKb (c + q) (by omega)) (by rw [jq, show c + (K - c) = K by omega]; exact hK)
    have hAt : ∀ (i : Nat) p, L[i]? = some p → (fun i => (es[i]?.map (·.1)).getD 0) i = p.1.hash w := fun i p hp => by
      show (es[i]?.map (·.1)).getD 0 = _
      rw [R.entry hp] <;> rfl
    rcases spec with ⟨q, i, hq, hi, hh, hno, hpr⟩ | ⟨hno, hpr⟩
    · have pr : t.probe (fun i => (es[i]?.map (·.1)).getD 0) (k.hash w) (stand.getD (t.probeStart (k.hash w))) = some (.candidate (nSt w t k (c + q)).j i (nSt w t k (c + (q + 1)))) := by
        rw [hst, ← jq, ← shift]
        exact hpr
      rw [pr]
      dsimp only
      rw [jq] at hi
      have hil : i < L.length := by
        have h1 := (List.getElem?_eq_some_iff.mp hi).1
        have h2 := R.tab.sz
        rw [List.length_map] at h2
        rw [Array.length_toList] at h1
        omega
      have hp : L[i]? = some L[i] := List.getElem?_eq_getElem hil
      generalize L[i] = p at hp
      have pm : p ∈ L := List.mem_of_getElem? hp
      obtain ⟨⟨b1, e1⟩, i1, d1, _⟩ := R.mem p pm
      obtain ⟨⟨b2, e2⟩, i2, d2, _⟩ := id hx
      have on : wpAny (model P w) A (searchRest a v (k.hash w) true f es t (nSt w t k (c + q)).j i (nSt w t k (c + (q + 1)))) Q E s := by
        unfold searchRest
        rw [R.entry hp]
        unfold nRow
        dsimp only
        rw [e1, e2]
        rw [e1] at i1
        rw [e2] at i2
        refine wpAny_bind (wpAny_holding ((nestedKind P w).eqBool (x := p.1) (y := k) hu ⟨i1, d1⟩ ⟨i2, d2⟩ ?_))
        refine wpAny_bind (wpAny_setState_of ho hd R.fits ?_)
        dsimp only
        by_cases hkk : p.1 = k
        · refine wp_if_pos (by simp [hkk]) ?_
          exact wpAny_pure (hin (List.mem_map.mpr ⟨p, pm, hkk⟩))
        · refine wp_if_neg (by simp [hkk]) ?_
          try refine wpAny_bind (wpAny_pure ?_)
          rw [sameMem]
          dsimp only
          have live : t.slot (nSt w t k (c + q)).j = .live i := slot_live R.tab.ris hi
          have hen := R.entry hp
          unfold nRow at hen
          rw [e1] at hen
          simp only [if_true, live, hen]
          refine wpAny_bind (wpAny_isSame_ref_self (wpAny_bind (wpAny_pure ?_)))
          simp only [if_true]
          refine wp_if_neg (by simp [hkk]) ?_
          rw [← e2]
          refine nt_search R hx hu hKf hK hKb hin hout f (c + (q + 1)) _ rfl (by omega) (by omega) fun i0 p0 h0 hk0 => ?_
          obtain ⟨c', a1, a2, a3⟩ := hre i0 p0 h0 hk0
          refine ⟨c', ?_, a2, a3⟩
          rcases Nat.lt_trichotomy c' (c + q) with z | z | z
          · exact absurd ((hAt i0 p0 h0).trans (congrArg (fun y => NestedKey.hash w y) hk0)) (hno (c' - c) i0 (by omega) (by rw [jq, show c + (c' - c) = c' by omega]; exact a3))
          · rw [z] at a3
            have s0 := slot_live R.tab.ris a3
            rw [live] at s0
            injection s0 with s0
            rw [← s0, hp] at h0
            exact absurd ((congrArg Prod.fst (Option.some.inj h0)).trans hk0) hkk
          · omega
      by_cases hl : t.led = true
      · refine wp_if_neg (by simp [hl]) ?_
        try refine wpAny_bind (wpAny_pure ?_)
        exact on
      · refine wp_if_pos (by simp [hl]) ?_
        refine wpAny_bind (seen_key hx (fun y hy => ?_) ?_)
        · obtain ⟨e, he, ee⟩ := List.mem_map.mp hy
          have he1 : e ∈ es ∧ e.1 = k.hash w := by simpa using he
          have he2 : e ∈ es.toList := by simpa using he1.1
          rw [R.rows] at he2
          obtain ⟨p2, m2, z2⟩ := List.mem_map.mp he2
          exact ⟨p2.1, by rw [← ee, ← z2]; exact R.mem p2 m2⟩
        · refine wp_if_neg (by decide) ?_
          try refine wpAny_bind (wpAny_pure ?_)
          exact on
    · have pr : t.probe (fun i => (es[i]?.map (·.1)).getD 0) (k.hash w) (stand.getD (t.probeStart (k.hash w))) = some (.empty (nSt w t k K).j none) := by
        have z : (nSt w t k K).j = (nth t.mask (nSt w t k c) (K - c)).j := by rw [jq, show c + (K - c) = K by omega]
        rw [hst, z]
        exact hpr
      rw [pr]
      dsimp only
      refine wpAny_pure (hout fun hm => ?_)
      obtain ⟨p0, m0, hk0⟩ := List.mem_map.mp hm
      obtain ⟨i0, hi0, e0⟩ := List.getElem_of_mem m0
      have h00 : L[i0]? = some p0 := by rw [List.getElem?_eq_getElem hi0, e0]
      obtain ⟨c', a1, a2, a3⟩ := hre i0 p0 h00 hk0
      exact hno (c' - c) i0 (by omega) (by rw [jq, show c + (c' - c) = c' by omega]; exact a3) ((hAt i0 p0 h00).trans (congrArg (fun y => NestedKey.hash w y) hk0))
/-- the search that adding begins with -/
theorem nt_find (R : NT w s.heap a L es ep t) {v : Value} {k : NestedKey} (hx : Nk s.heap k v) (hu : A.units + 8 < cLine) {Q : SetFound → Shared → Prop} (hin : k ∈ L.map (·.1) → Q (.there none) s)
    (hout : ∀ K, k ∉ L.map (·.1) → (nSt w t k K).j ∉ t.place.toList → (∀ c, c < K → (nSt w t k c).j ∈ t.place.toList) → Q (.free (nSt w t k K).j false) s) : wpAny (model P w) A (setSearch a v (k.hash w) true) Q E s := by
  have rm := R.room
  obtain ⟨K, hKf, hK, hKb⟩ := R.tab.first (by rw [List.length_map]; omega) (k.hash w)
  have big : K < 100000 := by
    have : SetTable.turns t.mask ≤ 142 := by
      unfold SetTable.turns
      rcases R.tab.mok with z | z | z <;> omega
    omega
  unfold setSearch
  refine nt_search R hx hu hKf hK hKb hin (fun hn => hout K hn hK hKb) 100000 0 none rfl (Nat.zero_le _) (by omega) fun i p hp hk => ?_
  have hi : (L.map fun p => p.1.hash w)[i]? = some (k.hash w) := by rw [List.getElem?_map, hp, ← hk] <;> rfl
  have hil : i < t.place.toList.length := by
    have h1 := (List.getElem?_eq_some_iff.mp hp).1
    have h2 := R.tab.sz
    rw [List.length_map] at h2
    rw [Array.length_toList]
    omega
  have hj := List.getElem?_eq_getElem hil
  obtain ⟨c, hc, z⟩ := R.tab.before hK hi hj
  exact ⟨c, Nat.zero_le _, hc, by rw [hj, ← z]⟩
end
end G81
set_option maxRecDepth 100000
set_option maxHeartbeats 2000000
/-! sets of nested tuples: a member laid, the table laid anew -/
namespace G81
open PySem PySem.Spec PyProof.Rows L2 SlX
section
variable {P : Program} {w : World} {A : Around} {E : Value → Shared → Prop} {s : Shared} {a : Addr} {L : List (NestedKey × Value)} {es : Array (Int × Value)} {ep : Nat} {t : SetTable}
theorem nk_same {h h' : Heap} {k : NestedKey} {v : Value} {o : Obj} (n : Nk h k v) (ho : h.get? a = some o) (hd : o.data = .set es ep t) (sb : Heap.SameBut a h h') : Nk h' k v :=
  ⟨n.1, NestedIs.at (fun b ob vs m hb hc => (sb.2 b fun z => by rw [z, ho] at hb; cases hb; rw [hd] at hc; cases hc).trans hb) k v n.2.1, n.2.2⟩
theorem nk_keep {h h' : Heap} {k : NestedKey} {v : Value} (n : Nk h k v) (kp : ∀ c o, h.get? c = some o → h'.get? c = some o) : Nk h' k v := ⟨n.1, NestedIs.at (fun b ob _ _ hb _ => kp b ob hb) k v n.2.1, n.2.2⟩
theorem ins_perm {α : Type} (l : List α) (n : Nat) (x : α) : (l.take n ++ x :: l.drop n).Perm (x :: l) := by
  have q : (l.take n ++ x :: l.drop n).Perm (x :: (l.take n ++ l.drop n)) := List.perm_middle
  rwa [List.take_append_drop] at q
theorem pick_all {α : Type} (l : List α) : (List.range l.length).filterMap (fun i => l[i]?) = l := by
  have key : ∀ n, n ≤ l.length → (List.range n).filterMap (fun i => l[i]?) = l.take n := by
    intro n
    induction n with
    | zero => intro _; rfl
    | succ n ih =>
      intro hn
      rw [List.range_succ, List.filterMap_append, ih (Nat.le_of_lt hn), List.take_succ, List.getElem?_eq_getElem hn, List.filterMap_cons_some (List.getElem?_eq_getElem hn)] <;> rfl
  rw [key l.length (Nat.le_refl _), List.take_length]
/-- rows taken in another order -/
theorem nt_order (es : Array (Int × Value)) (order : Array Nat) (hr : es.toList = L.map (nRow w)) (hp : order.toList.Perm (List.range L.length)) :
    ∃ M : List (NestedKey × Value), (order.filterMap (es[·]?)).toList = M.map (nRow w) ∧ M.Perm L ∧ (M.map fun p => p.1.hash w) = order.toList.map fun i => (es.map (·.1)).getD i 0 := by
  have ent : ∀ i, es[i]? = (L[i]?).map (nRow w) := fun i => by rw [← Array.getElem?_toList, hr, List.getElem?_map]
  have key : ∀ l : List Nat, (∀ i ∈ l, i < L.length) → l.filterMap (fun i => es[i]?) = (l.filterMap fun i => L[i]?).map (nRow w) ∧ ((l.filterMap fun i => L[i]?).map fun p => p.1.hash w) = l.map fun i => (es.map (·.1)).getD i 0 := by
    intro l
    induction l with
    | nil => exact fun _ => ⟨rfl, rfl⟩
    | cons i l ih =>
      intro hl
      obtain ⟨e1, e2⟩ := ih fun j hj => hl j (List.mem_cons_of_mem _ hj)
      have hi' := hl i List.mem_cons_self
      have hi := List.getElem?_eq_getElem hi'
      have he : es[i]? = some (nRow w L[i]) := by rw [ent, hi]; rfl
      refine ⟨?_, ?_⟩
      · rw [List.filterMap_cons_some he, List.filterMap_cons_some hi, e1] <;> rfl
      · rw [List.filterMap_cons_some hi, List.map_cons, List.map_cons, e2]
        have e5 : (es.map (·.1))[i]? = some (L[i].1.hash w) := by rw [Array.getElem?_map, he] <;> rfl
        simp [Array.getD_eq_getD_getElem?, e5]
  obtain ⟨e1, e2⟩ := key order.toList fun i hi => List.mem_range.mp (hp.mem_iff.mp hi)
  refine ⟨_, by first | (rw [Array.toList_filterMap]; exact e1) | simpa using e1, ?_, e2⟩
  have q := hp.filterMap fun i => L[i]?
  rwa [pick_all] at q
/-- the table laid anew, wider -/
theorem nt_relay {o : Obj} (ho : s.heap.get? a = some o) (hex : o.ExactSet) (hd : o.data = .set es ep t) (hrows : es.toList = L.map (nRow w)) (hsz : t.place.size = es.size) (hdm : t.dummies = #[]) (hfl : es.size ≤ t.mask)
    (nd : (L.map (·.1)).Nodup) (mem : ∀ p ∈ L, Nk s.heap p.1 p.2) (pl : t.plain = true) (ld : w.params.followText "set-order" = true ∨ t.led = true) (few : L.length < 64) {wanted m : Nat}
    (hw : SetTable.sizeAbove wanted - 1 = m) (hm : MaskOk m) (hw2 : SetTable.sizeAbove wanted ≤ 128) (hn : L.length * 5 < m * 3) {Q : Unit → Shared → Prop}
    (hQ : ∀ h' M es' ep' t', Heap.SameBut a s.heap h' → NT w h' a M es' ep' t' → M.Perm L → Q () { s with heap := h' }) : wpAny (model P w) A (setRelay a wanted) Q E s := by
  have hsl : es.size = L.length := by
    have q := congrArg List.length hrows
    rwa [Array.length_toList, List.length_map] at q
  have hfits : t.fits es.size = true := by
    unfold SetTable.fits SetTable.fill
    rw [hdm, Bool.and_eq_true, beq_iff_eq, decide_eq_true_eq]
    exact ⟨hsz, by show t.place.size + 0 ≤ t.mask; omega⟩
  obtain ⟨t2, order, e, hp, T, em, el, epl, _⟩ := relaid_ok t (hs := es.map (·.1)) (wanted := wanted) hw hm (by rw [Array.size_map, hsl]; omega)
  rw [Array.size_map, hsl] at hp
  obtain ⟨M, r1, r2, r3⟩ := nt_order es order hrows hp
  rw [← r3] at T
  have hs2 : (order.filterMap (es[·]?)).size = es.size := by
    have q := congrArg List.length r1
    rw [Array.length_toList, List.length_map, r2.length_eq] at q
    rw [q, hsl]
  rw [setRelay_eq]
  refine wpAny_bind (wpAny_setState_of ho hd hfits ?_)
  dsimp only
  refine wp_if_neg (by rw [sizeLine_eq]; omega) ?_
  try refine wpAny_bind (wpAny_pure ?_)
  rw [e]
  dsimp only
  refine wpAny_bind ?_
  refine wp_if_neg (by rw [hs2]; simp) ?_
  try refine wpAny_bind (wpAny_pure ?_)
  refine wpAny_pure ?_
  dsimp only
  refine wpAny_storeSet_of ho hd ?_ (by rw [hs2, hsl, sizeLine_eq]; omega)
  have sb : Heap.SameBut a s.heap (s.heap.update a (Obj.putSet (order.filterMap (es[·]?)) t2)) := Heap.SameBut.update ..
  exact hQ _ M _ (ep + 1) t2 sb ⟨⟨_, store_at ho hd, ⟨hex.1, hex.2.1, hex.2.2⟩, rfl⟩, r1, T, (r2.map (·.1)).nodup_iff.mpr nd, fun p hpm => nk_same (mem p (r2.mem_iff.mp hpm)) ho hd sb, by rw [epl]; exact pl, by rw [el]; exact ld, by rw [r2.length_eq, em]; exact hn, by rw [r2.length_eq]; exact few⟩ r2
theorem nt_add (R : NT w s.heap a L es ep t) {v : Value} {k : NestedKey} (hx : Nk s.heap k v) (hu : A.units + 8 < cLine) (hfew : L.length + 1 < 64) {Q : Bool → Shared → Prop}
    (hQ : ∀ b h' M es' ep' t', Heap.SameBut a s.heap h' → NT w h' a M es' ep' t' → (k ∈ L.map (·.1) → M = L) → (k ∉ L.map (·.1) → M.Perm ((k, v) :: L)) → Q b { s with heap := h' }) :
    wpAny (model P w) A (setAddHashed a v (k.hash w)) Q E s := by
  obtain ⟨o, ho, hex, hd⟩ := R.ob
  have hsl := R.size
  have rm := R.room
  unfold setAddHashed
  refine wpAny_holding ?_
  rw [show (100000 : Nat) = 99999 + 1 from rfl, setAddHashedIn_succ]
  refine wpAny_bind (wpAny_setState_of ho hd R.fits ?_)
  dsimp only
  refine wp_if_neg (by obtain ⟨⟨b, rfl⟩, _⟩ := hx; simp [byScan, Value.scannable]) ?_
  try refine wpAny_bind (wpAny_pure ?_)
  refine wpAny_bind (nt_find R hx hu (fun hm => ?_) fun K hm hK hb => ?_)
  · dsimp only
    exact wpAny_pure (hQ false s.heap L es ep t (Heap.SameBut.refl a s.heap) R (fun _ => rfl) fun z => absurd hm z)
  dsimp only
  refine wpAny_bind (wpAny_setState_of ho hd R.fits ?_)
  dsimp only
  obtain ⟨q1, q2, q3, q4, q5, q6, q7, q8, q9⟩ := R.tab.put hK hb
  have pl1 : (t.put (nSt w t k K).j).1.plain = true := q6.trans R.plain
  generalize hpt : t.put (nSt w t k K).j = pt at q1 q3 q4 q5 q6 q7 q8 q9 pl1 ⊢
  obtain ⟨t1, n⟩ := pt
  dsimp only at q1 q3 q4 q5 q6 q7 q8 q9 pl1 ⊢
  subst q1
  first
    | (refine wpAny_bind ?_; refine wp_if_pos pl1 ?_; refine value_key k v 8 hx.2.1 hx.2.2.1 hx.2.2.2 _ _ _ ?_)
    | refine wp_if_pos pl1 (wpAny_bind (value_key k v 8 hx.2.1 hx.2.2.1 hx.2.2.2 _ _ _ ?_))
  simp only [if_true]
  have rows1 : (SetTable.insertAt es (SetTable.below t.place (nSt w t k K).j) (k.hash w, v)).toList = (L.take (SetTable.below t.place (nSt w t k K).j) ++ (k, v) :: L.drop (SetTable.below t.place (nSt w t k K).j)).map (nRow w) := by
    rw [SetTable.toList_insertAt, R.rows, List.map_append, List.map_cons, List.map_take, List.map_drop] <;> rfl
  generalize SetTable.below t.place (nSt w t k K).j = n at q2 q3 rows1 ⊢
  have pm := ins_perm L n (k, v)
  have hhs : (L.take n ++ (k, v) :: L.drop n).map (fun p => p.1.hash w) = (L.map fun p => p.1.hash w).take n ++ k.hash w :: (L.map fun p => p.1.hash w).drop n := by
    rw [List.map_append, List.map_cons, List.map_take, List.map_drop]
  rw [← hhs] at q3
  generalize L.take n ++ (k, v) :: L.drop n = M at pm q3 rows1
  have hlen : M.length = L.length + 1 := pm.length_eq
  have hes : (SetTable.insertAt es n (k.hash w, v)).size = L.length + 1 := by
    have q := congrArg List.length rows1
    rw [Array.length_toList, List.length_map] at q
    rw [q, hlen]
  generalize SetTable.insertAt es n (k.hash w, v) = es1 at rows1 hes ⊢
  have nd1 : (M.map (·.1)).Nodup := (pm.map (·.1)).nodup_iff.mpr (List.nodup_cons.mpr ⟨hm, R.nd⟩)
  refine wpAny_bind (wpAny_storeSet_of ho hd ?_ (by rw [hes, sizeLine_eq]; omega))
  have sb : Heap.SameBut a s.heap (s.heap.update a (Obj.putSet es1 t1)) := Heap.SameBut.update ..
  have ho1 := store_at (es' := es1) (t' := t1) ho hd
  generalize s.heap.update a (Obj.putSet es1 t1) = h1 at sb ho1 ⊢
  have mem1 : ∀ p ∈ M, Nk h1 p.1 p.2 := fun p hp => by
    rcases List.mem_cons.mp (pm.mem_iff.mp hp) with z | z
    · rw [z]; exact nk_same hx ho hd sb
    · exact nk_same (R.mem p z) ho hd sb
  have ld1 : w.params.followText "set-order" = true ∨ t1.led = true := by rw [q5]; exact R.led
  by_cases hf : t1.tooFull = true
  · first
      | (refine wpAny_bind ?_; refine wp_if_pos (by simp [hf]) ?_)
      | (refine wp_if_pos (by simp [hf]) ?_; refine wpAny_bind ?_)
    have full := hf
    unfold SetTable.tooFull at full
    rw [decide_eq_true_eq, q9, List.length_map] at full
    rw [hsl]
    have sz1 : t1.place.size = es1.size := by
      have q := q3.sz
      rw [List.length_map, hlen] at q
      rw [q, hes]
    have two : (t.mask = 7 ∧ L.length = 4) ∨ (t.mask = 31 ∧ L.length = 18) := by
      rcases R.tab.mok with z | z | z <;> rw [q4, z] at full <;> rw [z] at rm
      · exact .inl ⟨z, by omega⟩
      · exact .inr ⟨z, by omega⟩
      · omega
    have go : ∀ m, SetTable.sizeAbove (SetTable.grown (L.length + 1)) - 1 = m → MaskOk m → SetTable.sizeAbove (SetTable.grown (L.length + 1)) ≤ 128 → (L.length + 1) * 5 < m * 3 →
        wpAny (model P w) A (setRelay a (SetTable.grown (L.length + 1))) (fun _ s' => wpAny (model P w) A (pure true) Q E s') E { s with heap := h1 } := fun m z1 z2 z3 z4 =>
      nt_relay (s := { s with heap := h1 }) ho1 ⟨hex.1, hex.2.1, hex.2.2⟩ rfl rows1 sz1 q3.dm (by rw [hes, q4]; rcases two with ⟨y, y2⟩ | ⟨y, y2⟩ <;> omega) nd1 mem1 pl1 ld1 (by rw [hlen]; exact hfew) z1 z2 z3 (by rw [hlen]; exact z4)
        fun h2 M2 es2 ep2 t2 sb2 R2 pm2 => wpAny_pure (hQ true h2 M2 es2 ep2 t2 (sb.trans sb2) R2 (fun z => absurd z hm) fun _ => pm2.trans pm)
    rcases two with ⟨_, y⟩ | ⟨_, y⟩
    · exact go 31 (by rw [y, size_20]) (.inr (.inl rfl)) (by rw [y, size_20]; decide) (by omega)
    · exact go 127 (by rw [y, size_76]) (.inr (.inr rfl)) (by rw [y, size_76]; decide) (by omega)
  · first
      | refine wp_if_neg (by simp [hf]) ?_
      | (refine wpAny_bind ?_; refine wp_if_neg (by simp [hf]) ?_; refine wpAny_pure ?_)
    unfold SetTable.tooFull at hf
    rw [decide_eq_true_eq, q9, List.length_map] at hf
    exact wpAny_pure (hQ true h1 M es1 (ep + 1) t1 sb ⟨⟨_, ho1, ⟨hex.1, hex.2.1, hex.2.2⟩, rfl⟩, rows1, q3, nd1, mem1, pl1, ld1, by rw [hlen]; omega, by rw [hlen]; exact hfew⟩ (fun z => absurd z hm) fun _ => pm)
end
/-- nested tuples of numbers -/
def ekN (P : Program) (w : World) : EK P w where
  κ := NestedKey
  is := Nk
  inv := fun h a L => ∃ M es ep t, M.Perm L ∧ NT w h a M es ep t
  made := fun {h a L} ⟨M, es, ep, t, pm, R⟩ => by
    obtain ⟨o, ho, hex, hd⟩ := R.ob
    have q := congrArg List.length R.rows
    rw [Array.length_toList, List.length_map] at q
    refine ⟨o, es, ep, t, ho, hex, hd, by rw [q]; exact R.few, ?_, R.tab.ris, R.led, ?_⟩
    · have q2 := R.tab.sz
      rw [List.length_map] at q2
      have q3 := R.room
      unfold SetTable.fits SetTable.fill
      rw [R.tab.dm, Bool.and_eq_true, beq_iff_eq, decide_eq_true_eq]
      exact ⟨by omega, by show t.place.size + 0 ≤ t.mask; omega⟩
    · rw [R.rows, List.map_map]
      exact pm.map (·.2)
  nd := fun ⟨M, es, ep, t, pm, R⟩ => (pm.map (·.1)).nodup_iff.mp R.nd
  keep := nk_keep
  keepI := fun ⟨M, es, ep, t, pm, R⟩ h m => ⟨M, es, ep, t, pm, ⟨let ⟨o, ho, r⟩ := R.ob; ⟨o, h o ho, r⟩, R.rows, R.tab, R.nd, fun p hp => m p (pm.mem_iff.mp hp), R.plain, R.led, R.room, R.few⟩⟩
  fresh := fun {h a} ho => ⟨[], #[], 0, _, .nil, ⟨⟨_, ho, ⟨rfl, rfl, rfl⟩, rfl⟩, rfl, ⟨List.Pairwise.nil, rfl, rfl, .inl rfl, fun x hx => (by cases hx), fun i h j hi => (by simp at hi)⟩, List.nodup_nil, fun p hp => (by cases hp), rfl, led_new w, (by show 0 * 5 < 7 * 3; decide), (by show 0 < 64; decide)⟩⟩
  add := fun {A E s a L k v Q} ⟨M, es, ep, t, pm, R⟩ hv few hu hQ => by
    unfold setAdd
    refine wpAny_holding (wpAny_bind ?_)
    obtain ⟨⟨b, rfl⟩, i1, d1, _⟩ := id hv
    refine (nestedKind P w).pyHash (k := k) (show A.units + 8 < cLine by omega) ⟨i1, d1⟩ ?_
    have ml := pm.length_eq
    refine nt_add (s := { s with toks := s.toks + k.draws }) R hv (by omega) (by omega) fun c h' M' es' ep' t' sb R' c1 c2 => ?_
    by_cases hk : k ∈ M.map (·.1)
    · refine hQ c h' _ L sb (Nat.le_add_right _ _) ⟨M', es', ep', t', by rw [c1 hk]; exact pm, R'⟩ (fun _ => rfl) fun z => absurd ((pm.map (·.1)).mem_iff.mp hk) z
    · exact hQ c h' _ ((k, .ref b) :: L) sb (Nat.le_add_right _ _) ⟨M', es', ep', t', (c2 hk).trans (pm.cons _), R'⟩ (fun z => absurd ((pm.map (·.1)).mem_iff.mpr z) hk) fun _ => rfl
end G81
set_option maxRecDepth 100000
set_option maxHeartbeats 4000000
/-! set(a list, a tuple): the members one by one -/
namespace G81
open PySem PySem.Spec PyProof.Rows L2 SlX
section
variable {P : Program} {w : World} {A : Around} {E : Value → Shared → Prop} {s : Shared} {K : EK P w}
/-- what is in the set when the first i things are -/
structure Gt (K : EK P w) (ks : List (K.κ × Value)) (i : Nat) (L : List (K.κ × Value)) : Prop where
  sub : ∀ p ∈ L, p ∈ ks.take i
  all : ∀ p ∈ ks.take i, p.1 ∈ L.map (·.1)
  len : L.length ≤ i
theorem Gt.next {ks L L' : List (K.κ × Value)} {i : Nat} {x : K.κ × Value} (g : Gt K ks i L) (h : ks[i]? = some x) (c1 : x.1 ∈ L.map (·.1) → L' = L) (c2 : x.1 ∉ L.map (·.1) → L' = x :: L) : Gt K ks (i + 1) L' := by
  have tk : ks.take (i + 1) = ks.take i ++ [x] := by rw [List.take_succ, h] <;> rfl
  by_cases hm : x.1 ∈ L.map (·.1)
  · rw [c1 hm]
    refine ⟨fun p hp => by rw [tk]; exact List.mem_append_left _ (g.sub p hp), fun p hp => ?_, Nat.le_succ_of_le g.len⟩
    rw [tk] at hp
    rcases List.mem_append.mp hp with z | z
    · exact g.all p z
    · rw [List.mem_singleton.mp z]; exact hm
  · rw [c2 hm]
    refine ⟨fun p hp => ?_, fun p hp => ?_, Nat.succ_le_succ g.len⟩
    · rw [tk]
      rcases List.mem_cons.mp hp with z | z
      · rw [z]; exact List.mem_append_right _ (List.mem_singleton.mpr rfl)
      · exact List.mem_append_left _ (g.sub p z)
    · rw [tk] at hp
      rcases List.mem_append.mp hp with z | z
      · exact List.mem_cons_of_mem _ (g.all p z)
      · rw [List.mem_singleton.mp z]; exact List.mem_cons_self
/-- the loop of set.update -/
theorem ek_update {it : Addr} {fp wr : List Addr} {G : Array GenState → Array GenState → Prop} {n : Nat} {Pv : Nat → Value → Prop} {St : Nat → Shared → Prop} {R : Result → Shared → Prop}
    (W : WalksS P w A.in1 it fp wr G n Pv St) (c : Addr) (hcf : c ∉ fp) (ks : List (K.κ × Value)) (hn : n = ks.length) (few : ks.length < 63) (hval : ∀ i v, Pv i v → ∃ p, ks[i]? = some p ∧ v = p.2)
    (h0 : Heap) (hk : ∀ p ∈ ks, K.is h0 p.1 p.2) (hc0 : h0.get? c = none) (hw0 : ∀ b ∈ wr, h0.get? b = none) (hu : A.in1.units + 64 < cLine) :
    ∀ (k i : Nat) (s : Shared), n - i = k → i ≤ n → St i s → (∀ b o, h0.get? b = some o → s.heap.get? b = some o) → (∃ L, K.inv s.heap c L ∧ Gt K ks i L) →
      (∀ s' L, Moved (c :: wr) G s s' → K.inv s'.heap c L → Gt K ks n L → (∀ b o, h0.get? b = some o → s'.heap.get? b = some o) → R (.ok (.ret .none)) s') →
      codeAny (model P w) A (.builtin "set.update.loop" ⟨[.ref c, .ref it], []⟩) R s := by
  have hcw : c ∉ wr := fun h => hcf (W.sub _ h)
  have wide : ∀ b ∈ wr, b ∈ c :: wr := fun b hb => List.mem_cons_of_mem _ hb
  have onward : ∀ {s s' : Shared}, Moved wr G s s' → (∀ b o, h0.get? b = some o → s.heap.get? b = some o) → ∀ b o, h0.get? b = some o → s'.heap.get? b = some o := fun hm kp b o e =>
    hm.heap b o (fun hb => by rw [hw0 b hb] at e; cases e) (kp b o e)
  have inks : ∀ {i} {L : List (K.κ × Value)}, Gt K ks i L → ∀ p ∈ L, p ∈ ks := fun g p hp => List.mem_of_mem_take (g.sub p hp)
  intro k
  induction k with
  | zero =>
    intro i s hki hi hst kp ⟨L, inv, g⟩ hR
    obtain rfl : i = n := by omega
    refine codeAny_builtin F.entry_set_update_loop ?_
    rw [Around.under_plainId F.plain_set_update_loop _]
    show wpAny _ A.in1 (pyNext (.ref it) >>= _) _ _ s
    refine wpAny_bind (W.done s _ _ hst fun s' hm => ?_)
    show wpAny _ A.in1 (ret Value.none) _ _ s'
    exact wpAny_pure (hR s' L (hm.mono wide) (K.keepI inv (fun o e => hm.heap c o hcw e) fun p hp => K.keep (hk p (inks g p hp)) (onward hm kp)) g (onward hm kp))
  | succ k ih =>
    intro i s hki hi hst kp ⟨L, inv, g⟩ hR
    have hlt : i < n := by omega
    refine codeAny_builtin F.entry_set_update_loop ?_
    rw [Around.under_plainId F.plain_set_update_loop _]
    show wpAny _ A.in1 (pyNext (.ref it) >>= _) _ _ s
    refine wpAny_bind (W.item i s _ _ hlt hst fun v s' hP hst' hm => ?_)
    obtain ⟨p, hp, rfl⟩ := hval i v hP
    have kp' := onward hm kp
    have inv' : K.inv s'.heap c L := K.keepI inv (fun o e => hm.heap c o hcw e) fun q hq => K.keep (hk q (inks g q hq)) kp'
    show wpAny _ A.in1 (holding [p.2] (setAdd c p.2) >>= _) _ _ s'
    refine wpAny_bind (wpAny_holding (K.add inv' (K.keep (hk p (List.mem_of_getElem? hp)) kp') (by have := g.len; omega) hu fun b h' tk L' sb tkl inv2 c1 c2 => ?_))
    have kp2 : ∀ b o, h0.get? b = some o → h'.get? b = some o := fun b o e => (sb.2 b (fun z => by rw [z, hc0] at e; cases e)).trans (kp' b o e)
    refine wpAny_pure ⟨plainId_quiet F.plain_set_update_loop _, ih (i + 1) _ (by omega) hlt (W.frame _ s' _ _ hst' tkl fun b hb o e => (sb.2 b (fun z : b = c => hcf (by rw [← z]; exact hb))).trans e) kp2 ⟨L', inv2, g.next hp c1 c2⟩ fun s'' L2 hm'' inv3 g3 kp3 => ?_⟩
    exact hR s'' L2 (Moved.trans W.gtrans ((hm.mono wide).then_heap tkl fun b o hb e => (sb.2 b (fun z : b = c => hb (by rw [z]; exact List.mem_cons_self))).trans e) hm'') inv3 g3 kp3

set_option maxRecDepth 100000 in
set_option maxHeartbeats 3200000 in
/-- set(a list) -/
theorem ek_call_list {l : Addr} {items : Array Value} (ks : List (K.κ × Value)) {Q : Value → Shared → Prop} (hh : A.handled = none) (hl : s.heap.IsList l items) (hit : items.toList = ks.map (·.2))
    (hk : ∀ p ∈ ks, K.is s.heap p.1 p.2) (few : ks.length < 63) (hu : A.units + 67 < cLine)
    (h : ∀ (h' : Heap) (tk : Nat) L, K.inv h' s.heap.objs.size L → Gt K ks ks.length L → (∀ b o, s.heap.get? b = some o → h'.get? b = some o) → Q (.ref s.heap.objs.size) { s with heap := h', toks := tk }) :
    wpAny (model P w) A (call (.type "set") [.ref l]) Q E s := by
  have isz : items.size = ks.length := by
    have q := congrArg List.length hit
    rwa [Array.length_toList, List.length_map] at q
  obtain ⟨c, tl, hmro⟩ := F.called_set.mro
  have hmade := F.called_set.made
  have hsub := F.called_set.sub
  refine wpAny_call (codeAny_of_tree ?_)
  show wpAny _ _ (callAny (.type "set") _) _ _ _
  refine wpAny_pure ⟨Code.quiet_builtin _ (by decide +kernel), codeAny_builtin F.entry_type_call ?_⟩
  rw [Around.under_plain (weight_type_call_type "set" [.ref l] []) rfl]
  have h1 := F.called_set.notType
  have h2 := F.called_set.canCreate
  have hct := F.typeCall_set_1 (.ref l)
  repeat (any_goals (first | assumption | wp_step))
  refine codeAny_mono (code_set_led1 (.ref l) (E := E) (Q₁ := fun obj s1 => obj = .ref s.heap.objs.size ∧ s1 = { s with heap := s.heap.push (setE w) }) ⟨rfl, rfl⟩) fun r s1 hr => ?_
  cases r with
  | error e => exact hr
  | ok fl =>
    cases fl with
    | ret obj =>
      obtain ⟨rfl, rfl⟩ := hr
      have hS : (s.heap.push (setE w)).get? s.heap.objs.size = some (setE w) := Heap.get?_push_size _ rfl
      have hT : Shared.TypeIs { s with heap := s.heap.push (setE w) } (.ref s.heap.objs.size) "set" := ⟨_, hS, rfl⟩
      have hli := F.called_set.init.lookup
      have hbi := F.called_set.init.bind (.ref s.heap.objs.size)
      repeat (any_goals (first | assumption | wp_step))
      refine codeAny_mono (codeAny_call_builtin (R := wants (fun r s2 => r = .none ∧ ∃ h' tk L, s2 = { s with heap := h', toks := tk } ∧ K.inv h' s.heap.objs.size L ∧ Gt K ks ks.length L ∧
          (∀ b o, s.heap.get? b = some o → h'.get? b = some o)) E) F.called_set.init.plain F.entry_set_init (check_set_init_1 hT ?_)) fun r2 s2 hr2 => ?_
      · have hl1 : (s.heap.push (setE w)).IsList l items := hl.push _
        have hlS : l < s.heap.objs.size := by
          obtain ⟨ol, hol, _⟩ := hl
          exact Heap.lt_size hol
        obtain ⟨ol, hol, hcl, nl, hdl⟩ := id hl
        obtain ⟨ocls, odict, odata, oslots⟩ := ol
        simp only at hcl hdl
        subst hcl; subst hdl
        have hol' : (s.heap.push (setE w)).get? l = some { cls := .type "list", dict := odict, data := .seq items nl, slots := oslots } := Heap.get?_push_of_some _ hol
        have hsls := F.sub_list_set
        have hslf := F.sub_list_frozenset
        have hne : (Value.type "list" == Value.type "dict") = false := by decide
        unfold Builtin.«set.__init__» noKeywords Builtin.Frozenset.updateFrom
        generalize hPI : pyIter = PI
        wp_walk
        subst hPI
        refine wpAny_pyIter_list hl1 ?_
        refine wpAny_bind (wpAny_runValue ?_)
        have hh3 : A.in1.in1.in1.handled = none := by simp [hh]
        have hneI : l ≠ (s.heap.push (setE w)).objs.size := by rw [Heap.size_push]; exact Nat.ne_of_lt (Nat.lt_succ_of_lt hlS)
        have hcf : s.heap.objs.size ∉ [(s.heap.push (setE w)).objs.size, l] := by
          rw [Heap.size_push]; simp only [List.mem_cons, List.not_mem_nil, or_false, not_or]
          exact ⟨Nat.ne_of_lt (Nat.lt_succ_self _), Nat.ne_of_gt hlS⟩
        have hval : ∀ (i : Nat) (v : Value), items[i]? = some v → ∃ p, ks[i]? = some p ∧ v = p.2 := fun i v hv => by
          have q : items.toList[i]? = some v := by rw [Array.getElem?_toList]; exact hv
          rw [hit, List.getElem?_map] at q
          cases hq : ks[i]? with
          | none => rw [hq] at q; cases q
          | some p => rw [hq] at q; exact ⟨p, rfl, (Option.some.inj q).symm⟩
        have none_of : ∀ b, s.heap.objs.size ≤ b → s.heap.get? b = none := fun b hb => by
          cases q : s.heap.get? b with
          | none => rfl
          | some o => exact absurd (Nat.lt_of_lt_of_le (Heap.lt_size q) hb) (Nat.lt_irrefl _)
        refine ek_update (K := K) ((Walks.list hh3 _ l hneI items).toS) s.heap.objs.size
          hcf ks isz few hval s.heap hk (none_of _ (Nat.le_refl _)) (fun b hb => none_of b (by
            rw [List.mem_singleton.mp hb, Heap.size_push]
            exact Nat.le_succ _)) (by show A.units + 1 + 1 + 1 + 64 < cLine; omega) (items.size - 0) 0 _ (by omega) (Nat.zero_le _)
          ⟨⟨_, Heap.get?_push_size _ rfl, rfl, rfl⟩, (hl1.push _)⟩ (fun b o e => Heap.get?_push_of_some _ (Heap.get?_push_of_some _ e)) ?hS0 ?hR
        case hS0 => exact ⟨[], K.fresh (Heap.get?_push_of_some _ hS), fun p hp => (by cases hp), fun p hp => (by simp at hp), Nat.le_refl _⟩
        case hR =>
          intro s' L hm inv' g' kp
          obtain ⟨h', g2, d', tk', os'⟩ := s'
          have eg : g2 = s.gens := hm.gens
          have ed : d' = s.drawn := hm.drawn
          have eo : os' = s.os := hm.os
          subst eg; subst ed; subst eo
          show wpAny _ _ _ _ _ _
          refine wpAny_pure ?_
          show wpAny _ _ (ret Value.none) _ _ _
          rw [isz] at g'
          exact wpAny_pure ⟨rfl, h', tk', L, rfl, inv', g', kp⟩
      · cases r2 with
        | error e => exact hr2
        | ok fl2 =>
          cases fl2 with
          | ret r =>
            obtain ⟨rfl, h', tk, L, rfl, inv', g', kp'⟩ := hr2
            repeat (any_goals (first | assumption | wp_step))
            exact h _ _ _ inv' g' kp'
          | _ => exact hr2.elim
    | _ => exact hr.elim

set_option maxRecDepth 100000 in
set_option maxHeartbeats 3200000 in
/-- set(a tuple) -/
theorem ek_call_tuple {l : Addr} {items : Array Value} (ks : List (K.κ × Value)) {Q : Value → Shared → Prop} (hh : A.handled = none) (hl : s.heap.IsTuple l items) (hit : items.toList = ks.map (·.2))
    (hk : ∀ p ∈ ks, K.is s.heap p.1 p.2) (few : ks.length < 63) (hu : A.units + 67 < cLine)
    (h : ∀ (h' : Heap) (tk : Nat) L, K.inv h' s.heap.objs.size L → Gt K ks ks.length L → (∀ b o, s.heap.get? b = some o → h'.get? b = some o) → Q (.ref s.heap.objs.size) { s with heap := h', toks := tk }) :
    wpAny (model P w) A (call (.type "set") [.ref l]) Q E s := by
  have isz : items.size = ks.length := by
    have q := congrArg List.length hit
    rwa [Array.length_toList, List.length_map] at q
  obtain ⟨c, tl, hmro⟩ := F.called_set.mro
  have hmade := F.called_set.made
  have hsub := F.called_set.sub
  refine wpAny_call (codeAny_of_tree ?_)
  show wpAny _ _ (callAny (.type "set") _) _ _ _
  refine wpAny_pure ⟨Code.quiet_builtin _ (by decide +kernel), codeAny_builtin F.entry_type_call ?_⟩
  rw [Around.under_plain (weight_type_call_type "set" [.ref l] []) rfl]
  have h1 := F.called_set.notType
  have h2 := F.called_set.canCreate
  have hct := F.typeCall_set_1 (.ref l)
  repeat (any_goals (first | assumption | wp_step))
  refine codeAny_mono (code_set_led1 (.ref l) (E := E) (Q₁ := fun obj s1 => obj = .ref s.heap.objs.size ∧ s1 = { s with heap := s.heap.push (setE w) }) ⟨rfl, rfl⟩) fun r s1 hr => ?_
  cases r with
  | error e => exact hr
  | ok fl =>
    cases fl with
    | ret obj =>
      obtain ⟨rfl, rfl⟩ := hr
      have hS : (s.heap.push (setE w)).get? s.heap.objs.size = some (setE w) := Heap.get?_push_size _ rfl
      have hT : Shared.TypeIs { s with heap := s.heap.push (setE w) } (.ref s.heap.objs.size) "set" := ⟨_, hS, rfl⟩
      have hli := F.called_set.init.lookup
      have hbi := F.called_set.init.bind (.ref s.heap.objs.size)
      repeat (any_goals (first | assumption | wp_step))
      refine codeAny_mono (codeAny_call_builtin (R := wants (fun r s2 => r = .none ∧ ∃ h' tk L, s2 = { s with heap := h', toks := tk } ∧ K.inv h' s.heap.objs.size L ∧ Gt K ks ks.length L ∧
          (∀ b o, s.heap.get? b = some o → h'.get? b = some o)) E) F.called_set.init.plain F.entry_set_init (check_set_init_1 hT ?_)) fun r2 s2 hr2 => ?_
      · have hl1 : (s.heap.push (setE w)).IsTuple l items := hl.push _
        have hlS : l < s.heap.objs.size := by
          obtain ⟨ol, hol, _⟩ := hl
          exact Heap.lt_size hol
        obtain ⟨ol, hol, hcl, nl, hdl⟩ := id hl
        obtain ⟨ocls, odict, odata, oslots⟩ := ol
        simp only at hcl hdl
        subst hcl; subst hdl
        have hol' : (s.heap.push (setE w)).get? l = some { cls := .type "tuple", dict := odict, data := .seq items nl, slots := oslots } := Heap.get?_push_of_some _ hol
        have hsls := F.sub_tuple_set
        have hslf := F.sub_tuple_frozenset
        have hne : (Value.type "tuple" == Value.type "dict") = false := by decide
        unfold Builtin.«set.__init__» noKeywords Builtin.Frozenset.updateFrom
        generalize hPI : pyIter = PI
        wp_walk
        subst hPI
        refine wpAny_pyIter_tuple hl1 ?_
        refine wpAny_bind (wpAny_runValue ?_)
        have hh3 : A.in1.in1.in1.handled = none := by simp [hh]
        have hneI : l ≠ (s.heap.push (setE w)).objs.size := by rw [Heap.size_push]; exact Nat.ne_of_lt (Nat.lt_succ_of_lt hlS)
        have hcf : s.heap.objs.size ∉ [(s.heap.push (setE w)).objs.size, l] := by
          rw [Heap.size_push]; simp only [List.mem_cons, List.not_mem_nil, or_false, not_or]
          exact ⟨Nat.ne_of_lt (Nat.lt_succ_self _), Nat.ne_of_gt hlS⟩
        have hval : ∀ (i : Nat) (v : Value), items[i]? = some v → ∃ p, ks[i]? = some p ∧ v = p.2 := fun i v hv => by
          have q : items.toList[i]? = some v := by rw [Array.getElem?_toList]; exact hv
          rw [hit, List.getElem?_map] at q
          cases hq : ks[i]? with
          | none => rw [hq] at q; cases q
          | some p => rw [hq] at q; exact ⟨p, rfl, (Option.some.inj q).symm⟩
        have none_of : ∀ b, s.heap.objs.size ≤ b → s.heap.get? b = none := fun b hb => by
          cases q : s.heap.get? b with
          | none => rfl
          | some o => exact absurd (Nat.lt_of_lt_of_le (Heap.lt_size q) hb) (Nat.lt_irrefl _)
        refine ek_update (K := K) ((Walks.tuple hh3 _ l hneI items).toS) s.heap.objs.size
          hcf ks isz few hval s.heap hk (none_of _ (Nat.le_refl _)) (fun b hb => none_of b (by
            rw [List.mem_singleton.mp hb, Heap.size_push]
            exact Nat.le_succ _)) (by show A.units + 1 + 1 + 1 + 64 < cLine; omega) (items.size - 0) 0 _ (by omega) (Nat.zero_le _)
          ⟨⟨_, Heap.get?_push_size _ rfl, rfl, rfl⟩, (hl1.push _)⟩ (fun b o e => Heap.get?_push_of_some _ (Heap.get?_push_of_some _ e)) ?hS0 ?hR
        case hS0 => exact ⟨[], K.fresh (Heap.get?_push_of_some _ hS), fun p hp => (by cases hp), fun p hp => (by simp at hp), Nat.le_refl _⟩
        case hR =>
          intro s' L hm inv' g' kp
          obtain ⟨h', g2, d', tk', os'⟩ := s'
          have eg : g2 = s.gens := hm.gens
          have ed : d' = s.drawn := hm.drawn
          have eo : os' = s.os := hm.os
          subst eg; subst ed; subst eo
          show wpAny _ _ _ _ _ _
          refine wpAny_pure ?_
          show wpAny _ _ (ret Value.none) _ _ _
          rw [isz] at g'
          exact wpAny_pure ⟨rfl, h', tk', L, rfl, inv', g', kp⟩
      · cases r2 with
        | error e => exact hr2
        | ok fl2 =>
          cases fl2 with
          | ret r =>
            obtain ⟨rfl, h', tk, L, rfl, inv', g', kp'⟩ := hr2
            repeat (any_goals (first | assumption | wp_step))
            exact h _ _ _ inv' g' kp'
          | _ => exact hr2.elim
    | _ => exact hr.elim
end
end G81
set_option maxRecDepth 100000
set_option maxHeartbeats 2000000
/-! {e for x in ..}, set(..), len and sorted of a set: by data -/
namespace G81
open PySem PySem.Spec PyProof.Rows L2 SlX
/-- the set of the keys ks while it is made -/
def ScO (w : World) (a : Addr) (ks : List Key) : HO := .ext fun h => ∃ L, L.map (·.1) = ks ∧ ScI w h a L
theorem scO_new {P : Program} {w : World} {H : Hp} {h : Heap} {a : Addr} {ks : List Key} {L : List (Key × Value)} (e : L.map (·.1) = ks) (R : ScI w h a L) : ObjOk P w H h a (ScO w a ks) := by
  have ⟨o, es, ep, t, ho, r⟩ := R
  exact ⟨⟨L, e, R⟩, ⟨o, ho⟩, fun h1 h2 ⟨M, e2, o2, es2, ep2, t2, ho2, r2⟩ k => ⟨M, e2, o2, es2, ep2, t2, k o2 ho2, r2⟩⟩
theorem vals_of_sc : ∀ {L : List (Key × Value)}, (∀ p ∈ L, RelV (kV p.1) p.2) → Vals (L.map fun p => kV p.1) (L.map (·.2))
  | [], _ => .nil
  | p :: L, h => .cons (h p List.mem_cons_self) (vals_of_sc fun q hq => h q (List.mem_cons_of_mem _ hq))
/-- values in another order -/
theorem vals_perm : ∀ {us vs : List Value}, vs.Perm us → ∀ {xs : List V}, Vals xs us → ∃ ys, ys.Perm xs ∧ Vals ys vs := by
  intro us vs pm
  induction pm with
  | nil => intro xs h; cases h; exact ⟨[], .nil, .nil⟩
  | cons v _ ih =>
    intro xs h
    cases h with
    | cons r t =>
      obtain ⟨ys, p, q⟩ := ih t
      exact ⟨_ :: ys, p.cons _, .cons r q⟩
  | swap u v l =>
    intro xs h
    cases h with
    | cons r t =>
      cases t with
      | cons r2 t2 => exact ⟨_, List.Perm.swap .., .cons r2 (.cons r t2)⟩
  | trans _ _ ih1 ih2 =>
    intro xs h
    obtain ⟨ys, p, q⟩ := ih2 h
    obtain ⟨zs, p2, q2⟩ := ih1 q
    exact ⟨zs, p2.trans p, q2⟩
theorem setG_of {w : World} {h : Heap} {a : Addr} {us : List Value} {xs : List V} (e : SetW w h a us) (r : Vals xs us) : ∃ ys, ys.Perm xs ∧ SetG w a ys h := by
  obtain ⟨o, es, ep, t, ho, hex, hd, h64, hf, ri, ld, pm⟩ := e
  obtain ⟨ys, p, q⟩ := vals_perm pm r
  exact ⟨ys, p, o, es, ep, t, ho, hex, hd, h64, hf, ri, ld, q⟩
open Classical in
noncomputable def insK (k : Key) (ks : List Key) : List Key := if k ∈ ks then ks else k :: ks
theorem insK_in {k : Key} {ks : List Key} (h : k ∈ ks) : insK k ks = ks := if_pos h
theorem insK_out {k : Key} {ks : List Key} (h : k ∉ ks) : insK k ks = k :: ks := if_neg h
section
variable {X : Cx} {pins : List (Addr × Obj)} {σ : L2.St} {H : Hp} {s : Shared}
theorem addK_ok {E : Value → Shared → Prop} {D : Addr} {ks : List Key} {k : Key} {u : Value} {Q : Value → Shared → Prop} (I : L2.Inv X pins σ H s) (hD : H D = some (ScO X.w D ks)) (room : ks.length + 1 < 64) (r : RelV (kV k) u) (hu : X.A.units + 65 < cLine)
    (h : ∀ s', L2.Inv X pins σ (upd H D (ScO X.w D (insK k ks))) s' → Q .none s') : wpAny (model X.prog X.w) X.A (call (.builtin "set.add") [.ref D, u]) Q E s := by
  obtain ⟨L, e, R⟩ : ∃ L : List (Key × Value), L.map (·.1) = ks ∧ ScI X.w s.heap D L := (I.hok D _ hD).1
  subst e
  have hT : s.TypeIs (.ref D) "set" := by
    obtain ⟨o, es, ep, t, ho, hex, _⟩ := R
    exact ⟨o, ho, hex.1⟩
  refine wpAny_call_entry F.slot_set_add hT F.entry_set_add ?_ (F.args_set_add_2 _ _)
  unfold Builtin.«set.add» Builtin.Frozenset.oneOther
  simp only [List.isEmpty_nil, bind_assoc]
  unfold Builtin.Frozenset.addrOf
  refine wpAny_bind (wpAny_pure ?_)
  try dsimp only
  refine wpAny_bind (wpAny_pure ?_)
  try dsimp only
  refine wpAny_bind ?_
  refine (ekS X.prog X.w).add R r (by rw [List.length_map] at room; exact room) (by show X.A.in1.units + 64 < cLine; exact (show X.A.units + 1 + 64 < cLine by omega)) fun b h' tk L' sb tl R' c1 c2 => ?_
  show wpAny _ _ (ret Value.none) _ _ _
  refine wpAny_pure ⟨_, rfl, h _ ?_⟩
  have new : ∀ M : List (Key × Value), (k ∈ L.map (·.1) → M = L) → (k ∉ L.map (·.1) → M = (k, u) :: L) → M.map (·.1) = insK k (L.map (·.1)) := fun M c1 c2 => by
    by_cases hk : k ∈ L.map (·.1)
    · rw [insK_in hk, c1 hk]
    · rw [insK_out hk, c2 hk, List.map_cons]
  have he : ∃ u, h'.get? D = some u := by
    obtain ⟨o, _, _, _, ho, _⟩ : ScI X.w h' D L' := R'
    exact ⟨o, ho⟩
  exact I.write (e := D) (t' := tk) (by rw [hD]; trivial) (.inl rfl) (fun b u hb hu => (sb.2 b hb).trans hu) he (scO_new (new L' c1 c2) R')
end
end G81
set_option maxRecDepth 100000
set_option maxHeartbeats 2000000
/-! {e for x in ..}: texts or ints -/
namespace G81
open PySem PySem.Spec PyProof.Rows L2 SlX
section
variable {X : Cx}
/-- D is the new set -/
def tSk (w : World) (wi : TI) (g : TG) (te : TE) (vs : List Nat) : TE := fun σ H Q => wi σ H fun J H1 => ∀ D, H1 D = none → ∃ W : Nat → Nat → Hp → Prop, (∃ m, W 0 m (upd H1 D (ScO w D []))) ∧ ∀ i m H, W i m H →
  (J.stop i H ∧ ∃ ks, H D = some (ScO w D ks) ∧ ∀ xs, xs.Perm (ks.map kV) → Q (.ref D) (upd H D (SetGO w D xs))) ∨ (J.go i H ∧ ∃ Nx : Hp → Prop, (∀ H', Nx H' → ∃ m', m' < m ∧ W (i + 1) m' H') ∧
    ∀ x H', J.yld i H x H' → g x (wipe σ vs) H' fun σ2 H2 => wipe σ2 vs = wipe σ vs ∧ te σ2 H2 fun y H4 => ∃ (k : Key) (ks : List Key), y = kV k ∧ H4 D = some (ScO w D ks) ∧ ks.length + 1 < 64 ∧ Nx (upd H4 D (ScO w D (insK k ks))))
theorem sk_core {pins : List (Addr × Obj)} {s : Shared} {σ : L2.St} {H : Hp} {Q : VK} {elt tg iter : Expr} {scope : Scope} {own : List (PySem.Str × Nat)} {pos pos' : Pos} {wi : TI} {g : TG} {te : TE} {Qf : Value → Shared → Prop}
    (hc : X.calm = true) (hu : X.A.units + 65 < cLine) (hN : X.N.Nodup) (I : L2.Inv X pins σ H s) (hi : PI X tg iter wi) (bo : BlkOk X.N X.env.scope scope own)
    (hg : ∀ (s : Shared) (H : Hp) (C : Addr) (cl : List (PySem.Str × Addr)) (fp : List Addr), PG (X.blk s H scope (compEnvC scope cl C X.env) fp) tg g)
    (he : ∀ (s : Shared) (H : Hp) (C : Addr) (cl : List (PySem.Str × Addr)) (fp : List Addr), PE (X.blk s H scope (compEnvC scope cl C X.env) fp) elt te) (hs : ∀ x, foldedSetIterable iter X.env x = pure x)
    (z : tSk X.w wi g te (own.map (·.2)) σ H Q)
    (fin : ∀ D C s' m H', L2.Inv X pins σ H' s' → Q (.ref D) H' → s'.heap.Ns C m → FpOk X pins H' C → compPost (model X.prog X.w) X.A X.xe none Qf (.ref D) C (.ok .next) s') :
    wpAny (model X.prog X.w) X.A (comprehension (.SetComp elt [⟨tg, iter, [], 0⟩] scope pos) scope X.env pos' (newSet (.type "set")) false (eval iter X.env) none) Qf X.xe s := by
  have cells : ∀ y ∈ scope.names, y.2 = .free → ∃ c, X.env.cells.lookup y.1 = some c := fun y hy e => by
    rcases bo.free y hy e with k | k <;> exact I.ok.has _ (by first | exact .inl k | exact .inr k)
  refine wpAny_comprehension_free (use := none) rfl hs (closure_ok cells) bo.kind (fun y hy e => by rw [bo.uniq y hy, e])
    (thn (hi.run pins s σ H _ I z) fun _ s1 hx => thn hx fun _ s2 ⟨it, fp, tn, J, H2, e, I2, T, st2, f2, q⟩ => ?_)
  subst e
  refine PpSet.newSet_ok (newEnv_comp ?_)
  generalize hD : s2.heap.objs.size = D
  obtain ⟨W, ⟨m0, w0⟩, turn⟩ := q D (I2.hok.fresh (Nat.le_of_eq hD))
  generalize e3 : ({ s2 with heap := s2.heap.push { cls := .type "set", dict := none, data := .set #[] 0 (.fresh 0 0 (!X.w.params.followText "set-order")) } } : Shared) = s3
  have h3 : s3.heap = s2.heap.push (setE X.w) := by rw [← e3] <;> rfl
  have I3 : L2.Inv X pins σ (upd H2 D (ScO X.w D [])) s3 := by
    rw [← e3]
    refine I2.laid (t' := s2.toks) (fun b o e => Heap.get?_push_of_some _ e) (Nat.le_of_eq hD) ?_
    rw [← hD]
    exact scO_new (L := []) rfl ((ekS X.prog X.w).fresh (Heap.get?_push_size _ rfl))
  have small : ∀ b ∈ fp, b < s2.heap.objs.size := fun b hb => by
    obtain ⟨o, e, _⟩ := T.obj _ _ st2 b hb
    exact Heap.lt_size e
  have f3 : ∀ b ∈ fp, FpOk X pins (upd H2 D (ScO X.w D [])) b ∧ b < s3.heap.objs.size := fun b hb => by
    have lt := small b hb
    refine ⟨⟨?_, (f2 b hb).2⟩, by rw [h3, Heap.size_push]; exact Nat.lt_succ_of_lt lt⟩
    rw [upd_ne (by rw [← hD]; exact Nat.ne_of_lt lt)]
    exact (f2 b hb).1
  have st3 : tn 0 s3.heap := T.keep _ _ _ st2 fun b _ o e => by rw [h3]; exact Heap.get?_push_of_some _ e
  have I4 := block_start I3 bo hN f3
  have pg := hg s3 (upd H2 D (ScO X.w D [])) s3.heap.objs.size (cellsFrom (s3.heap.objs.size + 1) scope.names (cloFrom X.env.cells scope.names [])) fp
  have pe := he s3 (upd H2 D (ScO X.w D [])) s3.heap.objs.size (cellsFrom (s3.heap.objs.size + 1) scope.names (cloFrom X.env.cells scope.names [])) fp
  have gone : ∀ b ∈ fp, (upd H2 D (ScO X.w D [])) b = none := fun b hb => (f3 b hb).1.1
  show codeAny _ _ (.compStart (.SetComp elt [⟨tg, iter, [], 0⟩] scope pos) 0 (.ref it) (.ref D) (compEnvC scope (cellsFrom (s3.heap.objs.size + 1) scope.names (cloFrom X.env.cells scope.names [])) s3.heap.objs.size X.env)) (compPost (model X.prog X.w) X.A X.xe none Qf (.ref D) s3.heap.objs.size) { s3 with heap := pushCells (s3.heap.push { cls := .type "dict", data := .dict #[] }) scope.names }
  generalize hce : compEnvC scope (cellsFrom (s3.heap.objs.size + 1) scope.names (cloFrom X.env.cells scope.names [])) s3.heap.objs.size X.env = ce at I4 pg pe ⊢
  have loc : ce.locals = s3.heap.objs.size := by subst hce; rfl
  generalize upd H2 D (ScO X.w D []) = H3 at I3 I4 pg pe w0 gone f3
  generalize hs4 : ({ s3 with heap := pushCells (s3.heap.push { cls := .type "dict", data := .dict #[] }) scope.names } : Shared) = s4 at I4 ⊢
  have st4 : tn 0 s4.heap := T.keep _ _ _ st3 fun b _ o e => by rw [← hs4]; exact pushCells_keeps _ _ _ _ (Heap.get?_push_of_some _ e)
  have stay : ∀ {σ' : L2.St} {H' : Hp} {s' : Shared}, L2.Inv (X.blk s3 H3 scope ce fp) [] σ' H' s' → (∀ b ∈ fp, H' b = none) → ∀ b ∈ fp, FpOk (X.blk s3 H3 scope ce fp) [] H' b := fun {σ' H' s'} I' hn b hb =>
    ⟨hn b hb, (I'.ok.exf b hb).1, I'.ok.exfs b hb, .inl hb, fun x c e => (I'.ok.exf b hb).2 x c e, fun p hp => nomatch hp⟩
  have loop : codeAny (model X.prog X.w) X.A (.compLoop (.SetComp elt [⟨tg, iter, [], 0⟩] scope pos) 0 (.ref it) (.ref D) ce) (compPost (model X.prog X.w) X.A X.xe none Qf (.ref D) s3.heap.objs.size) s4 := by
    refine PpSet.compLoopS_any (fun n s' => ∃ i H', L2.Inv (X.blk s3 H3 scope ce fp) [] (wipe σ (own.map (·.2))) H' s' ∧ tn i s'.heap ∧ (∀ b ∈ fp, H' b = none) ∧ W i n H') ?_ m0 ⟨0, H3, I4, st4, gone, w0⟩
    rintro n s5 ⟨i, H5, I5, st5, n5, w5⟩
    rcases turn i n H5 w5 with ⟨stop, ks, hks, qq⟩ | ⟨go, Nx, hNx, step⟩
    · refine thnF (T.done (X.blk s3 H3 scope ce fp) rfl rfl rfl hc i [] s5 _ H5 (fun _ _ => False) I5 (stay I5 n5) st5 stop) fun r s6 ⟨hr, I6⟩ => ?_
      subst hr
      have I7 : L2.Inv X pins σ H5 s6 := I3.call' (ch := fp) I6.os I6.base I6.hok I6.bare fun b hb => ⟨(f3 b hb).1.2.2.2.1, (f3 b hb).1.2.1, (f3 b hb).1.2.2.2.2.1, (f3 b hb).1.2.2.2.2.2⟩
      have nC : H5 s3.heap.objs.size = none := by
        have y : H5 ce.locals = none := I6.free
        rwa [loc] at y
      obtain ⟨m, hn, _⟩ := I6.loc
      have hn : s6.heap.Ns ce.locals m := hn
      rw [loc] at hn
      obtain ⟨L, eL, R⟩ : ∃ L : List (Key × Value), L.map (·.1) = ks ∧ ScI X.w s6.heap D L := (I7.hok D _ hks).1
      have rl : ∀ p ∈ L, RelV (kV p.1) p.2 := by obtain ⟨_, _, _, _, _, _, _, _, y, _⟩ := R; exact y
      obtain ⟨ys, py, sg⟩ := setG_of ((ekS X.prog X.w).made R) (vals_of_sc rl)
      have ex : ∃ u, s6.heap.get? D = some u := by obtain ⟨o, _, _, _, ho, _⟩ := sg; exact ⟨o, ho⟩
      have I8 : L2.Inv X pins σ (upd H5 D (SetGO X.w D ys)) s6 := I7.write (e := D) (t' := s6.toks) (h' := s6.heap) (by rw [hks]; trivial) (.inl rfl) (fun _ _ _ e => e) ex (setG_new sg)
      have nD : s3.heap.objs.size ≠ D := by rw [h3, Heap.size_push, ← hD]; exact Nat.ne_of_gt (Nat.lt_succ_self _)
      exact fin D s3.heap.objs.size s6 m _ I8 (qq ys (by rw [← eL, List.map_map]; exact py)) hn (I3.fpOk (Nat.le_refl _) (by rw [upd_ne nD]; exact nC))
    · refine thnF (T.item (X.blk s3 H3 scope ce fp) rfl rfl rfl hc i [] s5 _ H5 (fun _ _ => False) I5 (stay I5 n5) st5 go) fun r s6 ⟨u, hr, h6⟩ => ?_
      subst hr
      refine thnF h6 fun _ s7 ⟨x, H7, I7, r7, y7, st7, n7⟩ => ?_
      refine thnF (pg.run _ s7 _ H7 x u _ (I7.pinned (stay I7 n7) (T.obj _ _ st7)) r7 (step x H7 y7)) fun _ s8 ⟨σ8, H8, I8, hw8, q8⟩ => ?_
      refine wpAny_pure ?_
      simp only [if_true]
      refine thnF (pe.run _ s8 σ8 H8 _ I8 q8) fun v s10 ⟨yv, H10, I10, r10, k, ks, ey, hks, few, nx⟩ => ?_
      subst ey
      refine addK_ok (X := X.blk s3 H3 scope ce fp) I10 hks few r10 hu fun s11 I11 => ?_
      obtain ⟨m', hm, w'⟩ := hNx _ nx
      have pin : ∀ b ∈ fp, ∀ o, s7.heap.get? b = some o → s11.heap.get? b = some o ∧ _ := fun b hb o e =>
        let y := I11.pin (b, o) (List.mem_append_right _ (List.mem_append_right _ (mem_pinsAt hb e)))
        ⟨y.1, y.2.1⟩
      refine ⟨m', hm, i + 1, _, (I11.unpinned (pins := [])).weak (by rw [← hw8, wipe_length]) (fun j v e => ?_), T.keep _ _ _ st7 fun b hb o e => (pin b hb o e).1, fun b hb => ?_, w'⟩
      · rw [← hw8] at e
        exact (wipe_some e).1
      · obtain ⟨o, e, _⟩ := T.obj _ _ st7 b hb
        exact (pin b hb o e).2
  exact PpSet.codeAny_compStart_set loop (T.self X.A 0 _ _ _ st4 loop)
theorem pe_sk {elt tg iter : Expr} {scope : Scope} {own : List (PySem.Str × Nat)} {pos : Pos} {wi : TI} {g : TG} {te : TE} (hc : X.calm = true) (hu : X.A.units + 65 < cLine) (hN : X.N.Nodup) (hi : PI X tg iter wi) (bo : BlkOk X.N X.env.scope scope own)
    (hg : ∀ (s : Shared) (H : Hp) (C : Addr) (cl : List (PySem.Str × Addr)) (fp : List Addr), PG (X.blk s H scope (compEnvC scope cl C X.env) fp) tg g)
    (he : ∀ (s : Shared) (H : Hp) (C : Addr) (cl : List (PySem.Str × Addr)) (fp : List Addr), PE (X.blk s H scope (compEnvC scope cl C X.env) fp) elt te) (hs : ∀ x, foldedSetIterable iter X.env x = pure x) :
    PE X (.SetComp elt [⟨tg, iter, [], 0⟩] scope pos) (tSk X.w wi g te (own.map (·.2))) := by
  refine ⟨fun pins s σ H Q I z => ?_⟩
  rw [PpSet.eval_SetComp]
  refine sk_core hc hu hN I hi bo hg he hs z fun D C s' m H' I' q hn f => ⟨m, hn, fun h'' sb => ⟨.ref D, H', I'.turned (t' := s'.toks) (fun b o hb e => (sb.2 b hb).trans e) f.1 f.2.1 f.2.2.2.1 f.2.2.2.2.1 f.2.2.2.2.2, rfl, q⟩⟩
end
end G81
set_option maxRecDepth 100000
set_option maxHeartbeats 2000000
/-! sets by data: made of lists and tuples; len, sorted -/
namespace G81
open PySem PySem.Spec PyProof.Rows L2 SlX
/-- l has the members of m, each once -/
def SetOf (l m : List D) : Prop := l.Nodup ∧ ∀ x, x ∈ l ↔ x ∈ m
theorem perm_lift {α β : Type} {f : α → β} : ∀ {vs ws : List β}, vs.Perm ws → ∀ {M : List α}, ws = M.map f → ∃ M' : List α, M'.Perm M ∧ vs = M'.map f := by
  intro vs ws pm
  induction pm with
  | nil =>
    intro M e
    cases M with
    | nil => exact ⟨[], List.Perm.nil, rfl⟩
    | cons _ _ => cases e
  | cons v _ ih =>
    intro M e
    cases M with
    | nil => cases e
    | cons x M =>
      injection e with e1 e2
      obtain ⟨N, p, q⟩ := ih e2
      exact ⟨x :: N, p.cons x, by rw [List.map_cons, e1, q]⟩
  | swap u v l =>
    intro M e
    match M, e with
    | x :: y :: M, e =>
      injection e with e1 e2
      injection e2 with e2 e3
      exact ⟨y :: x :: M, List.Perm.swap .., by rw [List.map_cons, List.map_cons, e1, e2, e3]⟩
  | trans _ _ ih1 ih2 =>
    intro M e
    obtain ⟨N, p, q⟩ := ih2 e
    obtain ⟨O, p2, q2⟩ := ih1 q
    exact ⟨O, p2.trans p, q2⟩
/-- data, what stands for it, what that is in the heap -/
abbrev Tri := D × V × Value
theorem tris {k : KW} {c : Fm} {H : Hp} : ∀ {ds : List D} {xs : List V} {us : List Value}, Ats k c H ds xs → Vals xs us → ∃ T : List Tri, T.map (·.1) = ds ∧ T.map (·.2.1) = xs ∧ T.map (·.2.2) = us ∧ ∀ t ∈ T, At k c H t.1 t.2.1 ∧ RelV t.2.1 t.2.2
  | [], _, _, a, r => by
    cases (show _ = [] from a)
    cases r
    exact ⟨[], rfl, rfl, rfl, fun t h => nomatch h⟩
  | d :: ds, _, _, a, r => by
    obtain ⟨x, xs, rfl, h, t⟩ := a
    cases r with
    | cons r1 r2 =>
      obtain ⟨T, e1, e2, e3, q⟩ := tris t r2
      refine ⟨(d, x, _) :: T, by rw [List.map_cons, e1], by rw [List.map_cons, e2], by rw [List.map_cons, e3], fun t m => ?_⟩
      rcases List.mem_cons.mp m with z | z
      · rw [z]; exact ⟨h, r1⟩
      · exact q t z
theorem tris_ats {k : KW} {c : Fm} {H : Hp} : ∀ {T : List Tri}, (∀ t ∈ T, At k c H t.1 t.2.1 ∧ RelV t.2.1 t.2.2) → Ats k c H (T.map (·.1)) (T.map (·.2.1)) ∧ Vals (T.map (·.2.1)) (T.map (·.2.2))
  | [], _ => ⟨rfl, .nil⟩
  | t :: T, h => by
    obtain ⟨a, b⟩ := tris_ats fun u m => h u (List.mem_cons_of_mem _ m)
    obtain ⟨x, y⟩ := h t List.mem_cons_self
    exact ⟨⟨_, _, rfl, x, a⟩, .cons y b⟩
section
variable {X : Cx} {pins : List (Addr × Obj)} {σ : L2.St} {H : Hp} {s : Shared} {c : Fm}
/-- set(a list, a tuple) -/
theorem set_core {K : EK X.prog X.w} {kf : D → K.κ} {a : Addr} {ds : List D} {xs : List V} {Q : VK} {E : Value → Shared → Prop} (I : L2.Inv X pins σ H s) (hc : X.calm = true) (hu : X.A.units + 67 < cLine) (hq : SqL X.K H a xs ∨ SqT X.K H a xs) (hx : Ats (kw X) c H ds xs) (few : ds.length < 63)
    (is : ∀ d ∈ ds, ∀ v u, At (kw X) c H d v → RelV v u → K.is s.heap (kf d) u) (inj : ∀ d ∈ ds, ∀ e ∈ ds, kf d = kf e → d = e)
    (q : ∀ p ys l, H p = none → SetOf l ds → Ats (kw X) c H l ys → Q (.ref p) (upd H p (SetGO X.w p ys))) : wpAny (model X.prog X.w) X.A (call (.type "set") [.ref a]) (fun u s' => ∃ y H', L2.Inv X pins σ H' s' ∧ RelV y u ∧ Q y H') E s := by
  obtain ⟨its, rv, pl⟩ : ∃ its : List Value, Vals xs its ∧ (s.heap.IsList a its.toArray ∨ s.heap.IsTuple a its.toArray) := by
    rcases hq with h | h
    · obtain ⟨its, r, p, _⟩ := I.list h
      exact ⟨its, r, .inl p.isList⟩
    · obtain ⟨its, r, p, _⟩ := I.tuple h
      exact ⟨its, r, .inr p⟩
  obtain ⟨T, e1, e2, e3, hT⟩ := tris hx rv
  have tin : ∀ t ∈ T, t.1 ∈ ds := fun t m => by rw [← e1]; exact List.mem_map.mpr ⟨t, m, rfl⟩
  have go : ∀ (h' : Heap) (tk : Nat) L, K.inv h' s.heap.objs.size L → Gt K (T.map fun t => (kf t.1, t.2.2)) (T.map fun t => (kf t.1, t.2.2)).length L → (∀ b o, s.heap.get? b = some o → h'.get? b = some o) →
      ∃ y H', L2.Inv X pins σ H' { s with heap := h', toks := tk } ∧ RelV y (.ref s.heap.objs.size) ∧ Q y H' := fun h' tk L inv g kp => by
    have pick : ∀ L : List (K.κ × Value), (∀ p ∈ L, p ∈ T.map fun t => (kf t.1, t.2.2)) → ∃ M : List Tri, L = M.map (fun t => (kf t.1, t.2.2)) ∧ ∀ t ∈ M, t ∈ T := by
      intro L
      induction L with
      | nil => exact fun _ => ⟨[], rfl, fun t h => nomatch h⟩
      | cons p L ih =>
        intro h
        obtain ⟨t, m, e⟩ := List.mem_map.mp (h p List.mem_cons_self)
        obtain ⟨M, e', h'⟩ := ih fun y hy => h y (List.mem_cons_of_mem _ hy)
        refine ⟨t :: M, by rw [List.map_cons, e', e], fun u hu => ?_⟩
        rcases List.mem_cons.mp hu with z | z
        · rw [z]; exact m
        · exact h' u z
    obtain ⟨M, eL, hM⟩ := pick L fun p hp => List.mem_of_mem_take (g.sub p hp)
    obtain ⟨o, es, ep, t, ho, hex, hd, h64, hf, ri, ld, pm⟩ := K.made inv
    rw [eL, List.map_map] at pm
    obtain ⟨N, pN, eN⟩ := perm_lift (f := fun t : Tri => t.2.2) pm rfl
    have hN : ∀ t ∈ N, t ∈ T := fun t m => hM t (pN.mem_iff.mp m)
    obtain ⟨aN, vN⟩ := tris_ats fun t m => hT t (hN t m)
    have nd : ((N.map (·.1)).map kf).Nodup := by
      have := K.nd inv
      rw [eL, List.map_map] at this
      rw [List.map_map]
      exact (pN.map _).nodup_iff.mpr this
    have hn : H s.heap.objs.size = none := I.hok.fresh (Nat.le_refl _)
    refine ⟨.ref s.heap.objs.size, _, I.laid (t' := tk) kp (Nat.le_refl _) (setG_new (xs := N.map (·.2.1)) ⟨o, es, ep, t, ho, hex, hd, h64, hf, ri, ld, by rw [eN]; exact vN⟩), rfl, q _ _ (N.map (·.1)) hn ⟨nodup_of_map nd, fun x => ⟨fun m => ?_, fun m => ?_⟩⟩ aN⟩
    · obtain ⟨t, m0, rfl⟩ := List.mem_map.mp m
      exact tin t (hN t m0)
    · rw [← e1] at m
      obtain ⟨t, m0, rfl⟩ := List.mem_map.mp m
      have m2 := g.all (kf t.1, t.2.2) (by rw [List.take_length]; exact List.mem_map.mpr ⟨t, m0, rfl⟩)
      rw [eL, List.map_map] at m2
      obtain ⟨t2, m3, e⟩ := List.mem_map.mp m2
      have m4 := pN.mem_iff.mpr m3
      rw [← inj t2.1 (tin t2 (hN t2 m4)) t.1 (tin t m0) e]
      exact List.mem_map.mpr ⟨t2, m4, rfl⟩
  have hit : its = (T.map fun t => (kf t.1, t.2.2)).map (·.2) := by rw [List.map_map, ← e3]; rfl
  have hk : ∀ p ∈ T.map (fun t => (kf t.1, t.2.2)), K.is s.heap p.1 p.2 := fun p m => by
    obtain ⟨t, m2, rfl⟩ := List.mem_map.mp m
    exact is t.1 (tin t m2) _ _ (hT t m2).1 (hT t m2).2
  have hf : (T.map fun t => (kf t.1, t.2.2)).length < 63 := by rw [List.length_map, ← List.length_map (f := fun t : Tri => t.1), e1]; exact few
  rcases pl with pl | pl
  · exact ek_call_list (K := K) _ (I.ok.hd hc) pl (by rw [List.toList_toArray]; exact hit) hk hf hu go
  · exact ek_call_tuple (K := K) _ (I.ok.hd hc) pl (by rw [List.toList_toArray]; exact hit) hk hf hu go
/-! members: texts, ints -/
def flatK : D → Key
  | .txt x => .inr x
  | .int i => .inl i
  | _ => .inl 0
def Flat1 (d : D) : Prop := (∃ x, d = .txt x) ∨ ∃ i, d = .int i
theorem flat_is {d : D} {v : V} {u : Value} (h : Flat1 d) (a : At (kw X) c H d v) (r : RelV v u) : RelV (kV (flatK d)) u := by
  rcases h with ⟨x, rfl⟩ | ⟨i, rfl⟩ <;> cases (show v = _ from a) <;> exact r
theorem flat_inj {d e : D} (h : Flat1 d) (h' : Flat1 e) (q : flatK d = flatK e) : d = e := by
  rcases h with ⟨x, rfl⟩ | ⟨i, rfl⟩ <;> rcases h' with ⟨y, rfl⟩ | ⟨j, rfl⟩ <;> first | (cases q; rfl) | cases q
/-! members: nested tuples of ints -/
mutual
def Nd : D → Nat → Prop
  | .int _, _ => True
  | .tup l, n + 1 => Nds l n
  | _, _ => False
def Nds : List D → Nat → Prop
  | [], _ => True
  | d :: l, n => Nd d n ∧ Nds l n
end
mutual
def nk : D → NestedKey
  | .int i => .num i
  | .tup l => .tup (nks l)
  | _ => .none
def nks : List D → List NestedKey
  | [] => []
  | d :: l => nk d :: nks l
end
mutual
theorem nd_at (I : L2.Inv X pins σ H s) : ∀ {d : D} {n : Nat} {v : V} {u : Value}, Nd d n → At (kw X) c H d v → RelV v u → NestedIs s.heap (nk d) u ∧ Reads s.heap u d.py []
  | .int i, _, _, _, _, a, r => by
    cases (show _ = V.int i from a)
    obtain ⟨t, rfl⟩ := r
    exact ⟨.int i t, .int i t⟩
  | .tup l, n + 1, _, _, h, a, r => by
    obtain ⟨p, xs, rfl, hp, hx⟩ := a
    obtain rfl := show _ = Value.ref p from r
    obtain ⟨its, rv, ⟨o, ho, hc, m, hd⟩, _⟩ := I.tuple hp
    obtain ⟨h1, h2⟩ := nds_at I (show Nds l n from h) hx rv
    exact ⟨.tup ho hc hd (by rw [List.toList_toArray]; exact h1), .tuple ho hc hd (by rw [List.toList_toArray]; exact h2)⟩
  | .tup l, 0, _, _, h, _, _ => (show False from h).elim
  | .txt _, _, _, _, h, _, _ => (show False from h).elim
  | .lst _, _, _, _, h, _, _ => (show False from h).elim
  | .non, _, _, _, h, _, _ => (show False from h).elim
  | .bl _, _, _, _, h, _, _ => (show False from h).elim
  | .flst _, _, _, _, h, _, _ => (show False from h).elim
  | .dct _ _, _, _, _, h, _, _ => (show False from h).elim
  | .mdc _ _, _, _, _, h, _, _ => (show False from h).elim
  | .obj _ _, _, _, _, h, _, _ => (show False from h).elim
  | .set _, _, _, _, h, _, _ => (show False from h).elim
  | .dice, _, _, _, h, _, _ => (show False from h).elim
theorem nds_at (I : L2.Inv X pins σ H s) : ∀ {l : List D} {n : Nat} {xs : List V} {us : List Value}, Nds l n → Ats (kw X) c H l xs → Vals xs us → NestedAll s.heap (nks l) us ∧ ReadsAll s.heap us (pys l) []
  | [], _, _, _, _, a, r => by
    cases (show _ = [] from a)
    cases r
    exact ⟨.nil, .nil⟩
  | d :: l, n, _, _, h, a, r => by
    obtain ⟨x, xs, rfl, h1, t1⟩ := a
    obtain ⟨g1, g2⟩ := (show Nd d n ∧ Nds l n from h)
    cases r with
    | cons r1 r2 =>
      obtain ⟨z1, z2⟩ := nd_at I g1 h1 r1
      obtain ⟨y1, y2⟩ := nds_at I g2 t1 r2
      exact ⟨.cons z1 y1, .cons z2 y2⟩
end
mutual
theorem nd_fact : ∀ {d : D} {n : Nat}, Nd d n → (nk d).depth ≤ n ∧ nums (nk d)
  | .int i, _, _ => ⟨Nat.zero_le _, trivial⟩
  | .tup l, n + 1, h => by
    obtain ⟨a, b⟩ := nds_fact (show Nds l n from h)
    exact ⟨by simp only [nk, NestedKey.depth]; omega, b⟩
  | .tup l, 0, h => (show False from h).elim
  | .txt _, _, h => (show False from h).elim
  | .lst _, _, h => (show False from h).elim
  | .non, _, h => (show False from h).elim
  | .bl _, _, h => (show False from h).elim
  | .flst _, _, h => (show False from h).elim
  | .dct _ _, _, h => (show False from h).elim
  | .mdc _ _, _, h => (show False from h).elim
  | .obj _ _, _, h => (show False from h).elim
  | .set _, _, h => (show False from h).elim
  | .dice, _, h => (show False from h).elim
theorem nds_fact : ∀ {l : List D} {n : Nat}, Nds l n → NestedKey.depthAll (nks l) ≤ n ∧ numsAll (nks l)
  | [], _, _ => ⟨Nat.zero_le _, trivial⟩
  | d :: l, n, h => by
    obtain ⟨g1, g2⟩ := (show Nd d n ∧ Nds l n from h)
    obtain ⟨a, b⟩ := nd_fact g1
    obtain ⟨a2, b2⟩ := nds_fact g2
    exact ⟨by simp only [nks, NestedKey.depthAll]; omega, b, b2⟩
end
mutual
theorem nk_inj : ∀ {d e : D} {n m : Nat}, Nd d n → Nd e m → nk d = nk e → d = e
  | .int i, .int j, _, _, _, _, q => by injection q with q; rw [q]
  | .int i, .tup l, _, _, _, _, q => nomatch q
  | .tup l, .int j, _, _, _, _, q => nomatch q
  | .tup l, .tup k, n + 1, m + 1, h, g, q => by
    injection q with q
    rw [nks_inj (show Nds l n from h) (show Nds k m from g) q]
  | .tup l, _, 0, _, h, _, _ => (show False from h).elim
  | _, .tup l, _, 0, _, h, _ => (show False from h).elim
  | .txt _, _, _, _, h, _, _ => (show False from h).elim
  | .lst _, _, _, _, h, _, _ => (show False from h).elim
  | .non, _, _, _, h, _, _ => (show False from h).elim
  | .bl _, _, _, _, h, _, _ => (show False from h).elim
  | .flst _, _, _, _, h, _, _ => (show False from h).elim
  | .dct _ _, _, _, _, h, _, _ => (show False from h).elim
  | .mdc _ _, _, _, _, h, _, _ => (show False from h).elim
  | .obj _ _, _, _, _, h, _, _ => (show False from h).elim
  | .set _, _, _, _, h, _, _ => (show False from h).elim
  | .dice, _, _, _, h, _, _ => (show False from h).elim
  | _, .txt _, _, _, _, h, _ => (show False from h).elim
  | _, .lst _, _, _, _, h, _ => (show False from h).elim
  | _, .non, _, _, _, h, _ => (show False from h).elim
  | _, .bl _, _, _, _, h, _ => (show False from h).elim
  | _, .flst _, _, _, _, h, _ => (show False from h).elim
  | _, .dct _ _, _, _, _, h, _ => (show False from h).elim
  | _, .mdc _ _, _, _, _, h, _ => (show False from h).elim
  | _, .obj _ _, _, _, _, h, _ => (show False from h).elim
  | _, .set _, _, _, _, h, _ => (show False from h).elim
  | _, .dice, _, _, _, h, _ => (show False from h).elim
theorem nks_inj : ∀ {l k : List D} {n m : Nat}, Nds l n → Nds k m → nks l = nks k → l = k
  | [], [], _, _, _, _, _ => rfl
  | [], _ :: _, _, _, _, _, q => nomatch q
  | _ :: _, [], _, _, _, _, q => nomatch q
  | d :: l, e :: k, n, m, h, g, q => by
    injection q with q1 q2
    obtain ⟨g1, g2⟩ := (show Nd d n ∧ Nds l n from h)
    obtain ⟨f1, f2⟩ := (show Nd e m ∧ Nds k m from g)
    rw [nk_inj g1 f1 q1, nks_inj g2 f2 q2]
end
end
end G81
set_option maxRecDepth 100000
set_option maxHeartbeats 2000000
/-! set(..), len, sorted, {..} as expressions -/
namespace G81
open PySem PySem.Spec PyProof.Rows L2 SlX
def IsSet (ds : List D) : D → Prop := fun d => ∃ l, d = .set l ∧ SetOf l ds
section
variable {X : Cx} {c : Fm} {δ : List Cell} {P : D → Prop}
/-- set(xs), texts and ints -/
def rSetF (X : Cx) : List V → Hp → VK → Prop := fun vs H Q => ∃ (c : Fm) (a : Addr) (ds : List D) (xs : List V), vs = [.ref a] ∧ (SqL X.K H a xs ∨ SqT X.K H a xs) ∧ Ats (kw X) c H ds xs ∧ ds.length < 63 ∧ (∀ d ∈ ds, Flat1 d) ∧
  ∀ p ys l, H p = none → SetOf l ds → Ats (kw X) c H l ys → Q (.ref p) (upd H p (SetGO X.w p ys))
theorem cr_setF (hc : X.calm = true) (hu : X.A.units + 67 < cLine) : CallR X (.type "set") (rSetF X) := by
  intro pins s σ H vs us Q I r ⟨c, a, ds, xs, e, hq, hx, few, fl, q⟩
  subst e
  rw [Vals.ref1 r]
  exact set_core (K := ekS X.prog X.w) (kf := flatK) I hc hu hq hx few (fun d m v u av rv => flat_is (fl d m) av rv) (fun d m e m' => flat_inj (fl d m) (fl e m')) q
/-- set(xs), nested tuples of ints -/
def rSetN (X : Cx) : List V → Hp → VK → Prop := fun vs H Q => ∃ (c : Fm) (a : Addr) (ds : List D) (xs : List V), vs = [.ref a] ∧ (SqL X.K H a xs ∨ SqT X.K H a xs) ∧ Ats (kw X) c H ds xs ∧ ds.length < 63 ∧ (∀ d ∈ ds, Nd d 8 ∧ ∃ l, d = .tup l) ∧
  ∀ p ys l, H p = none → SetOf l ds → Ats (kw X) c H l ys → Q (.ref p) (upd H p (SetGO X.w p ys))
theorem cr_setN (hc : X.calm = true) (hu : X.A.units + 67 < cLine) : CallR X (.type "set") (rSetN X) := by
  intro pins s σ H vs us Q I r ⟨c, a, ds, xs, e, hq, hx, few, fl, q⟩
  subst e
  rw [Vals.ref1 r]
  refine set_core (K := ekN X.prog X.w) (kf := nk) I hc hu hq hx few (fun d m v u av rv => ?_) (fun d m e m' => nk_inj (fl d m).1 (fl e m').1) q
  obtain ⟨h1, l, rfl⟩ := fl d m
  obtain ⟨f1, f2⟩ := nd_fact h1
  refine ⟨?_, (nd_at I h1 av rv).1, f1, f2⟩
  obtain ⟨p, ys, rfl, _⟩ := av
  exact ⟨p, rv⟩
theorem setGo {H : Hp} {ds : List D} {Q : VK} {vs : List V} (b : Bs c H) (w : ∀ v H' d, IsSet ds d → Rl c.E [] H H' → At (kw X) c H' d v → Q v H') : ∀ p ys l, H p = none → SetOf l ds → Ats (kw X) c H l ys → Q (.ref p) (upd H p (SetGO X.w p ys)) := fun p ys l hp hs ha =>
  w _ _ (.set l) ⟨l, rfl, hs⟩ (Rl.new hp) ⟨p, ys, rfl, b.free hp, upd_same, ha.rl b.toBw (Rl.new hp)⟩
theorem seq_of {d : D} {ds : List D} {v : V} {H : Hp} (hd : d = .lst ds ∨ d = .tup ds) (a : At (kw X) c H d v) : ∃ p xs, v = .ref p ∧ (SqL X.K H p xs ∨ SqT X.K H p xs) ∧ Ats (kw X) c H ds xs := by
  rcases hd with rfl | rfl
  · obtain ⟨p, xs, e, _, h, x⟩ := a
    exact ⟨p, xs, e, .inl (SqL.of h), x⟩
  · obtain ⟨p, xs, e, h, x⟩ := a
    exact ⟨p, xs, e, .inr h, x⟩
theorem l_setF {d : D} {ds : List D} (hd : d = .lst ds ∨ d = .tup ds) (few : ds.length < 63) (fl : ∀ d ∈ ds, Flat1 d) : CRL (kw X) c (rSetF X) [d] (IsSet ds) := fun vs H Q b a w => by
  obtain ⟨v, rfl, h⟩ := a.one_
  obtain ⟨p, xs, rfl, hq, hx⟩ := seq_of hd h
  exact ⟨c, p, ds, xs, rfl, hq, hx, few, fl, setGo (vs := []) b w⟩
theorem l_setN {d : D} {ds : List D} (hd : d = .lst ds ∨ d = .tup ds) (few : ds.length < 63) (fl : ∀ d ∈ ds, Nd d 8 ∧ ∃ l, d = .tup l) : CRL (kw X) c (rSetN X) [d] (IsSet ds) := fun vs H Q b a w => by
  obtain ⟨v, rfl, h⟩ := a.one_
  obtain ⟨p, xs, rfl, hq, hx⟩ := seq_of hd h
  exact ⟨c, p, ds, xs, rfl, hq, hx, few, fl, setGo (vs := []) b w⟩
/-- len of a set -/
def rLenSet (X : Cx) : List V → Hp → VK → Prop := fun vs H Q => ∃ a ys, vs = [.ref a] ∧ H a = some (SetGO X.w a ys) ∧ Q (.int ys.length) H
theorem setG_get {pins : List (Addr × Obj)} {σ : L2.St} {H : Hp} {s : Shared} {a : Addr} {ys : List V} (I : L2.Inv X pins σ H s) (h : H a = some (SetGO X.w a ys)) : SetG X.w a ys s.heap := (I.hok a _ h).1
theorem cr_lenSet : CallR X (.builtin "len") (rLenSet X) := by
  intro pins s σ H vs us Q I r ⟨a, ys, e, h, q⟩
  subst e
  rw [Vals.ref1 r]
  obtain ⟨o, es, ep, t, ho, hex, hd, h64, hf, ri, ld, rv⟩ := setG_get I h
  have hl : ys.length = es.size := by rw [rv.length, List.length_map, Array.length_toList]
  exact call_len_set ho hex hd hf (by omega) ⟨.int ys.length, H, I.tok _, ⟨_, by rw [hl]⟩, q⟩
theorem l_lenSet {l : List D} : CRL (kw X) c (rLenSet X) [.set l] (Is (.int l.length)) := fun vs H Q b a w => by
  obtain ⟨v, rfl, p, ys, rfl, _, h, hx⟩ := a.one_
  exact ⟨p, ys, rfl, h, w _ H _ rfl .refl (by rw [hx.length]; rfl)⟩
end
/-! sorted -/
section
variable {X : Cx} {c : Fm} {δ : List Cell} {pins : List (Addr × Obj)} {σ : L2.St} {H : Hp} {s : Shared}
theorem tv_set {k : KW} {c : Fm} {H : Hp} {l : List D} {ys : List V} {us vs : List Value} (hx : Ats k c H l ys) (rv : Vals ys us) (pm : vs.Perm us) : ∃ T : List Tri, (T.map (·.1)).Perm l ∧ (T.map (·.2.1)).Perm ys ∧ vs = T.map (·.2.2) ∧ ∀ t ∈ T, At k c H t.1 t.2.1 ∧ RelV t.2.1 t.2.2 := by
  obtain ⟨T, e1, e2, e3, hT⟩ := tris hx rv
  rw [← e3] at pm
  obtain ⟨N, pN, eN⟩ := perm_lift (f := fun t : Tri => t.2.2) pm rfl
  exact ⟨N, by rw [← e1]; exact pN.map _, by rw [← e2]; exact pN.map _, eN, fun t m => hT t (pN.mem_iff.mp m)⟩
/-- the list's own object sorted, however -/
theorem sort_core {a : Addr} {l : List D} {ys : List V} {Q : VK} {E : Value → Shared → Prop} {Ok : List Tri → Prop} (I : L2.Inv X pins σ H s) (hc : X.calm = true) (ha : H a = some (SetGO X.w a ys)) (hx : Ats (kw X) c H l ys)
    (srt : ∀ (s1 : Shared) (T : List Tri) (A : Around) (R : Value → Shared → Prop) (b : Addr), A.units ≤ X.A.units + 3 → (∀ b o, s.heap.get? b = some o → s1.heap.get? b = some o) → (∀ b o, s1.heap.get? b = some o → b < s1.heap.objs.size) → (T.map (·.1)).Perm l → T.length < 64 → (∀ t ∈ T, At (kw X) c H t.1 t.2.1 ∧ RelV t.2.1 t.2.2) →
      s1.heap.get? b = some (seqObj "list" (T.map (·.2.2)).toArray 0) → s.heap.objs.size ≤ b →
      (∀ T', T'.Perm T → Ok T' → ∀ out : Array Value, Vals (T'.map (·.2.1)) out.toList → R .none { s1 with heap := sortedHeap s1.heap b (T.map (·.2.2)) out }) → wpAny (model X.prog X.w) A (call (.builtin "list.sort") [.ref b]) R E s1)
    (q : ∀ p T, H p = none → (T.map (·.1)).Perm l → Ok T → (∀ t ∈ T, At (kw X) c H t.1 t.2.1) → Q (.ref p) (upd H p (.lst (T.map (·.2.1))))) :
    wpAny (model X.prog X.w) X.A (call (.builtin "sorted") [.ref a]) (fun u s' => ∃ y H', L2.Inv X pins σ H' s' ∧ RelV y u ∧ Q y H') E s := by
  obtain ⟨o, es, ep, t, ho, hex, hd, h64, hf, ri, ld, rv⟩ := setG_get I ha
  refine Calls.call_function_entry kind_sorted plain_sorted entry_sorted (args_sorted1 _) ?_
  unfold Builtin.«sorted»
  refine wpAny_bind (m := checkCount "sorted" 1 1 _) (wpAny_pure ?_)
  refine wpAny_bind (collect_set (A := X.A.in1) (I.ok.hd hc) ⟨o, ho, hex.1, hd⟩ hf (by unfold scanBound; omega) ri ld fun s1 vs k1 hz g1 o1 pm => ?_)
  obtain ⟨T, p1, p2, e3, hT⟩ := tv_set hx rv pm
  have hl : T.length < 64 := by
    have := pm.length_eq
    rw [e3] at this
    simp only [List.length_map, Array.length_toList] at this
    omega
  have hv : vs.length = T.length := by rw [e3, List.length_map]
  refine wpAny_bind (wpAny_newList ?_ (by rw [hv, sizeLine_eq]; omega))
  have hoL : (s1.heap.push (seqObj "list" vs.toArray 0)).get? s1.heap.objs.size = some (seqObj "list" vs.toArray 0) := Heap.get?_push_size _ rfl
  have kp : ∀ b o, s.heap.get? b = some o → (s1.heap.push (seqObj "list" vs.toArray 0)).get? b = some o := fun b o e => Heap.get?_push_of_some _ (k1 b o e)
  refine wpAny_bind (wpAny_holding (srt { s1 with heap := s1.heap.push (seqObj "list" vs.toArray 0) } T _ _ s1.heap.objs.size (by show X.A.units + 1 ≤ X.A.units + 3; omega) kp (fun b o e => Heap.lt_size e) p1 hl hT (by rw [← e3]; exact hoL) hz fun T' pT okT out vo => ?_))
  obtain ⟨n, hc'⟩ := sortedHeap_at (vs := T.map (·.2.2)) (out := out) (by rw [← e3]; exact hoL)
  have kp2 : ∀ b u, s.heap.get? b = some u → (sortedHeap (s1.heap.push (seqObj "list" vs.toArray 0)) s1.heap.objs.size (T.map (·.2.2)) out).get? b = some u := fun b u e => by
    have hlt := Heap.lt_size (k1 b u e)
    rw [sortedHeap_old (Nat.ne_of_lt hlt) (by rw [size_push']; exact Nat.lt_succ_of_lt hlt)]
    exact kp b u e
  have hn : H s1.heap.objs.size = none := I.hok.fresh hz
  have lt' : (T'.map (·.2.1)).length ≤ sizeLine := by rw [List.length_map, pT.length_eq, sizeLine_eq]; omega
  refine wpAny_pure ⟨_, rfl, .ref s1.heap.objs.size, upd H s1.heap.objs.size (.lst (T'.map (·.2.1))), ?_, rfl, q _ T' hn ((pT.map _).trans p1) okT fun t m => (hT t (pT.mem_iff.mp m)).1⟩
  have J : L2.Inv X pins σ (upd H s1.heap.objs.size (.lst (T'.map (·.2.1)))) { s with heap := sortedHeap (s1.heap.push (seqObj "list" vs.toArray 0)) s1.heap.objs.size (T.map (·.2.2)) out, gens := s1.gens, drawn := s1.drawn, toks := s1.toks } :=
    I.call (ch := []) (Un.laid kp2 hz hn) (I.hok.laid kp2 hz ⟨lt', out.toList, n, vo, hc'⟩) (by rw [g1]; exact I.bare) (fun _ z => nomatch z)
  have e : ({ s1 with heap := sortedHeap (s1.heap.push (seqObj "list" vs.toArray 0)) s1.heap.objs.size (T.map (·.2.2)) out } : Shared) = { s with heap := sortedHeap (s1.heap.push (seqObj "list" vs.toArray 0)) s1.heap.objs.size (T.map (·.2.2)) out, gens := s1.gens, drawn := s1.drawn, toks := s1.toks } := by
    cases s1
    cases s
    cases o1
    rfl
  rw [e]
  exact J
end
end G81
set_option maxRecDepth 100000
set_option maxHeartbeats 2000000
/-! sorted(a set) of texts, of nested tuples; {..} by data -/
namespace G81
open PySem PySem.Spec PyProof.Rows L2 SlX
def txtOf : D → Str
  | .txt x => x
  | _ => ""
section
variable {X : Cx} {c : Fm} {δ : List Cell}
def rSortS (X : Cx) : List V → Hp → VK → Prop := fun vs H Q => ∃ (c : Fm) (a : Addr) (zs : List Str) (ys : List V), vs = [.ref a] ∧ H a = some (SetGO X.w a ys) ∧ Ats (kw X) c H (zs.map D.txt) ys ∧
  ∀ p ws, H p = none → ws.Perm zs → sortedS ws = true → Q (.ref p) (upd H p (.lst (ws.map V.str)))
theorem cr_sortS (hc : X.calm = true) : CallR X (.builtin "sorted") (rSortS X) := by
  intro pins s σ H vs us Q I r ⟨c, a, zs, ys, e, ha, hx, q⟩
  subst e
  rw [Vals.ref1 r]
  have allT : ∀ {T : List Tri}, (T.map (·.1)).Perm (zs.map D.txt) → ∀ t ∈ T, ∃ x, t.1 = .txt x := fun {T} p t m => by
    obtain ⟨x, _, e⟩ := List.mem_map.mp (p.mem_iff.mp (List.mem_map.mpr ⟨t, m, rfl⟩))
    exact ⟨x, e.symm⟩
  have sv : ∀ {T : List Tri}, (∀ t ∈ T, ∃ x, t.1 = .txt x) → (∀ t ∈ T, At (kw X) c H t.1 t.2.1) → T.map (·.2.1) = (T.map fun t => txtOf t.1).map V.str := fun {T} h g => by
    rw [List.map_map]
    refine List.map_congr_left fun t m => ?_
    obtain ⟨x, e⟩ := h t m
    have := g t m
    rw [e] at this
    show t.2.1 = V.str (txtOf t.1)
    rw [e]
    exact this
  refine sort_core (Ok := fun T => sortedS (T.map fun t => txtOf t.1) = true) I hc ha hx (fun s1 T A R b hA kp lt p1 few hT hb hsz go => ?_) fun p T hp p1 ok hT => ?_
  · have ty := allT p1
    have vs := (tris_ats hT).2
    rw [sv ty fun t m => (hT t m).1] at vs
    have st := vs.strs
    refine wpAny_call_entry slot_list_sort ⟨_, hb, rfl⟩ entry_list_sort (list_sort_treeK strKind_oneLt hb st.keysOf (fun v1 v2 rest e => keyKind_strs (by rw [← e]; exact st)) (by rw [List.length_map]; exact few) fun st' hp hs => ?_) (args_list_sort _)
    obtain ⟨ss, h1, h2, h3⟩ := sorted_out_str st hp hs
    obtain ⟨T', pT, eT⟩ := perm_lift (f := fun t : Tri => txtOf t.1) h2 rfl
    refine ⟨.none, rfl, go T' pT (by rw [← eT]; exact h3) _ ?_⟩
    rw [sv (fun t m => ty t (pT.mem_iff.mp m)) fun t m => (hT t (pT.mem_iff.mp m)).1, ← eT]
    exact vals_of_strs h1
  · rw [sv (allT p1) hT]
    refine q p _ hp ?_ ok
    have := p1.map txtOf
    rw [List.map_map, List.map_map] at this
    have e : zs.map (txtOf ∘ D.txt) = zs := by
      rw [show (txtOf ∘ D.txt) = id from rfl, List.map_id]
    rw [e] at this
    exact this
theorem ln_sortS {zs : List Str} : ∀ vs H Q, Bs c H → Ats (kw X) c H [.set (zs.map D.txt)] vs → (∀ a H' xs ds, SortedOf zs ds → Rl c.E [] H H' → H a = none → H' a = some (.lst xs) → Ats (kw X) (c.add a) H' ds xs → a ∉ c.M → Q (.ref a) H') → rSortS X vs H Q := fun vs H Q bs a w => by
  obtain ⟨v, rfl, b, ys, rfl, _, hb, hx⟩ := a.one_
  exact ⟨c, b, zs, ys, rfl, hb, hx, fun p ws hp pw sw => w p _ _ (ws.map D.txt) ⟨ws, rfl, pw, sw⟩ (Rl.new hp) hp upd_same (Ats.of_txts ws) (bs.free hp)⟩
/-- nested -/
def rSortN (X : Cx) : List V → Hp → VK → Prop := fun vs H Q => ∃ (c : Fm) (a : Addr) (l : List D) (ys : List V) (n : Nat), vs = [.ref a] ∧ H a = some (SetGO X.w a ys) ∧ Ats (kw X) c H l ys ∧ (∀ d ∈ l, Nd d n ∧ ∃ x r, d.py = .tuple (x :: r)) ∧
  (∀ d ∈ l, ∀ e ∈ l, PySem.W.alike d.py e.py = true) ∧ n ≤ 8 ∧ ∀ p xs m, H p = none → m.Perm l → Ats (kw X) c H m xs → Q (.ref p) (upd H p (.lst xs))
mutual
theorem nd_depth : ∀ {d : D} {n : Nat}, Nd d n → PyData.depth d.py ≤ n
  | .int i, _, _ => Nat.zero_le _
  | .tup l, n + 1, h => by
    have := nds_depth (show Nds l n from h)
    show PyData.depth (.tuple (pys l)) ≤ n + 1
    simp only [PyData.depth]
    omega
  | .tup l, 0, h => (show False from h).elim
  | .txt _, _, h => (show False from h).elim
  | .lst _, _, h => (show False from h).elim
  | .non, _, h => (show False from h).elim
  | .bl _, _, h => (show False from h).elim
  | .flst _, _, h => (show False from h).elim
  | .dct _ _, _, h => (show False from h).elim
  | .mdc _ _, _, h => (show False from h).elim
  | .obj _ _, _, h => (show False from h).elim
  | .set _, _, h => (show False from h).elim
  | .dice, _, h => (show False from h).elim
theorem nds_depth : ∀ {l : List D} {n : Nat}, Nds l n → PyData.depthAll (pys l) ≤ n
  | [], _, _ => Nat.zero_le _
  | d :: l, n, h => by
    obtain ⟨g1, g2⟩ := (show Nd d n ∧ Nds l n from h)
    have a := nd_depth g1
    have b := nds_depth g2
    show PyData.depthAll (d.py :: pys l) ≤ n
    simp only [PyData.depthAll]
    omega
end
theorem each_of {β : Type} {R : Value → β → Prop} {f : β → Value} : ∀ {bs : List β}, (∀ b ∈ bs, R (f b) b) → PySem.W.EachIs R (bs.map f) bs
  | [], _ => .nil
  | b :: bs, h => .cons (h b List.mem_cons_self) (each_of fun c m => h c (List.mem_cons_of_mem _ m))
theorem each_vals : ∀ {us : List Value} {T : List Tri}, PySem.W.EachIs (fun v (t : Tri) => RelV t.2.1 v) us T → Vals (T.map (·.2.1)) us
  | _, _, .nil => .nil
  | _, _, .cons h t => .cons h (each_vals t)
theorem cr_sortN (hc : X.calm = true) (hu : X.A.units + 65 < cLine) : CallR X (.builtin "sorted") (rSortN X) := by
  intro pins s σ H vs us Q I r ⟨c, a, l, ys, n, e, ha, hx, hd, hk, hn, q⟩
  subst e
  rw [Vals.ref1 r]
  refine sort_core (Ok := fun _ => True) I hc ha hx (fun s1 T A R b hA kp lt p1 few hT hb hsz go => ?_) fun p T hp p1 _ hT => q p _ _ hp p1 ?_
  · have inl : ∀ t ∈ T, t.1 ∈ l := fun t m => p1.mem_iff.mp (List.mem_map.mpr ⟨t, m, rfl⟩)
    refine PySem.W.list_sort_data (β := Tri) (bs := T) (enc := fun t => t.1.py) (R := fun v t => RelV t.2.1 v) hb (each_of fun t m => (hT t m).2) (each_of fun t m => ⟨[], PyProof.Rows.Reads.keeps kp (nd_at I (hd _ (inl t m)).1 (hT t m).1 (hT t m).2).2, fun z => nomatch z⟩) (fun x hx y hy => ?_) (.inl fun x hx => ?_) (by rw [sizeLine_eq]; omega) (fun t m => ?_) fun out ho eo => go _ (List.mergeSort_perm _ _) trivial _ (by rw [List.toList_toArray]; exact each_vals eo)
    · obtain ⟨t, m, rfl⟩ := List.mem_map.mp hx
      obtain ⟨t', m', rfl⟩ := List.mem_map.mp hy
      exact hk _ (inl t m) _ (inl t' m')
    · obtain ⟨t, m, rfl⟩ := List.mem_map.mp hx
      exact (hd _ (inl t m)).2
    · have := nd_depth (hd _ (inl t m)).1
      show A.units + 1 + PyData.depth t.1.py < cLine
      omega
  · have key : ∀ {T : List Tri}, (∀ t ∈ T, At (kw X) c H t.1 t.2.1) → Ats (kw X) c H (T.map (·.1)) (T.map (·.2.1)) := by
      intro T
      induction T with
      | nil => exact fun _ => rfl
      | cons t T ih => exact fun h => ⟨_, _, rfl, h t List.mem_cons_self, ih fun u m => h u (List.mem_cons_of_mem _ m)⟩
    exact key hT
theorem ln_sortN {l : List D} {n : Nat} (hd : ∀ d ∈ l, Nd d n ∧ ∃ x r, d.py = .tuple (x :: r)) (hk : ∀ d ∈ l, ∀ e ∈ l, PySem.W.alike d.py e.py = true) (hn : n ≤ 8) :
    ∀ vs H Q, Bs c H → Ats (kw X) c H [.set l] vs → (∀ a H' xs ds, ds.Perm l → Rl c.E [] H H' → H a = none → H' a = some (.lst xs) → Ats (kw X) (c.add a) H' ds xs → a ∉ c.M → Q (.ref a) H') → rSortN X vs H Q := fun vs H Q bs a w => by
  obtain ⟨v, rfl, b, ys, rfl, _, hb, hx⟩ := a.one_
  exact ⟨c, b, l, ys, n, rfl, hb, hx, hd, hk, hn, fun p xs m hp pm hm => w p _ xs m pm (Rl.new hp) hp upd_same ((hm.up (Up.add bs hp)).rl (Up.add bs hp).b (Rl.new hp)) (bs.free hp)⟩
end
end G81
set_option maxRecDepth 100000
set_option maxHeartbeats 2000000
/-! {e for x in ..} by data -/
namespace G81
open PySem PySem.Spec PyProof.Rows L2 SlX
def kD : Key → D
  | .inl i => .int i
  | .inr x => .txt x
theorem kD_at {k : KW} {c : Fm} {H : Hp} {y : Key} {v : V} (a : At k c H (kD y) v) : v = kV y := by
  cases y with
  | inl i => exact a
  | inr x => exact a
theorem kD_of {k : KW} {c : Fm} {H : Hp} {y : Key} : At k c H (kD y) (kV y) := by
  cases y with
  | inl i => exact rfl
  | inr x => exact rfl
theorem kD_inj {x y : Key} (h : kD x = kD y) : x = y := by
  cases x <;> cases y <;> first | (cases h; rfl) | cases h
theorem ownK_sc {w : World} {D : Addr} {ks : List Key} : OwnK (ScO w D ks) := ⟨by intro xs; simp [ScO], by intro a b; simp [ScO]⟩
/-- what is in the set when the first i are -/
def In1 (ks ms : List Key) : Prop := ks.Nodup ∧ (∀ k, k ∈ ks ↔ k ∈ ms) ∧ ks.length ≤ ms.length
theorem In1.next {ks ms : List Key} (h : In1 ks ms) (k : Key) : In1 (insK k ks) (ms ++ [k]) := by
  obtain ⟨h1, h2, h3⟩ := h
  by_cases hk : k ∈ ks
  · rw [insK_in hk]
    refine ⟨h1, fun j => ⟨fun m => List.mem_append_left _ ((h2 j).mp m), fun m => ?_⟩, by rw [List.length_append]; omega⟩
    rcases List.mem_append.mp m with z | z
    · exact (h2 j).mpr z
    · rw [List.mem_singleton.mp z]; exact hk
  · rw [insK_out hk]
    refine ⟨List.nodup_cons.mpr ⟨hk, h1⟩, fun j => ⟨fun m => ?_, fun m => ?_⟩, by rw [List.length_append, List.length_cons]; exact Nat.succ_le_succ h3⟩
    · rcases List.mem_cons.mp m with z | z
      · rw [z]; exact List.mem_append_right _ (List.mem_singleton.mpr rfl)
      · exact List.mem_append_left _ ((h2 j).mp z)
    · rcases List.mem_append.mp m with z | z
      · exact List.mem_cons_of_mem _ ((h2 j).mpr z)
      · rw [List.mem_singleton.mp z]; exact List.mem_cons_self
section
variable {X : Cx} {c : Fm} {δ : List Cell} {elt tg iter : Expr} {scope : Scope} {own : List (Str × Nat)} {pos : Pos} {t : Tg} {α : Type} {emb : α → D} {xs : List α} {δ' : α → List Cell} {kf : α → Key}
theorem sk_of {k : KW} {vs : List Nat} (hp : ∀ x, x ∈ xs → t.put (emb x) (wipeD δ vs) = some (δ' x)) (hv : ∀ i ∈ t.ix, i ∈ vs) (few : xs.length < 63) :
    ∀ σ H Q, tX k c δ (IsSet (xs.map fun x => kD (kf x))) σ H Q → tSk k.w (tI k c δ (· = xs.map emb)) (t.g k.K) (tvX k c xs δ' fun x => kD (kf x)) vs σ H Q := by
  intro σ H Q ⟨ev, w⟩
  refine ⟨ev, fun J H1 ds hds r1 ⟨n, G, Y, W, hn, wk⟩ hz D hD => ?_⟩
  subst hds
  have ev1 := ev.rl r1
  have up := Up.add ev1.bs hD
  obtain ⟨wg, wy⟩ := wk (c.add D) up
  have nE : D ∉ c.E := up.b.oe D List.mem_cons_self
  have sD : ∀ a ∈ [D], a ∉ c.E := fun a m => by rw [List.mem_singleton.mp m]; exact nE
  have toH1 : ∀ {H'}, Rl c.E [D] (upd H1 D (ScO k.w D [])) H' → Rl c.E [] H1 H' := fun {H'} r b o e => by
    have hb : b ≠ D := ne_of_none e hD
    rcases r b o (by rw [upd_ne hb]; exact e) with z | z | ⟨z, _⟩
    · exact .inl z
    · exact .inr (.inl z)
    · exact absurd (List.mem_singleton.mp z) hb
  have ev2 : Ev k (c.add D) (upd H1 D (ScO k.w D [])) σ δ := ev1.add hD
  have hn : n = xs.length := by rw [hn, List.length_map]
  refine ⟨fun i m H' => m = n - i ∧ i ≤ n ∧ Rl c.E [D] (upd H1 D (ScO k.w D [])) H' ∧ ∃ ks, H' D = some (ScO k.w D ks) ∧ In1 ks ((xs.take i).map kf), ⟨n, by simp, Nat.zero_le _, .refl, [], upd_same, List.nodup_nil, fun k => Iff.rfl, Nat.le_refl _⟩, ?_⟩
  rintro i m H' ⟨rfl, hi, r, ks, hA, hI⟩
  have hkl : ks.length ≤ i := by
    have := hI.2.2
    rw [List.length_map, List.length_take] at this
    omega
  by_cases hlt : i < n
  · refine .inr ⟨W.goes i H' hlt (wg H' (toH1 r).wide), fun H2 => Rl c.E [D] (upd H1 D (ScO k.w D [])) H2 ∧ ∃ ks, H2 D = some (ScO k.w D ks) ∧ In1 ks ((xs.take (i + 1)).map kf), fun H2 q => ⟨n - (i + 1), by omega, rfl, hlt, q⟩, fun x H2 y => ?_⟩
    have hy := W.yields i H' x H2 hlt (wg H' (toH1 r).wide) y
    obtain ⟨d, hd, kp, ha⟩ := wy i H' x H2 hlt ((toH1 r).wide) hy
    have hi' : i < xs.length := by rw [← hn]; exact hlt
    have ex : xs[i]? = some xs[i] := List.getElem?_eq_getElem hi'
    rw [List.getElem?_map, ex] at hd
    obtain rfl : emb xs[i] = d := Option.some.inj hd
    have hin : xs[i] ∈ xs := List.getElem_mem hi'
    have r2 : Rl c.E [D] (upd H1 D (ScO k.w D [])) H2 := r.trans sD (.of_same kp)
    have evH : ∀ {H3}, Rl c.E [D] (upd H1 D (ScO k.w D [])) H3 → Ev k (c.add D) H3 σ δ := fun {H3} r => ev2.rlO (O := [D]) (fun a m => by rw [List.mem_singleton.mp m]; exact List.mem_cons_self) (fun j y hj a m => by rw [List.mem_singleton.mp m]; exact ev1.fresh hD j y hj) r
    refine put_go (vs := vs) ((evH r2).wipe vs) ha (hp _ hin) fun σ3 ev4 hw => ⟨by rw [hw hv]; exact lc_of.wipe_idem σ vs, ?_⟩
    refine ⟨(xs[i], D), hin, ev4, fun ky H3 d3 e3 r3 a3 => ?_⟩
    cases (show d3 = _ from e3)
    have hD3 : H3 D = some (ScO k.w D ks) := by
      rcases r3 D _ (kp D _ hA) with z | ⟨z, _⟩ | ⟨z, _⟩
      · exact z
      · exact absurd z nE
      · cases z
    refine ⟨kf xs[i], ks, kD_at a3, hD3, by omega, (r2.trans sD r3.wide).trans sD (rl_own (List.mem_singleton.mpr rfl) hD3 ownK_sc), insK (kf xs[i]) ks, upd_same, ?_⟩
    have tk : (xs.take (i + 1)).map kf = (xs.take i).map kf ++ [kf xs[i]] := by rw [List.take_succ, ex, List.map_append]; rfl
    rw [tk]
    exact hI.next _
  · have e : i = n := by omega
    subst e
    refine .inl ⟨W.stops H' (wg H' (toH1 r).wide), ks, hA, fun ys py => ?_⟩
    obtain ⟨qs, pq, rfl⟩ := perm_lift py rfl
    have r3 : Rl c.E [D] (upd H1 D (ScO k.w D [])) (upd H' D (SetGO k.w D (qs.map kV))) := r.trans sD (rl_own (List.mem_singleton.mpr rfl) hA ownK_sc)
    have e1 : xs.take i = xs := List.take_of_length_le (by omega)
    rw [e1] at hI
    have ats : ∀ {H : Hp} (qs : List Key), Ats k c H (qs.map kD) (qs.map kV) := fun {H} qs => by
      induction qs with
      | nil => rfl
      | cons y qs ih => exact ⟨_, _, rfl, kD_of, ih⟩
    refine w _ _ (.set (qs.map kD)) ⟨_, rfl, ?_, fun d => ?_⟩ (r1.trans0 (toH1 r3)) ⟨D, _, rfl, ev1.bs.free hD, upd_same, ats qs⟩
    · exact List.Pairwise.map kD (fun _ _ h e => h (kD_inj e)) (pq.nodup_iff.mpr hI.1)
    · constructor
      · intro m
        obtain ⟨y, hy, rfl⟩ := List.mem_map.mp m
        obtain ⟨x, hx, e⟩ := List.mem_map.mp ((hI.2.1 y).mp (pq.mem_iff.mp hy))
        exact List.mem_map.mpr ⟨x, hx, by rw [e]⟩
      · intro m
        obtain ⟨x, hx, rfl⟩ := List.mem_map.mp m
        exact List.mem_map.mpr ⟨kf x, pq.mem_iff.mpr ((hI.2.1 _).mpr (List.mem_map.mpr ⟨x, hx, rfl⟩)), rfl⟩
/-- {e for tg in iter} -/
theorem px_sk (t : Tg) (own : List (Str × Nat)) (hi : PIX X c δ tg iter (· = xs.map emb)) (hp : ∀ x, x ∈ xs → t.put (emb x) (wipeD δ (own.map (·.2))) = some (δ' x)) (bo : BlkOk X.N X.env.scope scope own)
    (hg : ∀ (s : Shared) (H : Hp) (C : Addr) (cl : List (Str × Addr)) (fp : List Addr), PGX (X.blk s H scope (compEnvC scope cl C X.env) fp) tg t)
    (he : ∀ (s : Shared) (H : Hp) (C : Addr) (cl : List (Str × Addr)) (fp : List Addr) (x : α) (D : Addr), x ∈ xs → PV (X.blk s H scope (compEnvC scope cl C X.env) fp) (c.add D) (δ' x) elt (kD (kf x)))
    (hN : X.N.Nodup) (few : xs.length < 63) (hu : X.A.units + 65 < cLine) (hc : X.calm = true := by rfl) (hv : ∀ i ∈ t.ix, i ∈ own.map (·.2) := by decide) (hs : ∀ x, foldedSetIterable iter X.env x = pure x := by intro _; rfl) :
    PX X c δ (.SetComp elt [⟨tg, iter, [], 0⟩] scope pos) (IsSet (xs.map fun x => kD (kf x))) :=
  PE.mono (pe_sk (g := t.g X.K) (te := tvX (kw X) c xs δ' fun x => kD (kf x)) hc hu hN hi bo hg (fun s H C cl fp => pe_vx (he s H C cl fp)) hs) (sk_of (k := kw X) hp hv few)
end
end G81
set_option maxRecDepth 100000
set_option maxHeartbeats 2000000
/-! short words for sets; letters in order -/
namespace G81
open PySem PySem.Spec PyProof.Rows L2 SlX
theorem Room.big {k : Nat} {A : Around} (r : Room k A) : A.units + 200 < cLine := by have := r.un; omega
/-- the letters of a list, ascending -/
def ordL (ls : List Nat) : List Nat := (List.range 123).filter fun l => decide (l ∈ ls)
theorem mem_ordL {ls : List Nat} {l : Nat} : l ∈ ordL ls ↔ l < 123 ∧ l ∈ ls := by
  unfold ordL
  rw [List.mem_filter, List.mem_range, decide_eq_true_eq]
theorem mem_ordL' {ls : List Nat} (h : ∀ l ∈ ls, l < 123) {l : Nat} : l ∈ ordL ls ↔ l ∈ ls := by
  rw [mem_ordL]
  exact ⟨fun z => z.2, fun z => ⟨h l z, z⟩⟩
theorem ordL_lt {ls : List Nat} : (ordL ls).Pairwise (· < ·) := List.Pairwise.filter _ List.pairwise_lt_range
theorem ordL_nd {ls : List Nat} : (ordL ls).Nodup := ordL_lt.imp fun h => Nat.ne_of_lt h
theorem ordL_congr {ls ms : List Nat} (h : ∀ l, l ∈ ls ↔ l ∈ ms) : ordL ls = ordL ms := by
  unfold ordL
  exact List.filter_congr fun l _ => by rw [decide_eq_decide]; exact h l
theorem ordL_of {ls ms : List Nat} (hs : ls.Pairwise (· < ·)) (h : ∀ l, l ∈ ls ↔ l ∈ ms) (b : ∀ l ∈ ls, l < 123) : ordL ms = ls := by
  refine List.Perm.eq_of_pairwise (le := (· < ·)) (fun a b _ _ h1 h2 => absurd h1 (Nat.lt_asymm h2)) ordL_lt hs ?_
  exact (List.perm_ext_iff_of_nodup ordL_nd (hs.imp fun h => Nat.ne_of_lt h)).mpr fun l => by
    rw [mem_ordL, h l]
    exact ⟨fun z => z.2, fun z => ⟨b l ((h l).mpr z), z⟩⟩
theorem lt_cps {a b : Nat} : ltCps (lt a).cps.toList (lt b).cps.toList = decide (a < b) := by
  show ltCps [a] [b] = _
  by_cases h : a < b
  · simp [ltCps, h]
  · by_cases h2 : a = b
    · subst h2; simp [ltCps]
    · simp [ltCps, h, h2]
theorem rising_lets : ∀ {us : List Nat} {p : Nat}, risingS (lt p) (us.map lt) = true → (p :: us).Pairwise (· ≤ ·)
  | [], p, _ => List.pairwise_cons.mpr ⟨(fun _ h => nomatch h), List.Pairwise.nil⟩
  | x :: us, p, h => by
    have h : (!ltCps (lt x).cps.toList (lt p).cps.toList && risingS (lt x) (us.map lt)) = true := h
    rw [lt_cps, Bool.and_eq_true] at h
    have h2 := rising_lets h.2
    have h1 : p ≤ x := by
      have := h.1
      simp at this
      exact this
    refine List.pairwise_cons.mpr ⟨fun y hy => ?_, h2⟩
    rcases List.mem_cons.mp hy with z | z
    · rw [z]; exact h1
    · exact Nat.le_trans h1 ((List.pairwise_cons.mp h2).1 y z)
theorem sorted_lets : ∀ {us : List Nat}, sortedS (us.map lt) = true → us.Pairwise (· ≤ ·)
  | [], _ => .nil
  | _ :: _, h => rising_lets h
/-- a sorted list of letters, each once -/
theorem lets_eq {ys : List Str} {ls : List Nat} (nd : ys.Nodup) (mem : ∀ x, x ∈ ys ↔ x ∈ ls.map lt) (so : sortedS ys = true) (b : ∀ l ∈ ls, l < 123) : ys = (ordL ls).map lt := by
  obtain ⟨us, rfl⟩ : ∃ us : List Nat, ys = us.map lt := by
    have : ∀ zs : List Str, (∀ x ∈ zs, x ∈ ls.map lt) → ∃ us : List Nat, zs = us.map lt := by
      intro zs
      induction zs with
      | nil => exact fun _ => ⟨[], rfl⟩
      | cons z zs ih =>
        intro h
        obtain ⟨u, _, e⟩ := List.mem_map.mp (h z List.mem_cons_self)
        obtain ⟨us, e2⟩ := ih fun x hx => h x (List.mem_cons_of_mem _ hx)
        exact ⟨u :: us, by rw [List.map_cons, e, ← e2]⟩
    exact this ys fun x hx => (mem x).mp hx
  have mem' : ∀ l, l ∈ us ↔ l ∈ ls := fun l => by
    have := mem (lt l)
    rw [List.mem_map, List.mem_map] at this
    constructor
    · intro h
      obtain ⟨m, hm, e⟩ := this.mp ⟨l, h, rfl⟩
      rw [← lt_inj e]; exact hm
    · intro h
      obtain ⟨m, hm, e⟩ := this.mpr ⟨l, h, rfl⟩
      rw [← lt_inj e]; exact hm
  have nd' : us.Nodup := nodup_of_map nd
  have so' : us.Pairwise (· < ·) := (List.pairwise_and_iff.mpr ⟨sorted_lets so, nd'⟩).imp fun ⟨h1, h2⟩ => Nat.lt_of_le_of_ne h1 h2
  rw [ordL_of so' mem' fun l hl => b l ((mem' l).mp hl)]
section
variable {X : Cx} {c : Fm} {δ : List Cell} {e : Expr} {A : D → Prop}
theorem pxs_one (h : PX X c δ e A) (hs : starEach [e] X.env = (false, eval e X.env) :: starEach [] X.env := by rfl) : PXs X c δ [e] (fun l => ∃ d, A d ∧ l = [d]) :=
  PXs.mono (pxs_cons h pvs_nil hs) fun l ⟨d, r, e, a, z⟩ => ⟨d, a, by rw [e, z]⟩
end
section
variable {X : Cx} (T : Tx X.K X.mg) {c : Fm} {δ : List Cell} {a : Expr} {pos p : Pos} {j : Nat} {d : D} {ds : List D}
include T
theorem v_setF (hr : Room j X.A) (h : PX X c δ a (fun x => (x = .lst ds ∨ x = .tup ds))) (few : ds.length < 63) (fl : ∀ d ∈ ds, Flat1 d) (hc : X.calm = true := by rfl) (hs : starEach [a] X.env = (false, eval a X.env) :: starEach [] X.env := by rfl) (hg : Gl X "set" := by rfl) (hpl : (backTo pos (starEach [] X.env)).any (·.1) = false := by rfl) : PX X c δ (.Call (.Name "set" p) [a] [] pos) (IsSet ds) :=
  px_cT (As := fun l => ∃ x, (x = .lst ds ∨ x = .tup ds) ∧ l = [x]) (cr_setF hc (by have := Room.big hr; omega)) T.n_set bb_set (pxs_one h hs) (fun l ⟨x, hx, e⟩ => by subst e; exact l_setF hx few fl) hg (by decide) (by decide) hs hpl
theorem v_setN (hr : Room j X.A) (h : PX X c δ a (fun x => (x = .lst ds ∨ x = .tup ds))) (few : ds.length < 63) (fl : ∀ d ∈ ds, Nd d 8 ∧ ∃ l, d = .tup l) (hc : X.calm = true := by rfl) (hs : starEach [a] X.env = (false, eval a X.env) :: starEach [] X.env := by rfl) (hg : Gl X "set" := by rfl) (hpl : (backTo pos (starEach [] X.env)).any (·.1) = false := by rfl) : PX X c δ (.Call (.Name "set" p) [a] [] pos) (IsSet ds) :=
  px_cT (As := fun l => ∃ x, (x = .lst ds ∨ x = .tup ds) ∧ l = [x]) (cr_setN hc (by have := Room.big hr; omega)) T.n_set bb_set (pxs_one h hs) (fun l ⟨x, hx, e⟩ => by subst e; exact l_setN hx few fl) hg (by decide) (by decide) hs hpl
theorem v_lenSet (h : PX X c δ a (IsSet ds)) (hs : starEach [a] X.env = (false, eval a X.env) :: starEach [] X.env := by rfl) (hg : Gl X "len" := by rfl) (hpl : (backTo pos (starEach [] X.env)).any (·.1) = false := by rfl) : PX X c δ (.Call (.Name "len" p) [a] [] pos) (fun x => ∃ l : List D, SetOf l ds ∧ x = .int l.length) :=
  px_cB (As := fun m => ∃ d, IsSet ds d ∧ m = [d]) cr_lenSet T.n_len bb_len (pxs_one h hs) (fun m ⟨d, ⟨l, e1, hl⟩, e⟩ => by subst e1; subst e; exact fun vs H Q b a w => l_lenSet vs H Q b a fun v H' d q r => w v H' d ⟨l, hl, q⟩ r) hg (by decide) (by decide) hs hpl
/-- sorted(a set of letters) -/
theorem n_sortLets {ls : List Nat} (h : PX X c δ a (IsSet (ls.map dLet))) (b : ∀ l ∈ ls, l < 123) (hc : X.calm = true := by rfl) (hs : starEach [a] X.env = (false, eval a X.env) :: starEach [] X.env := by rfl) (hg : Gl X "sorted" := by rfl) (hpl : (backTo pos (starEach [] X.env)).any (·.1) = false := by rfl) : PN X c δ (.Call (.Name "sorted" p) [a] [] pos) (· = (ordL ls).map dLet) :=
  pn_cB (As := fun m => ∃ d, IsSet (ls.map dLet) d ∧ m = [d]) (cr_sortS hc) T.n_sorted bb_sorted (pxs_one h hs) (fun m ⟨d, q, e⟩ => by
    subst e
    obtain ⟨l, rfl, h1, h2⟩ := q
    obtain ⟨zs, rfl⟩ : ∃ zs : List Str, l = zs.map D.txt := by
      have : ∀ l : List D, (∀ x ∈ l, x ∈ ls.map dLet) → ∃ zs : List Str, l = zs.map D.txt := by
        intro l
        induction l with
        | nil => exact fun _ => ⟨[], rfl⟩
        | cons z l ih =>
          intro h
          obtain ⟨u, _, e⟩ := List.mem_map.mp (h z List.mem_cons_self)
          obtain ⟨us, e2⟩ := ih fun x hx => h x (List.mem_cons_of_mem _ hx)
          exact ⟨lt u :: us, by rw [List.map_cons, ← e, ← e2]⟩
      exact this l fun x hx => (h2 x).mp hx
    have hz : ∀ x, x ∈ zs ↔ x ∈ ls.map lt := fun x => by
      have := h2 (.txt x)
      rw [List.mem_map, List.mem_map] at this
      rw [List.mem_map]
      constructor
      · intro m
        obtain ⟨u, hu, e⟩ := this.mp ⟨x, m, rfl⟩
        injection e with e
        exact ⟨u, hu, e⟩
      · rintro ⟨u, hu, e⟩
        obtain ⟨y, hy, e2⟩ := this.mpr ⟨u, hu, by rw [← e]⟩
        injection e2 with e2
        rw [← e2]; exact hy
    exact fun vs H Q bs a w => ln_sortS vs H Q bs a fun a H' xs ds so => w a H' xs ds (by
      obtain ⟨ys, rfl, py, sy⟩ := so
      have := lets_eq (ls := ls) (py.nodup_iff.mpr (nodup_of_map h1)) (fun x => by rw [py.mem_iff]; exact hz x) sy b
      rw [this, List.map_map]
      rfl)) hg (by decide) (by decide) hs hpl
/-- sorted(a dict of letters) -/
theorem n_sortDL {ls : List Nat} {l : List D} (h : PV X c δ a (.dct (ls.map lt) l)) (nd : ls.Nodup) (few : ls.length < 64) (b : ∀ l ∈ ls, l < 123) (hc : X.calm = true := by rfl) (hs : starEach [a] X.env = (false, eval a X.env) :: starEach [] X.env := by rfl) (hg : Gl X "sorted" := by rfl) (hpl : (backTo pos (starEach [] X.env)).any (·.1) = false := by rfl) : PN X c δ (.Call (.Name "sorted" p) [a] [] pos) (· = (ordL ls).map dLet) :=
  (n_sortD T h (by rw [List.length_map]; exact few) hc hs hg hpl).mono fun m so => by
    obtain ⟨ys, rfl, py, sy⟩ := so
    have := lets_eq (ls := ls) (py.nodup_iff.mpr (List.Pairwise.map lt (fun _ _ h e => h (lt_inj e)) nd)) (fun x => by rw [py.mem_iff]) sy b
    rw [this, List.map_map]
    rfl
end
end G81
set_option maxRecDepth 100000
set_option maxHeartbeats 2000000
/-! rules -/
namespace G81
open PySem PySem.Spec PyProof.Rows L2 SlX
open SX (S)
variable {P : Program} {w : World} {K : PySem.W.Frag} {mg : Str → Option Value} {base : Heap}
theorem txt_num {n : Nat} (h : n < 10) : Str.ofString (toString ((n : Nat) : Int)) = S [48 + n] := by
  rw [SX.num_S]
  have key : ∀ n, n < 10 → TL.numL n = [48 + n] := by decide +kernel
  rw [key n h]
theorem len_item (p : It2) : (itemC p).length = 2 := rfl
theorem item_cat {p : It2} (h : p.2 < 10) : cats Str.empty [lt p.1, Str.ofString (toString ((p.2 : Nat) : Int))] = S (itemC p) := by
  rw [txt_num h]
  show Str.empty ++ lt p.1 ++ S [48 + p.2] = S [p.1, 48 + p.2]
  rw [show Str.empty = S [] from rfl, show lt p.1 = S [p.1] from rfl, SX.S_cat, SX.S_cat]
  rfl
theorem row_join (r : Row) : Txt.join (S [32]) (r.map fun p => S (itemC p)) = S (rowC r) := by
  rw [show (r.map fun p => S (itemC p)) = (r.map itemC).map S by rw [List.map_map]; rfl, SX.join_S]
  rfl
theorem sum_two : ∀ r : Row, ((r.map fun p => S (itemC p)).map (·.length)).sum = 2 * r.length
  | [] => rfl
  | p :: r => by
    rw [List.map_cons, List.map_cons, List.sum_cons, sum_two r, SX.S_len, len_item, List.length_cons]
    omega
theorem log_small {n : Nat} (h : n < 10) : ((n : Nat) : Int).natAbs.log2 < 1920 := by
  have : ∀ n, n < 10 → ((n : Nat) : Int).natAbs.log2 < 1920 := by decide +kernel
  exact this n h
theorem sc30 : FnScope ["items", "letter", "turn"] ["items"] (defScope (topS 30)) := ⟨rfl, rfl, rfl, by decide +kernel, rfl, by decide +kernel, by decide +kernel⟩
def r_row_text : RD := fun ds P => ∃ r : Row, ds = [dRow r] ∧ (∀ p ∈ r, p.2 < 10) ∧ r.length ≤ 1000 ∧ P = Is (.txt (S (rowC r)))
theorem catsOk_two {a b : Str} (h : a.length + b.length ≤ 1000) : catsOk Str.empty [a, b] := by
  have e : ∀ x y : Str, (x ++ y).length = x.length + y.length := fun x y => by
    show (x.cps ++ y.cps).size = _
    rw [Array.size_append]
    rfl
  refine ⟨?_, ?_, trivial⟩
  · rw [e]; exact Nat.le_trans (show 0 + a.length ≤ 1000 by omega) (by decide)
  · rw [e, e]; exact Nat.le_trans (show 0 + a.length + b.length ≤ 1000 by omega) (by decide)
theorem w_row_text (T : Tx K mg) : Cal P w K mg base 1 "row_text" r_row_text :=
  calD T.d_row_text sc30 (by rintro ds P ⟨r, rfl, _⟩; rfl) fun cdv A outer s H E hr c ds Pd hR => by
    have nd := sc30.nd
    obtain ⟨r, rfl, h10, hlen, rfl⟩ := hR
    refine pb_ret .refl (pv_eq (pv_join (ys := r.map fun p => S (itemC p)) pv_str (pv_eq (pv_n (lcP (f := fun p => D.txt (S (itemC p))) 1 2 [("letter", 1), ("turn", 2)] (pix_tupv (pvv 0)) (fun _ _ => rfl) (fun _ _ _ _ _ x _ hx =>
      pv_eq (pv_joined (.cons (pv_fmtT (pvv 1) (by show 1 ≤ sizeLine; decide)) (.cons (pv_fmtI (pvv 2) (log_small (h10 x hx))) .nil)) (by
        rw [txt_num (h10 x hx)]
        exact catsOk_two (by show 1 + 1 ≤ 1000; decide))) (by rw [item_cat (h10 x hx)])) nd)) (by rw [List.map_map]; rfl)) (by
      rw [sum_two, List.length_map]
      show 2 * r.length + r.length * 1 ≤ _
      omega)) (by rw [← row_join]; rfl)) fun _ h => h
end G81
set_option maxRecDepth 100000
set_option maxHeartbeats 2000000
/-! self.f, self.g = a, b -/
namespace G81
open PySem PySem.Spec PyProof.Rows L2 SlX
def gSlot (K : PySem.W.Frag) (ta : TE) (f : Str) : TG := fun v σ H Q => ta σ H fun x H2 => ∃ a C dx p vs i, x = .ref a ∧ Slt H2 a C dx vs ∧ SCls K C ∧ Slot1 K C f p i ∧ Q σ (slH H2 a C dx (putS i v vs))
section
variable {X : Cx} {o : Expr} {f : Str} {pos : Pos} {ta : TE}
theorem pg_slot (ha : PE X o ta) : PG X (.Attribute o f pos) (gSlot X.K ta f) := ⟨fun pins s σ H v u Q I r h => PySem.W.kas_attr (thn (ha.run pins s σ H _ I h) fun ov s2 ⟨x, H2, I2, rx, a, C, dx, p, vs, i, ex, hsl, c, t, q⟩ => by
  subst ex
  obtain rfl : ov = Value.ref a := rx
  exact setslot_ok I2 hsl c t r fun s3 I3 => ⟨σ, _, I3, q⟩)⟩
end
section
variable {X : Cx} {c : Fm} {δ : List Cell} {rest : List Stmt} {w : Wi} {pos pos1 pos2 : Pos} {a b : Expr} {f1 f2 : Str} {l dx : Addr} {C p1 p2 : Addr} {ss : List (Option D)} {n1 n2 : Nat} {d1 d2 : D}
theorem pb_slot2 {z : Str} {zp zp2 pt pt2 : Pos} {kt k2 : Nat} (j : Nat) (c' : SCls X.K C) (t1 : Slot1 X.K C f1 p1 n1) (t2 : Slot1 X.K C f2 p2 n2) (hd : δ[j]? = some (.slf l dx C ss)) (h1 : PV X c δ a d1) (h2 : PV X c δ b d2) (off1 : offAll l (δ.set j .no)) (off2 : offAll dx (δ.set j .no))
    (q : PB X c (δ.set j (.slf l dx C (fillS n2 d2 (fillS n1 d1 ss)))) rest w)
    (hN : X.N[j]? = some z := by rfl) (hv : Vis X.env.scope z := by first | exact Or.inl rfl | exact Or.inr (Or.inl rfl) | exact Or.inr (Or.inr rfl)) (g1 : (z == ("__debug__" : Str)) = false := by decide) (g2 : (z == ("__classdict__" : Str)) = false := by decide) (hc : X.calm = true := by rfl)
    (hs : swapsWithSole [.Tuple [.Attribute (.Name z zp) f1 pos1, .Attribute (.Name z zp2) f2 pos2] kt pt] (.Tuple [a, b] k2 pt2) pos.line X.env = pure false := by rfl) (hw : swappedStores [.Tuple [.Attribute (.Name z zp) f1 pos1, .Attribute (.Name z zp2) f2 pos2] kt pt] (.Tuple [a, b] k2 pt2) X.env = pure none := by rfl)
    (e1 : (assignEach [Expr.Tuple [.Attribute (.Name z zp) f1 pos1, .Attribute (.Name z zp2) f2 pos2] kt pt] X.env).map (·.2) = [assign (.Tuple [.Attribute (.Name z zp) f1 pos1, .Attribute (.Name z zp2) f2 pos2] kt pt) X.env] := by rfl)
    (e2 : (assignEach [Expr.Attribute (.Name z zp) f1 pos1, .Attribute (.Name z zp2) f2 pos2] X.env).map (·.2) = assign (.Attribute (.Name z zp) f1 pos1) X.env :: (assignEach [Expr.Attribute (.Name z zp2) f2 pos2] X.env).map (·.2) := by rfl)
    (e3 : (assignEach [Expr.Attribute (.Name z zp2) f2 pos2] X.env).map (·.2) = assign (.Attribute (.Name z zp2) f2 pos2) X.env :: (assignEach [] X.env).map (·.2) := by rfl)
    (hn : (assignEach [Expr.Attribute (.Name z zp) f1 pos1, .Attribute (.Name z zp2) f2 pos2] X.env).length = 2 := by rfl) (hst : (assignEach [Expr.Attribute (.Name z zp) f1 pos1, .Attribute (.Name z zp2) f2 pos2] X.env).findIdx? (·.1) = none := by rfl)
    (s1 : starEach [a, b] X.env = (false, eval a X.env) :: starEach [b] X.env := by rfl) (s2 : starEach [b] X.env = (false, eval b X.env) :: starEach [] X.env := by rfl) :
    PB X c δ (.Assign [.Tuple [.Attribute (.Name z zp) f1 pos1, .Attribute (.Name z zp2) f2 pos2] kt pt] (.Tuple [a, b] k2 pt2) pos :: rest) w := by
  have hi := (List.getElem?_eq_some_iff.mp hd).1
  refine PSs.mono (pss_cons (ps_asg (pe_tup (pvs_cons h1 (pvs_cons h2 pvs_nil s2) s1)) (pg_tup hc (pgs_cons (pg_slot (pe_slf (pe_slot j hN hv g1 g2))) (pgs_cons (pg_slot (pe_slf (pe_slot j hN hv g1 g2))) pgs_nil e3) e2) hn hst) hs hw e1) q) fun D σ H tb => ⟨tb.1, fun vs H1 d pd r av => ⟨by
    cases (show d = _ from pd)
    rw [av.length]
    show 2 ≤ sizeLine
    decide, fun p hp => ?_⟩⟩
  cases (show d = _ from pd)
  obtain ⟨v1, v2, rfl, a1, a2⟩ := av.two_
  have ev1 := (tb.1.rl r).rl (Rl.new (o := .tup [v1, v2]) hp)
  have rT : Rl c.E c.O H (upd H1 p (.tup [v1, v2])) := (r.trans0 (Rl.new hp)).wide
  have b0 := (tb.1.rl r).bs.toBw
  have a1' : At (kw X) c (upd H1 p (.tup [v1, v2])) d1 v1 := a1.rl b0 (Rl.new hp)
  have a2' : At (kw X) c (upd H1 p (.tup [v1, v2])) d2 v2 := a2.rl b0 (Rl.new hp)
  refine ⟨p, [v1, v2], rfl, SqT.of upd_same, rfl, v1, [v2], rfl, ?_⟩
  obtain ⟨y, e0, ey, m1, m2, xs, hsl, ho, hx⟩ := ev1.at_ j _ hd
  subst ey
  refine ⟨.ref l, e0, fun own => ⟨l, C, dx, p1, xs, n1, rfl, hsl, c', t1, v2, [], rfl, ?_⟩⟩
  obtain ⟨ne, hO⟩ := own _ _ _ _ hsl
  have ev2 := ev_slf ev1 hd e0 m1 m2 hsl ne hO hx a1' off1 off2 (n := n1)
  have r2 := slH_rl (E := c.E) (O := c.O) (vs' := putS n1 v1 xs) m1 m2 hsl hO
  obtain ⟨y2, f0, fy, _, _, xs2, hsl2, ho2, hx2⟩ := ev2.at_ j _ (List.getElem?_set_self hi)
  subst fy
  refine ⟨.ref l, f0, fun own2 => ⟨l, C, dx, p2, xs2, n2, rfl, hsl2, c', t2, rfl, ?_⟩⟩
  obtain ⟨ne2, hO2⟩ := own2 _ _ _ _ hsl2
  have off1' : offAll l ((δ.set j (.slf l dx C (fillS n1 d1 ss))).set j .no) := by rw [List.set_set]; exact off1
  have off2' : offAll dx ((δ.set j (.slf l dx C (fillS n1 d1 ss))).set j .no) := by rw [List.set_set]; exact off2
  have ev3 := ev_slf ev2 (List.getElem?_set_self hi) f0 m1 m2 hsl2 ne2 hO2 hx2 (a2'.rl ev1.bs.toBw r2) off1' off2' (n := n2)
  rw [List.set_set] at ev3
  exact tB_own tb (Rl.trans tb.1.oe (Rl.trans tb.1.oe rT r2) (slH_rl m1 m2 hsl2 hO2)) ev3
end
end G81
set_option maxRecDepth 100000
set_option maxHeartbeats 2000000
/-! rules made -/
namespace G81
open PySem PySem.Spec PyProof.Rows L2 SlX
open SX (S)
section
variable {X : Cx} {c : Fm} {δ : List Cell} {a b : Expr} {pos p : Pos} {j n : Nat} {C g : Addr} {l m : List D} {R : RD} {i : Int}
theorem v_lenO (T : Tx X.K X.mg) (mt : Meth X.K C "__len__" g) (F : FnR X.prog X.w X.K X.mg X.base CX0 n g (spD (kw X) R)) (hr : Room j X.A) (hk : n + 1 ≤ j) (h : PV X c δ a (.obj C l)) (hR : R [.obj C l] (Is (.int i))) (h0 : 0 ≤ i) (h1 : i < 2 ^ 63)
    (hs : starEach [a] X.env = (false, eval a X.env) :: starEach [] X.env := by rfl) (hg : Gl X "len" := by rfl) (hpl : (backTo pos (starEach [] X.env)).any (·.1) = false := by rfl) : PV X c δ (.Call (.Name "len" p) [a] [] pos) (.int i) :=
  pv_cB (call_lenSl mt.at_ mt.fn F (hr.mono hk)) T.n_len bb_len (pvs_cons h pvs_nil hs) (l_lenSl hR h0 h1) hg (by decide) (by decide) hs hpl
theorem v_eqO {q : Bool} (mt : Meth X.K C "__eq__" g) (F : FnR X.prog X.w X.K X.mg X.base CX0 n g (spD (kw X) R)) (hr : Room j X.A) (hk : n ≤ j) (h : PV X c δ a (.obj C l)) (h2 : PV X c δ b (.obj C m)) (hR : R [.obj C l, .obj C m] (Is (.bl q)))
    (hm : behindInMarks .Eq b = false := by first | exact nomark _ | rfl | with_unfolding_all rfl) : PV X c δ (.Compare a [.Eq] [b] pos) (.bl q) :=
  PX.mono (pv_cmp (op_eqSl mt.at_ mt.fn F (hr.mono hk)) h h2 (l_eqSl (neg := false) hR) hm) fun _ e => e
theorem v_neO {q : Bool} (mt : Meth X.K C "__eq__" g) (ne : PySem.W.findIn X.K (.ref C) "__ne__" = some (some (.builtin "object.__ne__"))) (ob : PySem.W.mroIn X.K C (.type "object") = some true) (F : FnR X.prog X.w X.K X.mg X.base CX0 n g (spD (kw X) R)) (hr : Room j X.A) (hk : n + 1 ≤ j) (h : PV X c δ a (.obj C l)) (h2 : PV X c δ b (.obj C m)) (hR : R [.obj C l, .obj C m] (Is (.bl q)))
    (hm : behindInMarks .NotEq b = false := by first | exact nomark _ | rfl | with_unfolding_all rfl) : PV X c δ (.Compare a [.NotEq] [b] pos) (.bl (!q)) :=
  PX.mono (pv_cmp (op_neSl mt.at_ ne ob mt.fn F (hr.mono hk)) h h2 (l_eqSl (neg := true) hR) hm) fun _ e => e
end
section
variable {X : Cx} {c : Fm} {δ : List Cell} {e : Expr} {f : Str} {pos : Pos} {C g pr : Addr} {l : List D} {j k : Nat} {P : D → Prop} {R : RD}
theorem v_prop (he : PV X c δ e (.obj C l)) (c' : SCls X.K C) (t : Prop1 X.K C f pr g) (F : FnR X.prog X.w X.K X.mg X.base CX0 k g (spD (kw X) R)) (hr : Room j X.A) (hk : k + 1 ≤ j) (hR : R [.obj C l] P) (hb : attributeBase e f X.env (eval e X.env) = eval e X.env := by rfl) : PX X c δ (.Attribute e f pos) P :=
  px_prop he c' t F hr hk (fun d e => ⟨l, e⟩) (fun d e => by rw [show d = _ from e]; exact hR) hb
end
theorem pb_end {X : Cx} {c rc : Fm} {δ : List Cell} {N : List Cell → Prop} {R : D → Prop} {B : List Cell → Prop} (h : N δ) : PB X c δ [] { c := c, N := N, R := R, B := B, rc := rc } := pb_nil (w := { c := c, N := N, R := R, B := B, rc := rc }) h
/-! where a row leads -/
def ptsOf (sq : Bool) : Int × Int → Row → List (Int × Int)
  | p, [] => [p]
  | p, x :: r => p :: ptsOf sq (padd p (uat sq x.2)) r
theorem end_snoc {sq : Bool} {x : It2} : ∀ (r : Row) (p : Int × Int), endOf sq p (r ++ [x]) = padd (endOf sq p r) (uat sq x.2)
  | [], _ => rfl
  | _ :: r, p => end_snoc r _
theorem pts_snoc {sq : Bool} {x : It2} : ∀ (r : Row) (p : Int × Int), ptsOf sq p (r ++ [x]) = ptsOf sq p r ++ [padd (endOf sq p r) (uat sq x.2)]
  | [], _ => rfl
  | y :: r, p => by
    show p :: ptsOf sq _ (r ++ [x]) = _
    rw [pts_snoc r]
    rfl
theorem starts_snoc {sq : Bool} {x : It2} : ∀ (r : Row) (p : Int × Int), startsOf sq p (r ++ [x]) = startsOf sq p r ++ [endOf sq p r]
  | [], _ => rfl
  | y :: r, p => by
    show p :: startsOf sq _ (r ++ [x]) = _
    rw [starts_snoc r]
    rfl
theorem pts_split {sq : Bool} : ∀ (r : Row) (p : Int × Int), ptsOf sq p r = startsOf sq p r ++ [endOf sq p r]
  | [], _ => rfl
  | y :: r, p => by
    show p :: ptsOf sq _ r = _
    rw [pts_split r]
    rfl
theorem pts_len {sq : Bool} : ∀ (r : Row) (p : Int × Int), (ptsOf sq p r).length = r.length + 1
  | [], _ => rfl
  | y :: r, p => by
    show (ptsOf sq _ r).length + 1 = _
    rw [pts_len r]
    rfl
theorem atI_nat {α : Type} {l : List α} {i : Nat} {x : α} (h : l[i]? = some x) : atI l ((i : Nat) : Int) = some x := by
  have hi := (List.getElem?_eq_some_iff.mp h).1
  unfold atI ixN
  rw [if_pos (by omega), if_pos (by omega)]
  exact h
theorem atI_last {α : Type} {l : List α} {x : α} : atI (l ++ [x]) (-1) = some x := by
  unfold atI ixN
  rw [if_neg (by omega), if_pos (by rw [List.length_append, List.length_singleton]; omega)]
  have e : (-1 + (((l ++ [x]).length : Nat) : Int)).toNat = l.length := by rw [List.length_append, List.length_singleton]; omega
  show (l ++ [x])[(-1 + (((l ++ [x]).length : Nat) : Int)).toNat]? = _
  rw [e, List.getElem?_append_right (Nat.le_refl _), Nat.sub_self]
  rfl
theorem units_at {sq : Bool} {t : Nat} (h : t < ar sq) : atI ((units sq).map dPt) ((t : Nat) : Int) = some (dPt (uat sq t)) := by
  refine atI_nat ?_
  rw [← units_len] at h
  unfold uat
  rw [List.getElem?_map, List.getD_eq_getElem?_getD, List.getElem?_eq_getElem h]
  rfl
theorem cut_last (l : List D) (x : D) : cutD (l ++ [x]) none (some (-1)) = l := by
  unfold cutD
  have e1 : HT.sIx (l ++ [x]).length 0 none = 0 := rfl
  have e2 : HT.sIx (l ++ [x]).length (l ++ [x]).length (some (-1)) = l.length := by
    rw [List.length_append, List.length_singleton]
    unfold HT.sIx
    simp
    try omega
  rw [e1, e2, List.drop_zero, Nat.sub_zero, List.take_append_of_le_length (Nat.le_refl _), List.take_length]
theorem starts_len {sq : Bool} : ∀ (r : Row) (p : Int × Int), (startsOf sq p r).length = r.length
  | [], _ => rfl
  | _ :: r, p => congrArg (· + 1) (starts_len r _)
/-! Rule(grid, items) -/
theorem scRi : FnScope ["self", "grid", "items", "points", "letter", "turn", "unit"] ["self", "grid", "items"] (defScope (inClass (topS 31) 1)) := ⟨rfl, rfl, rfl, by decide +kernel, rfl, by decide +kernel, by decide +kernel⟩
def r_Rule_init (K : PySem.W.Frag) : RI := fun ds P => ∃ (sq : Bool) (r : Row), ds = [dGrid K sq, dRow r] ∧ OkRow (ar sq) 2 r ∧ P = (· = [dPt (endOf sq (0, 0) r), dGrid K sq, dRow r, .tup ((startsOf sq (0, 0) r).map dPt)])
theorem ar_le (sq : Bool) : ar sq ≤ 6 := by cases sq <;> decide
section
variable {P : Program} {w : World} {K : PySem.W.Frag} {mg : Str → Option Value} {base : Heap}
theorem k_Rule (T : Tx K mg) : Mak P w K mg base 6 "Rule" (cR K) (r_Rule_init K) := by
  obtain ⟨fd, F, b⟩ := T.d_Rule_init
  refine ⟨_, fd, _, T.k_Rule, inD (N := ["self", "grid", "items", "points", "letter", "turn", "unit"]) F scRi (by rintro ds P ⟨n, r, rfl, _⟩; rfl) ?_, T.g_Rule, b⟩
  intro cdv A outer s H E hr c a dx ds Pd hO h1 h2 h3 fk hR
  have nd := scRi.nd
  obtain ⟨sq, r, rfl, ok, rfl⟩ := hR
  have c1 := T.c_Rule.1
  refine pb_expr (pv_call (w_require_grid T) hr (by decide) rfl (pvs_cons (pvv 1) pvs_nil) ⟨sq, rfl, rfl⟩) ?_
  refine pb_ifRet (ptv_not (ptv_val (pv_call (w_is_row_of T) hr (by decide) rfl (pvs_cons (v_lenO T T.m_Grid_len (w_Grid_len T) hr (by decide) (pvv 1) ⟨sq, rfl, rfl⟩ (Int.natCast_nonneg _) (by cases sq <;> decide)) (pvs_cons (pvv 2) (pvs_cons (pv_gI T.i_MIN_ITEMS) pvs_nil))) ⟨ar sq, r, 2, rfl, ar_le sq, ok, rfl⟩))) (fun h => nomatch h) fun _ => ?_
  refine pb_slot 0 (a := a) (dx := dx) (C := cR K) c1 T.sl_Rule_own_grid rfl (pvv 1) (by simp [offAll, startI, Cell.adr]) (by simp [offAll, startI, Cell.adr]) (fun d hd => ?_)
  cases (show d = _ from hd)
  refine pb_slot 0 (a := a) (dx := dx) (C := cR K) c1 T.sl_Rule_own_row rfl (pvv 2) (by simp [offAll, startI, Cell.adr]) (by simp [offAll, startI, Cell.adr]) (fun d hd => ?_)
  cases (show d = _ from hd)
  refine pb_setC 3 (cx_own (P := (· = [dPt (0, 0)])) (pvn_lst (pvs_cons (pv_tup (pvs_cons pv_int (pvs_cons pv_int pvs_nil))) pvs_nil))) (fun c' y sy => ?_) nd
  obtain ⟨fk1, l, ps, hl, rfl, rfl, rfl⟩ := sy
  have la : l ≠ a := fun e => hl (by rw [e]; exact List.mem_cons_self)
  have ld : l ≠ dx := fun e => hl (by rw [e]; exact List.mem_cons_of_mem _ List.mem_cons_self)
  refine pb_for (t := .pr 4 5) (emb := dIt) (xs := r) (fun i δ' => ∃ x y z : Cell, x.adr = [] ∧ y.adr = [] ∧ z.adr = [] ∧ δ' = [.slf a dx (cR K) [none, some (dGrid K sq), some (dRow r)], .d (dGrid K sq), .d (dRow r), .own l ((startsOf sq (0, 0) (r.take i)).map dPt ++ [dPt (endOf sq (0, 0) (r.take i))]), x, y, z]) PassesOwn.never rfl (pix_tupv (pvv 2)) (pgx_pr rfl nd rfl rfl (by first | exact Or.inl rfl | exact Or.inr rfl) (by first | exact Or.inl rfl | exact Or.inr rfl)) ⟨.no, .no, .no, rfl, rfl, rfl, rfl⟩ ?_ ?_
  · rintro i x δ' hx ⟨u, v, z, hu, hv, hz, rfl⟩
    refine ⟨_, rfl, ?_⟩
    have hin : x ∈ r := List.mem_of_getElem? hx
    have tk : r.take (i + 1) = r.take i ++ [x] := by rw [List.take_succ, hx]; rfl
    refine pv_set 6 nd rfl (.inl rfl) (pv_ix ix_tup (v_prop (pvv 1) T.c_Grid.1 T.p_Grid_units (w_Grid_units T) hr (by decide) ⟨sq, rfl, rfl⟩) (pvv 5) (l_ixT (units_at (ok.2 x hin).2))) ?_
    have off : offAll l ([.slf a dx (cR K) [none, some (dGrid K sq), some (dRow r)], .d (dGrid K sq), .d (dRow r), .no, .d (.txt (lt x.1)), .d (.int (x.2 : Nat)), .d (dPt (uat sq x.2))] : List Cell) := by simp [offAll, Cell.adr, la, ld]
    refine pb_app (P := Is (dPt (padd (endOf sq (0, 0) (r.take i)) (uat sq x.2)))) 3 rfl (pv_tup (pvs_cons (pv_op op_add (px_borrow 3 (c0 := c.two a dx) rfl fk1 hl rfl off (pv_ix ix_tup (pv_ix ix_list (pvv 3) (pv_un un_neg pv_int l_neg) (l_ixL atI_last)) pv_int (l_ixT rfl)) (fun d e => by rw [show d = _ from e]; trivial)) (pv_ix ix_tup (pvv 6) pv_int (l_ixT rfl)) l_int)
      (pvs_cons (pv_op op_add (px_borrow 3 (c0 := c.two a dx) rfl fk1 hl rfl off (pv_ix ix_tup (pv_ix ix_list (pvv 3) (pv_un un_neg pv_int l_neg) (l_ixL atI_last)) pv_int (l_ixT rfl)) (fun d e => by rw [show d = _ from e]; trivial)) (pv_ix ix_tup (pvv 6) pv_int (l_ixT rfl)) l_int) pvs_nil))) off ?_ fun d e => ?_
    · exact Nat.lt_of_le_of_lt (show _ ≤ 20 by rw [List.length_append, List.length_map, starts_len, List.length_take]; have := ok.1.2; simp; omega) (by decide)
    · cases (show d = _ from e)
      refine pb_end ⟨.d (.txt (lt x.1)), .d (.int (x.2 : Nat)), .d (dPt (uat sq x.2)), rfl, rfl, rfl, ?_⟩
      rw [tk, starts_snoc, end_snoc, List.map_append]
      rfl
  · rintro δ' ⟨u, v, z, hu, hv, hz, rfl⟩
    rw [List.take_length]
    refine pb_disown 3 fk1 hl rfl (by simp only [offAll, hu, hv, hz, List.set_cons_zero, List.set_cons_succ]; simp [Cell.adr, la, ld]) ?_
    refine pb_slot2 (d1 := .tup ((startsOf sq (0, 0) r).map dPt)) (l := a) (dx := dx) (C := cR K) 0 c1 T.sl_Rule_own_starts T.sl_Rule_own_end rfl (pv_eq (v_tupL T (pv_n (pn_slice (pvv 3) io_none (io_some (pv_un un_neg pv_int l_neg))))) ?_) (pv_ix ix_list (pvv 3) (pv_un un_neg pv_int l_neg) (l_ixL atI_last)) (by simp only [offAll, hu, hv, hz, List.set_cons_zero, List.set_cons_succ]; simp [Cell.adr]) (by simp only [offAll, hu, hv, hz, List.set_cons_zero, List.set_cons_succ]; simp [Cell.adr]) ?_
    · exact congrArg D.tup (cut_last _ _)
    · exact pb_nil (w := wI c a dx (cR K) _) ⟨_, rfl, rfl, by simp⟩
end
end G81
set_option maxRecDepth 100000
set_option maxHeartbeats 2000000
/-! what a rule answers -/
namespace G81
open PySem PySem.Spec PyProof.Rows L2 SlX
open SX (S)
section
variable {X : Cx} {c : Fm} {δ : List Cell} {elt iter : Expr} {scope : Scope} {pos : Pos} {α : Type} {emb : α → D} {xs : List α} {δ' : α → List Cell} {kf : α → Key} {x y : Str} {px py pt : Pos} {kk j0 : Nat}
/-- {e for x, y in ..}, {e for x in ..} -/
theorem skP {m : List D} (hr : Room j0 X.A) (i j : Nat) (own : List (Str × Nat)) (hi : PIX X c δ (.Tuple [.Name x px, .Name y py] kk pt) iter (· = xs.map emb)) (hp : ∀ x, x ∈ xs → (Tg.pr i j).put (emb x) (wipeD δ (own.map (·.2))) = some (δ' x))
    (he : ∀ (s : Shared) (H : Hp) (C : Addr) (cl : List (Str × Addr)) (fp : List Addr) (x : α) (D : Addr), x ∈ xs → PV (X.blk s H scope (compEnvC scope cl C X.env) fp) (c.add D) (δ' x) elt (kD (kf x))) (hN : X.N.Nodup) (few : xs.length < 63) (hm : (xs.map fun x => kD (kf x)) = m)
    (bo : BlkOk X.N X.env.scope scope own := by exact blkOk_by (by rfl)) (hg : ∀ (s : Shared) (H : Hp) (C : Addr) (cl : List (Str × Addr)) (fp : List Addr), PGX (X.blk s H scope (compEnvC scope cl C X.env) fp) (.Tuple [.Name x px, .Name y py] kk pt) (.pr i j) := by intros; exact pgx_pr rfl (by assumption) rfl rfl (by first | exact Or.inl rfl | exact Or.inr rfl) (by first | exact Or.inl rfl | exact Or.inr rfl))
    (hc : X.calm = true := by rfl) (hv : ∀ i' ∈ (Tg.pr i j).ix, i' ∈ own.map (·.2) := by decide) (hs : ∀ x, foldedSetIterable iter X.env x = pure x := by intro _; rfl) : PX X c δ (.SetComp elt [⟨.Tuple [.Name x px, .Name y py] kk pt, iter, [], 0⟩] scope pos) (IsSet m) :=
  hm ▸ px_sk (.pr i j) own hi hp bo hg he hN few (by have := Room.big hr; omega) hc hv hs
theorem skN {m : List D} (hr : Room j0 X.A) (i : Nat) (own : List (Str × Nat)) (hi : PIX X c δ (.Name x px) iter (· = xs.map emb)) (hp : ∀ x, x ∈ xs → (Tg.nm i).put (emb x) (wipeD δ (own.map (·.2))) = some (δ' x))
    (he : ∀ (s : Shared) (H : Hp) (C : Addr) (cl : List (Str × Addr)) (fp : List Addr) (x : α) (D : Addr), x ∈ xs → PV (X.blk s H scope (compEnvC scope cl C X.env) fp) (c.add D) (δ' x) elt (kD (kf x))) (hN : X.N.Nodup) (few : xs.length < 63) (hm : (xs.map fun x => kD (kf x)) = m)
    (bo : BlkOk X.N X.env.scope scope own := by exact blkOk_by (by rfl)) (hg : ∀ (s : Shared) (H : Hp) (C : Addr) (cl : List (Str × Addr)) (fp : List Addr), PGX (X.blk s H scope (compEnvC scope cl C X.env) fp) (.Name x px) (.nm i) := by intros; exact pgx_nm (by assumption) rfl (by first | exact Or.inl rfl | exact Or.inr rfl))
    (hc : X.calm = true := by rfl) (hv : ∀ i' ∈ (Tg.nm i).ix, i' ∈ own.map (·.2) := by decide) (hs : ∀ x, foldedSetIterable iter X.env x = pure x := by intro _; rfl) : PX X c δ (.SetComp elt [⟨.Name x px, iter, [], 0⟩] scope pos) (IsSet m) :=
  hm ▸ px_sk (.nm i) own hi hp bo hg he hN few (by have := Room.big hr; omega) hc hv hs
end
theorem ru {k n : Nat} {A : Around} (r : Room k A) (h : n ≤ 200 := by decide) : A.units + n < cLine := by have := r.un; omega
theorem bb_iter : bootBuiltins "iter" = some (.builtin "iter") := by decide +kernel
variable {P : Program} {w : World} {K : PySem.W.Frag} {mg : Str → Option Value} {base : Heap}
theorem scR1 {i : Nat} (h : i = 3 ∨ i = 4 ∨ i = 7 ∨ i = 16 ∨ i = 17) : FnScope ["self"] ["self"] (defScope (inClass (topS 31) i)) := by
  rcases h with h | h | h | h | h <;> subst h <;> exact ⟨rfl, rfl, rfl, by decide +kernel, rfl, by decide +kernel, by decide +kernel⟩
theorem scRl : FnScope ["self", "letter", "turn"] ["self"] (defScope (inClass (topS 31) 5)) := ⟨rfl, rfl, rfl, by decide +kernel, rfl, by decide +kernel, by decide +kernel⟩
theorem scRs : FnScope ["self", "direction", "turns", "letter", "turn"] ["self", "direction"] (defScope (inClass (topS 31) 8)) := ⟨rfl, rfl, rfl, by decide +kernel, rfl, by decide +kernel, by decide +kernel⟩
theorem scRe : FnScope ["self", "value"] ["self", "value"] (defScope (inClass (topS 31) 18)) := ⟨rfl, rfl, rfl, by decide +kernel, rfl, by decide +kernel, by decide +kernel⟩
theorem scRt : FnScope ["self", "letter", "turn"] ["self"] (defScope (inClass (topS 31) 19)) := ⟨rfl, rfl, rfl, by decide +kernel, rfl, by decide +kernel, by decide +kernel⟩
def r_Rule_grid (K : PySem.W.Frag) : RD := fun ds P => ∃ sq r, ds = [dRule K sq r] ∧ P = Is (dGrid K sq)
theorem w_Rule_grid (T : Tx K mg) : MR P w K mg base 1 ((Wh.prp "Rule" "grid").adr K) (r_Rule_grid K) :=
  met_of T.d_Rule_grid (scR1 (.inl rfl)) (by rintro ds P ⟨n, r, rfl, _⟩; rfl) fun cdv A outer s H E hr c ds Pd hR => by
    obtain ⟨sq, r, rfl, rfl⟩ := hR
    exact pb_ret .refl (px_slot T.c_Rule.1 T.sl_Rule_own_grid (pvv 0) rfl) fun _ h => h
def r_Rule_row (K : PySem.W.Frag) : RD := fun ds P => ∃ sq r, ds = [dRule K sq r] ∧ P = Is (dRow r)
theorem w_Rule_row (T : Tx K mg) : MR P w K mg base 1 ((Wh.prp "Rule" "row").adr K) (r_Rule_row K) :=
  met_of T.d_Rule_row (scR1 (.inr (.inl rfl))) (by rintro ds P ⟨n, r, rfl, _⟩; rfl) fun cdv A outer s H E hr c ds Pd hR => by
    obtain ⟨sq, r, rfl, rfl⟩ := hR
    exact pb_ret .refl (px_slot T.c_Rule.1 T.sl_Rule_own_row (pvv 0) rfl) fun _ h => h
def r_Rule_end (K : PySem.W.Frag) : RD := fun ds P => ∃ sq r, ds = [dRule K sq r] ∧ P = Is (dPt (endOf sq (0, 0) r))
theorem w_Rule_end (T : Tx K mg) : MR P w K mg base 1 ((Wh.prp "Rule" "end").adr K) (r_Rule_end K) :=
  met_of T.d_Rule_end (scR1 (.inr (.inr (.inl rfl)))) (by rintro ds P ⟨n, r, rfl, _⟩; rfl) fun cdv A outer s H E hr c ds Pd hR => by
    obtain ⟨sq, r, rfl, rfl⟩ := hR
    exact pb_ret .refl (px_slot T.c_Rule.1 T.sl_Rule_own_end (pvv 0) rfl) fun _ h => h
def r_Rule_len (K : PySem.W.Frag) : RD := fun ds P => ∃ sq r, ds = [dRule K sq r] ∧ P = Is (.int (r.length : Nat))
theorem w_Rule_len (T : Tx K mg) : MR P w K mg base 1 (He.ma K (He.ga K "Rule") "__len__") (r_Rule_len K) :=
  met_of T.d_Rule_len (scR1 (.inr (.inr (.inr (.inr rfl))))) (by rintro ds P ⟨n, r, rfl, _⟩; rfl) fun cdv A outer s H E hr c ds Pd hR => by
    obtain ⟨sq, r, rfl, rfl⟩ := hR
    exact pb_ret .refl (pv_eq (v_lenT T (px_slot T.c_Rule.1 T.sl_Rule_own_row (pvv 0) rfl)) (by rw [List.length_map])) fun _ h => h
def r_Rule_letters (K : PySem.W.Frag) : RD := fun ds P => ∃ (sq : Bool) (r : Row), ds = [dRule K sq r] ∧ (∀ p ∈ r, p.1 < 123) ∧ r.length < 63 ∧ P = Is (.tup ((ordL (r.map (·.1))).map dLet))
theorem w_Rule_letters (T : Tx K mg) : MR P w K mg base 1 ((Wh.prp "Rule" "letters").adr K) (r_Rule_letters K) :=
  met_of T.d_Rule_letters scRl (by rintro ds P ⟨n, r, rfl, _⟩; rfl) fun cdv A outer s H E hr c ds Pd hR => by
    have nd := scRl.nd
    obtain ⟨sq, r, rfl, hb, hl, rfl⟩ := hR
    exact pb_ret .refl (v_tupL T (pv_n (n_sortLets T (skP (kf := fun p : It2 => .inr (lt p.1)) hr 1 2 [("letter", 1), ("turn", 2)] (pix_tupv (px_slot T.c_Rule.1 T.sl_Rule_own_row (pvv 0) rfl)) (fun _ _ => rfl) (fun _ _ _ _ _ x _ hx => pvv 1) nd hl (by rw [List.map_map]; rfl))
      (fun l hl => by obtain ⟨p, hp, rfl⟩ := List.mem_map.mp hl; exact hb p hp)))) fun _ h => h
def turnRow (n d : Nat) (r : Row) : Row := r.map fun p => (p.1, (p.2 + d) % n)
def r_Rule_steps_in (K : PySem.W.Frag) : RD := fun ds P => ∃ (sq : Bool) (r : Row) (d : Nat), ds = [dRule K sq r, .int d] ∧ P = Is (dRow (turnRow (ar sq) d r))
theorem ar_pos (sq : Bool) : 0 < ar sq := by cases sq <;> decide
theorem ar_lt (sq : Bool) : ((ar sq : Nat) : Int) < 2 ^ 63 := by cases sq <;> decide
theorem w_Rule_steps_in (T : Tx K mg) : MR P w K mg base 3 (He.ma K (He.ga K "Rule") "steps_in") (r_Rule_steps_in K) :=
  met_of T.d_Rule_steps_in scRs (by rintro ds P ⟨n, r, d, rfl, _⟩; rfl) fun cdv A outer s H E hr c ds Pd hR => by
    have nd := scRs.nd
    obtain ⟨sq, r, d, rfl, rfl⟩ := hR
    refine pv_set 2 nd rfl (.inr rfl) (v_lenO T T.m_Grid_len (w_Grid_len T) hr (by decide) (px_slot T.c_Rule.1 T.sl_Rule_own_grid (pvv 0) rfl) ⟨sq, rfl, rfl⟩ (Int.natCast_nonneg _) (ar_lt sq)) ?_
    exact pb_ret .refl (v_tupL T (pv_eq (pv_n (lcP (f := fun p : It2 => dIt (p.1, (p.2 + d) % ar sq)) 3 4 [("letter", 3), ("turn", 4)] (pix_tupv (px_slot T.c_Rule.1 T.sl_Rule_own_row (pvv 0) rfl)) (fun _ _ => rfl) (fun _ _ _ _ _ x _ hx =>
      pv_tup (pvs_cons (pvv 3) (pvs_cons (pv_op op_mod (pv_op op_add (pvv 4) (pvv 1) l_int) (pvv 2) (l_intC (C := fun _ j => 0 < j) (Int.ofNat_lt.mpr (ar_pos sq)))) pvs_nil))) nd)) (by rw [turnRow, List.map_map]; rfl))) fun _ h => h
theorem lt_ok {l : Nat} (h : l < 123) : PyData.canLay0 (.str (lt l)) = true := by
  have : ∀ l, l < 123 → PyData.canLay0 (.str (lt l)) = true := by decide +kernel
  exact this l h
theorem dq_row {r : Row} (h : ∀ p ∈ r, p.1 < 123) : Dq (dRow r) 2 := by
  refine Dqs.all (n := 1) fun d hd => ?_
  obtain ⟨p, hp, rfl⟩ := List.mem_map.mp hd
  exact ⟨lt_ok (h p hp), trivial, trivial⟩
def r_Rule_eq (K : PySem.W.Frag) : RD := fun ds P => ∃ (sq : Bool) (r : Row), ds = [dRule K sq r, dRule K sq r] ∧ (∀ p ∈ r, p.1 < 123) ∧ P = Is (.bl true)
theorem w_Rule_eq (T : Tx K mg) : MR P w K mg base 3 (He.ma K (He.ga K "Rule") "__eq__") (r_Rule_eq K) :=
  met_of T.d_Rule_eq scRe (by rintro ds P ⟨n, r, rfl, _⟩; rfl) fun cdv A outer s H E hr c ds Pd hR => by
    obtain ⟨sq, r, rfl, hb, rfl⟩ := hR
    exact pb_ret .refl (pv_eq (pv_and (v_isO T (pvv 1) T.g_Rule T.c_Rule) fun _ => pv_and (v_eqO T.m_Grid_eq (w_Grid_eq T) hr (by decide) (px_slot T.c_Rule.1 T.sl_Rule_own_grid (pvv 0) rfl) (px_slot T.c_Rule.1 T.sl_Rule_own_grid (pvv 1) rfl) ⟨sq, rfl, rfl⟩) fun _ => pv_one
      (pv_cmp (op_eqD (ru hr)) (px_slot T.c_Rule.1 T.sl_Rule_own_row (pvv 0) rfl) (px_slot T.c_Rule.1 T.sl_Rule_own_row (pvv 1) rfl) (l_eqD (dq_row hb) (dq_row hb) (by decide) (by decide) fun b hb => by rw [hb.mpr rfl]; rfl))) rfl) fun _ h => h
def r_Rule_str (K : PySem.W.Frag) : RD := fun ds P => ∃ (sq : Bool) (r : Row), ds = [dRule K sq r] ∧ (∀ p ∈ r, p.2 < 10) ∧ r.length ≤ 1000 ∧ P = Is (.txt (S (rowC r)))
theorem w_Rule_str (T : Tx K mg) : MR P w K mg base 1 (He.ma K (He.ga K "Rule") "__str__") (r_Rule_str K) :=
  met_of T.d_Rule_str scRt (by rintro ds P ⟨sq, r, rfl, _⟩; rfl) fun cdv A outer s H E hr c ds Pd hR => by
    have nd := scRt.nd
    obtain ⟨sq, r, rfl, h10, hlen, rfl⟩ := hR
    refine pb_ret .refl (pv_eq (pv_join (ys := r.map fun p => S (itemC p)) pv_str (pv_eq (pv_n (lcP (f := fun p => D.txt (S (itemC p))) 1 2 [("letter", 1), ("turn", 2)] (pix_tupv (px_slot T.c_Rule.1 T.sl_Rule_own_row (pvv 0) rfl)) (fun _ _ => rfl) (fun _ _ _ _ _ x _ hx =>
      pv_eq (pv_joined (.cons (pv_fmtT (pvv 1) (by show 1 ≤ sizeLine; decide)) (.cons (pv_fmtI (pvv 2) (log_small (h10 x hx))) .nil)) (by
        rw [txt_num (h10 x hx)]
        exact catsOk_two (by show 1 + 1 ≤ 1000; decide))) (by rw [item_cat (h10 x hx)])) nd)) (by rw [List.map_map]; rfl)) (by
      rw [sum_two, List.length_map]
      show 2 * r.length + r.length * 1 ≤ _
      omega)) (by rw [← row_join]; rfl)) fun _ h => h
theorem w_Rule_iter (T : Tx K mg) : FnS P w K mg base CX0 1 (He.ma K (He.ga K "Rule") "__iter__") (spItT K (cR K) 2) := by
  obtain ⟨fd, F, b⟩ := T.d_Rule_iter
  refine fnS_of F b (scR1 (.inr (.inr (.inr (.inl rfl))))) (fun n vs H Q E h => by obtain ⟨a, dx, ss, t, zs, rfl, _⟩ := h; rfl) fun cdv A outer s H vs Q E hr h => ?_
  obtain ⟨a, dx, ss, t, zs, rfl, hs, hi, ht, q⟩ := h
  refine ⟨_, (pss_cons (ps_ret (pe_callB (call_iterT) (by rfl) T.n_iter bb_iter (pa_cons (pe_sl (pe_slot 0 rfl (.inl rfl) (by decide) (by decide))) pa_nil) (by decide) (by decide))) pss_never).nox, ?_⟩
  exact ⟨.ref a, rfl, a, cR K, dx, _, ss, 2, _, rfl, hs, T.c_Rule.1, T.sl_Rule_own_row, hi, t, zs, rfl, ht, fun it h1 h2 => q it h1 h2⟩
end G81
set_option maxRecDepth 100000
set_option maxHeartbeats 2000000
/-! parts of a scheme -/
namespace G81
open PySem PySem.Spec PyProof.Rows L2 SlX
open SX (S)
section
variable {X : Cx} {c : Fm} {δ : List Cell} {elt iter : Expr} {scope : Scope} {pos : Pos} {α : Type} {emb : α → D} {xs : List α} {δ' : α → List Cell} {x y z : Str} {px py pt pz spos : Pos} {kk : Nat} {rest : List Stmt} {w : Wi}
/-- z = [e for x, y in ..], z = [e for x in ..] -/
theorem setLcP {f : α → D} (i i1 j1 : Nat) (own : List (Str × Nat)) (hi : PIX X c δ (.Tuple [.Name x px, .Name y py] kk pt) iter (· = xs.map emb)) (hp : ∀ x, x ∈ xs → (Tg.pr i1 j1).put (emb x) (wipeD δ (own.map (·.2))) = some (δ' x))
    (he : ∀ (s : Shared) (H : Hp) (C : Addr) (cl : List (Str × Addr)) (fp : List Addr) (x : α) (D : Addr), x ∈ xs → PV (X.blk s H scope (compEnvC scope cl C X.env) fp) (c.add D) (δ' x) elt (f x)) (hN : X.N.Nodup) (q : PB X c (δ.set i (.d (.lst (xs.map f)))) rest w) (hy : X.N[i]? = some z := by rfl) (hyl : X.env.scope.names.lookup z = some .local := by rfl)
    (hsw : swapsWith (.ListComp elt [⟨.Tuple [.Name x px, .Name y py] kk pt, iter, [], 0⟩] scope pos) (some (.Name z pz)) spos.line X.env = pure true := by rfl)
    (bo : BlkOk X.N X.env.scope scope own := by exact blkOk_by (by rfl)) (hg : ∀ (s : Shared) (H : Hp) (C : Addr) (cl : List (Str × Addr)) (fp : List Addr), PGX (X.blk s H scope (compEnvC scope cl C X.env) fp) (.Tuple [.Name x px, .Name y py] kk pt) (.pr i1 j1) := by intros; exact pgx_pr rfl (by assumption) rfl rfl (by first | exact Or.inl rfl | exact Or.inr rfl) (by first | exact Or.inl rfl | exact Or.inr rfl))
    (hc : X.calm = true := by rfl) (hv : ∀ i' ∈ (Tg.pr i1 j1).ix, i' ∈ own.map (·.2) := by decide) (hs : ∀ x, foldedSetIterable iter X.env x = pure x := by intro _; rfl) : PB X c δ (.Assign [.Name z pz] (.ListComp elt [⟨.Tuple [.Name x px, .Name y py] kk pt, iter, [], 0⟩] scope pos) spos :: rest) w :=
  pb_setLc (t := .pr i1 j1) (Px := (· = xs)) (ok := (· ∈ xs)) (B := fun _ b => b = true) (Pe := fun x => Is (f x)) (P := Is (.lst (xs.map f))) i hc hN hy hyl hsw (PIX.mono hi fun ds e => ⟨xs, rfl, e⟩) bo (fun _ e x hx => e ▸ hx) hg hp hv (fun _ _ _ _ _ _ _ _ => ptxs_nil) he (fun xs' r e h => by subst e; exact congrArg D.lst (LcR.map1 h)) (fun d e => by cases (show d = _ from e); exact q) hs
theorem setLcN {f : α → D} (i i1 : Nat) (own : List (Str × Nat)) (hi : PIX X c δ (.Name x px) iter (· = xs.map emb)) (hp : ∀ x, x ∈ xs → (Tg.nm i1).put (emb x) (wipeD δ (own.map (·.2))) = some (δ' x))
    (he : ∀ (s : Shared) (H : Hp) (C : Addr) (cl : List (Str × Addr)) (fp : List Addr) (x : α) (D : Addr), x ∈ xs → PV (X.blk s H scope (compEnvC scope cl C X.env) fp) (c.add D) (δ' x) elt (f x)) (hN : X.N.Nodup) (q : PB X c (δ.set i (.d (.lst (xs.map f)))) rest w) (hy : X.N[i]? = some z := by rfl) (hyl : X.env.scope.names.lookup z = some .local := by rfl)
    (hsw : swapsWith (.ListComp elt [⟨.Name x px, iter, [], 0⟩] scope pos) (some (.Name z pz)) spos.line X.env = pure true := by rfl)
    (bo : BlkOk X.N X.env.scope scope own := by exact blkOk_by (by rfl)) (hg : ∀ (s : Shared) (H : Hp) (C : Addr) (cl : List (Str × Addr)) (fp : List Addr), PGX (X.blk s H scope (compEnvC scope cl C X.env) fp) (.Name x px) (.nm i1) := by intros; exact pgx_nm (by assumption) rfl (by first | exact Or.inl rfl | exact Or.inr rfl))
    (hc : X.calm = true := by rfl) (hv : ∀ i' ∈ (Tg.nm i1).ix, i' ∈ own.map (·.2) := by decide) (hs : ∀ x, foldedSetIterable iter X.env x = pure x := by intro _; rfl) : PB X c δ (.Assign [.Name z pz] (.ListComp elt [⟨.Name x px, iter, [], 0⟩] scope pos) spos :: rest) w :=
  pb_setLc (t := .nm i1) (Px := (· = xs)) (ok := (· ∈ xs)) (B := fun _ b => b = true) (Pe := fun x => Is (f x)) (P := Is (.lst (xs.map f))) i hc hN hy hyl hsw (PIX.mono hi fun ds e => ⟨xs, rfl, e⟩) bo (fun _ e x hx => e ▸ hx) hg hp hv (fun _ _ _ _ _ _ _ _ => ptxs_nil) he (fun xs' r e h => by subst e; exact congrArg D.lst (LcR.map1 h)) (fun d e => by cases (show d = _ from e); exact q) hs
end
variable {P : Program} {w : World} {K : PySem.W.Frag} {mg : Str → Option Value} {base : Heap}
theorem end_sum {sq : Bool} : ∀ (r : Row) (p : Int × Int), endOf sq p r = (p.1 + (r.map fun x => (uat sq x.2).1).sum, p.2 + (r.map fun x => (uat sq x.2).2).sum)
  | [], p => by simp [endOf]
  | x :: r, p => by
    show endOf sq (padd p (uat sq x.2)) r = _
    rw [end_sum r]
    simp only [padd, List.map_cons, List.sum_cons]
    refine Prod.ext ?_ ?_ <;> dsimp only <;> omega
theorem sc38 : FnScope ["grid", "items", "units", "letter", "turn", "unit"] ["grid", "items"] (defScope (topS 38)) := ⟨rfl, rfl, rfl, by decide +kernel, rfl, by decide +kernel, by decide +kernel⟩
def r_end_of_row (K : PySem.W.Frag) : RD := fun ds P => ∃ (sq : Bool) (r : Row), ds = [dGrid K sq, dRow r] ∧ (∀ p ∈ r, p.2 < ar sq) ∧ P = Is (dPt (endOf sq (0, 0) r))
theorem w_end_of_row (T : Tx K mg) : Cal P w K mg base 3 "end_of_row" (r_end_of_row K) :=
  calD T.d_end_of_row sc38 (by rintro ds P ⟨n, p, rfl, _⟩; rfl) fun cdv A outer s H E hr c ds Pd hR => by
    have nd := sc38.nd
    obtain ⟨sq, r, rfl, hb, rfl⟩ := hR
    refine setLcP (f := fun p : It2 => dPt (uat sq p.2)) 2 3 4 [("letter", 3), ("turn", 4)] (pix_tupv (pvv 1)) (fun _ _ => rfl) (fun _ _ _ _ _ x _ hx => pv_ix ix_tup (v_prop (pvv 0) T.c_Grid.1 T.p_Grid_units (w_Grid_units T) hr (by decide) ⟨sq, rfl, rfl⟩) (pvv 4) (l_ixT (units_at (hb x hx)))) nd ?_
    exact pb_ret .refl (pv_eq (pv_tup (pvs_cons (v_sum T (ns := r.map fun x => (uat sq x.2).1) (pv_eq (pv_n (lcN (emb := fun p : It2 => dPt (uat sq p.2)) (f := fun p : It2 => D.int (uat sq p.2).1) 5 [("unit", 5)] (pix_lstv (pvv 2)) (fun _ _ => rfl) (fun _ _ _ _ _ x _ hx => pv_ix ix_tup (pvv 5) pv_int (l_ixT rfl)) nd)) (by rw [List.map_map]; rfl)))
      (pvs_cons (v_sum T (ns := r.map fun x => (uat sq x.2).2) (pv_eq (pv_n (lcN (emb := fun p : It2 => dPt (uat sq p.2)) (f := fun p : It2 => D.int (uat sq p.2).2) 5 [("unit", 5)] (pix_lstv (pvv 2)) (fun _ _ => rfl) (fun _ _ _ _ _ x _ hx => pv_ix ix_tup (pvv 5) pv_int (l_ixT rfl)) nd)) (by rw [List.map_map]; rfl))) pvs_nil)))
      (by rw [end_sum]; simp [dPt])) fun _ h => h
theorem sc39 : FnScope ["turns", "value", "letter", "items"] ["turns", "value"] (defScope (topS 39)) := ⟨rfl, rfl, rfl, by decide +kernel, rfl, by decide +kernel, by decide +kernel⟩
def r_are_rules : RD := fun ds P => ∃ (n : Nat) (rs : Rls), ds = [.int n, dRls rs] ∧ n ≤ 6 ∧ (1 ≤ rs.length ∧ rs.length ≤ 6) ∧ (∀ p ∈ rs, (97 ≤ p.1 ∧ p.1 ≤ 122) ∧ OkRow n 2 p.2) ∧ P = Is (.bl true)
theorem w_are_rules (T : Tx K mg) : Cal P w K mg base 5 "are_rules" r_are_rules :=
  calD T.d_are_rules sc39 (by rintro ds P ⟨n, p, rfl, _⟩; rfl) fun cdv A outer s H E hr c ds Pd hR => by
    have nd := sc39.nd
    obtain ⟨n, rs, rfl, hn, hl, hb, rfl⟩ := hR
    refine pb_ifRet (ptx_eq (ptx_bo (pwv_or (ptv_not (ptv_val (v_isD T (pvv 1)))) fun _ => pwx_or1 (ptv_not (ptv_chain op_le op_le pv_int (v_lenD T (pvv 1)) (pv_gI T.i_MAX_LETTERS))))) (k' := false) ?_) (fun h => nomatch h) fun _ =>
      pb_ret .refl (pv_eq (v_all T (bs := rs.map fun _ => true) (pv_eq (pv_n (lcP (emb := fun p : Nat × Row => .tup [.txt (lt p.1), dRow p.2]) (f := fun _ => D.bl true) 2 3 [("letter", 2), ("items", 3)] (pix_items (kf := fun p : Nat × Row => lt p.1) (vf := fun p => dRow p.2) (pvv 1) (fun _ => rfl)) (fun _ _ => rfl) (fun _ _ _ _ _ x _ hx =>
        pv_eq (pv_and (pv_call (w_is_letter T) hr (by decide) rfl (pvs_cons (pvv 2) pvs_nil) ⟨x.1, rfl, (hb x hx).1, rfl⟩) fun _ => pv_one (pv_call (w_is_row_of T) hr (by decide) rfl (pvs_cons (pvv 0) (pvs_cons (pvv 3) (pvs_cons (pv_gI T.i_MIN_ITEMS) pvs_nil))) ⟨n, x.2, 2, rfl, hn, (hb x hx).2, rfl⟩)) rfl) nd)) (by rw [List.map_map]; rfl))) (by rw [all_true])) fun _ h => h
    rw [List.length_map, decide_eq_true (by omega), decide_eq_true (by omega)]
    rfl
end G81
set_option maxRecDepth 100000
set_option maxHeartbeats 2000000
/-! [e for x in .. for y in ..] -/
namespace G81
open PySem PySem.Spec PyProof.Rows L2 SlX
section
variable {α β : Type} {emb : α → D} {emb1 : β → D} {xs : List α} {ys : α → List β} {f : α → β → D} {δ1 : α → List Cell} {δ2 : α → β → List Cell} {t t1 : Tg}
def tiY (k : KW) (c : Fm) (xs : List α) (ys : α → List β) (emb1 : β → D) (δ1 : α → List Cell) : TI := fun σ H R => ∃ i : α × Addr, i.1 ∈ xs ∧ tI k (c.add i.2) (δ1 i.1) (· = (ys i.1).map emb1) σ H R
def teY (k : KW) (c : Fm) (xs : List α) (ys : α → List β) (f : α → β → D) (δ2 : α → β → List Cell) : TE := fun σ H Q => ∃ i : α × β × Addr, (i.1 ∈ xs ∧ i.2.1 ∈ ys i.1) ∧ tX k (c.add i.2.2) (δ2 i.1 i.2.1) (Is (f i.1 i.2.1)) σ H Q
/-- all made values -/
def allY (xs : List α) (ys : α → List β) (f : α → β → D) : List D := xs.flatMap fun x => (ys x).map (f x)
theorem allY_take {i : Nat} {x : α} (h : xs[i]? = some x) : allY (xs.take (i + 1)) ys f = allY (xs.take i) ys f ++ (ys x).map (f x) := by
  unfold allY
  rw [List.take_succ, h, List.flatMap_append]
  simp
theorem allY_le {i : Nat} : (allY (xs.take i) ys f).length ≤ (allY xs ys f).length := by
  have e : allY xs ys f = allY (xs.take i) ys f ++ allY (xs.drop i) ys f := by
    unfold allY
    rw [← List.flatMap_append, List.take_append_drop]
  rw [e, List.length_append]
  omega
theorem Rl.monoO {E O O' : List Addr} {H H' : Hp} (r : Rl E O H H') (h : ∀ a ∈ O, a ∈ O') : Rl E O' H H' := fun b o e => by
  rcases r b o e with z | z | ⟨z, y⟩
  · exact .inl z
  · exact .inr (.inl z)
  · exact .inr (.inr ⟨h b z, y⟩)
theorem put_adr {t : Tg} {d : D} {δ δ' : List Cell} {D : Addr} (h : t.put d δ = some δ') (n : ∀ (i : Nat) (x : Cell), δ[i]? = some x → D ∉ x.adr) : ∀ (i : Nat) (x : Cell), δ'[i]? = some x → D ∉ x.adr := by
  have one : ∀ {δ : List Cell} (j : Nat) (d : G81.D), (∀ (i : Nat) (x : Cell), δ[i]? = some x → D ∉ x.adr) → ∀ (i : Nat) (x : Cell), (δ.set j (.d d))[i]? = some x → D ∉ x.adr := fun {δ} j d n i x e => by
    rw [List.getElem?_set] at e
    split at e
    · split at e
      · cases e; exact fun m => nomatch m
      · cases e
    · exact n i x e
  cases t with
  | nm i => cases h; exact one i d n
  | pr i j =>
    match d, h with
    | .tup [a, b], h => cases h; exact one j b (one i a n)
theorem wipe_adr {δ : List Cell} {D : Addr} (n : ∀ (i : Nat) (x : Cell), δ[i]? = some x → D ∉ x.adr) : ∀ (vs : List Nat) (i : Nat) (x : Cell), (wipeD δ vs)[i]? = some x → D ∉ x.adr
  | [], i, x, e => n i x e
  | v :: vs, i, x, e => by
    have e : ((wipeD δ vs).set v .no)[i]? = some x := e
    rw [List.getElem?_set] at e
    split at e
    · split at e
      · cases e; exact fun m => nomatch m
      · cases e
    · exact wipe_adr n vs i x e
theorem lc2_of {k : KW} {c : Fm} {δ : List Cell} {vs vs1 : List Nat} (hp : ∀ x ∈ xs, t.put (emb x) (wipeD δ vs) = some (δ1 x)) (hv : ∀ i ∈ t.ix, i ∈ vs) (hp1 : ∀ x ∈ xs, ∀ y ∈ ys x, t1.put (emb1 y) (wipeD (δ1 x) vs1) = some (δ2 x y)) (hv1 : ∀ i ∈ t1.ix, i ∈ vs1) (hlen : (allY xs ys f).length ≤ sizeLine) :
    ∀ σ H Q, tN k c δ (· = allY xs ys f) σ H Q → tLc2 (tI k c δ (· = xs.map emb)) (t.g k.K) tYes (tiY k c xs ys emb1 δ1) (t1.g k.K) tYes (teY k c xs ys f δ2) vs vs1 σ H Q := by
  intro σ H Q ⟨ev, w⟩
  refine ⟨ev, fun J H1 ds hds r1 ⟨n, G, Y, W, hn, wk⟩ hz D hD => ?_⟩
  subst hds
  have ev1 := ev.rl r1
  have up := Up.add ev1.bs hD
  obtain ⟨wg, wy⟩ := wk (c.add D) up
  have nE : D ∉ c.E := up.b.oe D List.mem_cons_self
  have sD : ∀ a ∈ [D], a ∉ c.E := fun a m => by rw [List.mem_singleton.mp m]; exact nE
  have toH1 : ∀ {H'}, Rl c.E [D] (upd H1 D (.lst [])) H' → Rl c.E [] H1 H' := fun {H'} r b o e => by
    have hb : b ≠ D := ne_of_none e hD
    rcases r b o (by rw [upd_ne hb]; exact e) with z | z | ⟨z, _⟩
    · exact .inl z
    · exact .inr (.inl z)
    · exact absurd (List.mem_singleton.mp z) hb
  have ev2 : Ev k (c.add D) (upd H1 D (.lst [])) σ δ := ev1.add hD
  have evH : ∀ {H3}, Rl c.E [D] (upd H1 D (.lst [])) H3 → Ev k (c.add D) H3 σ δ := fun {H3} r => ev2.rlO (O := [D]) (fun a m => by rw [List.mem_singleton.mp m]; exact List.mem_cons_self) (fun j y hj a m => by rw [List.mem_singleton.mp m]; exact ev1.fresh hD j y hj) r
  have keepD : ∀ {Ha Hb : Hp} {o : HO}, Rl c.E [] Ha Hb → Ha D = some o → Hb D = some o := fun {Ha Hb o} r e => by
    rcases r D o e with z | ⟨z, _⟩ | ⟨z, _⟩
    · exact z
    · exact absurd z nE
    · cases z
  have hn : n = xs.length := by rw [hn, List.length_map]
  refine ⟨fun i m H' => m = n - i ∧ i ≤ n ∧ Rl c.E [D] (upd H1 D (.lst [])) H' ∧ ∃ acc, H' D = some (.lst acc) ∧ Ats k (c.add D) H' (allY (xs.take i) ys f) acc, ⟨n, by simp, Nat.zero_le _, .refl, [], upd_same, rfl⟩, ?_⟩
  rintro i m H' ⟨rfl, hi, r, acc, hA, hat⟩
  by_cases hlt : i < n
  · refine .inr ⟨W.goes i H' hlt (wg H' (toH1 r).wide), fun H2 => Rl c.E [D] (upd H1 D (.lst [])) H2 ∧ ∃ acc, H2 D = some (.lst acc) ∧ Ats k (c.add D) H2 (allY (xs.take (i + 1)) ys f) acc, fun H2 q => ⟨n - (i + 1), by omega, rfl, hlt, q⟩, fun x H2 y => ?_⟩
    have hy := W.yields i H' x H2 hlt (wg H' (toH1 r).wide) y
    obtain ⟨d, hd, kp, ha⟩ := wy i H' x H2 hlt ((toH1 r).wide) hy
    have hi' : i < xs.length := by rw [← hn]; exact hlt
    have ex : xs[i]? = some xs[i] := List.getElem?_eq_getElem hi'
    rw [List.getElem?_map, ex] at hd
    obtain rfl : emb xs[i] = d := Option.some.inj hd
    have hin : xs[i] ∈ xs := List.getElem_mem hi'
    generalize xs[i] = x0 at ex ha hin
    have r2 : Rl c.E [D] (upd H1 D (.lst [])) H2 := r.trans sD (.of_same kp)
    have ev3 := evH r2
    refine put_go (vs := vs) (ev3.wipe vs) ha (hp _ hin) fun σ3 ev4 hw => ⟨by rw [hw hv]; exact lc_of.wipe_idem σ vs, ?_⟩
    unfold tYes
    dsimp only
    rw [if_pos rfl]
    refine ⟨(x0, D), hin, ev4, fun J1 H4 ds1 e1 r4 ⟨n1, G1, Y1, W1, hn1, wk1⟩ hz1 => ?_⟩
    cases (show ds1 = _ from e1)
    have ev5 := ev4.rl r4
    have upr : Up (c.add D) (c.add D) H4 := ⟨rfl, fun _ _ h => h, ev5.bs.toBw⟩
    obtain ⟨wg1, wy1⟩ := wk1 (c.add D) upr
    have hn1 : n1 = (ys x0).length := by rw [hn1, List.length_map]
    have r24 : Rl c.E [D] (upd H1 D (.lst [])) H4 := r2.trans sD r4.wide
    have hA4 := keepD r4 (kp D _ hA)
    have bH := (evH r).bs.toBw
    have hat4 : Ats k (c.add D) H4 (allY (xs.take i) ys f) acc := (hat.rl bH (.of_same kp)).rl ev3.bs.toBw (Rl.wide (O := (c.add D).O) r4)
    refine ⟨fun j m H5 => m = n1 - j ∧ j ≤ n1 ∧ Rl c.E [D] (upd H1 D (.lst [])) H5 ∧ Rl c.E [D] H4 H5 ∧ ∃ acc, H5 D = some (.lst acc) ∧ Ats k (c.add D) H5 (allY (xs.take i) ys f ++ ((ys x0).take j).map (f x0)) acc, ⟨n1, by simp, Nat.zero_le _, r24, .refl, acc, hA4, by simpa using hat4⟩, ?_⟩
    rintro j m5 H5 ⟨rfl, hj, r5, rs5, acc5, hA5, hat5⟩
    have inO : ∀ a ∈ [D], a ∈ (c.add D).O := fun a m => by rw [List.mem_singleton.mp m]; exact List.mem_cons_self
    have rr5 : Rl (c.add D).E (c.add D).O H4 H5 := Rl.monoO rs5 inO
    by_cases hjl : j < n1
    · refine .inr ⟨W1.goes j H5 hjl (wg1 H5 rr5), fun H6 => Rl c.E [D] (upd H1 D (.lst [])) H6 ∧ Rl c.E [D] H4 H6 ∧ ∃ acc, H6 D = some (.lst acc) ∧ Ats k (c.add D) H6 (allY (xs.take i) ys f ++ ((ys x0).take (j + 1)).map (f x0)) acc, fun H6 q => ⟨n1 - (j + 1), by omega, rfl, hjl, q⟩, fun x1 H6 y1 => ?_⟩
      have hy1 := W1.yields j H5 x1 H6 hjl (wg1 H5 rr5) y1
      obtain ⟨d1, hd1, kp1, ha1⟩ := wy1 j H5 x1 H6 hjl rr5 hy1
      have hj' : j < (ys x0).length := by rw [← hn1]; exact hjl
      have ey : (ys x0)[j]? = some (ys x0)[j] := List.getElem?_eq_getElem hj'
      rw [List.getElem?_map, ey] at hd1
      obtain rfl : emb1 (ys x0)[j] = d1 := Option.some.inj hd1
      have yin : (ys x0)[j] ∈ ys x0 := List.getElem_mem hj'
      generalize (ys x0)[j] = y0 at ey ha1 yin
      have r6 : Rl c.E [D] (upd H1 D (.lst [])) H6 := r5.trans sD (.of_same kp1)
      have rs6 : Rl c.E [D] H4 H6 := rs5.trans sD (.of_same kp1)
      have ev6 : Ev k (c.add D) H6 σ3 (δ1 x0) := ev5.rlO (O := [D]) (fun a m => by rw [List.mem_singleton.mp m]; exact List.mem_cons_self) (fun j y hj a m => ?_) rs6
      · refine put_go (vs := vs1) (ev6.wipe vs1) ha1 (hp1 _ hin _ yin) fun σ7 ev7 hw7 => ⟨by rw [hw7 hv1]; exact lc_of.wipe_idem σ3 vs1, ?_⟩
        dsimp only
        rw [if_pos rfl]
        refine ⟨(x0, y0, D), ⟨hin, yin⟩, ev7, fun v8 H8 d8 e8 r8 a8 => ?_⟩
        cases (show d8 = _ from e8)
        have hD8 := keepD r8 (kp1 D _ hA5)
        have r8' : Rl c.E [D] (upd H1 D (.lst [])) H8 := r6.trans sD r8.wide
        have up8 : Rl c.E [D] H8 (upd H8 D (.lst (acc5 ++ [v8]))) := rl_own (List.mem_singleton.mpr rfl) hD8 ownK_lst
        have up8' : Rl (c.add D).E (c.add D).O H8 (upd H8 D (.lst (acc5 ++ [v8]))) := rl_own List.mem_cons_self hD8 ownK_lst
        have tk : (ys x0).take (j + 1) = (ys x0).take j ++ [y0] := by rw [List.take_succ, ey]; rfl
        refine ⟨acc5, hD8, ?_, r8'.trans sD up8, (rs6.trans sD r8.wide).trans sD up8, acc5 ++ [v8], upd_same, ?_⟩
        · have l1 : acc5.length = (allY (xs.take i) ys f).length + j := by
            rw [hat5.length, List.length_append, List.length_map, List.length_take]
            omega
          have l2 := allY_le (xs := xs) (ys := ys) (f := f) (i := i + 1)
          rw [allY_take ex, List.length_append, List.length_map] at l2
          omega
        · rw [tk, List.map_append, ← List.append_assoc]
          have hat8 : Ats k (c.add D) H8 (allY (xs.take i) ys f ++ ((ys x0).take j).map (f x0)) acc5 := (hat5.rl ((evH r5).bs.toBw) (.of_same kp1)).rl ev6.bs.toBw (Rl.wide (O := (c.add D).O) r8)
          exact (hat8.append (Ats.one a8)).rl (ev6.rl r8).bs.toBw up8'
      · rw [List.mem_singleton.mp m]
        exact put_adr (hp _ hin) (wipe_adr (ev1.fresh hD) vs) j y hj
    · have e : j = n1 := by omega
      subst e
      refine .inl ⟨W1.stops H5 (wg1 H5 rr5), r5, acc5, hA5, ?_⟩
      rw [allY_take ex]
      have e2 : (ys x0).take j = ys x0 := List.take_of_length_le (by omega)
      rw [e2] at hat5
      exact hat5
  · have e : i = n := by omega
    subst e
    have e2 : xs.take i = xs := List.take_of_length_le (by omega)
    rw [e2] at hat
    exact .inl ⟨W.stops H' (wg H' (toH1 r).wide), w D H' acc _ rfl (r1.trans0 (toH1 r)) (r1.none hD) hA hat (ev1.bs.free hD)⟩
end
end G81
set_option maxRecDepth 100000
set_option maxHeartbeats 2000000
/-! the parts of a scheme -/
namespace G81
open PySem PySem.Spec PyProof.Rows L2 SlX
open SX (S)
section
variable {X : Cx} {c : Fm} {δ : List Cell} {elt tg iter tg1 iter1 : Expr} {scope : Scope} {pos : Pos} {α β : Type} {emb : α → D} {emb1 : β → D} {xs : List α} {ys : α → List β} {f : α → β → D} {δ1 : α → List Cell} {δ2 : α → β → List Cell}
theorem pn_lc2 (t t1 : Tg) (own : List (Str × Nat)) (vs1 : List Nat) (hi : PIX X c δ tg iter (· = xs.map emb)) (hp : ∀ x ∈ xs, t.put (emb x) (wipeD δ (own.map (·.2))) = some (δ1 x)) (hp1 : ∀ x ∈ xs, ∀ y ∈ ys x, t1.put (emb1 y) (wipeD (δ1 x) vs1) = some (δ2 x y))
    (hi1 : ∀ (s : Shared) (H : Hp) (C : Addr) (cl : List (Str × Addr)) (fp : List Addr) (x : α) (D : Addr), x ∈ xs → PIX (X.blk s H scope (compEnvC scope cl C X.env) fp) (c.add D) (δ1 x) tg1 iter1 (· = (ys x).map emb1))
    (he : ∀ (s : Shared) (H : Hp) (C : Addr) (cl : List (Str × Addr)) (fp : List Addr) (x : α) (y : β) (D : Addr), x ∈ xs → y ∈ ys x → PV (X.blk s H scope (compEnvC scope cl C X.env) fp) (c.add D) (δ2 x y) elt (f x y))
    (hg : ∀ (s : Shared) (H : Hp) (C : Addr) (cl : List (Str × Addr)) (fp : List Addr), PGX (X.blk s H scope (compEnvC scope cl C X.env) fp) tg t) (hg1 : ∀ (s : Shared) (H : Hp) (C : Addr) (cl : List (Str × Addr)) (fp : List Addr), PGX (X.blk s H scope (compEnvC scope cl C X.env) fp) tg1 t1)
    (hN : X.N.Nodup) (hlen : (allY xs ys f).length ≤ 100000) (bo : BlkOk X.N X.env.scope scope own := by exact blkOk_by (by rfl)) (hc : X.calm = true := by rfl) (hv : ∀ i ∈ t.ix, i ∈ own.map (·.2) := by decide) (hv1 : ∀ i ∈ t1.ix, i ∈ vs1 := by decide) (hvs : ∀ i ∈ vs1, i ∈ own.map (·.2) := by decide)
    (hs : ∀ x, foldedSetIterable iter X.env x = pure x := by intro _; rfl) (hs1 : ∀ env x, foldedSetIterable iter1 env x = pure x := by intro _ _; rfl) : PN X c δ (.ListComp elt [⟨tg, iter, [], 0⟩, ⟨tg1, iter1, [], 0⟩] scope pos) (· = allY xs ys f) :=
  PE.mono (pe_lc2 (g := t.g X.K) (g1 := t1.g X.K) (wi1 := tiY (kw X) c xs ys emb1 δ1) (te := teY (kw X) c xs ys f δ2) (vs1 := vs1) hc hN hi bo hvs hg (fun _ _ _ _ _ => pts_nil)
    (fun s H C cl fp => pi_ex (C := fun i : α × Addr => i.1 ∈ xs) (t := fun i => tI (kw X) (c.add i.2) (δ1 i.1) (· = (ys i.1).map emb1)) fun i h => hi1 s H C cl fp i.1 i.2 h) hg1 (fun _ _ _ _ _ => pts_nil)
    (fun s H C cl fp => pe_ex (C := fun i : α × β × Addr => i.1 ∈ xs ∧ i.2.1 ∈ ys i.1) (t := fun i => tX (kw X) (c.add i.2.2) (δ2 i.1 i.2.1) (Is (f i.1 i.2.1))) fun i h => he s H C cl fp i.1 i.2.1 i.2.2 h.1 h.2) hs hs1)
    (lc2_of (k := kw X) hp hv hp1 hv1 (Nat.le_trans hlen (by decide)))
end
theorem setOf_one {l m : List D} {a : D} (h : SetOf l m) (hm : ∀ x ∈ m, x = a) (ne : m ≠ []) : l.length = 1 := by
  obtain ⟨nd, mem⟩ := h
  have ha : ∀ x ∈ l, x = a := fun x hx => hm x ((mem x).mp hx)
  match l, nd, mem, ha with
  | [], _, mem, _ =>
    cases m with
    | nil => exact absurd rfl ne
    | cons y m => exact nomatch (mem y).mpr List.mem_cons_self
  | [x], _, _, _ => rfl
  | x :: y :: l, nd, _, ha =>
    have e1 := ha x List.mem_cons_self
    have e2 := ha y (List.mem_cons_of_mem _ List.mem_cons_self)
    exact absurd (show x ∈ y :: l by rw [e1, ← e2]; exact List.mem_cons_self) (List.nodup_cons.mp nd).1
theorem uat_le (sq : Bool) (t : Nat) : (-1 ≤ (uat sq t).1 ∧ (uat sq t).1 ≤ 1) ∧ (-1 ≤ (uat sq t).2 ∧ (uat sq t).2 ≤ 1) := by
  have key : ∀ u ∈ units sq, (-1 ≤ u.1 ∧ u.1 ≤ 1) ∧ (-1 ≤ u.2 ∧ u.2 ≤ 1) := by cases sq <;> decide
  unfold uat
  rw [List.getD_eq_getElem?_getD]
  by_cases h : t < (units sq).length
  · rw [List.getElem?_eq_getElem h]
    exact key _ (List.getElem_mem h)
  · rw [List.getElem?_eq_none (by omega)]
    decide
theorem end_le {sq : Bool} : ∀ (r : Row) (p : Int × Int), (p.1 - r.length ≤ (endOf sq p r).1 ∧ (endOf sq p r).1 ≤ p.1 + r.length) ∧ (p.2 - r.length ≤ (endOf sq p r).2 ∧ (endOf sq p r).2 ≤ p.2 + r.length)
  | [], p => by simp [endOf]
  | x :: r, p => by
    have h := end_le (sq := sq) r (padd p (uat sq x.2))
    have u := uat_le sq x.2
    simp only [endOf, padd, List.length_cons] at h ⊢
    omega
theorem end_small {sq : Bool} {r : Row} (h : r.length ≤ 12) : Small (endOf sq (0, 0) r) := by
  have e := end_le (sq := sq) r (0, 0)
  simp only at e
  refine ⟨⟨?_, ?_⟩, ?_, ?_⟩ <;> omega
theorem look_lets {α : Type} {rs : List (Nat × α)} {g : Nat × α → D} {l : Nat} (h : l ∈ rs.map (·.1)) : (lookD (rs.map fun p => lt p.1) (rs.map g) (lt l)).isSome = true := by
  induction rs with
  | nil => cases h
  | cons p rs ih =>
    by_cases e : p.1 = l
    · subst e
      simp [lookD]
    · have ne : lt p.1 ≠ lt l := fun z => e (lt_inj z)
      have h' : l ∈ rs.map (·.1) := by
        rcases List.mem_cons.mp h with z | z
        · exact absurd z.symm e
        · exact z
      simp only [List.map_cons, lookD]
      rw [if_neg ne]
      exact ih h'
variable {P : Program} {w : World} {K : PySem.W.Frag} {mg : Str → Option Value} {base : Heap}
theorem sc40 : FnScope ["grid", "axiom", "rules", "ends", "items", "letter", "turn"] ["grid", "axiom", "rules"] (defScope (topS 40)) := ⟨rfl, rfl, rfl, by decide +kernel, rfl, by decide +kernel, by decide +kernel⟩
theorem Wf.okRow {s : Sc} (W : Wf s) : ∀ p ∈ s.rs, (97 ≤ p.1 ∧ p.1 ≤ 122) ∧ OkRow (ar s.sq) 2 p.2 := fun p hp => ⟨W.let_ p hp, ⟨⟨(W.rows p hp).1, (W.rows p hp).2.1⟩, fun q hq => by
  have h := (W.rows p hp).2.2 q hq
  obtain ⟨p', hp', e⟩ := List.mem_map.mp h.1
  exact ⟨by rw [← e]; exact W.let_ p' hp', h.2⟩⟩⟩
theorem Wf.okAx {s : Sc} (W : Wf s) : OkRow (ar s.sq) 1 s.ax := ⟨⟨W.ax.1, W.ax.2.1⟩, fun q hq => by
  have h := W.ax.2.2 q hq
  obtain ⟨p', hp', e⟩ := List.mem_map.mp h.1
  exact ⟨by rw [← e]; exact W.let_ p' hp', h.2⟩⟩
def r_are_parts (K : PySem.W.Frag) : RD := fun ds P => ∃ s : Sc, ds = [dGrid K s.sq, dRow s.ax, dRls s.rs] ∧ Wf s ∧ P = Is (.bl true)
theorem allY_true {α β : Type} {xs : List α} {ys : α → List β} : allY xs ys (fun _ _ => D.bl true) = (xs.flatMap fun x => (ys x).map fun _ => true).map D.bl := by
  unfold allY
  rw [List.map_flatMap]
  congr 1
  funext x
  rw [List.map_map]
  rfl
theorem all_flat {α β : Type} {xs : List α} {ys : α → List β} : (xs.flatMap fun x => (ys x).map fun _ => true).all id = true := by simp
theorem flat_len {α β : Type} {g : α → List β} {n : Nat} : ∀ {xs : List α}, (∀ x ∈ xs, (g x).length ≤ n) → (xs.flatMap g).length ≤ xs.length * n
  | [], _ => Nat.zero_le _
  | x :: xs, h => by
    rw [List.flatMap_cons, List.length_append, List.length_cons, Nat.succ_mul]
    have a := h x List.mem_cons_self
    have b := flat_len (g := g) fun y hy => h y (List.mem_cons_of_mem _ hy)
    omega
theorem w_are_parts (T : Tx K mg) : Cal P w K mg base 6 "are_parts" (r_are_parts K) :=
  calD T.d_are_parts sc40 (by rintro ds P ⟨s, rfl, _⟩; rfl) fun cdv A outer s H E hr c ds Pd hR => by
    have nd := sc40.nd
    obtain ⟨s, rfl, W, rfl⟩ := hR
    refine pb_ifRet (ptx_eq (ptx_bo (pwv_or (ptv_not (ptv_val (pv_call (w_is_row_of T) hr (by decide) rfl (pvs_cons (v_lenO T T.m_Grid_len (w_Grid_len T) hr (by decide) (pvv 0) ⟨s.sq, rfl, rfl⟩ (Int.natCast_nonneg _) (ar_lt s.sq)) (pvs_cons (pvv 1) (pvs_cons pv_int pvs_nil))) ⟨ar s.sq, s.ax, 1, rfl, ar_le _, W.okAx, rfl⟩))) fun _ =>
      pwx_or1 (ptv_not (ptv_val (pv_call (w_are_rules T) hr (by decide) rfl (pvs_cons (v_lenO T T.m_Grid_len (w_Grid_len T) hr (by decide) (pvv 0) ⟨s.sq, rfl, rfl⟩ (Int.natCast_nonneg _) (ar_lt s.sq)) (pvs_cons (pvv 2) pvs_nil)) ⟨ar s.sq, s.rs, rfl, ar_le _, W.len, W.okRow, rfl⟩))))) (k' := false) rfl) (fun h => nomatch h) fun _ => ?_
    have rows : ∀ r ∈ s.ax :: s.rs.map (·.2), r.length ≤ 12 ∧ ∀ q ∈ r, q.1 ∈ s.keys := fun r hr => by
      rcases List.mem_cons.mp hr with z | z
      · rw [z]; exact ⟨W.ax.2.1, fun q hq => (W.ax.2.2 q hq).1⟩
      · obtain ⟨p, hp, rfl⟩ := List.mem_map.mp z
        exact ⟨(W.rows p hp).2.1, fun q hq => ((W.rows p hp).2.2 q hq).1⟩
    refine pb_ifRet (ptx_eq (ptv_not (ptv_val (v_all T (pv_eq (pv_n (pn_lc2 (xs := s.ax :: s.rs.map (·.2)) (ys := fun r : Row => r) (emb := fun r : Row => dRow r) (emb1 := dIt) (f := fun _ _ => D.bl true) (.nm 4) (.pr 5 6) [("items", 4), ("letter", 5), ("turn", 6)] [5, 6] (pix_tup (px_tup (P' := Is (.tup ((s.ax :: s.rs.map (·.2)).map fun r : Row => dRow r))) (pxs_cons (pvv 1) (pxs_starVals rfl (pvv 2) pvs_nil)) ?_ ?_) fun d e => ⟨_, e, rfl⟩) (fun _ _ => rfl) (fun _ _ _ _ => rfl)
      (fun _ _ _ _ _ x _ hx => pix_tupv (pvv 4)) (fun _ _ _ _ _ x y _ hx hy => pv_eq (pv_din (ru hr) (pvv 5) (pvv 2) .dct) (by rw [look_lets ((rows x hx).2 y hy)])) (by intros; exact pgx_nm (by assumption) rfl (by first | exact Or.inl rfl | exact Or.inr rfl)) (by intros; exact pgx_pr rfl (by assumption) rfl rfl (by first | exact Or.inl rfl | exact Or.inr rfl) (by first | exact Or.inl rfl | exact Or.inr rfl)) nd ?_)) (congrArg D.lst allY_true))))) (k' := false) (by rw [all_flat]; rfl)) (fun h => nomatch h) fun _ => ?_
    · rintro l ⟨d, r, rfl, e1, r2, rfl, rfl⟩
      simp only [List.length_cons, List.length_append, List.length_map, List.length_nil]
      exact Nat.le_trans (show s.rs.length + 0 + 1 ≤ 10 by have := W.len; omega) (by decide)
    · rintro l ⟨d, r, rfl, e1, r2, rfl, rfl⟩
      cases (show d = _ from e1)
      show _ = _
      rw [List.append_nil, List.map_cons, List.map_map]
      rfl
    · rw [allY_true, List.length_map]
      refine Nat.le_trans (flat_len (n := 12) fun r hr => by rw [List.length_map]; exact (rows r hr).1) ?_
      rw [List.length_cons, List.length_map]
      have := W.len
      omega
    obtain ⟨g, hg2, hg⟩ := W.ends
    refine setLcN (xs := s.rs) (emb := fun p : Nat × Row => dRow p.2) (f := fun p => dPt g) 3 4 [("items", 4)] (PIX.mono (pix_values (pvv 2)) fun ds e => by rw [e]) (fun _ _ => rfl) (fun _ _ _ _ _ x _ hx => pv_eq (pv_call (w_end_of_row T) hr (by decide) rfl (pvs_cons (pvv 0) (pvs_cons (pvv 4) pvs_nil)) ⟨s.sq, x.2, rfl, fun q hq => ((W.rows x hx).2.2 q hq).2, rfl⟩) (by rw [hg x hx])) nd ?_
    obtain ⟨p0, rs', hp0⟩ : ∃ p0 rs', s.rs = p0 :: rs' := by
      have := W.len.1
      cases h : s.rs with
      | nil => rw [h] at this; simp at this
      | cons p r => exact ⟨p, r, rfl⟩
    have sm : Small g := by rw [← hg p0 (by rw [hp0]; exact List.mem_cons_self)]; exact end_small (W.rows p0 (by rw [hp0]; exact List.mem_cons_self)).2.1
    refine pb_ret .refl (pv_eq (pv_and (k := true) (pv_eq (pv_cmp op_eq (x := .int 1) (PX.mono (v_lenSet T (v_setN (ds := s.rs.map fun _ => dPt g) T hr (PX.mono (pvv 3) fun d e => .inl e) (by rw [List.length_map]; have := W.len; omega) (fun d hd => by obtain ⟨p, _, rfl⟩ := List.mem_map.mp hd; exact ⟨⟨trivial, trivial, trivial⟩, _, rfl⟩))) fun d ⟨l, hl, e⟩ => by
      rw [e, setOf_one hl (a := dPt g) (fun x hx => by obtain ⟨p, _, rfl⟩ := List.mem_map.mp hx; rfl) (by rw [hp0]; simp)]
      rfl) pv_int l_eqI) rfl) fun _ => pv_one (P := Is (.bl true)) (pv_eq (pv_cmp op_ge (px_meth (pvv 0) T.c_Grid.1 T.m_Grid_square_of (w_Grid_square_of T) hr (by decide) (pvs_cons (pv_ix ix_list (pvv 3) pv_int (l_ixL (d := dPt g) (by rw [hp0]; exact atI_nat (i := 0) rfl))) pvs_nil) (fun d e => ⟨_, e⟩) (P := Is (.int (norm s.sq g))) (fun d ds e e2 => by rw [show d = _ from e, e2]; exact ⟨s.sq, g, rfl, sm, rfl⟩)) (pv_gI T.i_MIN_NORM) l_bl) ?_)) rfl) fun _ h => h
    rw [decide_eq_true hg2]
end G81
set_option maxRecDepth 100000
set_option maxHeartbeats 2000000
/-! frames in another order; tests that borrow -/
namespace G81
open PySem PySem.Spec PyProof.Rows L2 SlX
structure SameF (c c' : Fm) : Prop where
  e : c'.E = c.E
  m : ∀ a, a ∈ c'.M ↔ a ∈ c.M
  o : ∀ a, a ∈ c'.O ↔ a ∈ c.O
theorem SameF.swap {c : Fm} {a b : Addr} : SameF ((c.add a).add b) ((c.add b).add a) := ⟨rfl, fun x => by simp only [Fm.add, List.mem_cons]; exact or_left_comm, fun x => by simp only [Fm.add, List.mem_cons]; exact or_left_comm⟩
theorem Ev.sameF {k : KW} {c c' : Fm} {H : Hp} {σ : L2.St} {δ : List Cell} (s : SameF c c') (z : Ev k c H σ δ) : Ev k c' H σ δ := by
  have fm : ∀ {d v}, At k c H d v → At k c' H d v := fun {d v} h => At.fm (c := c) (c' := c') (fun a m => by rw [s.e]; exact m) (fun a _ m => (s.m a).mp m) h
  have fms : ∀ {d v}, Ats k c H d v → Ats k c' H d v := fun {d v} h => Ats.fm (c := c) (c' := c') (fun a m => by rw [s.e]; exact m) (fun a _ m => (s.m a).mp m) h
  refine ⟨⟨⟨fun b h => (s.m b).mpr (z.bs.em b (by rw [← s.e]; exact h)), fun a h => z.bs.dice a (by rw [← s.e]; exact h), fun b h => (s.m b).mpr (z.bs.om b ((s.o b).mp h)), fun b h => by rw [s.e]; exact z.bs.oe b ((s.o b).mp h)⟩, fun a h => z.bs.dom a ((s.m a).mp h)⟩, fun i x hx => ?_⟩
  obtain ⟨v, hv, hc⟩ := z.at_ i x hx
  refine ⟨v, hv, ?_⟩
  cases x with
  | no => trivial
  | d x => obtain ⟨u, e1, q⟩ := hc; exact ⟨u, e1, fm q⟩
  | own a ds => obtain ⟨e1, m, xs, q, y⟩ := hc; exact ⟨e1, (s.o a).mpr m, xs, q, fms y⟩
  | owk a ks ds => obtain ⟨e1, m, xs, q, y, r⟩ := hc; exact ⟨e1, (s.o a).mpr m, xs, q, y, fms r⟩
  | slf a dx C ds => obtain ⟨e1, m, m2, xs, q, q2, y⟩ := hc; exact ⟨e1, (s.o a).mpr m, (s.o dx).mpr m2, xs, q, q2, y.imp fun d v a => fm a⟩
  | ow2 a b ks ds kk ks2 ds2 => obtain ⟨e1, m1, m2, ne, xs, ys, q1, y1, z1, q2, y2, z2⟩ := hc; exact ⟨e1, (s.o a).mpr m1, (s.o b).mpr m2, ne, xs, ys, q1, y1, fms z1, q2, y2, fms z2⟩
section
variable {X : Cx} {c c' : Fm} {δ : List Cell} {e : Expr} {P : D → Prop} {T : Bool → Prop}
theorem px_sameF (s : SameF c c') (he : PX X c' δ e P) (hf : ∀ d, P d → flat d) : PX X c δ e P := PE.mono he fun σ H Q ⟨z, w⟩ => ⟨z.sameF s, fun v H' d p r a => w v H' d p (by rw [s.e] at r; exact r) ((hf d p).any a)⟩
theorem ptx_sameF (s : SameF c c') (he : PTX X c' δ e T) : PTX X c δ e T := PT.mono he fun σ H Q ⟨z, w⟩ => ⟨z.sameF s, fun v H' p r => w v H' p (by rw [s.e] at r; exact r)⟩
variable {l : Addr} {ks : List Str} {ds : List D}
theorem ptx_borrow (i : Nat) {c0 : Fm} (hc : c = c0.add l) (fk : Fok c0) (hl : l ∉ c0.M) (hd : δ[i]? = some (.own l ds)) (off : offAll l (δ.set i .no)) (he : PTX X c0 (δ.set i (.d (.lst ds))) e T) : PTX X c δ e T := by
  subst hc
  refine PT.mono he fun σ H Q ⟨z, w⟩ => ⟨ev_drop fk z off (List.getElem?_eq_some_iff.mp hd).1 fun v hv => ?_, w⟩
  obtain ⟨v', hv', e1, m, xs, h1, hx⟩ := z.at_ i _ hd
  rw [hv] at hv'
  cases hv'
  exact ⟨.ref l, e1, l, xs, rfl, hl, h1, hx.unadd⟩
theorem ptx_borrowK (i : Nat) {c0 : Fm} (hc : c = c0.add l) (fk : Fok c0) (hl : l ∉ c0.M) (hd : δ[i]? = some (.owk l ks ds)) (off : offAll l (δ.set i .no)) (he : PTX X c0 (δ.set i (.d (.mdc ks ds))) e T) : PTX X c δ e T := by
  subst hc
  refine PT.mono he fun σ H Q ⟨z, w⟩ => ⟨ev_drop fk z off (List.getElem?_eq_some_iff.mp hd).1 fun v hv => ?_, w⟩
  obtain ⟨v', hv', e1, m, xs, h1, hk, hx⟩ := z.at_ i _ hd
  rw [hv] at hv'
  cases hv'
  exact ⟨.ref l, e1, l, xs, rfl, hl, h1, hk, hx.unadd⟩
end
theorem fok_add {c : Fm} {l : Addr} (fk : Fok c) (h : l ∉ c.M) : Fok (c.add l) := ⟨fun b m => List.mem_cons_of_mem _ (fk.em b m), fun b m => by
  rcases List.mem_cons.mp m with z | z
  · rw [z]; exact List.mem_cons_self
  · exact List.mem_cons_of_mem _ (fk.om b z), fun b m => by
  rcases List.mem_cons.mp m with z | z
  · rw [z]; exact fun y => h (fk.em l y)
  · exact fk.oe b z⟩
end G81
set_option maxRecDepth 100000
set_option maxHeartbeats 2000000
/-! the letters that are met -/
namespace G81
open PySem PySem.Spec PyProof.Rows L2 SlX
open SX (S)
theorem look_get {α : Type} {rs : List (Nat × α)} {g : Nat × α → D} {p : Nat × α} (nd : (rs.map (·.1)).Nodup) (h : p ∈ rs) : lookD (rs.map fun p => lt p.1) (rs.map g) (lt p.1) = some (g p) := by
  induction rs with
  | nil => cases h
  | cons q rs ih =>
    obtain ⟨h1, h2⟩ := List.nodup_cons.mp nd
    simp only [List.map_cons, lookD]
    rcases List.mem_cons.mp h with z | z
    · rw [if_pos (by rw [z]), z]
    · have ne : q.1 ≠ p.1 := fun e => h1 (List.mem_map.mpr ⟨p, z, e.symm⟩)
      rw [if_neg fun e => ne (lt_inj e)]
      exact ih h2 z
theorem look_mem {fs : List Nat} {g : Nat → D} {l : Nat} : (lookD (fs.map lt) (fs.map g) (lt l)).isSome = decide (l ∈ fs) := by
  induction fs with
  | nil => rfl
  | cons q fs ih =>
    simp only [List.map_cons, lookD]
    by_cases e : q = l
    · subst e
      simp
    · rw [if_neg fun z => e (lt_inj z), ih]
      simp [Ne.symm e]
theorem put_new {fs : List Nat} {g : Nat → D} {l : Nat} (h : l ∉ fs) : putD (fs.map lt) (fs.map g) (lt l) (g l) = ((fs ++ [l]).map lt, (fs ++ [l]).map g) := by
  unfold putD
  rw [if_neg (fun m => by obtain ⟨x, hx, e⟩ := List.mem_map.mp m; exact h (by rw [← lt_inj e]; exact hx)), List.map_append, List.map_append]
  rfl
/-- what stands while the letters are gathered -/
structure Met (s : Sc) (fs ws : List Nat) : Prop where
  nd : fs.Nodup
  rf : ∀ l ∈ fs, l ∈ s.keys ∧ Reach s.ax s.rs l
  rw' : ∀ l ∈ ws, l ∈ s.keys ∧ Reach s.ax s.rs l
  ax : ∀ p ∈ s.ax, p.1 ∈ fs ∨ p.1 ∈ ws
  cl : ∀ l ∈ fs, ∀ r, (l, r) ∈ s.rs → ∀ p ∈ r, p.1 ∈ fs ∨ p.1 ∈ ws
theorem Met.start {s : Sc} (W : Wf s) : Met s [] (s.ax.map (·.1)) := ⟨List.nodup_nil, (fun l h => nomatch h), (fun l h => by
  obtain ⟨p, hp, rfl⟩ := List.mem_map.mp h
  exact ⟨(W.ax.2.2 p hp).1, .ax hp⟩), (fun p hp => .inr (List.mem_map.mpr ⟨p, hp, rfl⟩)), (fun l h => nomatch h)⟩
theorem Met.old {s : Sc} {fs ws : List Nat} {l : Nat} (m : Met s fs (ws ++ [l])) (h : l ∈ fs) : Met s fs ws := by
  have fix : ∀ x, x ∈ fs ∨ x ∈ ws ++ [l] → x ∈ fs ∨ x ∈ ws := fun x z => by
    rcases z with z | z
    · exact .inl z
    · rcases List.mem_append.mp z with y | y
      · exact .inr y
      · rw [List.mem_singleton.mp y]; exact .inl h
  exact ⟨m.nd, m.rf, fun x hx => m.rw' x (List.mem_append_left _ hx), fun p hp => fix _ (m.ax p hp), fun x hx r hr p hp => fix _ (m.cl x hx r hr p hp)⟩
theorem Met.new {s : Sc} {fs ws : List Nat} {l : Nat} {r : Row} (W : Wf s) (m : Met s fs (ws ++ [l])) (h : l ∉ fs) (hr : (l, r) ∈ s.rs) : Met s (fs ++ [l]) (ws ++ ordL (r.map (·.1))) := by
  have inR : ∀ x, x ∈ ordL (r.map (·.1)) ↔ ∃ p ∈ r, p.1 = x := fun x => by
    rw [mem_ordL, List.mem_map]
    refine ⟨fun z => z.2, fun z => ⟨?_, z⟩⟩
    obtain ⟨p, hp, rfl⟩ := z
    obtain ⟨p', hp', e⟩ := List.mem_map.mp ((W.rows _ hr).2.2 p hp).1
    have := W.let_ p' hp'
    rw [← e]; omega
  have hl := m.rw' l (List.mem_append_right _ (List.mem_singleton.mpr rfl))
  have fix : ∀ x, x ∈ fs ∨ x ∈ ws ++ [l] → x ∈ fs ++ [l] ∨ x ∈ ws ++ ordL (r.map (·.1)) := fun x z => by
    rcases z with z | z
    · exact .inl (List.mem_append_left _ z)
    · rcases List.mem_append.mp z with y | y
      · exact .inr (List.mem_append_left _ y)
      · exact .inl (List.mem_append_right _ y)
  have uniq : ∀ r', (l, r') ∈ s.rs → r' = r := fun r' h' => by
    have key : ∀ {rs : Rls}, (rs.map (·.1)).Nodup → (l, r) ∈ rs → (l, r') ∈ rs → r' = r := by
      intro rs
      induction rs with
      | nil => intro _ h _; cases h
      | cons q rs ih =>
        intro nd a b
        obtain ⟨n1, n2⟩ := List.nodup_cons.mp nd
        rcases List.mem_cons.mp a with z | z <;> rcases List.mem_cons.mp b with y | y
        · have := z.trans y.symm; exact (Prod.ext_iff.mp this).2.symm
        · exact absurd (List.mem_map.mpr ⟨_, y, rfl⟩) (by rw [← z] at n1; exact n1)
        · exact absurd (List.mem_map.mpr ⟨_, z, rfl⟩) (by rw [← y] at n1; exact n1)
        · exact ih n2 z y
    exact key W.nd hr h'
  refine ⟨?_, fun x hx => ?_, fun x hx => ?_, fun p hp => fix _ (m.ax p hp), fun x hx r' hr' p hp => ?_⟩
  · exact List.nodup_append.mpr ⟨m.nd, by simp, fun a ha b hb e => h (by rw [List.mem_singleton.mp hb] at e; rw [← e]; exact ha)⟩
  · rcases List.mem_append.mp hx with z | z
    · exact m.rf x z
    · rw [List.mem_singleton.mp z]; exact hl
  · rcases List.mem_append.mp hx with z | z
    · exact m.rw' x (List.mem_append_left _ z)
    · obtain ⟨p, hp, rfl⟩ := (inR x).mp z
      exact ⟨((W.rows _ hr).2.2 p hp).1, .step hl.2 hr hp⟩
  · rcases List.mem_append.mp hx with z | z
    · exact fix _ (m.cl x z r' hr' p hp)
    · rw [List.mem_singleton.mp z] at hr'
      rw [uniq r' hr'] at hp
      exact .inr (List.mem_append_right _ ((inR _).mpr ⟨p, hp, rfl⟩))
theorem Met.end_ {s : Sc} {fs : List Nat} (m : Met s fs []) : ∀ l, Reach s.ax s.rs l → l ∈ fs := by
  intro l h
  induction h with
  | ax hp => exact (m.ax _ hp).elim id fun z => nomatch z
  | step _ hr hp ih => exact (m.cl _ ih _ hr _ hp).elim id fun z => nomatch z
theorem Ws.used_lt {s : Sc} (W : Ws s) : s.used.Pairwise (· < ·) := by
  unfold Sc.used
  exact List.Pairwise.filter _ W.ord
theorem mem_used {s : Sc} {l : Nat} : l ∈ s.used ↔ l ∈ s.keys ∧ Reach s.ax s.rs l := by
  unfold Sc.used
  rw [List.mem_filter, @decide_eq_true_eq _ (Classical.propDecidable _)]
theorem Wf.key_lt {s : Sc} (W : Wf s) {l : Nat} (h : l ∈ s.keys) : 97 ≤ l ∧ l ≤ 122 := by
  obtain ⟨p, hp, rfl⟩ := List.mem_map.mp h
  exact W.let_ p hp
theorem Met.used {s : Sc} {fs : List Nat} (W : Ws s) (m : Met s fs []) : ordL fs = s.used :=
  ordL_of W.used_lt (fun l => by rw [mem_used]; exact ⟨fun h => m.end_ l h.2, fun h => m.rf l h⟩) fun l h => by have := W.toWf.key_lt (mem_used.mp h).1; omega
theorem Wf.row_of {s : Sc} {l : Nat} (h : l ∈ s.keys) : ∃ r, (l, r) ∈ s.rs := by
  obtain ⟨p, hp, rfl⟩ := List.mem_map.mp h
  exact ⟨p.2, hp⟩
theorem nd_sub_len {fs ks : List Nat} (nd : fs.Nodup) (h : ∀ l ∈ fs, l ∈ ks) : fs.length ≤ ks.length := nat_nodup_len fs ks nd h
variable {P : Program} {w : World} {K : PySem.W.Frag} {mg : Str → Option Value} {base : Heap}
theorem scSm : FnScope ["self", "letter", "found", "waiting", "turn"] ["self"] (defScope (inClass (topS 41) 3)) := ⟨rfl, rfl, rfl, by decide +kernel, rfl, by decide +kernel, by decide +kernel⟩
def r_Scheme_letters_met (K : PySem.W.Frag) : RD := fun ds P => ∃ s : Sc, ds = [.obj (cS K) (s.five K)] ∧ Ws s ∧ P = Is (.tup (s.used.map dLet))
theorem w_Scheme_letters_met (T : Tx K mg) : MR P w K mg base 3 (He.ma K (He.ga K "Scheme") "letters_met") (r_Scheme_letters_met K) :=
  met_of T.d_Scheme_letters_met scSm (by rintro ds P ⟨n, rfl, _⟩; rfl) fun cdv A outer s' H E hr c ds Pd hR => by
    have nd := scSm.nd
    obtain ⟨s, rfl, W, rfl⟩ := hR
    have c1 := T.c_Scheme.1
    refine pb_par 2 3 (pa2C cx_dict fun c1' y1 s1 => cx_own (P := (· = s.ax.map fun p => dLet p.1)) (lcP (f := fun p : It2 => dLet p.1) 1 4 [("letter", 1), ("turn", 4)] (pix_tupv (px_slot c1 T.sl_Scheme_own_axiom (pvv 0) rfl)) (fun _ _ => rfl) (fun _ _ _ _ _ x _ hx => pvv 1) nd)) (fun c' y1 y2 ⟨c2, s1, s2⟩ => ?_) nd
    obtain ⟨fk1, l1, hl1, rfl, rfl⟩ := s1
    obtain ⟨fk2, l2, ds, hl2, rfl, rfl, rfl⟩ := s2
    have l12 : l1 ≠ l2 := fun e => hl2 (by rw [← e]; exact List.mem_cons_self)
    have l2c : l2 ∉ c.M := fun h => hl2 (List.mem_cons_of_mem _ h)
    have fk3 : Fok (c.add l2) := fok_add fk1 l2c
    have hl3 : l1 ∉ (c.add l2).M := fun h => by
      rcases List.mem_cons.mp h with z | z
      · exact l12 z
      · exact hl1 z
    refine pb_while (B := fun m δ' b => ∀ ws : List Nat, δ'[3]? = some (.own l2 (ws.map dLet)) → b = decide (ws ≠ [])) (fun m δ' => ∃ (fs ws : List Nat) (x y : Cell), x.adr = [] ∧ y.adr = [] ∧ Met s fs ws ∧ m ≤ 100 ∧ m = 13 * (s.keys.length - fs.length) + ws.length ∧ δ' = [.d (.obj (cS K) (s.five K)), x, .owk l1 (fs.map lt) (fs.map fun _ => .bl true), .own l2 (ws.map dLet), y]) PassesOwn.never _ ⟨[], s.ax.map (·.1), .no, .no, rfl, rfl, .start W.toWf, ?_, rfl, ?_⟩ ?_ ?_ ?_
    · have h6 : s.keys.length ≤ 6 := by unfold Sc.keys; rw [List.length_map]; exact W.toWf.len.2
      have := W.toWf.ax.2.1
      simp only [List.length_nil, List.length_map]
      omega
    · rw [List.map_map]; rfl
    · rintro m δ' ⟨fs, ws, x, y, hx, hy, M, h100, hm, rfl⟩
      have dq : ∀ ws : List Nat, (∀ l ∈ ws, l < 123) → Dq (.lst (ws.map dLet)) 1 := fun ws h => Dqs.all (n := 0) fun d hd => by obtain ⟨l, hl, rfl⟩ := List.mem_map.mp hd; exact lt_ok (h l hl)
      refine ptx_borrow 3 (c0 := c.add l1) rfl fk2 hl2 rfl (by simp only [offAll, hx, hy, List.set_cons_zero, List.set_cons_succ]; simp [Cell.adr, l12.symm]) (ptx_cmp (op_neD (ru hr)) (pvv 3) (pv_n (pvn_lst pvs_nil)) fun d e h1 h2 => ?_)
      cases (show d = _ from h1)
      cases (show e = _ from h2)
      refine l_neD (n := 1) (m := 1) (dq ws fun l hl => by have := W.toWf.key_lt (M.rw' l hl).1; omega) (dq [] fun l hl => nomatch hl) (by decide) (by decide) fun b hb => ⟨_, rfl, fun ws' e => ?_⟩
      have e1 : ws'.map dLet = ws.map dLet := by
        have := Option.some.inj e
        injection this with _ z
        exact z.symm
      have e2 : ws'.length = ws.length := by rw [← List.length_map (f := dLet), e1, List.length_map]
      cases ws with
      | nil =>
        rw [List.eq_nil_of_length_eq_zero e2, hb.mpr rfl]
        rfl
      | cons w0 ws =>
        have nb : b = false := by
          cases b with
          | false => rfl
          | true => exact nomatch (D.lst.inj (hb.mp rfl))
        rw [nb, decide_eq_true (show ws' ≠ [] from fun z => by rw [z] at e2; cases e2)]
        rfl
    · rintro m δ' ⟨fs, ws, x, y, hx, hy, M, h100, hm, rfl⟩ hb
      have ne : ws ≠ [] := by
        have := (hb ws rfl).symm
        exact of_decide_eq_true this
      obtain ⟨ws', l, rfl⟩ : ∃ ws' l, ws = ws' ++ [l] := ⟨ws.dropLast, ws.getLast ne, (List.dropLast_concat_getLast ne).symm⟩
      have hlk := (M.rw' l (List.mem_append_right _ (List.mem_singleton.mpr rfl))).1
      obtain ⟨r, hr'⟩ := Wf.row_of hlk
      refine pb_pop (d := dLet l) (ds := ws'.map dLet) 3 1 (by rw [List.map_append]; rfl) (by simp only [offAll, hx, hy, List.set_cons_zero, List.set_cons_succ]; simp [Cell.adr, l12.symm]) ?_ nd
      refine pb_if (M := fun δ2 => ∃ m' < m, ∃ (fs ws : List Nat) (x y : Cell), x.adr = [] ∧ y.adr = [] ∧ Met s fs ws ∧ m' ≤ 100 ∧ m' = 13 * (s.keys.length - fs.length) + ws.length ∧ δ2 = [.d (.obj (cS K) (s.five K)), x, .owk l1 (fs.map lt) (fs.map fun _ => .bl true), .own l2 (ws.map dLet), y]) (ptx_sameF .swap (ptx_borrowK 2 (c0 := c.add l2) rfl fk3 hl3 rfl (by simp only [offAll, hx, hy, List.set_cons_zero, List.set_cons_succ]; simp [Cell.adr, l12]) (ptv_dnotin (ru hr) (pvv 1) (pvv 2) .mdc))) (fun hB => ?_) (fun hB => ?_) (.inl rfl) fun δ3 h3 => pb_end h3
      · rw [look_mem] at hB
        have nin : l ∉ fs := fun z => by rw [decide_eq_true z] at hB; cases hB
        refine pb_dput (P := Is (.bl true)) 2 (ru hr) rfl pv_bl (pvv 1) (by simp only [offAll, hx, hy, List.set_cons_zero, List.set_cons_succ]; simp [Cell.adr, l12]) ?_ fun d hd => ?_
        · rw [List.length_map]
          have := nd_sub_len M.nd fun l hl => (M.rf l hl).1
          have h6 : s.keys.length ≤ 6 := by unfold Sc.keys; rw [List.length_map]; exact W.toWf.len.2
          exact Nat.lt_of_le_of_lt (show _ ≤ 6 by omega) (by decide)
        · cases (show d = _ from hd)
          rw [put_new (g := fun _ => D.bl true) nin]
          have M2 := M.new W.toWf nin hr'
          have h6 : s.keys.length ≤ 6 := by unfold Sc.keys; rw [List.length_map]; exact W.toWf.len.2
          have hf := nd_sub_len M2.nd fun l hl => (M2.rf l hl).1
          have ho : (ordL (r.map (·.1))).length ≤ 12 := by
            have : (ordL (r.map (·.1))).length ≤ (r.map (·.1)).length := nat_nodup_len _ _ ordL_nd fun x hx => (mem_ordL.mp hx).2
            rw [List.length_map] at this
            have := (show r.length ≤ 12 from (W.toWf.rows _ hr').2.1)
            omega
          rw [List.length_append, List.length_singleton] at hf
          refine pb_ext 3 rfl (v_prop (l := [dPt (endOf s.sq (0, 0) r), dGrid K s.sq, dRow r, .tup ((startsOf s.sq (0, 0) r).map dPt)]) (pv_dget (ru hr) (px_slot c1 T.sl_Scheme_own_rules (pvv 0) rfl) .dct (pvv 1) (look_get (p := (l, r)) W.toWf.nd hr')) T.c_Rule.1 T.p_Rule_letters (w_Rule_letters T) hr (by decide) ⟨s.sq, r, rfl, fun p hp => by have := W.toWf.key_lt ((W.toWf.rows _ hr').2.2 p hp).1; omega, by have := (show r.length ≤ 12 from (W.toWf.rows _ hr').2.1); omega, rfl⟩) (.inr rfl) (by simp only [offAll, hx, hy, List.set_cons_zero, List.set_cons_succ]; simp [Cell.adr, l12.symm]) ?_ ?_
          · rw [List.length_append, List.length_singleton] at hm
            simp only [List.length_map]
            exact Nat.le_trans (show _ ≤ 200 by omega) (by decide)
          · refine pb_end ⟨_, ?_, fs ++ [l], ws' ++ ordL (r.map (·.1)), .d (dLet l), y, rfl, hy, M2, ?_, rfl, ?_⟩
            · rw [hm]
              simp only [List.length_append, List.length_singleton]
              omega
            · rw [hm] at h100
              simp only [List.length_append, List.length_singleton] at h100 ⊢
              omega
            · simp only [List.map_append]
              rfl
      · rw [look_mem] at hB
        have inn : l ∈ fs := by
          by_cases z : l ∈ fs
          · exact z
          · rw [decide_eq_false z] at hB; cases hB
        exact pb_end ⟨_, by rw [hm, List.length_append, List.length_singleton]; omega, fs, ws', .d (dLet l), y, rfl, hy, M.old inn, by rw [List.length_append, List.length_singleton] at hm; omega, rfl, rfl⟩
    · rintro m δ' ⟨fs, ws, x, y, hx, hy, M, h100, hm, rfl⟩ hb
      have ne : ws = [] := by
        have := hb ws rfl
        by_cases z : ws = []
        · exact z
        · rw [decide_eq_true z] at this; cases this
      subst ne
      refine pb_forget 3 (Nat.le_of_ble_eq_true rfl) fk2 (by simp only [offAll, hx, hy, List.set_cons_zero, List.set_cons_succ]; simp [Cell.adr, l12.symm]) (pb_lock 2 fk1 hl1 rfl (by simp only [offAll, hx, hy, List.set_cons_zero, List.set_cons_succ]; simp [Cell.adr]) ?_)
      have few : fs.length < 64 := by
        have := nd_sub_len M.nd fun l hl => (M.rf l hl).1
        have h6 : s.keys.length ≤ 6 := by unfold Sc.keys; rw [List.length_map]; exact W.toWf.len.2
        omega
      exact pb_ret .refl (v_tupL T (pv_eq (pv_n (n_sortDL T (pvv 2) M.nd few fun l hl => by have := W.toWf.key_lt (M.rf l hl).1; omega)) (by rw [M.used W]))) fun _ h => h
end G81
set_option maxRecDepth 100000
set_option maxHeartbeats 4000000
/-! Scheme(grid, axiom, rules) -/
namespace G81
open PySem PySem.Spec PyProof.Rows L2 SlX
open SX (S)
section
variable {X : Cx} {c : Fm} {δ : List Cell} {f : Str} {pos : Pos} {a dx C pr : Addr} {ss : List (Option D)} {d : D} {n : Nat}
/-- self.f while self is made -/
theorem px_slotS {z : Str} {zp : Pos} (j : Nat) (c' : SCls X.K C) (t : Slot1 X.K C f pr n) (hd : δ[j]? = some (.slf a dx C ss)) (hi : ss[n]? = some (some d)) (hN : X.N[j]? = some z := by rfl) (hv : Vis X.env.scope z := by first | exact Or.inl rfl | exact Or.inr (Or.inl rfl) | exact Or.inr (Or.inr rfl)) (h1 : (z == ("__debug__" : Str)) = false := by decide) (h2 : (z == ("__classdict__" : Str)) = false := by decide)
    (hb : attributeBase (.Name z zp) f X.env (eval (.Name z zp) X.env) = eval (.Name z zp) X.env := by rfl) : PV X c δ (.Attribute (.Name z zp) f pos) d :=
  PE.mono (pe_sl (pe_slot j hN hv h1 h2) hb) fun σ H Q ⟨z, w⟩ => by
    obtain ⟨y, e0, e1, m1, m2, xs, hs, ho, hx⟩ := z.at_ j _ hd
    subst e1
    obtain ⟨v, e2, av⟩ := hx.2 n d hi
    exact ⟨.ref a, e0, a, C, dx, pr, xs, n, v, rfl, hs, c', t, e2, w v H d rfl .refl av⟩
end
def rowOf (rs : Rls) (l : Nat) : Row := ((rs.find? fun p => p.1 == l).map (·.2)).getD []
theorem rowOf_in {rs : Rls} {l : Nat} (h : l ∈ rs.map (·.1)) : (l, rowOf rs l) ∈ rs := by
  unfold rowOf
  obtain ⟨p, hp, e⟩ := List.mem_map.mp h
  cases hf : rs.find? (fun p => p.1 == l) with
  | none => exact absurd (List.find?_eq_none.mp hf p hp) (by simp [e])
  | some q =>
    have h1 := List.mem_of_find?_eq_some hf
    have h2 := List.find?_some hf
    have : q.1 = l := by simpa using h2
    rw [← this]
    exact h1
theorem row_uniq {rs : Rls} {l : Nat} {r r' : Row} (nd : (rs.map (·.1)).Nodup) (a : (l, r) ∈ rs) (b : (l, r') ∈ rs) : r' = r := by
  induction rs with
  | nil => cases a
  | cons q rs ih =>
    obtain ⟨n1, n2⟩ := List.nodup_cons.mp nd
    rcases List.mem_cons.mp a with z | z <;> rcases List.mem_cons.mp b with y | y
    · have := z.trans y.symm; exact (Prod.ext_iff.mp this).2.symm
    · exact absurd (List.mem_map.mpr ⟨_, y, rfl⟩) (by rw [← z] at n1; exact n1)
    · exact absurd (List.mem_map.mpr ⟨_, z, rfl⟩) (by rw [← y] at n1; exact n1)
    · exact ih n2 z y
theorem rowOf_eq {rs : Rls} {l : Nat} {r : Row} (nd : (rs.map (·.1)).Nodup) (h : (l, r) ∈ rs) : rowOf rs l = r := row_uniq nd h (rowOf_in (List.mem_map.mpr ⟨_, h, rfl⟩))
/-- the rules, ascending -/
def srt (rs : Rls) : Rls := (ordL (rs.map (·.1))).map fun l => (l, rowOf rs l)
def Sc.srt (s : Sc) : Sc := ⟨s.sq, s.ax, G81.srt s.rs⟩
theorem Wf.k123 {s : Sc} (W : Wf s) : ∀ l ∈ s.keys, l < 123 := fun l h => by have := W.key_lt h; omega
theorem srt_keys (s : Sc) : s.srt.keys = ordL s.keys := by
  unfold Sc.keys Sc.srt G81.srt
  rw [List.map_map]
  exact List.map_id _
theorem mem_srt {s : Sc} (W : Wf s) {p : Nat × Row} : p ∈ s.srt.rs ↔ p ∈ s.rs := by
  unfold Sc.srt G81.srt
  rw [List.mem_map]
  constructor
  · rintro ⟨l, hl, rfl⟩
    exact rowOf_in (mem_ordL.mp hl).2
  · intro h
    have hk : p.1 ∈ s.keys := List.mem_map.mpr ⟨p, h, rfl⟩
    exact ⟨p.1, (mem_ordL' W.k123).mpr hk, Prod.ext rfl (rowOf_eq W.nd h)⟩
theorem mem_srtk {s : Sc} (W : Wf s) {l : Nat} : l ∈ s.srt.keys ↔ l ∈ s.keys := by rw [srt_keys, mem_ordL' W.k123]
theorem ordL_len {ls : List Nat} (nd : ls.Nodup) (h : ∀ l ∈ ls, l < 123) : (ordL ls).length = ls.length := by
  refine ((List.perm_ext_iff_of_nodup ordL_nd nd).mpr fun l => mem_ordL' h).length_eq
theorem Wf.srt {s : Sc} (W : Wf s) : Ws s.srt where
  nd := by rw [srt_keys]; exact ordL_nd
  len := by
    have e : s.srt.rs.length = s.rs.length := by
      have := ordL_len W.nd W.k123
      unfold Sc.srt G81.srt
      rw [List.length_map]
      unfold Sc.keys at this
      rw [this, List.length_map]
    rw [e]; exact W.len
  let_ := fun p hp => W.let_ p ((mem_srt W).mp hp)
  rows := fun p hp => ⟨(W.rows p ((mem_srt W).mp hp)).1, (W.rows p ((mem_srt W).mp hp)).2.1, fun q hq => ⟨(mem_srtk W).mpr ((W.rows p ((mem_srt W).mp hp)).2.2 q hq).1, ((W.rows p ((mem_srt W).mp hp)).2.2 q hq).2⟩⟩
  ax := ⟨W.ax.1, W.ax.2.1, fun q hq => ⟨(mem_srtk W).mpr (W.ax.2.2 q hq).1, (W.ax.2.2 q hq).2⟩⟩
  ends := by
    obtain ⟨g, h1, h2⟩ := W.ends
    exact ⟨g, h1, fun p hp => h2 p ((mem_srt W).mp hp)⟩
  ord := by rw [srt_keys]; exact ordL_lt
theorem lineG_eq (sq : Bool) : cats Str.empty ["grid", " ", gname sq] = lineG sq := by cases sq <;> decide +kernel
theorem cat3 {a b : String} {l : List Nat} (e : ((a : Str).cps.toList ++ (b : Str).cps.toList) = codes (a ++ b)) : cats Str.empty [(a : Str), (b : Str), S l] = S (codes (a ++ b) ++ l) := by
  show Str.empty ++ (a : Str) ++ (b : Str) ++ S l = _
  rw [show Str.empty = S [] from rfl, ← SX.S_tl (a : Str), ← SX.S_tl (b : Str), SX.S_cat, SX.S_cat, SX.S_cat, List.nil_append, e]
theorem lineA_eq (r : Row) : cats Str.empty ["axiom", " ", S (rowC r)] = lineA r := by
  show Str.empty ++ "axiom" ++ " " ++ S (rowC r) = _
  rw [show Str.empty ++ ("axiom" : Str) ++ (" " : Str) = S (codes "axiom ") by decide +kernel, SX.S_cat]
  rfl
theorem lineR_eq (p : Nat × Row) : cats Str.empty ["rule", " ", lt p.1, " ", S (rowC p.2)] = lineR p := by
  show Str.empty ++ "rule" ++ " " ++ lt p.1 ++ " " ++ S (rowC p.2) = _
  rw [show Str.empty ++ ("rule" : Str) ++ (" " : Str) = S (codes "rule ") by decide +kernel, show lt p.1 = S [p.1] from rfl, SX.S_cat, show (" " : Str) = S [32] by decide +kernel, SX.S_cat, SX.S_cat]
  unfold lineR
  simp [List.append_assoc]
end G81
set_option maxRecDepth 100000
set_option maxHeartbeats 4000000
/-! Scheme(grid, axiom, rules): the walk -/
namespace G81
open PySem PySem.Spec PyProof.Rows L2 SlX
open SX (S)
variable {P : Program} {w : World} {K : PySem.W.Frag} {mg : Str → Option Value} {base : Heap}
theorem scSi : FnScope ["self", "grid", "axiom", "rules", "told", "letter", "rule"] ["self", "grid", "axiom", "rules"] (defScope (inClass (topS 41) 1)) := ⟨rfl, rfl, rfl, by decide +kernel, rfl, by decide +kernel, by decide +kernel⟩
theorem pb_slotE {X : Cx} {c : Fm} {δ : List Cell} {e : Expr} {rest : List Stmt} {w : Wi} {pos pos' : Pos} {f : Str} {a dx C p : Addr} {n : Nat} {P : D → Prop} {z : Str} {zp : Pos} {ss : List (Option D)} (j : Nat) (ss2 : List (Option D)) (c' : SCls X.K C) (t : Slot1 X.K C f p n) (hd : δ[j]? = some (.slf a dx C ss)) (he : PX X c δ e P) (off1 : offAll a (δ.set j .no)) (off2 : offAll dx (δ.set j .no)) (hf : ∀ d, P d → fillS n d ss = ss2) (q : PB X c (δ.set j (.slf a dx C ss2)) rest w)
    (hN : X.N[j]? = some z := by rfl) (hv : Vis X.env.scope z := by first | exact Or.inl rfl | exact Or.inr (Or.inl rfl) | exact Or.inr (Or.inr rfl)) (h1 : (z == ("__debug__" : Str)) = false := by decide) (h2 : (z == ("__classdict__" : Str)) = false := by decide)
    (hsw : swapsWith e (some (.Attribute (.Name z zp) f pos')) pos.line X.env = pure false := by rfl) : PB X c δ (.Assign [.Attribute (.Name z zp) f pos'] e pos :: rest) w :=
  pb_slot j c' t hd he off1 off2 (fun d pd => by rw [hf d pd]; exact q) hN hv h1 h2 hsw
theorem str_len (x y : Str) : (x ++ y).length = x.length + y.length := by
  show (x.cps ++ y.cps).size = _
  rw [Array.size_append]
  rfl
theorem catsOk_sum : ∀ (zs : List Str) (acc : Str), acc.length + (zs.map (·.length)).sum ≤ 1000 → catsOk acc zs
  | [], _, _ => trivial
  | z :: zs, acc, h => by
    rw [List.map_cons, List.sum_cons] at h
    refine ⟨Nat.le_trans (show (acc ++ z).length ≤ 1000 by rw [str_len]; omega) (by decide), catsOk_sum zs (acc ++ z) (by rw [str_len]; omega)⟩
theorem join_len : ∀ l : List (List Nat), (∀ a ∈ l, a.length = 2) → (TL.joinL [32] l).length ≤ 3 * l.length
  | [], _ => Nat.le_refl _
  | [p], h => by
    show p.length ≤ _
    rw [h p List.mem_cons_self]
    exact Nat.le_of_ble_eq_true rfl
  | p :: q :: r, h => by
    show (p ++ ([32] ++ TL.joinL [32] (q :: r))).length ≤ _
    have := join_len (q :: r) fun a ha => h a (List.mem_cons_of_mem _ ha)
    rw [List.length_append, List.length_append, h p List.mem_cons_self]
    simp only [List.length_cons, List.length_nil] at this ⊢
    omega
theorem rowC_len (r : Row) : (rowC r).length ≤ 3 * r.length := by
  have := join_len (r.map itemC) fun a ha => by obtain ⟨p, _, rfl⟩ := List.mem_map.mp ha; rfl
  rwa [List.length_map] at this
noncomputable def r_Scheme_init (K : PySem.W.Frag) : RI := fun ds P => ∃ s : Sc, ds = [dGrid K s.sq, dRow s.ax, dRls s.rs] ∧ Wf s ∧ P = (· = s.srt.five K ++ [.tup (s.srt.used.map dLet)])
theorem k_Scheme (T : Tx K mg) : Mak P w K mg base 9 "Scheme" (cS K) (r_Scheme_init K) := by
  obtain ⟨fd, F, b⟩ := T.d_Scheme_init
  refine ⟨_, fd, _, T.k_Scheme, inD (N := ["self", "grid", "axiom", "rules", "told", "letter", "rule"]) F scSi (by rintro ds P ⟨s, rfl, _⟩; rfl) ?_, T.g_Scheme, b⟩
  intro cdv A outer s' H E hr c a dx ds Pd hO h1 h2 h3 fk hR
  have nd := scSi.nd
  obtain ⟨s, rfl, W, rfl⟩ := hR
  have c1 := T.c_Scheme.1
  refine pb_expr (pv_call (w_require_grid T) hr (by decide) rfl (pvs_cons (pvv 1) pvs_nil) ⟨s.sq, rfl, rfl⟩) ?_
  refine pb_ifRet (ptv_not (ptv_val (pv_call (w_are_parts T) hr (by decide) rfl (pvs_cons (pvv 1) (pvs_cons (pvv 2) (pvs_cons (pvv 3) pvs_nil))) ⟨s, rfl, W, rfl⟩))) (fun h => nomatch h) fun _ => ?_
  refine pb_slot 0 (a := a) (dx := dx) (C := cS K) c1 T.sl_Scheme_own_grid rfl (pvv 1) (by simp [offAll, startI, Cell.adr]) (by simp [offAll, startI, Cell.adr]) (fun d hd => ?_)
  cases (show d = _ from hd)
  refine pb_slot 0 (a := a) (dx := dx) (C := cS K) c1 T.sl_Scheme_own_axiom rfl (pvv 2) (by simp [offAll, startI, Cell.adr]) (by simp [offAll, startI, Cell.adr]) (fun d hd => ?_)
  cases (show d = _ from hd)
  have k123 := W.k123
  have few : s.keys.length < 64 := by have := W.len.2; unfold Sc.keys; rw [List.length_map]; omega
  have Ws := W.srt
  refine pb_slotE 0 [some (dRow s.ax), some (dGrid K s.sq), none, none, some (.dct (s.srt.rs.map fun p => lt p.1) (s.srt.rs.map fun p => dRule K s.sq p.2))] (P := Is (.dct (s.srt.rs.map fun p => lt p.1) (s.srt.rs.map fun p => dRule K s.sq p.2))) (a := a) (dx := dx) (C := cS K) c1 T.sl_Scheme_own_rules rfl ?_ (by simp [offAll, startI, Cell.adr]) (by simp [offAll, startI, Cell.adr]) (fun d e => by rw [show d = _ from e]; rfl) ?_
  · refine px_k (pk_dc (xs := s.srt.rs) (emb := fun p : Nat × Row => dLet p.1) (kf := fun p : Nat × Row => lt p.1) (vf := fun p => dRule K s.sq p.2) (.nm 5) [("letter", 5)] (PIX.mono (pix_lstv (xs := ordL s.keys) (emb := dLet) (pv_n (n_sortDL T (ls := s.keys) (l := s.rs.map fun p => dRow p.2) (pv_eq (pvv 3) ?_) W.nd few k123))) fun ds e => ?_) (fun _ _ => rfl) (blkOk_by (by rfl)) (by intros; exact pgx_nm (by assumption) rfl (by first | exact Or.inl rfl | exact Or.inr rfl))
      (fun _ _ _ _ _ x _ hx => pvv 5) (fun _ _ _ _ _ x _ hx => px_mk (k_Rule T) hr (by decide) rfl (pvs_cons (pvv 1) (pvs_cons (pv_dget (ru hr) (pvv 3) .dct (pvv 5) (look_get (p := x) W.nd ((mem_srt W).mp hx))) pvs_nil)) fun ds e => ⟨_, ⟨s.sq, x.2, e, (W.okRow x ((mem_srt W).mp hx)).2, rfl⟩, fun ss e => ?_⟩) nd ?_)
    · unfold dRls Sc.keys
      rw [List.map_map]
      rfl
    · rw [e]
      unfold Sc.srt G81.srt
      rw [List.map_map]
      rfl
    · rw [show ss = _ from e]
      rfl
    · have e : (s.srt.rs.map fun p => lt p.1) = s.srt.keys.map lt := by unfold Sc.keys; rw [List.map_map]; rfl
      rw [e]
      exact List.Pairwise.map lt (fun _ _ h e => h (lt_inj e)) Ws.nd
  obtain ⟨p0, rs', hp0⟩ : ∃ p0 rs', s.srt.rs = p0 :: rs' := by
    have := Ws.len.1
    cases h : s.srt.rs with
    | nil => rw [h] at this; simp at this
    | cons p r => exact ⟨p, r, rfl⟩
  have gr : s.srt.growth = endOf s.sq (0, 0) p0.2 := by
    unfold Sc.growth
    rw [hp0]
    rfl
  have rw_ : ∀ p ∈ s.srt.rs, (∀ q ∈ p.2, q.2 < 10) ∧ p.2.length ≤ 12 := fun p hp => ⟨fun q hq => by have := ((Ws.rows p hp).2.2 q hq).2; have := ar_le s.srt.sq; omega, (Ws.rows p hp).2.1⟩
  refine pb_slotE 0 [some (dRow s.ax), some (dGrid K s.sq), some (dPt s.srt.growth), none, some (.dct (s.srt.rs.map fun p => lt p.1) (s.srt.rs.map fun p => dRule K s.sq p.2))] (P := Is (dPt s.srt.growth)) (a := a) (dx := dx) (C := cS K) c1 T.sl_Scheme_own_growth rfl ?_ (by simp [offAll, startI, Cell.adr]) (by simp [offAll, startI, Cell.adr]) (fun d e => by rw [show d = _ from e]; rfl) ?_
  · refine pv_ix ix_list (pv_n (lcN (xs := s.srt.rs) (emb := fun p : Nat × Row => dRule K s.sq p.2) (f := fun p => dPt (endOf s.sq (0, 0) p.2)) 6 [("rule", 6)] (PIX.mono (pix_values (px_slotS 0 c1 T.sl_Scheme_own_rules rfl rfl)) fun ds e => e) (fun _ _ => rfl) (fun _ _ _ _ _ x _ hx => v_prop (pvv 6) T.c_Rule.1 T.p_Rule_end (w_Rule_end T) hr (by decide) ⟨s.sq, x.2, rfl, rfl⟩) nd)) pv_int (l_ixL (by rw [hp0, gr]; exact atI_nat (i := 0) rfl))
  refine setLcP (xs := s.srt.rs) (emb := fun p : Nat × Row => .tup [.txt (lt p.1), dRule K s.sq p.2]) (f := fun p => D.txt (lineR p)) 4 5 6 [("letter", 5), ("rule", 6)] (pix_items (kf := fun p : Nat × Row => lt p.1) (vf := fun p => dRule K s.sq p.2) (px_slotS 0 c1 T.sl_Scheme_own_rules rfl rfl) (fun _ => rfl)) (fun _ _ => rfl) (fun _ _ _ _ _ x _ hx => pv_eq (pv_joined (.cons (pv_fmtT (pv_gS T.s_RULE) (by decide)) (.cons pv_str (.cons (pv_fmtT (pvv 5) (by show 1 ≤ sizeLine; decide)) (.cons pv_str (.cons (pv_fmtSl (pvv 6) T.fm_Rule T.c_Rule.2.cm T.m_Rule_str.at_ T.m_Rule_str.fn (w_Rule_str T) hr (by decide) ⟨s.sq, x.2, rfl, (rw_ x hx).1, by have := (rw_ x hx).2; omega, rfl⟩) .nil))))) ?_) (by rw [lineR_eq])) nd ?_
  · refine catsOk_sum _ _ ?_
    have := rowC_len x.2
    have := (rw_ x hx).2
    simp only [List.map_cons, List.map_nil, List.sum_cons, List.sum_nil, SX.S_len]
    show 0 + (4 + (1 + (1 + (1 + ((rowC x.2).length + 0))))) ≤ 1000
    omega
  refine pb_slotE 0 ((s.srt.five K).map some) (P := Is (.tup ((linesOf s.sq s.ax s.srt.rs).map D.txt))) (a := a) (dx := dx) (C := cS K) c1 T.sl_Scheme_own_lines rfl ?_ (by simp [offAll, startI, Cell.adr]) (by simp [offAll, startI, Cell.adr]) (fun d e => by rw [show d = _ from e]; rfl) ?_
  · refine px_tup (pxs_cons (pv_eq (pv_joined (zs := ["grid", " ", gname s.sq]) (.cons (pv_fmtT (pv_gS T.s_GRID) (by decide)) (.cons pv_str (.cons (pv_fmtT (v_prop (pvv 1) T.c_Grid.1 T.p_Grid_name (w_Grid_name T) hr (by decide) ⟨s.sq, rfl, rfl⟩) (by cases s.sq <;> decide)) .nil))) (by cases s.sq <;> exact catsOk_sum _ _ (by decide))) (by rw [lineG_eq]))
      (pxs_cons (pv_eq (pv_joined (.cons (pv_fmtT (pv_gS T.s_AXIOM) (by decide)) (.cons pv_str (.cons (pv_fmtT (pv_call (w_row_text T) hr (by decide) rfl (pvs_cons (pvv 2) pvs_nil) ⟨s.ax, rfl, fun q hq => by have := (W.ax.2.2 q hq).2; have := ar_le s.sq; omega, by have := W.ax.2.1; omega, rfl⟩) ?_) .nil))) ?_) (by rw [lineA_eq])) (pxs_star (.inl rfl) (pvv 4) pvs_nil))) ?_ ?_
    · rw [SX.S_len]
      have := rowC_len s.ax
      have := W.ax.2.1
      exact Nat.le_trans (show _ ≤ 1000 by omega) (by decide)
    · refine catsOk_sum _ _ ?_
      have := rowC_len s.ax
      have := W.ax.2.1
      simp only [List.map_cons, List.map_nil, List.sum_cons, List.sum_nil, SX.S_len]
      show 0 + (5 + (1 + ((rowC s.ax).length + 0))) ≤ 1000
      omega
    · rintro l ⟨d, r, rfl, e1, d2, r2, rfl, e2, r3, rfl, rfl⟩
      simp only [List.length_cons, List.length_append, List.length_map, List.length_nil]
      exact Nat.le_trans (show _ ≤ 1000 by have := Ws.len.2; omega) (by decide)
    · rintro l ⟨d, r, rfl, e1, d2, r2, rfl, e2, r3, rfl, rfl⟩
      cases (show d = _ from e1)
      cases (show d2 = _ from e2)
      show _ = _
      unfold linesOf
      rw [List.append_nil, List.map_cons, List.map_cons, List.map_map]
      rfl
  refine pb_slotE 0 ((s.srt.five K ++ [D.tup (s.srt.used.map dLet)]).map some) (P := Is (.tup (s.srt.used.map dLet))) (a := a) (dx := dx) (C := cS K) c1 T.sl_Scheme_own_used rfl ?_ (by simp [offAll, startI, Cell.adr]) (by simp [offAll, startI, Cell.adr]) (fun d e => by rw [show d = _ from e]; rfl) ?_
  · refine px_borrowS 0 (c0 := c) (ss := s.srt.five K) rfl fk h1 h2 h3 rfl (by unfold Sc.five; simp) (by simp [offAll, startI, Cell.adr]) (by simp [offAll, startI, Cell.adr]) ?_ (fun d e => ⟨s.srt.used.map lt, by rw [show d = _ from e, List.map_map]; rfl⟩)
    exact px_meth0 (pvv 0) c1 T.m_Scheme_letters_met (w_Scheme_letters_met T) hr (by decide) (fun d e => ⟨_, e⟩) fun d e => ⟨s.srt, by rw [show d = _ from e] <;> rfl, Ws, rfl⟩
  exact pb_nil (w := wI c a dx (cS K) _) ⟨s.srt.five K ++ [.tup (s.srt.used.map dLet)], rfl, rfl, by simp⟩
end G81
set_option maxRecDepth 100000
set_option maxHeartbeats 2000000
/-! what a scheme answers -/
namespace G81
open PySem PySem.Spec PyProof.Rows L2 SlX
open SX (S)
variable {P : Program} {w : World} {K : PySem.W.Frag} {mg : Str → Option Value} {base : Heap}
theorem scS1 {i : Nat} (h : i = 4 ∨ i = 5 ∨ i = 6 ∨ i = 7 ∨ i = 8 ∨ i = 11 ∨ i = 17 ∨ i = 18) : FnScope ["self"] ["self"] (defScope (inClass (topS 41) i)) := by
  rcases h with h | h | h | h | h | h | h | h <;> subst h <;> exact ⟨rfl, rfl, rfl, by decide +kernel, rfl, by decide +kernel, by decide +kernel⟩
theorem scSr : FnScope ["self", "value"] ["self", "value"] (defScope (inClass (topS 41) 14)) := ⟨rfl, rfl, rfl, by decide +kernel, rfl, by decide +kernel, by decide +kernel⟩
theorem scSg : FnScope ["self", "letter"] ["self", "letter"] (defScope (inClass (topS 41) 15)) := ⟨rfl, rfl, rfl, by decide +kernel, rfl, by decide +kernel, by decide +kernel⟩
theorem scSe : FnScope ["self", "value"] ["self", "value"] (defScope (inClass (topS 41) 19)) := ⟨rfl, rfl, rfl, by decide +kernel, rfl, by decide +kernel, by decide +kernel⟩
theorem scSv : FnScope ["self", "rule"] ["self"] (defScope (inClass (topS 41) 10)) := ⟨rfl, rfl, rfl, by decide +kernel, rfl, by decide +kernel, by decide +kernel⟩
noncomputable def r_Scheme_grid (K : PySem.W.Frag) : RD := fun ds P => ∃ s : Sc, ds = [dSch K s] ∧ P = Is (dGrid K s.sq)
theorem w_Scheme_grid (T : Tx K mg) : MR P w K mg base 1 ((Wh.prp "Scheme" "grid").adr K) (r_Scheme_grid K) :=
  met_of T.d_Scheme_grid (scS1 (.inl rfl)) (by rintro ds P ⟨s, rfl, _⟩; rfl) fun cdv A outer s' H E hr c ds Pd hR => by
    obtain ⟨s, rfl, rfl⟩ := hR
    exact pb_ret .refl (px_slot T.c_Scheme.1 T.sl_Scheme_own_grid (pvv 0) rfl) fun _ h => h
noncomputable def r_Scheme_axiom (K : PySem.W.Frag) : RD := fun ds P => ∃ s : Sc, ds = [dSch K s] ∧ P = Is (dRow s.ax)
theorem w_Scheme_axiom (T : Tx K mg) : MR P w K mg base 1 ((Wh.prp "Scheme" "axiom").adr K) (r_Scheme_axiom K) :=
  met_of T.d_Scheme_axiom (scS1 (.inr (.inl rfl))) (by rintro ds P ⟨s, rfl, _⟩; rfl) fun cdv A outer s' H E hr c ds Pd hR => by
    obtain ⟨s, rfl, rfl⟩ := hR
    exact pb_ret .refl (px_slot T.c_Scheme.1 T.sl_Scheme_own_axiom (pvv 0) rfl) fun _ h => h
theorem keys_txt (s : Sc) : ((s.rs.map fun p => lt p.1).map D.txt) = s.keys.map dLet := by
  unfold Sc.keys
  rw [List.map_map, List.map_map]
  rfl
noncomputable def r_Scheme_letters (K : PySem.W.Frag) : RD := fun ds P => ∃ s : Sc, ds = [dSch K s] ∧ P = Is (.tup (s.keys.map dLet))
theorem w_Scheme_letters (T : Tx K mg) : MR P w K mg base 1 ((Wh.prp "Scheme" "letters").adr K) (r_Scheme_letters K) :=
  met_of T.d_Scheme_letters (scS1 (.inr (.inr (.inl rfl)))) (by rintro ds P ⟨s, rfl, _⟩; rfl) fun cdv A outer s' H E hr c ds Pd hR => by
    obtain ⟨s, rfl, rfl⟩ := hR
    exact pb_ret .refl (pv_eq (v_tupD T (px_slot T.c_Scheme.1 T.sl_Scheme_own_rules (pvv 0) rfl)) (by rw [keys_txt])) fun _ h => h
noncomputable def r_Scheme_growth (K : PySem.W.Frag) : RD := fun ds P => ∃ s : Sc, ds = [dSch K s] ∧ P = Is (dPt s.growth)
theorem w_Scheme_growth (T : Tx K mg) : MR P w K mg base 1 ((Wh.prp "Scheme" "growth").adr K) (r_Scheme_growth K) :=
  met_of T.d_Scheme_growth (scS1 (.inr (.inr (.inr (.inl rfl))))) (by rintro ds P ⟨s, rfl, _⟩; rfl) fun cdv A outer s' H E hr c ds Pd hR => by
    obtain ⟨s, rfl, rfl⟩ := hR
    exact pb_ret .refl (px_slot T.c_Scheme.1 T.sl_Scheme_own_growth (pvv 0) rfl) fun _ h => h
noncomputable def r_Scheme_lines (K : PySem.W.Frag) : RD := fun ds P => ∃ s : Sc, ds = [dSch K s] ∧ P = Is (.tup ((linesOf s.sq s.ax s.rs).map D.txt))
theorem w_Scheme_lines (T : Tx K mg) : MR P w K mg base 1 ((Wh.prp "Scheme" "lines").adr K) (r_Scheme_lines K) :=
  met_of T.d_Scheme_lines (scS1 (.inr (.inr (.inr (.inr (.inl rfl)))))) (by rintro ds P ⟨s, rfl, _⟩; rfl) fun cdv A outer s' H E hr c ds Pd hR => by
    obtain ⟨s, rfl, rfl⟩ := hR
    exact pb_ret .refl (px_slot T.c_Scheme.1 T.sl_Scheme_own_lines (pvv 0) rfl) fun _ h => h
noncomputable def r_Scheme_used (K : PySem.W.Frag) : RD := fun ds P => ∃ s : Sc, ds = [dSch K s] ∧ P = Is (.tup (s.used.map dLet))
theorem w_Scheme_used (T : Tx K mg) : MR P w K mg base 1 ((Wh.prp "Scheme" "used").adr K) (r_Scheme_used K) :=
  met_of T.d_Scheme_used (scS1 (.inr (.inr (.inr (.inr (.inr (.inl rfl))))))) (by rintro ds P ⟨s, rfl, _⟩; rfl) fun cdv A outer s' H E hr c ds Pd hR => by
    obtain ⟨s, rfl, rfl⟩ := hR
    exact pb_ret .refl (px_slot T.c_Scheme.1 T.sl_Scheme_own_used (pvv 0) rfl) fun _ h => h
noncomputable def r_Scheme_len (K : PySem.W.Frag) : RD := fun ds P => ∃ s : Sc, ds = [dSch K s] ∧ P = Is (.int (s.keys.length : Nat))
theorem w_Scheme_len (T : Tx K mg) : MR P w K mg base 1 (He.ma K (He.ga K "Scheme") "__len__") (r_Scheme_len K) :=
  met_of T.d_Scheme_len (scS1 (.inr (.inr (.inr (.inr (.inr (.inr (.inr rfl)))))))) (by rintro ds P ⟨s, rfl, _⟩; rfl) fun cdv A outer s' H E hr c ds Pd hR => by
    obtain ⟨s, rfl, rfl⟩ := hR
    exact pb_ret .refl (pv_eq (v_lenD T (px_slot T.c_Scheme.1 T.sl_Scheme_own_rules (pvv 0) rfl)) (by unfold Sc.keys; rw [List.length_map, List.length_map])) fun _ h => h
theorem w_Scheme_iter (T : Tx K mg) : FnS P w K mg base CX0 1 (He.ma K (He.ga K "Scheme") "__iter__") (spItK (cS K) 4) := by
  obtain ⟨fd, F, b⟩ := T.d_Scheme_iter
  refine fnS_of F b (scS1 (.inr (.inr (.inr (.inr (.inr (.inr (.inl rfl)))))))) (fun n vs H Q E h => by obtain ⟨a, dx, ss, d, o, kvs, es, ep, rfl, _⟩ := h; rfl) fun cdv A outer s H vs Q E hr h => ?_
  obtain ⟨a, dx, ss, d, o, kvs, es, ep, rfl, hs, hi, hd, hdt, q⟩ := h
  refine ⟨_, (pss_cons (ps_ret (pe_callB (call_iterK) (by rfl) T.n_iter bb_iter (pa_cons (pe_sl (pe_slot 0 rfl (.inl rfl) (by decide) (by decide))) pa_nil) (by decide) (by decide))) pss_never).nox, ?_⟩
  exact ⟨.ref a, rfl, a, cS K, dx, _, ss, 4, _, rfl, hs, T.c_Scheme.1, T.sl_Scheme_own_rules, hi, d, o, kvs, es, ep, rfl, hd, hdt, fun it h1 h2 => q it h1 h2⟩
noncomputable def r_require_letter (K : PySem.W.Frag) : RD := fun ds P => ∃ (s : Sc) (l : Nat), ds = [dSch K s, dLet l] ∧ l ∈ s.keys ∧ P = Is .non
theorem w_require_letter (T : Tx K mg) : MR P w K mg base 1 (He.ma K (He.ga K "Scheme") "require_letter") (r_require_letter K) :=
  met_of T.d_Scheme_require_letter scSr (by rintro ds P ⟨s, l, rfl, _⟩; rfl) fun cdv A outer s' H E hr c ds Pd hR => by
    obtain ⟨s, l, rfl, hl, rfl⟩ := hR
    refine pb_ifRet (ptx_eq (ptx_bo (pwv_or (ptv_not (ptv_val (v_isS T (pvv 1)))) fun _ => pwx_or1 (ptv_dnotin (ru hr) (pvv 1) (px_slot T.c_Scheme.1 T.sl_Scheme_own_rules (pvv 0) rfl) .dct))) (k' := false) ?_) (fun h => nomatch h) fun _ => pb_nil (w := wD c _) rfl
    rw [look_lets hl]
    rfl
noncomputable def r_Scheme_getitem (K : PySem.W.Frag) : RD := fun ds P => ∃ (s : Sc) (p : Nat × Row), ds = [dSch K s, dLet p.1] ∧ s.keys.Nodup ∧ p ∈ s.rs ∧ P = Is (dRule K s.sq p.2)
theorem w_Scheme_getitem (T : Tx K mg) : MR P w K mg base 2 (He.ma K (He.ga K "Scheme") "__getitem__") (r_Scheme_getitem K) :=
  met_of T.d_Scheme_getitem scSg (by rintro ds P ⟨s, l, rfl, _⟩; rfl) fun cdv A outer s' H E hr c ds Pd hR => by
    obtain ⟨s, p, rfl, nd, hp, rfl⟩ := hR
    refine pb_expr (px_meth (P := Is .non) (pvv 0) T.c_Scheme.1 T.m_Scheme_require_letter (w_require_letter T) hr (by decide) (pvs_cons (pvv 1) pvs_nil) (fun d e => ⟨_, e⟩) fun d ds e e2 => ⟨s, p.1, by rw [show d = _ from e, e2] <;> rfl, List.mem_map.mpr ⟨p, hp, rfl⟩, rfl⟩) ?_
    exact pb_ret .refl (pv_dget (ru hr) (px_slot T.c_Scheme.1 T.sl_Scheme_own_rules (pvv 0) rfl) .dct (pvv 1) (look_get (g := fun p => dRule K s.sq p.2) nd hp)) fun _ h => h
end G81
set_option maxRecDepth 100000
set_option maxHeartbeats 2000000
/-! schemes compared, even schemes, orders -/
namespace G81
open PySem PySem.Spec PyProof.Rows L2 SlX
open SX (S)
variable {P : Program} {w : World} {K : PySem.W.Frag} {mg : Str → Option Value} {base : Heap}
def Sc.even (s : Sc) : Bool := s.rs.all fun p => s.rs.all fun q => decide (p.2.length = q.2.length)
theorem even_iff {s : Sc} : s.even = true ↔ ∀ p ∈ s.rs, ∀ q ∈ s.rs, p.2.length = q.2.length := by
  unfold Sc.even
  simp [List.all_eq_true]
theorem one_all {l m : List D} (h : SetOf l m) (h1 : l.length = 1) : ∀ x ∈ m, ∀ y ∈ m, x = y := by
  obtain ⟨nd, mem⟩ := h
  match l, h1 with
  | [a], _ =>
    intro x hx y hy
    rw [List.mem_singleton.mp ((mem x).mpr hx), List.mem_singleton.mp ((mem y).mpr hy)]
noncomputable def r_Scheme_is_even (K : PySem.W.Frag) : RD := fun ds P => ∃ s : Sc, ds = [dSch K s] ∧ Wf s ∧ P = Is (.bl s.even)
theorem w_Scheme_is_even (T : Tx K mg) : MR P w K mg base 3 ((Wh.prp "Scheme" "is_even").adr K) (r_Scheme_is_even K) :=
  met_of T.d_Scheme_is_even scSv (by rintro ds P ⟨s, rfl, _⟩; rfl) fun cdv A outer s' H E hr c ds Pd hR => by
    have nd := scSv.nd
    obtain ⟨s, rfl, W, rfl⟩ := hR
    refine pb_ret .refl (px_cmp (P := Is (.bl s.even)) op_eq (v_lenSet T (ds := s.rs.map fun p => D.int (p.2.length : Nat)) (skN (xs := s.rs) (emb := fun p : Nat × Row => dRule K s.sq p.2) (kf := fun p : Nat × Row => .inl (p.2.length : Nat)) hr 1 [("rule", 1)] (PIX.mono (pix_values (px_slot T.c_Scheme.1 T.sl_Scheme_own_rules (pvv 0) rfl)) fun ds e => e) (fun _ _ => rfl) (fun _ _ _ _ _ x _ hx => v_lenO T T.m_Rule_len (w_Rule_len T) hr (by decide) (pvv 1) ⟨s.sq, x.2, rfl, rfl⟩ (Int.natCast_nonneg _) (by have := (W.rows x hx).2.1; omega)) nd (by have := W.len.2; omega) rfl)) pv_int fun x y hx hy => ?_) fun _ h => h
    obtain ⟨l, hl, rfl⟩ := hx
    cases (show y = _ from hy)
    have e : decide (((l.length : Nat) : Int) = 1) = s.even := by
      rw [Bool.eq_iff_iff, decide_eq_true_eq, even_iff]
      constructor
      · intro h p hp q hq
        have := one_all hl (by omega) _ (List.mem_map.mpr ⟨p, hp, rfl⟩) _ (List.mem_map.mpr ⟨q, hq, rfl⟩)
        injection this with this
        omega
      · intro h
        have := W.len.1
        cases hs : s.rs with
        | nil => rw [hs] at this; simp at this
        | cons p0 rs' =>
          have := setOf_one hl (a := .int (p0.2.length : Nat)) (fun x hx => by
            obtain ⟨q, hq, rfl⟩ := List.mem_map.mp hx
            rw [h q hq p0 (by rw [hs]; exact List.mem_cons_self)]) (by rw [hs]; simp)
          omega
    rw [← e]
    exact l_eqI
theorem txt_ok {l : List Nat} (h : ∀ c ∈ l, c < 0x110000) : PyData.canLay0 (.str (S l)) = true := by
  show (S l).cps.all (· < 0x110000) = true
  rw [Array.all_eq_true']
  intro c hc
  have : c ∈ (S l).cps.toList := by simpa using hc
  exact decide_eq_true (h c this)
theorem joinL_lt : ∀ l : List (List Nat), (∀ a ∈ l, ∀ c ∈ a, c < 0x110000) → ∀ c ∈ TL.joinL [32] l, c < 0x110000
  | [], _, c, h => nomatch h
  | [p], h, c, hc => h p List.mem_cons_self c hc
  | p :: q :: r, h, c, hc => by
    rcases List.mem_append.mp hc with z | z
    · exact h p List.mem_cons_self c z
    · rcases List.mem_append.mp z with y | y
      · rw [List.mem_singleton.mp y]; decide
      · exact joinL_lt (q :: r) (fun a ha => h a (List.mem_cons_of_mem _ ha)) c y
theorem rowC_lt {r : Row} (h : ∀ p ∈ r, p.1 < 123 ∧ p.2 < 10) : ∀ c ∈ rowC r, c < 0x110000 := by
  refine joinL_lt _ fun a ha c hc => ?_
  obtain ⟨p, hp, rfl⟩ := List.mem_map.mp ha
  have := h p hp
  rcases List.mem_cons.mp hc with z | z
  · omega
  · have := List.mem_singleton.mp z; omega
theorem Wf.small {s : Sc} (W : Wf s) : (∀ p ∈ s.ax, p.1 < 123 ∧ p.2 < 10) ∧ ∀ q ∈ s.rs, q.1 < 123 ∧ ∀ p ∈ q.2, p.1 < 123 ∧ p.2 < 10 := by
  have a := ar_le s.sq
  refine ⟨fun p hp => ?_, fun q hq => ⟨by have := W.let_ q hq; omega, fun p hp => ?_⟩⟩
  · have h := W.ax.2.2 p hp
    have := W.key_lt h.1
    omega
  · have h := (W.rows q hq).2.2 p hp
    have := W.key_lt h.1
    omega
theorem dq_lines {s : Sc} (W : Wf s) : Dq (.tup ((linesOf s.sq s.ax s.rs).map D.txt)) 1 := by
  refine Dqs.all (n := 0) fun d hd => ?_
  obtain ⟨z, hz, rfl⟩ := List.mem_map.mp hd
  show PyData.canLay0 (.str z) = true
  rcases List.mem_cons.mp hz with e | hz
  · rw [e]; cases s.sq <;> decide +kernel
  rcases List.mem_cons.mp hz with e | hz
  · rw [e]
    refine txt_ok fun c hc => ?_
    rcases List.mem_append.mp hc with y | y
    · have : ∀ c ∈ codes "axiom ", c < 0x110000 := by decide +kernel
      exact this c y
    · exact rowC_lt W.small.1 c y
  · obtain ⟨p, hp, rfl⟩ := List.mem_map.mp hz
    refine txt_ok fun c hc => ?_
    rcases List.mem_append.mp hc with y | y
    · have : ∀ c ∈ codes "rule ", c < 0x110000 := by decide +kernel
      exact this c y
    · rcases List.mem_cons.mp y with z | z
      · have := (W.small.2 p hp).1; omega
      · rcases List.mem_cons.mp z with u | u
        · omega
        · exact rowC_lt (W.small.2 p hp).2 c u
noncomputable def r_Scheme_eq (K : PySem.W.Frag) : RD := fun ds P => ∃ s : Sc, ds = [dSch K s, dSch K s] ∧ Wf s ∧ P = Is (.bl true)
theorem w_Scheme_eq (T : Tx K mg) : MR P w K mg base 3 (He.ma K (He.ga K "Scheme") "__eq__") (r_Scheme_eq K) :=
  met_of T.d_Scheme_eq scSe (by rintro ds P ⟨n, rfl, _⟩; rfl) fun cdv A outer s' H E hr c ds Pd hR => by
    obtain ⟨s, rfl, W, rfl⟩ := hR
    exact pb_ret .refl (pv_eq (pv_and (v_isO T (pvv 1) T.g_Scheme T.c_Scheme) fun _ => pv_one (P := Is (.bl true))
      (pv_cmp (op_eqD (ru hr)) (px_slot T.c_Scheme.1 T.sl_Scheme_own_lines (pvv 0) rfl) (px_slot T.c_Scheme.1 T.sl_Scheme_own_lines (pvv 1) rfl) (l_eqD (dq_lines W) (dq_lines W) (by decide) (by decide) fun b hb => by rw [hb.mpr rfl]; rfl))) rfl) fun _ h => h
end G81
set_option maxRecDepth 100000
set_option maxHeartbeats 2000000
/-! counts -/
namespace G81
open PySem PySem.Spec PyProof.Rows L2 SlX
open SX (S)
variable {P : Program} {w : World} {K : PySem.W.Frag} {mg : Str → Option Value} {base : Heap}
theorem sc42 : FnScope ["value"] ["value"] (defScope (topS 42)) := ⟨rfl, rfl, rfl, by decide +kernel, rfl, by decide +kernel, by decide +kernel⟩
noncomputable def r_require_scheme (K : PySem.W.Frag) : RD := fun ds P => ∃ s : Sc, ds = [dSch K s] ∧ P = Is .non
theorem w_require_scheme (T : Tx K mg) : Cal P w K mg base 1 "require_scheme" (r_require_scheme K) :=
  calD T.d_require_scheme sc42 (by rintro ds P ⟨n, rfl, _⟩; rfl) fun cdv A outer s' H E hr c ds Pd hR => by
    obtain ⟨s, rfl, rfl⟩ := hR
    exact pb_ifRet (ptv_not (ptv_val (v_isO T (pvv 0) T.g_Scheme T.c_Scheme))) (fun h => nomatch h) fun _ => pb_nil (w := wD c _) rfl
theorem sc46 : FnScope ["order"] ["order"] (defScope (topS 46)) := ⟨rfl, rfl, rfl, by decide +kernel, rfl, by decide +kernel, by decide +kernel⟩
def r_require_order : RD := fun ds P => ∃ n : Nat, ds = [.int n] ∧ n ≤ 200 ∧ P = Is .non
theorem w_require_order (T : Tx K mg) : Cal P w K mg base 3 "require_order" r_require_order :=
  calD T.d_require_order sc46 (by rintro ds P ⟨n, rfl, _⟩; rfl) fun cdv A outer s' H E hr c ds Pd hR => by
    obtain ⟨n, rfl, hn, rfl⟩ := hR
    refine pb_ifRet (ptx_eq (ptx_bo (pwv_or (ptv_not (ptv_val (pv_call (w_is_count T) hr (by decide) rfl (pvs_cons (pvv 0) pvs_nil) ⟨n, rfl, by omega, rfl⟩))) fun _ => pwx_or1 (ptv_cmp op_gt (pvv 0) (pv_gI T.i_MAX_ORDER) l_bl))) (k' := false) ?_) (fun h => nomatch h) fun _ => pb_nil (w := wD c _) rfl
    rw [decide_eq_false (by omega)]
    rfl
/-! how many steps have each letter -/
def dCnt (s : Sc) (g : Nat → Nat) : D := .dct (s.keys.map lt) (s.keys.map fun l => .int (g l : Nat))
/-- the counts behind one more round -/
def addRow (r : Row) (n : Nat) (g : Nat → Nat) : Nat → Nat := fun l => g l + n * r.countP fun p => p.1 = l
def behind (s : Sc) (f : Nat → Nat) : Nat → Nat := s.rs.foldl (fun g p => addRow p.2 (f p.1) g) fun _ => 0
theorem put_old {ks : List Nat} {g : Nat → D} {l : Nat} {d : D} (h : l ∈ ks) : putD (ks.map lt) (ks.map g) (lt l) d = (ks.map lt, ks.map fun x => if x = l then d else g x) := by
  unfold putD
  rw [if_pos (List.mem_map.mpr ⟨l, h, rfl⟩)]
  congr 1
  clear h
  induction ks with
  | nil => rfl
  | cons k ks ih =>
    simp only [List.map_cons, List.zipWith_cons_cons, ih]
    congr 1
    by_cases e : k = l
    · rw [if_pos (by rw [e]), if_pos e]
    · rw [if_neg fun z => e (lt_inj z), if_neg e]
theorem look_int {ks : List Nat} {g : Nat → D} {l : Nat} (h : l ∈ ks) : lookD (ks.map lt) (ks.map g) (lt l) = some (g l) := by
  induction ks with
  | nil => cases h
  | cons k ks ih =>
    simp only [List.map_cons, lookD]
    by_cases e : k = l
    · rw [if_pos (by rw [e]), e]
    · rw [if_neg fun z => e (lt_inj z)]
      rcases List.mem_cons.mp h with z | z
      · exact absurd z.symm e
      · exact ih z
end G81
set_option maxRecDepth 100000
set_option maxHeartbeats 2000000
/-! counts: the walk -/
namespace G81
open PySem PySem.Spec PyProof.Rows L2 SlX
open SX (S)
variable {P : Program} {w : World} {K : PySem.W.Frag} {mg : Str → Option Value} {base : Heap}
theorem LifeIx.name {z : Str} {p : Pos} : LifeIx (.Name z p) := fun _ _ => rfl
section
variable {X : Cx} {c : Fm} {δ : List Cell} {o i : Expr} {pos : Pos} {j : Nat} {s : Sc} {p : Nat × Row}
/-- scheme[letter] -/
theorem v_rule (T : Tx X.K X.mg) (hr : Room j X.A) (hk : 3 ≤ j) (ho : PV X c δ o (dSch X.K s)) (hi : PV X c δ i (dLet p.1)) (nd : s.keys.Nodup) (hp : p ∈ s.rs) (hl : LifeIx i) : PV X c δ (.Subscript o i pos) (dRule X.K s.sq p.2) := by
  refine px_getOwn T.m_Scheme_getitem.at_ T.m_Scheme_getitem.fn T.fn_Scheme_getitem (w_Scheme_getitem T) hr hk ho hi hl ?_ ?_
  · exact fun d e => ⟨_, e⟩
  · exact fun d b e e2 => ⟨s, p, by rw [show d = _ from e, show b = _ from e2], nd, hp, rfl⟩
end
theorem sc47 : FnScope ["scheme", "counts", "letter", "found", "many", "other", "turn"] ["scheme", "counts"] (defScope (topS 47)) := ⟨rfl, rfl, rfl, by decide +kernel, rfl, by decide +kernel, by decide +kernel⟩
noncomputable def r_counts_behind (K : PySem.W.Frag) : RD := fun ds P => ∃ (s : Sc) (f : Nat → Nat), ds = [dSch K s, dCnt s f] ∧ Wf s ∧ P = Is (dCnt s (behind s f))
theorem w_counts_behind (T : Tx K mg) : Cal P w K mg base 4 "counts_behind" (r_counts_behind K) :=
  calD T.d_counts_behind sc47 (by rintro ds P ⟨n, f, rfl, _⟩; rfl) fun cdv A outer s' H E hr c ds Pd hR => by
    have nd := sc47.nd
    obtain ⟨s, f, rfl, W, rfl⟩ := hR
    refine pb_setDc (xs := s.keys) (emb := dLet) (kf := lt) (vf := fun _ => .int 0) (i := 3) (.nm 2) [("letter", 2)] (PIX.mono (pix_ownK (pvv 0) T.m_Scheme_iter.at_ T.m_Scheme_iter.fn (w_Scheme_iter T) hr (by decide) rfl) fun ds e => by rw [e, keys_txt]) (fun _ _ => rfl) (blkOk_by (by rfl)) (by intros; exact pgx_nm (by assumption) rfl (by first | exact Or.inl rfl | exact Or.inr rfl)) (fun _ _ _ _ _ x _ hx => pvv 2) (fun _ _ _ _ _ x _ hx => pv_int) nd (List.Pairwise.map lt (fun _ _ h e => h (lt_inj e)) W.nd) fun c' y sy => ?_
    obtain ⟨fk, l, hl, rfl, rfl⟩ := sy
    have klen : s.keys.length < sizeLine := Nat.lt_of_le_of_lt (show s.keys.length ≤ 6 by unfold Sc.keys; rw [List.length_map]; exact W.len.2) (by decide)
    have nz : ∀ (g : Nat → Nat), (s.keys.map lt).length < sizeLine := fun _ => by rw [List.length_map]; exact klen
    refine pb_for (t := .pr 2 4) (emb := fun p : Nat × Row => .tup [.txt (lt p.1), .int (f p.1 : Nat)]) (xs := s.rs) (fun i δ' => ∃ x y z u : Cell, x.adr = [] ∧ y.adr = [] ∧ z.adr = [] ∧ u.adr = [] ∧ δ' = [.d (dSch K s), .d (dCnt s f), x, .owk l (s.keys.map lt) (s.keys.map fun a => .int (((s.rs.take i).foldl (fun g p => addRow p.2 (f p.1) g) fun _ => 0) a : Nat)), y, z, u]) PassesOwn.never rfl (pix_items (kf := fun p : Nat × Row => lt p.1) (vf := fun p => .int (f p.1 : Nat)) (pv_eq (pvv 1) ?_) (fun _ => rfl)) (pgx_pr rfl nd rfl rfl (.inl rfl) (.inl rfl)) ⟨.no, .no, .no, .no, rfl, rfl, rfl, rfl, rfl⟩ ?_ ?_
    · unfold dCnt Sc.keys
      rw [List.map_map, List.map_map]
      rfl
    · rintro i p δ' hp ⟨x, y, z, u, hx, hy, hz, hu, rfl⟩
      refine ⟨_, rfl, ?_⟩
      have hin : p ∈ s.rs := List.mem_of_getElem? hp
      have tk : s.rs.take (i + 1) = s.rs.take i ++ [p] := by rw [List.take_succ, hp]; rfl
      refine pb_for (t := .pr 5 6) (emb := dIt) (xs := p.2) (fun j δ' => ∃ z u : Cell, z.adr = [] ∧ u.adr = [] ∧ δ' = [.d (dSch K s), .d (dCnt s f), .d (.txt (lt p.1)), .owk l (s.keys.map lt) (s.keys.map fun a => .int (addRow (p.2.take j) (f p.1) ((s.rs.take i).foldl (fun g p => addRow p.2 (f p.1) g) fun _ => 0) a : Nat)), .d (.int (f p.1 : Nat)), z, u]) PassesOwn.never rfl (pix_ownT (v_rule T hr (by decide) (pvv 0) (pvv 2) W.nd hin .name) T.m_Rule_iter.at_ T.m_Rule_iter.fn (w_Rule_iter T) hr (by decide) rfl) (pgx_pr rfl nd rfl rfl (.inl rfl) (.inl rfl)) ⟨z, u, hz, hu, ?_⟩ ?_ ?_
      · simp [addRow]
      · rintro j q δ' hq ⟨z, u, hz, hu, rfl⟩
        refine ⟨_, rfl, ?_⟩
        have hqin : q ∈ p.2 := List.mem_of_getElem? hq
        have hqk : q.1 ∈ s.keys := ((W.rows p hin).2.2 q hqin).1
        have tkj : p.2.take (j + 1) = p.2.take j ++ [q] := by rw [List.take_succ, hq]; rfl
        refine pb_daug 3 (ru hr) rfl (look_int (g := fun a => .int (addRow (p.2.take j) (f p.1) ((s.rs.take i).foldl (fun g p => addRow p.2 (f p.1) g) fun _ => 0) a : Nat)) hqk) (pvv 5) (pvv 4) (by simp [offAll, Cell.adr]) (nz fun _ => 0) ?_
        rw [put_old hqk]
        refine pb_end ⟨.d (.txt (lt q.1)), .d (.int (q.2 : Nat)), rfl, rfl, ?_⟩
        have e : (fun x => if x = q.1 then D.int (((addRow (p.2.take j) (f p.1) ((s.rs.take i).foldl (fun g p => addRow p.2 (f p.1) g) fun _ => 0) q.1 : Nat) : Int) + ((f p.1 : Nat) : Int)) else D.int ((addRow (p.2.take j) (f p.1) ((s.rs.take i).foldl (fun g p => addRow p.2 (f p.1) g) fun _ => 0) x : Nat) : Int)) = fun a => D.int ((addRow (p.2.take (j + 1)) (f p.1) ((s.rs.take i).foldl (fun g p => addRow p.2 (f p.1) g) fun _ => 0) a : Nat) : Int) := by
          funext a
          rw [tkj]
          unfold addRow
          rw [List.countP_append]
          by_cases h : a = q.1
          · rw [if_pos h, h]
            simp [Nat.mul_add, Int.add_assoc]
          · rw [if_neg h]
            simp [Ne.symm h]
        rw [← e]
        rfl
      · rintro δ' ⟨z, u, hz, hu, rfl⟩
        refine pb_end ⟨.d (.txt (lt p.1)), .d (.int (f p.1 : Nat)), z, u, rfl, rfl, hz, hu, ?_⟩
        rw [tk, List.foldl_append, List.take_length]
        rfl
    · rintro δ' ⟨x, y, z, u, hx, hy, hz, hu, rfl⟩
      rw [List.take_length]
      refine pb_lock 3 fk hl rfl (by simp only [offAll, hx, hy, hz, hu, List.set_cons_zero, List.set_cons_succ]; simp [Cell.adr]) ?_
      exact pb_ret .refl (pvv 3) fun _ h => h
end G81
set_option maxRecDepth 100000
set_option maxHeartbeats 2000000
/-! counts of a line, steps -/
namespace G81
open PySem PySem.Spec PyProof.Rows L2 SlX
open SX (S)
variable {P : Program} {w : World} {K : PySem.W.Frag} {mg : Str → Option Value} {base : Heap}
def cnt0 (r : Row) : Nat → Nat := fun l => r.countP fun p => p.1 = l
def cntN (s : Sc) (r : Row) : Nat → Nat → Nat
  | 0 => cnt0 r
  | n + 1 => behind s (cntN s r n)
theorem sc49 : FnScope ["scheme", "order"] ["scheme", "order"] (defScope (topS 49)) := ⟨rfl, rfl, rfl, by decide +kernel, rfl, by decide +kernel, by decide +kernel⟩
theorem sc48 : FnScope ["scheme", "items", "order", "turn", "counts", "letter", "other"] ["scheme", "items", "order"] (defScope (topS 48)) := ⟨rfl, rfl, rfl, by decide +kernel, rfl, by decide +kernel, by decide +kernel⟩
noncomputable def r_counts_of (K : PySem.W.Frag) : RD := fun ds P => ∃ (s : Sc) (r : Row) (n : Nat), ds = [dSch K s, dRow r, .int n] ∧ Wf s ∧ n ≤ 200 ∧ P = Is (dCnt s (cntN s r n))
theorem w_counts_of (T : Tx K mg) : Cal P w K mg base 5 "counts_of" (r_counts_of K) :=
  calD T.d_counts_of sc48 (by rintro ds P ⟨n, f, m, rfl, _⟩; rfl) fun cdv A outer s' H E hr c ds Pd hR => by
    have nd := sc48.nd
    obtain ⟨s, r, n, rfl, W, hn, rfl⟩ := hR
    refine pb_setDc (xs := s.keys) (emb := dLet) (kf := lt) (vf := fun l => .int (cnt0 r l : Nat)) (i := 4) (.nm 5) [("letter", 5)] (PIX.mono (pix_ownK (pvv 0) T.m_Scheme_iter.at_ T.m_Scheme_iter.fn (w_Scheme_iter T) hr (by decide) rfl) fun ds e => by rw [e, keys_txt]) (fun _ _ => rfl) (blkOk_by (by rfl)) (by intros; exact pgx_nm (by assumption) rfl (by first | exact Or.inl rfl | exact Or.inr rfl)) (fun _ _ _ _ _ x _ hx => pvv 5) (fun _ _ _ _ _ x _ hx => ?_) nd (List.Pairwise.map lt (fun _ _ h e => h (lt_inj e)) W.nd) fun c' y sy => ?_
    · refine pv_eq (v_lenL T (pv_n (pvn_lcf (xs := r) (emb := dIt) (f := fun _ => D.int 1) (q := fun p : It2 => decide (lt p.1 = lt x)) (.pr 6 3) [("other", 6), ("turn", 3)] (pix_tupv (pvv 1)) (fun _ _ => rfl) (blkOk_by (by rfl)) (by intros; exact pgx_pr rfl (by assumption) rfl rfl (by first | exact Or.inl rfl | exact Or.inr rfl) (by first | exact Or.inl rfl | exact Or.inr rfl)) (fun _ _ _ _ _ y _ hy => ptv_cmp op_eq (pvv 6) (pvv 5) l_eqS) (fun _ _ _ _ _ y _ hy => pv_int) nd))) ?_
      rw [List.length_map, ← List.countP_eq_length_filter]
      unfold cnt0
      congr 2
      refine List.countP_congr fun p _ => ?_
      simp only [decide_eq_true_eq]
      exact ⟨fun h => lt_inj h, fun h => by rw [h]⟩
    obtain ⟨fk, l, hl, rfl, rfl⟩ := sy
    refine pb_lock 4 fk hl rfl (by simp [offAll, startD, Cell.adr]) ?_
    refine pb_for (t := .nm 3) (emb := fun i : Nat => .int (i : Nat)) (xs := List.range n) (fun i δ' => ∃ x : Cell, δ' = [.d (dSch K s), .d (dRow r), .d (.int (n : Nat)), x, .d (dCnt s (cntN s r i)), .no, .no]) PassesOwn.never rfl (pix_range T.n_range (pvv 2) (by omega)) (pgx_nm nd rfl (.inl rfl)) ⟨.no, rfl⟩ ?_ ?_
    · rintro i x δ' hx ⟨y, rfl⟩
      refine ⟨_, rfl, ?_⟩
      refine pv_set 4 nd rfl (.inl rfl) (pv_call (w_counts_behind T) hr (by decide) rfl (pvs_cons (pvv 0) (pvs_cons (pvv 4) pvs_nil)) ⟨s, cntN s r i, rfl, W, rfl⟩) (pb_end ⟨_, rfl⟩)
    · rintro δ' ⟨y, rfl⟩
      rw [List.length_range]
      exact pb_ret .refl (pvv 4) fun _ h => h
end G81
set_option maxRecDepth 100000
set_option maxHeartbeats 2000000
/-! counts of a line; steps replaced -/
namespace G81
open PySem PySem.Spec PyProof.Rows L2 SlX
open SX (S)
variable {P : Program} {w : World} {K : PySem.W.Frag} {mg : Str → Option Value} {base : Heap}
noncomputable def r_letter_counts (K : PySem.W.Frag) : RD := fun ds P => ∃ (s : Sc) (n : Nat), ds = [dSch K s, .int n] ∧ Wf s ∧ n ≤ 200 ∧ P = Is (dCnt s (cntN s s.ax n))
theorem w_letter_counts (T : Tx K mg) : Cal P w K mg base 6 "letter_counts" (r_letter_counts K) :=
  calD T.d_letter_counts sc49 (by rintro ds P ⟨n, f, rfl, _⟩; rfl) fun cdv A outer s' H E hr c ds Pd hR => by
    obtain ⟨s, n, rfl, W, hn, rfl⟩ := hR
    refine pb_expr (pv_call (w_require_scheme T) hr (by decide) rfl (pvs_cons (pvv 0) pvs_nil) ⟨s, rfl, rfl⟩) ?_
    refine pb_expr (pv_call (w_require_order T) hr (by decide) rfl (pvs_cons (pvv 1) pvs_nil) ⟨n, rfl, hn, rfl⟩) ?_
    exact pb_ret .refl (pv_call (w_counts_of T) hr (by decide) rfl (pvs_cons (pvv 0) (pvs_cons (v_prop (pvv 0) T.c_Scheme.1 T.p_Scheme_axiom (w_Scheme_axiom T) hr (by decide) ⟨s, rfl, rfl⟩) (pvs_cons (pvv 1) pvs_nil))) ⟨s, s.ax, n, rfl, W, hn, rfl⟩) fun _ h => h
/-- the steps by which steps are replaced -/
def repl (s : Sc) (st : Row) : Row := st.flatMap fun p => turnRow (ar s.sq) p.2 (rowOf s.rs p.1)
theorem sc50 : FnScope ["scheme", "steps", "letter", "direction", "later"] ["scheme", "steps"] (defScope (topS 50)) := ⟨rfl, rfl, rfl, by decide +kernel, rfl, by decide +kernel, by decide +kernel⟩
noncomputable def r_replaced (K : PySem.W.Frag) : RD := fun ds P => ∃ (s : Sc) (st : Row), ds = [dSch K s, dRow st] ∧ Wf s ∧ (∀ p ∈ st, p.1 ∈ s.keys) ∧ (repl s st).length ≤ 100000 ∧ P = Is (dRow (repl s st))
theorem allY_repl {s : Sc} {st : Row} : allY st (fun p => turnRow (ar s.sq) p.2 (rowOf s.rs p.1)) (fun _ q => dIt q) = (repl s st).map dIt := by
  unfold allY repl
  rw [List.map_flatMap]
theorem w_replaced (T : Tx K mg) : Cal P w K mg base 4 "replaced" (r_replaced K) :=
  calD T.d_replaced sc50 (by rintro ds P ⟨n, f, rfl, _⟩; rfl) fun cdv A outer s' H E hr c ds Pd hR => by
    have nd := sc50.nd
    obtain ⟨s, st, rfl, W, hk, hl, rfl⟩ := hR
    exact pb_ret .refl (v_tupL T (pv_eq (pv_n (pn_lc2 (xs := st) (ys := fun p : It2 => turnRow (ar s.sq) p.2 (rowOf s.rs p.1)) (emb := dIt) (emb1 := dIt) (f := fun _ q => dIt q) (.pr 2 3) (.nm 4) [("letter", 2), ("direction", 3), ("later", 4)] [4] (pix_tupv (pvv 1)) (fun _ _ => rfl) (fun _ _ _ _ => rfl)
      (fun _ _ _ _ _ x _ hx => pix_tupv (px_meth (P := Is (dRow (turnRow (ar s.sq) x.2 (rowOf s.rs x.1)))) (v_rule T hr (by decide) (pvv 0) (pvv 2) W.nd (rowOf_in (hk x hx)) .name) T.c_Rule.1 T.m_Rule_steps_in (w_Rule_steps_in T) hr (by decide) (pvs_cons (pvv 3) pvs_nil) (fun d e => ⟨_, e⟩) fun d ds e e2 => ⟨s.sq, rowOf s.rs x.1, x.2, by rw [show d = _ from e, e2] <;> rfl, rfl⟩)) (fun _ _ _ _ _ x y _ hx hy => pvv 4)
      (by intros; exact pgx_pr rfl (by assumption) rfl rfl (by first | exact Or.inl rfl | exact Or.inr rfl) (by first | exact Or.inl rfl | exact Or.inr rfl)) (by intros; exact pgx_nm (by assumption) rfl (by first | exact Or.inl rfl | exact Or.inr rfl)) nd (by rw [allY_repl, List.length_map]; exact hl))) (by rw [allY_repl]))) fun _ h => h
end G81
set_option maxRecDepth 100000
set_option maxHeartbeats 2000000
/-! rows grown -/
namespace G81
open PySem PySem.Spec PyProof.Rows L2 SlX
open SX (S)
variable {P : Program} {w : World} {K : PySem.W.Frag} {mg : Str → Option Value} {base : Heap}
def growN (s : Sc) (r : Row) : Nat → Row
  | 0 => r
  | n + 1 => repl s (growN s r n)
theorem turn_len (n d : Nat) (r : Row) : (turnRow n d r).length = r.length := List.length_map _
theorem turn_cnt (n d l : Nat) (r : Row) : (turnRow n d r).countP (fun p => decide (p.1 = l)) = r.countP fun p => decide (p.1 = l) := by
  unfold turnRow
  rw [List.countP_map]
  rfl
theorem repl_keys {s : Sc} (W : Wf s) {st : Row} (h : ∀ p ∈ st, p.1 ∈ s.keys) : ∀ p ∈ repl s st, p.1 ∈ s.keys := by
  intro p hp
  obtain ⟨q, hq, hp⟩ := List.mem_flatMap.mp hp
  obtain ⟨x, hx, rfl⟩ := List.mem_map.mp hp
  exact ((W.rows _ (rowOf_in (h q hq))).2.2 x hx).1
theorem grow_keys {s : Sc} (W : Wf s) {r : Row} (h : ∀ p ∈ r, p.1 ∈ s.keys) : ∀ n, ∀ p ∈ growN s r n, p.1 ∈ s.keys
  | 0 => h
  | n + 1 => repl_keys W (grow_keys W h n)
theorem repl_cnt {s : Sc} {st : Row} {l : Nat} : cnt0 (repl s st) l = (st.map fun p => cnt0 (rowOf s.rs p.1) l).sum := by
  induction st with
  | nil => rfl
  | cons p st ih =>
    show (turnRow _ _ _ ++ repl s st).countP _ = _
    rw [List.countP_append, List.map_cons, List.sum_cons]
    have a := turn_cnt (ar s.sq) p.2 l (rowOf s.rs p.1)
    have b : (repl s st).countP (fun p => decide (p.1 = l)) = (st.map fun p => cnt0 (rowOf s.rs p.1) l).sum := ih
    rw [a, b]
    rfl
theorem fold_sum {f : Nat → Nat} {l : Nat} : ∀ (rs : Rls) (g : Nat → Nat), (rs.foldl (fun g p => addRow p.2 (f p.1) g) g) l = g l + (rs.map fun p => f p.1 * cnt0 p.2 l).sum
  | [], g => rfl
  | p :: rs, g => by
    rw [List.foldl_cons, fold_sum rs, List.map_cons, List.sum_cons]
    show g l + f p.1 * cnt0 p.2 l + _ = _
    omega
theorem pick_sum {l k : Nat} : ∀ {rs : Rls}, (rs.map (·.1)).Nodup → k ∈ rs.map (·.1) → (rs.map fun p => (if k = p.1 then 1 else 0) * cnt0 p.2 l).sum = cnt0 (rowOf rs k) l := by
  intro rs
  have zero : ∀ {rs : Rls}, k ∉ rs.map (·.1) → (rs.map fun p => (if k = p.1 then 1 else 0) * cnt0 p.2 l).sum = 0 := by
    intro rs
    induction rs with
    | nil => intro _; rfl
    | cons p rs ih =>
      intro h
      rw [List.map_cons, List.sum_cons, ih fun m => h (List.mem_cons_of_mem _ m), if_neg fun e => h (by rw [e]; exact List.mem_cons_self)]
      simp
  induction rs with
  | nil => intro _ h; cases h
  | cons p rs ih =>
    intro nd h
    obtain ⟨n1, n2⟩ := List.nodup_cons.mp nd
    rw [List.map_cons, List.sum_cons]
    by_cases e : k = p.1
    · subst e
      rw [if_pos rfl, zero n1]
      have : rowOf (p :: rs) p.1 = p.2 := by simp [rowOf]
      rw [this]
      simp
    · rw [if_neg e]
      have hk : k ∈ rs.map (·.1) := by
        rcases List.mem_cons.mp h with z | z
        · exact absurd z e
        · exact z
      have : rowOf (p :: rs) k = rowOf rs k := by simp [rowOf, Ne.symm e]
      rw [this, ih n2 hk]
      simp
theorem behind_repl {s : Sc} (W : Wf s) {st : Row} (h : ∀ p ∈ st, p.1 ∈ s.keys) : behind s (cnt0 st) = cnt0 (repl s st) := by
  funext l
  unfold behind
  rw [fold_sum, repl_cnt, Nat.zero_add]
  induction st with
  | nil =>
    have : ∀ rs : Rls, (rs.map fun p => cnt0 [] p.1 * cnt0 p.2 l).sum = 0 := fun rs => by
      induction rs with
      | nil => rfl
      | cons p rs ih => rw [List.map_cons, List.sum_cons, ih]; simp [cnt0]
    exact this _
  | cons q st ih =>
    rw [List.map_cons, List.sum_cons, ← ih fun p hp => h p (List.mem_cons_of_mem _ hp), ← pick_sum W.nd (h q List.mem_cons_self)]
    have : ∀ rs : Rls, (rs.map fun p => cnt0 (q :: st) p.1 * cnt0 p.2 l).sum = (rs.map fun p => (if q.1 = p.1 then 1 else 0) * cnt0 p.2 l).sum + (rs.map fun p => cnt0 st p.1 * cnt0 p.2 l).sum := fun rs => by
      induction rs with
      | nil => rfl
      | cons p rs ih =>
        simp only [List.map_cons, List.sum_cons]
        have e : cnt0 (q :: st) p.1 = (if q.1 = p.1 then 1 else 0) + cnt0 st p.1 := by
          unfold cnt0
          rw [List.countP_cons]
          by_cases z : q.1 = p.1
          · simp [z]; omega
          · simp [z]
        rw [ih, e, Nat.add_mul]
        omega
    exact this _
theorem cntN_grow {s : Sc} (W : Wf s) {r : Row} (h : ∀ p ∈ r, p.1 ∈ s.keys) : ∀ n, cntN s r n = cnt0 (growN s r n)
  | 0 => rfl
  | n + 1 => by
    show behind s (cntN s r n) = _
    rw [cntN_grow W h n, behind_repl W (grow_keys W h n)]
    rfl
end G81
set_option maxRecDepth 100000
set_option maxHeartbeats 2000000
/-! rows grown: the walk -/
namespace G81
open PySem PySem.Spec PyProof.Rows L2 SlX
open SX (S)
variable {P : Program} {w : World} {K : PySem.W.Frag} {mg : Str → Option Value} {base : Heap}
theorem one_sum {k : Nat} : ∀ {ks : List Nat}, ks.Nodup → k ∈ ks → (ks.map fun x => if k = x then 1 else 0).sum = 1 := by
  intro ks
  have zero : ∀ {ks : List Nat}, k ∉ ks → (ks.map fun x => if k = x then 1 else 0).sum = 0 := by
    intro ks
    induction ks with
    | nil => intro _; rfl
    | cons x ks ih =>
      intro h
      rw [List.map_cons, List.sum_cons, ih fun m => h (List.mem_cons_of_mem _ m), if_neg fun e => h (by rw [e]; exact List.mem_cons_self)]
  induction ks with
  | nil => intro _ h; cases h
  | cons x ks ih =>
    intro nd h
    obtain ⟨n1, n2⟩ := List.nodup_cons.mp nd
    rw [List.map_cons, List.sum_cons]
    by_cases e : k = x
    · subst e
      rw [if_pos rfl, zero n1]
    · rw [if_neg e, ih n2 (by rcases List.mem_cons.mp h with z | z; exact absurd z e; exact z)]
theorem sum_keys {ks : List Nat} (nd : ks.Nodup) : ∀ {st : Row}, (∀ p ∈ st, p.1 ∈ ks) → (ks.map (cnt0 st)).sum = st.length
  | [], _ => by
    have : ∀ ks : List Nat, (ks.map (cnt0 [])).sum = 0 := fun ks => by
      induction ks with
      | nil => rfl
      | cons x ks ih => rw [List.map_cons, List.sum_cons, ih]; rfl
    exact this ks
  | q :: st, h => by
    have ih := sum_keys nd (st := st) fun p hp => h p (List.mem_cons_of_mem _ hp)
    have o := one_sum nd (h q List.mem_cons_self)
    have : ∀ ks : List Nat, (ks.map (cnt0 (q :: st))).sum = (ks.map fun x => if q.1 = x then 1 else 0).sum + (ks.map (cnt0 st)).sum := fun ks => by
      induction ks with
      | nil => rfl
      | cons x ks ih =>
        simp only [List.map_cons, List.sum_cons]
        have e : cnt0 (q :: st) x = (if q.1 = x then 1 else 0) + cnt0 st x := by
          unfold cnt0
          rw [List.countP_cons]
          by_cases z : q.1 = x
          · simp [z]; omega
          · simp [z]
        rw [ih, e]
        omega
    rw [this, o, ih, List.length_cons]
    omega
theorem repl_le {s : Sc} (W : Wf s) : ∀ {st : Row}, (∀ p ∈ st, p.1 ∈ s.keys) → st.length ≤ (repl s st).length
  | [], _ => Nat.le_refl _
  | p :: st, h => by
    show st.length + 1 ≤ (turnRow _ _ _ ++ repl s st).length
    rw [List.length_append, turn_len]
    have := repl_le W (st := st) fun q hq => h q (List.mem_cons_of_mem _ hq)
    have := (W.rows _ (rowOf_in (h p List.mem_cons_self))).1
    simp only at this
    omega
theorem grow_le {s : Sc} (W : Wf s) {r : Row} (h : ∀ p ∈ r, p.1 ∈ s.keys) {n : Nat} : ∀ d, (growN s r n).length ≤ (growN s r (n + d)).length
  | 0 => Nat.le_refl _
  | d + 1 => Nat.le_trans (grow_le W h d) (repl_le W (grow_keys W h (n + d)))
end G81
set_option maxRecDepth 100000
set_option maxHeartbeats 2000000
/-! row_grown, steps_of -/
namespace G81
open PySem PySem.Spec PyProof.Rows L2 SlX
open SX (S)
variable {P : Program} {w : World} {K : PySem.W.Frag} {mg : Str → Option Value} {base : Heap}
theorem sc51 : FnScope ["scheme", "items", "order", "found", "turn"] ["scheme", "items", "order"] (defScope (topS 51)) := ⟨rfl, rfl, rfl, by decide +kernel, rfl, by decide +kernel, by decide +kernel⟩
theorem sc52 : FnScope ["scheme", "order"] ["scheme", "order"] (defScope (topS 52)) := ⟨rfl, rfl, rfl, by decide +kernel, rfl, by decide +kernel, by decide +kernel⟩
noncomputable def r_row_grown (K : PySem.W.Frag) : RD := fun ds P => ∃ (s : Sc) (r : Row) (n : Nat), ds = [dSch K s, dRow r, .int n] ∧ Wf s ∧ (∀ p ∈ r, p.1 ∈ s.keys) ∧ n ≤ 200 ∧ (growN s r n).length ≤ 5000 ∧ P = Is (dRow (growN s r n))
theorem sum_ints {α : Type} {g : α → Nat} : ∀ l : List α, (l.map fun x => ((g x : Nat) : Int)).sum = ((l.map g).sum : Nat)
  | [] => rfl
  | x :: l => by
    simp only [List.map_cons, List.sum_cons, sum_ints l]
    omega
theorem w_row_grown (T : Tx K mg) : Cal P w K mg base 6 "row_grown" (r_row_grown K) :=
  calD T.d_row_grown sc51 (by rintro ds P ⟨n, f, m, rfl, _⟩; rfl) fun cdv A outer s' H E hr c ds Pd hR => by
    have nd := sc51.nd
    obtain ⟨s, r, n, rfl, W, hk, hn, hl, rfl⟩ := hR
    refine pb_ifRet (ptx_eq (ptv_cmp op_gt (pv_sumVals (ks := s.keys.map lt) (ns := s.keys.map fun l => ((cntN s r n l : Nat) : Int)) T.n_sum (pv_eq (pv_call (w_counts_of T) hr (by decide) rfl (pvs_cons (pvv 0) (pvs_cons (pvv 1) (pvs_cons (pvv 2) pvs_nil))) ⟨s, r, n, rfl, W, hn, rfl⟩) ?_)) (pv_gI T.i_MAX_STEPS) l_bl) (k' := false) ?_) (fun h => nomatch h) fun _ => ?_
    · unfold dCnt
      rw [List.map_map]
      rfl
    · rw [sum_ints, cntN_grow W hk, sum_keys W.nd (grow_keys W hk n)]
      exact decide_eq_false (by omega)
    refine pv_set 3 nd rfl (.inl rfl) (pvv 1) ?_
    refine pb_for (t := .nm 4) (emb := fun i : Nat => .int (i : Nat)) (xs := List.range n) (fun i δ' => i ≤ n ∧ ∃ x : Cell, δ' = [.d (dSch K s), .d (dRow r), .d (.int (n : Nat)), .d (dRow (growN s r i)), x]) PassesOwn.never rfl (pix_range T.n_range (pvv 2) (by omega)) (pgx_nm nd rfl (.inl rfl)) ⟨Nat.zero_le _, .no, rfl⟩ ?_ ?_
    · rintro i x δ' hx ⟨_, y, rfl⟩
      have hi : i < n := by
        have := (List.getElem?_eq_some_iff.mp hx).1
        rwa [List.length_range] at this
      refine ⟨_, rfl, ?_⟩
      have le : (repl s (growN s r i)).length ≤ 100000 := by
        have := grow_le W hk (n := i + 1) (n - (i + 1))
        rw [show i + 1 + (n - (i + 1)) = n by omega] at this
        exact Nat.le_trans this (Nat.le_trans hl (by decide))
      refine pv_set 3 nd rfl (.inl rfl) (pv_call (w_replaced T) hr (by decide) rfl (pvs_cons (pvv 0) (pvs_cons (pvv 3) pvs_nil)) ⟨s, growN s r i, rfl, W, grow_keys W hk i, le, rfl⟩) (pb_end ⟨hi, _, rfl⟩)
    · rintro δ' ⟨_, y, rfl⟩
      rw [List.length_range]
      exact pb_ret .refl (pvv 3) fun _ h => h
noncomputable def r_steps_of (K : PySem.W.Frag) : RD := fun ds P => ∃ (s : Sc) (n : Nat), ds = [dSch K s, .int n] ∧ Wf s ∧ n ≤ 200 ∧ (growN s s.ax n).length ≤ 5000 ∧ P = Is (dRow (growN s s.ax n))
theorem w_steps_of (T : Tx K mg) : Cal P w K mg base 7 "steps_of" (r_steps_of K) :=
  calD T.d_steps_of sc52 (by rintro ds P ⟨n, f, rfl, _⟩; rfl) fun cdv A outer s' H E hr c ds Pd hR => by
    obtain ⟨s, n, rfl, W, hn, hl, rfl⟩ := hR
    refine pb_expr (pv_call (w_require_scheme T) hr (by decide) rfl (pvs_cons (pvv 0) pvs_nil) ⟨s, rfl, rfl⟩) ?_
    refine pb_expr (pv_call (w_require_order T) hr (by decide) rfl (pvs_cons (pvv 1) pvs_nil) ⟨n, rfl, hn, rfl⟩) ?_
    exact pb_ret .refl (pv_call (w_row_grown T) hr (by decide) rfl (pvs_cons (pvv 0) (pvs_cons (v_prop (pvv 0) T.c_Scheme.1 T.p_Scheme_axiom (w_Scheme_axiom T) hr (by decide) ⟨s, rfl, rfl⟩) (pvs_cons (pvv 1) pvs_nil))) ⟨s, s.ax, n, rfl, W, fun p hp => (W.ax.2.2 p hp).1, hn, hl, rfl⟩) fun _ h => h
end G81
set_option maxRecDepth 100000
set_option maxHeartbeats 2000000
/-! schemes with other letters, spared schemes -/
namespace G81
open PySem PySem.Spec PyProof.Rows L2 SlX
open SX (S)
variable {P : Program} {w : World} {K : PySem.W.Frag} {mg : Str → Option Value} {base : Heap}
def dMap (ks : List Nat) (f : Nat → Nat) : D := .dct (ks.map lt) (ks.map fun l => dLet (f l))
def callR (f : Nat → Nat) (r : Row) : Row := r.map fun p => (f p.1, p.2)
theorem sc54 : FnScope ["items", "letters", "letter", "turn"] ["items", "letters"] (defScope (topS 54)) := ⟨rfl, rfl, rfl, by decide +kernel, rfl, by decide +kernel, by decide +kernel⟩
def r_called : RD := fun ds P => ∃ (r : Row) (ks : List Nat) (f : Nat → Nat), ds = [dRow r, dMap ks f] ∧ (∀ p ∈ r, p.1 ∈ ks) ∧ P = Is (dRow (callR f r))
theorem w_called (T : Tx K mg) : Cal P w K mg base 1 "called" r_called :=
  calD T.d_called sc54 (by rintro ds P ⟨n, f, m, rfl, _⟩; rfl) fun cdv A outer s' H E hr c ds Pd hR => by
    have nd := sc54.nd
    obtain ⟨r, ks, f, rfl, hk, rfl⟩ := hR
    exact pb_ret .refl (v_tupL T (pv_eq (pv_n (lcP (f := fun p : It2 => dIt (f p.1, p.2)) 2 3 [("letter", 2), ("turn", 3)] (pix_tupv (pvv 0)) (fun _ _ => rfl) (fun _ _ _ _ _ x _ hx => pv_tup (pvs_cons (pv_dget (ru hr) (pvv 1) .dct (pvv 2) (look_int (g := fun l => dLet (f l)) (hk x hx))) (pvs_cons (pvv 3) pvs_nil))) nd)) (by unfold callR; rw [List.map_map]; rfl))) fun _ h => h
end G81
set_option maxRecDepth 100000
set_option maxHeartbeats 2000000
/-! spared schemes -/
namespace G81
open PySem PySem.Spec PyProof.Rows L2 SlX
open SX (S)
theorem rs_eq {rs : Rls} (nd : (rs.map (·.1)).Nodup) : (rs.map (·.1)).map (fun l => (l, rowOf rs l)) = rs := by
  rw [List.map_map]
  conv => rhs; rw [← List.map_id rs]
  exact List.map_congr_left fun p hp => Prod.ext rfl (rowOf_eq nd hp)
theorem Ws.srt_id {s : Sc} (W : Ws s) : s.srt = s := by
  have e : ordL (s.rs.map (·.1)) = s.rs.map (·.1) := ordL_of W.ord (fun _ => Iff.rfl) W.toWf.k123
  unfold Sc.srt G81.srt
  rw [e, rs_eq W.nd]
end G81
set_option maxRecDepth 100000
set_option maxHeartbeats 2000000
/-! spared: the walk -/
namespace G81
open PySem PySem.Spec PyProof.Rows L2 SlX
open SX (S)
variable {P : Program} {w : World} {K : PySem.W.Frag} {mg : Str → Option Value} {base : Heap}
noncomputable def Sc.spare (s : Sc) : Sc := ⟨s.sq, s.ax, s.used.map fun l => (l, rowOf s.rs l)⟩
theorem spare_keys (s : Sc) : s.spare.keys = s.used := by
  unfold Sc.keys Sc.spare
  rw [List.map_map]
  exact List.map_id _
theorem mem_spare {s : Sc} (W : Wf s) {p : Nat × Row} : p ∈ s.spare.rs ↔ p ∈ s.rs ∧ Reach s.ax s.rs p.1 := by
  unfold Sc.spare
  rw [List.mem_map]
  constructor
  · rintro ⟨l, hl, rfl⟩
    have := mem_used.mp hl
    exact ⟨rowOf_in this.1, this.2⟩
  · rintro ⟨h, hr⟩
    exact ⟨p.1, mem_used.mpr ⟨List.mem_map.mpr ⟨p, h, rfl⟩, hr⟩, Prod.ext rfl (rowOf_eq W.nd h)⟩
theorem Ws.spare {s : Sc} (W : Ws s) : Ws s.spare where
  nd := by rw [spare_keys]; exact W.used_lt.imp fun h => Nat.ne_of_lt h
  len := by
    have e : s.spare.rs.length = s.used.length := List.length_map _
    rw [e]
    constructor
    · obtain ⟨p, hp⟩ : ∃ p, p ∈ s.ax := List.exists_mem_of_length_pos W.toWf.ax.1
      exact List.length_pos_of_mem (mem_used.mpr ⟨(W.toWf.ax.2.2 p hp).1, .ax hp⟩)
    · have : s.used.length ≤ s.keys.length := by unfold Sc.used; exact List.length_filter_le _ _
      have h2 := W.toWf.len.2
      unfold Sc.keys at this
      rw [List.length_map] at this
      omega
  let_ := fun p hp => W.let_ p ((mem_spare W.toWf).mp hp).1
  rows := fun p hp => by
    have h := (mem_spare W.toWf).mp hp
    refine ⟨(W.rows p h.1).1, (W.rows p h.1).2.1, fun q hq => ⟨?_, ((W.rows p h.1).2.2 q hq).2⟩⟩
    rw [spare_keys, mem_used]
    exact ⟨((W.rows p h.1).2.2 q hq).1, .step h.2 h.1 hq⟩
  ax := ⟨W.toWf.ax.1, W.toWf.ax.2.1, fun q hq => ⟨by rw [spare_keys, mem_used]; exact ⟨(W.toWf.ax.2.2 q hq).1, .ax hq⟩, (W.toWf.ax.2.2 q hq).2⟩⟩
  ends := by
    obtain ⟨g, h1, h2⟩ := W.ends
    exact ⟨g, h1, fun p hp => h2 p ((mem_spare W.toWf).mp hp).1⟩
  ord := by rw [spare_keys]; exact W.used_lt
end G81
set_option maxRecDepth 100000
set_option maxHeartbeats 2000000
/-! spared: the walk -/
namespace G81
open PySem PySem.Spec PyProof.Rows L2 SlX
open SX (S)
variable {P : Program} {w : World} {K : PySem.W.Frag} {mg : Str → Option Value} {base : Heap}
theorem sc57 : FnScope ["scheme", "letter"] ["scheme"] (defScope (topS 57)) := ⟨rfl, rfl, rfl, by decide +kernel, rfl, by decide +kernel, by decide +kernel⟩
noncomputable def r_spared (K : PySem.W.Frag) : RD := fun ds P => ∃ s : Sc, ds = [dSch K s] ∧ Ws s ∧ P = Is (dSch K s.spare)
theorem w_spared (T : Tx K mg) : Cal P w K mg base 12 "spared" (r_spared K) :=
  calD T.d_spared sc57 (by rintro ds P ⟨n, rfl, _⟩; rfl) fun cdv A outer s' H E hr c ds Pd hR => by
    have nd := sc57.nd
    obtain ⟨s, rfl, W, rfl⟩ := hR
    refine pb_expr (pv_call (w_require_scheme T) hr (by decide) rfl (pvs_cons (pvv 0) pvs_nil) ⟨s, rfl, rfl⟩) ?_
    have W2 := W.spare
    refine pb_ret (P := Is (dSch K s.spare)) .refl (px_mk (k_Scheme T) hr (by decide) rfl (pvs_cons (v_prop (pvv 0) T.c_Scheme.1 T.p_Scheme_grid (w_Scheme_grid T) hr (by decide) ⟨s, rfl, rfl⟩) (pvs_cons (v_prop (pvv 0) T.c_Scheme.1 T.p_Scheme_axiom (w_Scheme_axiom T) hr (by decide) ⟨s, rfl, rfl⟩) (pvs_cons (d := dRls s.spare.rs) ?_ pvs_nil))) fun ds e => ⟨_, ⟨s.spare, e, W2.toWf, rfl⟩, fun ss e => ?_⟩) fun _ h => h
    · refine px_k (pk_dc (xs := s.spare.rs) (emb := fun p : Nat × Row => dLet p.1) (kf := fun p : Nat × Row => lt p.1) (vf := fun p => dRow p.2) (.nm 1) [("letter", 1)] (PIX.mono (pix_tupv (xs := s.used) (emb := dLet) (v_prop (pvv 0) T.c_Scheme.1 T.p_Scheme_used (w_Scheme_used T) hr (by decide) ⟨s, rfl, rfl⟩)) fun ds e => ?_) (fun _ _ => rfl) (blkOk_by (by rfl)) (by intros; exact pgx_nm (by assumption) rfl (by first | exact Or.inl rfl | exact Or.inr rfl)) (fun _ _ _ _ _ x _ hx => pvv 1)
        (fun _ _ _ _ _ x _ hx => v_prop (v_rule T hr (by decide) (pvv 0) (pvv 1) W.nd ((mem_spare W.toWf).mp hx).1 .name) T.c_Rule.1 T.p_Rule_row (w_Rule_row T) hr (by decide) ⟨s.sq, x.2, rfl, rfl⟩) nd ?_)
      · rw [e]
        unfold Sc.spare
        rw [List.map_map]
        rfl
      · have e : (s.spare.rs.map fun p => lt p.1) = s.spare.keys.map lt := by unfold Sc.keys; rw [List.map_map]; rfl
        rw [e]
        exact List.Pairwise.map lt (fun _ _ h e => h (lt_inj e)) W2.nd
    · rw [show ss = _ from e, W2.srt_id]
      rfl
end G81
set_option maxRecDepth 100000
set_option maxHeartbeats 2000000
/-! list.index of nested data, min of letters, a walk over a dict, a dict written out -/
namespace G81
open PySem PySem.Spec PyProof.Rows L2 SlX
open SX (S)
theorem Dqs.mem {m : Nat} : ∀ {l : List D}, Dqs l m → ∀ x ∈ l, Dq x m
  | [], _, _, h => nomatch h
  | y :: l, h, x, hx => by
    rcases List.mem_cons.mp hx with z | z
    · rw [z]; exact h.1
    · exact Dqs.mem h.2 x z
section
variable {X : Cx} {c : Fm} {δ : List Cell} {e o a tg : Expr} {pos p apos cpos : Pos} {l : List D} {d : D} {j n m : Nat} {ks : List Str}
/-- x.index(e), e there -/
theorem pv_indexD (hu : X.A.units + 65 < cLine) (ho : PV X c δ o (.lst l)) (he : PV X c δ e d) (hd : Dq d n) (hl : Dqs l m) (hn : n ≤ 64) (hm : m + 1 ≤ 64) (hj : l[j]? = some d) (hno : ∀ i, i < j → l[i]? ≠ some d)
    (hbase : attributeBase o "index" X.env (eval o X.env) = eval o X.env := by rfl)
    (hfew : ((backTo cpos (starEach [e] X.env)).all (fun x => !x.1) && (backToKw cpos (keywordEach [] X.env)).all (fun x => x.1.isSome) && decide (([e] : List Expr).length + ([] : List Keyword).length + (if ([] : List Keyword).isEmpty then 0 else 1) < 30)) = true := by rfl)
    (hline : (apos.endLine == cpos.line) = true := by rfl) (hs : starEach [e] X.env = (false, eval e X.env) :: starEach [] X.env := by rfl) (hplain : (backTo cpos (starEach [] X.env)).any (·.1) = false := by rfl) :
    PV X c δ (.Call (.Attribute o "index" apos) [e] [] cpos) (.int (j : Nat)) :=
  PE.mono (pe_bm PySem.F.plainAttrs_list PySem.F.slot_list_index PySem.F.type_list_index (mt_indexD hu) ho (pa_cons he pa_nil hs) hbase hfew hline hs hplain) fun σ H Q ⟨z, w⟩ => ⟨z, fun v H1 x e1 r1 a1 => by
    cases (show x = _ from e1)
    have a1' := a1
    obtain ⟨b, xs, rfl, hmm, hb, hx⟩ := a1
    refine ⟨.inl ⟨rfl, xs, SqL.of hb⟩, z.rl r1, fun u H2 y e2 r2 a2 => ?_⟩
    cases (show y = _ from e2)
    have al := a1'.rl (z.rl r1).bs.toBw (Rl.wide (O := c.O) r2)
    have dp := dq_dp (d := .lst l) (n := m + 1) hl al
    refine ⟨b, u, d.py, pys l, j, d.py, rfl, rfl, dp, dq_dp hd a2, dq_shaped (d := .lst l) (n := m + 1) hl hm, dq_shaped hd hn, ?_, (dq_eqv hd hd).mpr rfl, fun i z' hi hz => ?_, w _ H2 _ rfl (r1.trans0 r2) rfl⟩
    · rw [pys_map, List.getElem?_map, hj]
      rfl
    · rw [pys_map, List.getElem?_map] at hz
      cases hq : l[i]? with
      | none => rw [hq] at hz; cases hz
      | some y =>
        rw [hq] at hz
        cases hz
        have ne : y ≠ d := fun e => hno i hi (by rw [hq, e])
        have hy := hl.mem y (List.mem_of_getElem? hq)
        cases hb2 : PyData.eqv y.py d.py with
        | false => rfl
        | true => exact absurd ((dq_eqv hy hd).mp hb2) ne⟩
/-- for k in a dict -/
theorem pix_dkeys {l : List D} (he : PV X c δ e (.dct ks l)) : PIX X c δ tg e (· = ks.map D.txt) :=
  PI.mono (pi_len (pi_keys he)) fun σ H R ⟨z, w⟩ => ⟨z, fun v H1 d q r a => by
    cases (show d = _ from q)
    obtain ⟨p, o, es, ep, vs, rfl, h1, h2, h3, h4⟩ := a
    have hz : (kvz ks vs).length = ks.length := kvz_len h3
    refine ⟨p, o, rfl, .inl ⟨_, h1, fun len => w _ H1 _ rfl r ⟨_, _, _, walk_keys, by rw [hz, List.length_map], fun c' u => ⟨fun H' r' => r'.keep h1 not_frz, fun i H' x H2 hi r' y => ?_⟩⟩ (by rw [List.length_map, ← hz]; exact len.2.2 p _ (.inr ⟨o, h1⟩))⟩⟩
    obtain ⟨rfl, k', v', hk', rfl⟩ := y
    have hi' : i < ks.length := by rw [← hz]; exact hi
    have hk := kvz_get (List.getElem?_eq_getElem hi') (List.getElem?_eq_getElem (show i < vs.length by rw [← h3]; exact hi'))
    rw [hk] at hk'
    cases hk'
    exact ⟨.txt ks[i], by rw [List.getElem?_map, List.getElem?_eq_getElem hi']; rfl, fun _ _ e => e, rfl⟩⟩
end
/-! min of a list of letters -/
def rMinLet (K : PySem.W.Frag) : List V → Hp → VK → Prop := fun vs H Q => ∃ (a : Addr) (l : Nat) (ls : List Nat), vs = [V.ref a] ∧ SqL K H a ((l :: ls).map fun l => V.str (lt l)) ∧ (∀ m ∈ ls, l ≤ m) ∧ Q (.str (lt l)) H
theorem minD_first : ∀ {l : Nat} {ls : List Nat}, (∀ m ∈ ls, l ≤ m) → PySem.W.minD (PyData.str (lt l)) (ls.map fun l => PyData.str (lt l)) = PyData.str (lt l)
  | l, [], _ => rfl
  | l, m :: ls, h => by
    show PySem.W.minD (if PySem.W.dataLt (.str (lt m)) (.str (lt l)) then _ else _) _ = _
    have e : PySem.W.dataLt (.str (lt m)) (.str (lt l)) = false := by
      rw [PySem.W.dataLt_str]
      refine decide_eq_false fun z => ?_
      have z : [m] < [l] := z
      have := h m List.mem_cons_self
      rw [List.cons_lt_cons_iff] at z
      rcases z with z | ⟨_, z⟩
      · omega
      · exact absurd z (List.not_lt_nil _)
    rw [e]
    exact minD_first fun x hx => h x (List.mem_cons_of_mem _ hx)
theorem reads_lets {h : Heap} : ∀ {ls : List Nat} {us : List Value}, Vals (ls.map fun l => V.str (lt l)) us → ReadsAll h us (ls.map fun l => PyData.str (lt l)) []
  | [], _, r => by cases r; exact .nil
  | l :: ls, _, r => by
    cases r with
    | cons r rr =>
      obtain ⟨t, rfl⟩ := r
      have := reads_lets (h := h) rr
      exact ReadsAll.cons (as := []) (bs := []) (.str _ _) this
theorem cr_minLet {X : Cx} (hc : X.calm = true) (hu : X.A.units + 2 < cLine) : CallR X (.builtin "min") (rMinLet X.K) := by
  intro pins s σ H vs us Q I r h
  obtain ⟨a, l, ls, rfl, hs, hle, q⟩ := h
  obtain ⟨its, rv, hl, _⟩ := I.list hs
  rw [Vals.ref1 r]
  refine PySem.W.min_list_data (I.ok.hd hc) hl.isList (x := .str (lt l)) (xs := ls.map fun l => .str (lt l)) (as := []) (by simpa using reads_lets (h := s.heap) rv) ⟨fun x hx y hy => ?_, fun x hx => ?_⟩ ?_ fun i v h' tk bs hi hr hk => ?_
  · rw [← List.map_cons (f := fun l => PyData.str (lt l))] at hx hy
    obtain ⟨_, _, rfl⟩ := List.mem_map.mp hx
    obtain ⟨_, _, rfl⟩ := List.mem_map.mp hy
    rfl
  · rw [← List.map_cons (f := fun l => PyData.str (lt l))] at hx
    obtain ⟨_, _, rfl⟩ := List.mem_map.mp hx
    intro z; cases z
  · have : ∀ ls : List Nat, PyData.depthAll (ls.map fun l => PyData.str (lt l)) = 0 := fun ls => by
      induction ls with
      | nil => rfl
      | cons x ls ih => rw [List.map_cons, PyData.depthAll, ih]; rfl
    have := this (l :: ls)
    rw [List.map_cons] at this
    rw [this]
    omega
  · rw [minD_first hle] at hr
    cases hr
    exact ⟨.str (lt l), H, I.kept hk, ⟨_, rfl⟩, q⟩
section
variable {k : KW} {c : Fm}
theorem Ats.lets {H : Hp} : ∀ {ls : List Nat} {xs : List V}, Ats k c H (ls.map dLet) xs → xs = ls.map fun l => V.str (lt l)
  | [], _, h => h
  | n :: ns, _, h => by obtain ⟨x, t, rfl, p, q⟩ := h; rw [Ats.lets (ls := ns) q, show x = _ from p]; rfl
theorem l_minLet {l : Nat} {ls : List Nat} (h : ∀ m ∈ ls, l ≤ m) : CRL k c (rMinLet k.K) [.lst ((l :: ls).map dLet)] (Is (dLet l)) := fun vs H Q bs a q => by
  obtain ⟨v, rfl, a1⟩ := a.one_
  obtain ⟨p, xs, rfl, hm, hp, hx⟩ := a1
  rw [hx.lets] at hp
  exact ⟨p, l, ls, rfl, SqL.of hp, h, q _ H _ rfl .refl rfl⟩
end
section
variable {X : Cx} (T : Tx X.K X.mg) {c : Fm} {δ : List Cell} {a : Expr} {pos p : Pos} {j : Nat}
include T
theorem v_minLet {l : Nat} {ls : List Nat} (hr : Room j X.A) (h : PV X c δ a (.lst ((l :: ls).map dLet))) (hle : ∀ m ∈ ls, l ≤ m) (hc : X.calm = true := by rfl) (hs : starEach [a] X.env = (false, eval a X.env) :: starEach [] X.env := by rfl) (hg : Gl X "min" := by rfl) (hpl : (backTo pos (starEach [] X.env)).any (·.1) = false := by rfl) :
    PV X c δ (.Call (.Name "min" p) [a] [] pos) (dLet l) := pv_cB (cr_minLet hc (ru hr)) T.n_min bb_min (pvs_cons h pvs_nil hs) (l_minLet hle) hg (by decide) (by decide) hs hpl
end
/-! a dict written out, its keys texts -/
inductive PPV (X : Cx) (c : Fm) (δ : List Cell) : List (Option Expr) → List Expr → List Str → List D → Prop where
  | nil : PPV X c δ [] [] [] []
  | cons {k v : Expr} {ks : List (Option Expr)} {vs : List Expr} {z : Str} {zs : List Str} {d : D} {ds : List D} (hk : ∀ p, PV X (c.add p) δ k (.txt z)) (hv : ∀ p, PV X (c.add p) δ v d) (r : PPV X c δ ks vs zs ds) : PPV X c δ (some k :: ks) (v :: vs) (z :: zs) (d :: ds)
def tPv (k : KW) (c : Fm) (δ : List Cell) (d : D) : TE := fun σ H Q => ∃ p : Addr, True ∧ tX k (c.add p) δ (Is d) σ H Q
def ppvT (k : KW) (c : Fm) (δ : List Cell) : List Str → List D → List (TE × TE)
  | z :: zs, d :: ds => (tPv k c δ (.txt z), tPv k c δ d) :: ppvT k c δ zs ds
  | _, _ => []
section
variable {X : Cx} {c : Fm} {δ : List Cell} {keys : List (Option Expr)} {values : List Expr} {ks : List Str} {ds : List D} {pos : Pos}
theorem ppv_pps : ∀ {keys values ks ds}, PPV X c δ keys values ks ds → PPs X pos keys values (ppvT (kw X) c δ ks ds)
  | _, _, _, _, .nil => pps_nil
  | _, _, _, _, .cons hk hv r => pps_cons (pe_ex (C := fun _ : Addr => True) fun p _ => hk p) (pe_ex (C := fun _ : Addr => True) fun p _ => hv p) (ppv_pps r)
theorem PPV.len : ∀ {keys values ks ds}, PPV X c δ keys values ks ds → keys.length = ks.length ∧ values.length = ks.length ∧ ds.length = ks.length ∧ keys.all (·.isSome) = true
  | _, _, _, _, .nil => ⟨rfl, rfl, rfl, rfl⟩
  | _, _, _, _, .cons hk hv r => by
    obtain ⟨h1, h2, h3, h4⟩ := r.len
    simp only [List.length_cons, h1, h2, h3, List.all_cons, h4, Option.isSome_some, Bool.and_self, and_self]
theorem merge_kvz : ∀ {ks : List Str} {xs : List V} {ks0 : List Str} {xs0 : List V}, ks.length = xs.length → ks0.length = xs0.length → (ks0 ++ ks).Nodup → mergeK (kvz ks0 xs0) (kvz ks xs) = kvz (ks0 ++ ks) (xs0 ++ xs)
  | [], [], ks0, xs0, _, _, _ => by simp only [List.append_nil]; rfl
  | [], _ :: _, _, _, h, _, _ => nomatch h
  | _ :: _, [], _, _, h, _, _ => nomatch h
  | k :: ks, x :: xs, ks0, xs0, h, h0, nd => by
    have nin : k ∉ ks0 := fun m => (List.nodup_append.mp nd).2.2 k m k List.mem_cons_self rfl
    show mergeK (putK (kvz ks0 xs0) (Sum.inr k) x) (kvz ks xs) = _
    have e : putK (kvz ks0 xs0) (Sum.inr k) x = kvz (ks0 ++ [k]) (xs0 ++ [x]) := by
      rw [← kvz_snoc h0]
      unfold putK
      have := kvz_any (z := k) h0
      rw [decide_eq_false nin] at this
      rw [this]
      rfl
    rw [e, merge_kvz (ks0 := ks0 ++ [k]) (xs0 := xs0 ++ [x]) (by simpa using h) (by simp [h0]) (by rw [List.append_assoc]; exact nd), List.append_assoc, List.append_assoc]
    rfl
theorem kvz_map2 : ∀ {ks : List Str} {xs : List V}, ks.length = xs.length → (kvz ks xs).map (fun kv => (kV kv.1, kv.2)) = List.zipWith (fun k x => (V.str k, x)) ks xs
  | [], [], _ => rfl
  | [], _ :: _, h => nomatch h
  | _ :: _, [], h => nomatch h
  | k :: ks, x :: xs, h => by rw [kvz_cons, List.map_cons, kvz_map2 (by simpa using h)]; rfl
theorem pairs_go {σ : L2.St} {p : Addr} : ∀ {ks ds} {H : Hp} {Q : List (V × V) → Hp → Prop}, ds.length = ks.length → Ev (kw X) (c.add p) H σ δ → (∀ H' xs, Rl c.E [] H H' → Ats (kw X) (c.add p) H' ds xs → Q (List.zipWith (fun k x => (V.str k, x)) ks xs) H') → tPairs (ppvT (kw X) c δ ks ds) σ H Q
  | [], [], H, Q, _, ev, q => q H [] .refl rfl
  | [], _ :: _, _, _, h, _, _ => nomatch h
  | _ :: _, [], _, _, h, _, _ => nomatch h
  | k :: ks, d :: ds, H, Q, h, ev, q => ⟨p, trivial, ev, fun v H1 x e1 r1 a1 => ⟨p, trivial, ev.rl r1, fun u H2 y e2 r2 a2 => by
      cases (show x = _ from e1)
      cases (show v = _ from a1)
      cases (show y = _ from e2)
      refine pairs_go (by simpa using h) ((ev.rl r1).rl r2) fun H' xs r3 a3 => ?_
      have := q H' (u :: xs) ((r1.trans0 r2).trans0 r3) (Ats.cons (a2.rl ((ev.rl r1).rl r2).bs.toBw (Rl.wide (O := (c.add p).O) r3)) a3)
      exact this⟩⟩
theorem pk_disp (h : PPV X c δ keys values ks ds) (nd : ks.Nodup := by decide +kernel) (h0 : keys ≠ [] := by exact fun z => nomatch z) (h15 : keys.length ≤ 15 := by exact Nat.le_of_ble_eq_true rfl) : PK X c δ (.Dict keys values pos) ks ds := by
  obtain ⟨l1, l2, l3, l4⟩ := h.len
  refine PE.mono (pe_disp (ppv_pps h) l4 (by rw [l1, l2]) h0 h15) fun σ H Q ⟨ev, w⟩ => fun p hp => ?_
  have ev1 : Ev (kw X) (c.add p) (upd H p (.dK [])) σ δ := ev.add hp
  refine pairs_go l3 ev1 fun H' xs r a => ?_
  have hx : ks.length = xs.length := by rw [a.length, l3]
  have hp' : H' p = some (.dK []) := by
    rcases r p _ upd_same with z | ⟨m, _⟩ | ⟨m, _⟩
    · exact z
    · obtain ⟨o, e⟩ := ev.bs.dom p (ev.bs.em p m)
      rw [hp] at e
      cases e
    · cases m
  have r' : Rl c.E [] H H' := (Rl.new hp).trans0 r
  have r2 : Rl c.E [] H (upd H' p (.dK (kvz ks xs))) := fun b o e => by
    rw [upd_ne (ne_of_none e hp)]
    exact r' b o e
  refine ⟨hp', kvz ks xs, (kvz_map2 hx).symm, by rw [kvz_len hx, ← l1]; exact h15, ?_⟩
  have em : mergeK [] (kvz ks xs) = kvz ks xs := merge_kvz (ks0 := []) (xs0 := []) hx rfl nd
  rw [em]
  exact w p _ xs r2 hp upd_same hx (a.rl (ev1.rl r).bs.toBw (rl_own (o' := .dK (kvz ks xs)) List.mem_cons_self hp' (ownK_dK (xs := [])))) (ev.bs.free hp)
end
end G81
set_option maxRecDepth 100000
set_option maxHeartbeats 2000000
/-! numbers of which something is known; the dice -/
namespace G81
open PySem PySem.Spec PyProof.Rows L2 SlX
open SX (S)
/-- an int of which p holds -/
def In (p : Int → Prop) : D → Prop := fun d => ∃ i, d = .int i ∧ p i
section
variable {X : Cx} {c : Fm} {δ : List Cell} {a b e : Expr} {pos : Pos} {p q r : Int → Prop} {C : Int → Int → Prop} {g : Int → Int → Int}
theorem in_of {i : Int} (h : PV X c δ e (.int i)) (hp : p i) : PX X c δ e (In p) := px_of h ⟨i, rfl, hp⟩
theorem px_opI {op : Operator} (ho : OpR X (binaryOp op) (rI C fun i j => .int (g i j))) (ha : PX X c δ a (In p)) (hb : PX X c δ b (In q)) (h : ∀ i j, p i → q j → C i j ∧ r (g i j)) : PX X c δ (.BinOp a op b pos) (In r) :=
  px_op ho ha hb fun x y ⟨i, e1, h1⟩ ⟨j, e2, h2⟩ => by
    subst e1
    subst e2
    exact fun v w H Q bs a1 a2 wn => l_intC (h i j h1 h2).1 v w H Q bs a1 a2 fun z H' d e r a => wn z H' d ⟨_, e, (h i j h1 h2).2⟩ r a
theorem px_opI0 {op : Operator} (ho : OpR X (binaryOp op) (rI0 fun i j => .int (g i j))) (ha : PX X c δ a (In p)) (hb : PX X c δ b (In q)) (h : ∀ i j, p i → q j → r (g i j)) : PX X c δ (.BinOp a op b pos) (In r) :=
  px_op ho ha hb fun x y ⟨i, e1, h1⟩ ⟨j, e2, h2⟩ => by
    subst e1
    subst e2
    exact fun v w H Q bs a1 a2 wn => l_int v w H Q bs a1 a2 fun z H' d e r a => wn z H' d ⟨_, e, h i j h1 h2⟩ r a
/-- a comparison of such numbers -/
theorem ptx_opB {op : CmpOp} {g : Int → Int → Bool} {B : Bool → Prop} (ho : OpR X (compareOp op) (rI0 fun i j => .bl (g i j))) (ha : PX X c δ a (In p)) (hb : PX X c δ b (In q)) (h : ∀ i j, p i → q j → B (g i j)) (hm : behindInMarks op b = false := by first | exact nomark _ | rfl | with_unfolding_all rfl) : PTX X c δ (.Compare a [op] [b] pos) B :=
  ptx_cmp ho ha hb (fun x y ⟨i, e1, h1⟩ ⟨j, e2, h2⟩ => by
    subst e1
    subst e2
    exact fun v w H Q bs a1 a2 wn => l_bl v w H Q bs a1 a2 fun z H' d e r a => wn z H' d ⟨_, e, h i j h1 h2⟩ r a) hm
theorem ptx_eqI {B : Bool → Prop} (ha : PX X c δ a (In p)) (hb : PX X c δ b (In q)) (h : ∀ i j, p i → q j → B (decide (i = j))) (hm : behindInMarks .Eq b = false := by first | exact nomark _ | rfl | with_unfolding_all rfl) : PTX X c δ (.Compare a [.Eq] [b] pos) B :=
  ptx_cmp op_eq ha hb (fun x y ⟨i, e1, h1⟩ ⟨j, e2, h2⟩ => by
    subst e1
    subst e2
    exact fun v w H Q bs a1 a2 wn => l_eqI v w H Q bs a1 a2 fun z H' d e r a => wn z H' d ⟨_, e, h i j h1 h2⟩ r a) hm
variable {p1 : Pos}
theorem x_intI (T : Tx X.K X.mg) (h : PX X c δ a (In p)) (hs : starEach [a] X.env = (false, eval a X.env) :: starEach [] X.env := by rfl) (hg : Gl X "int" := by rfl) (hpl : (backTo pos (starEach [] X.env)).any (·.1) = false := by rfl) : PX X c δ (.Call (.Name "int" p1) [a] [] pos) (In p) :=
  px_cT (As := fun l => ∃ d, In p d ∧ l = [d]) call_int1 T.n_int bb_int (pxs_one h hs) (fun l ⟨d, ⟨i, e1, hp⟩, e⟩ => by
    subst e1
    subst e
    exact fun vs H Q b a w => l_intI vs H Q b a fun v H' d q r => w v H' d ⟨i, q, hp⟩ r) hg (by decide) (by decide) hs hpl
end
/-! the dice -/
section
variable {X : Cx} {c : Fm} {δ : List Cell} {e : Expr} {pos tpos kp : Pos} {P : D → Prop} {rest : List Stmt} {w : Wi}
/-- x[j] of the dice -/
theorem px_dice {z : Str} {zp : Pos} {kk : Tok} (i : Nat) (j : Int) (hj : j = 0 ∨ j = 1 ∨ j = 2) (hd : δ[i]? = some (.d .dice) := by rfl) (hN : X.N[i]? = some z := by rfl) (hv : Vis X.env.scope z := by first | exact Or.inl rfl | exact Or.inr (Or.inl rfl) | exact Or.inr (Or.inr rfl)) (h1 : (z == ("__debug__" : Str)) = false := by decide) (h2 : (z == ("__classdict__" : Str)) = false := by decide)
    (hs : PlainIx (.Constant (.int j) kk kp) := by exact fun _ _ => rfl) : PX X c δ (.Subscript (.Name z zp) (.Constant (.int j) kk kp) pos) (In fun x => j = 0 → 0 ≤ x) :=
  px_ix (A := Is .dice) (B := Is (.int j)) ix_list (pv_var i hd hN hv h1 h2) pv_int (fun x y e1 e2 => by
    cases (show x = _ from e1)
    cases (show y = _ from e2)
    intro v w H Q bs a1 a2 q
    obtain ⟨a, o, rfl, m, ho, x, y, z, rfl, hx⟩ := a1
    cases (show w = _ from a2)
    rcases hj with rfl | rfl | rfl
    · exact ⟨a, _, 0, .int x, rfl, rfl, SqL.of ho, rfl, q _ H _ ⟨x, rfl, fun _ => hx⟩ .refl rfl⟩
    · exact ⟨a, _, 1, .int y, rfl, rfl, SqL.of ho, rfl, q _ H _ ⟨y, rfl, fun h => by cases h⟩ .refl rfl⟩
    · exact ⟨a, _, 2, .int z, rfl, rfl, SqL.of ho, rfl, q _ H _ ⟨z, rfl, fun h => by cases h⟩ .refl rfl⟩) hs
/-- x[j] = e, x the dice -/
theorem pb_dice {z : Str} {zp : Pos} {kk : Tok} (i : Nat) (j : Int) (hj : j = 0 ∨ j = 2) (he : PX X c δ e (In fun x => j = 0 → 0 ≤ x)) (q : PB X c δ rest w) (hd : δ[i]? = some (.d .dice) := by rfl) (hN : X.N[i]? = some z := by rfl) (hv : Vis X.env.scope z := by first | exact Or.inl rfl | exact Or.inr (Or.inl rfl) | exact Or.inr (Or.inr rfl)) (h1 : (z == ("__debug__" : Str)) = false := by decide) (h2 : (z == ("__classdict__" : Str)) = false := by decide)
    (ha : ∀ v, assign (.Subscript (.Name z zp) (.Constant (.int j) kk kp) tpos) X.env v = (do
      let ov ← holding [v] (eval (.Name z zp) X.env)
      let iv ← holding [v, ov] (eval (.Constant (.int j) kk kp) X.env)
      standAt tpos
      holding [v, ov, iv] (setItem ov iv v)
      release [v, ov, iv] []) := by intro _; rfl)
    (hs : swapsWithSole [.Subscript (.Name z zp) (.Constant (.int j) kk kp) tpos] e pos.line X.env = pure false := by rfl) (hw : swappedStores [.Subscript (.Name z zp) (.Constant (.int j) kk kp) tpos] e X.env = pure none := by rfl)
    (hz : (assignEach [.Subscript (.Name z zp) (.Constant (.int j) kk kp) tpos] X.env).map (·.2) = [assign (.Subscript (.Name z zp) (.Constant (.int j) kk kp) tpos) X.env] := by rfl) : PB X c δ (.Assign [.Subscript (.Name z zp) (.Constant (.int j) kk kp) tpos] e pos :: rest) w := by
  refine PSs.mono (pss_cons (ps_asg he (pg_sub (pe_slot i hN hv h1 h2) pe_int set_list ha) hs hw hz) q) fun D σ H tb => ⟨tb.1, fun v H1 d ⟨n, e1, hn⟩ r a => ?_⟩
  subst e1
  cases (show v = _ from a)
  have ev := tb.1.rl r
  obtain ⟨y, e0, u, e2, b, o, e3, m, ho, dz⟩ := ev.at_ i _ hd
  subst e2 e3
  obtain ⟨x0, y0, z0, rfl, hx⟩ := dz
  refine ⟨.ref b, e0, ?_⟩
  have fin : ∀ o', DiceO o' → tB (kw X) c δ w D σ (upd H1 b o') := fun o' h' => by
    have r2 : Rl c.E [] H1 (upd H1 b o') := fun x u e => by
      by_cases hb : x = b
      · subst hb
        rw [ho] at e
        cases e
        exact .inr (.inl ⟨m, ⟨x0, y0, z0, rfl, hx⟩, o', upd_same, h'⟩)
      · exact .inl (by rw [upd_ne hb]; exact e)
    exact tB_own tb (r.wide.trans tb.1.oe r2.wide) (ev.rl r2)
  rcases hj with rfl | rfl
  · exact ⟨b, _, 0, 0, rfl, rfl, ho, rfl, fin _ ⟨n, y0, z0, rfl, hn rfl⟩⟩
  · exact ⟨b, _, 2, 2, rfl, rfl, ho, rfl, fin _ ⟨x0, y0, n, rfl, hx⟩⟩
end
end G81
set_option maxRecDepth 100000
set_option maxHeartbeats 4000000
/-! rolls and picks -/
namespace G81
open PySem PySem.Spec PyProof.Rows L2 SlX
open SX (S)
variable {P : Program} {w : World} {K : PySem.W.Frag} {mg : Str → Option Value} {base : Heap}
theorem sc62 : FnScope ["_law_dice_here", "_law_total", "_law_found", "_law_one", "_law_two"] ["_law_dice_here", "_law_total"] (defScope (topS 62)) := ⟨rfl, rfl, rfl, by decide +kernel, rfl, by decide +kernel, by decide +kernel⟩
theorem sc63 : FnScope ["_law_dice_here", "_law_items"] ["_law_dice_here", "_law_items"] (defScope (topS 63)) := ⟨rfl, rfl, rfl, by decide +kernel, rfl, by decide +kernel, by decide +kernel⟩
def NatBelow (n : Nat) : D → Prop := fun d => ∃ k : Nat, k < n ∧ d = .int (k : Nat)
def r__law_roll : RD := fun ds P => ∃ n : Nat, ds = [.dice, .int (n : Nat)] ∧ (0 < n ∧ n < 1000000) ∧ P = NatBelow n
theorem below_of {n : Nat} {d : D} (h : In (fun x => 0 ≤ x ∧ x < (n : Nat)) d) : NatBelow n d := by
  obtain ⟨i, rfl, h1, h2⟩ := h
  exact ⟨i.toNat, by omega, by rw [Int.toNat_of_nonneg h1]⟩
theorem mod_in {i : Int} {n : Nat} (h : 0 < n) : 0 ≤ i % (n : Int) ∧ i % (n : Int) < (n : Nat) := ⟨Int.emod_nonneg _ (by omega), Int.emod_lt_of_pos _ (by omega)⟩
theorem w__law_roll (T : Tx K mg) : Cal P w K mg base 1 "_law_roll" r__law_roll :=
  calD T.d__law_roll sc62 (by rintro ds P ⟨n, rfl, _⟩; rfl) fun cdv A outer s' H E hr c ds Pd hR => by
    have nd := sc62.nd
    obtain ⟨n, rfl, ⟨hn, hb⟩, rfl⟩ := hR
    have any : ∀ {X : Cx} {c : Fm} {δ : List Cell} {e : Expr} {p : Int → Prop}, PX X c δ e (In p) → PX X c δ e (In fun _ => True) := fun h => PX.mono h fun d ⟨i, e, _⟩ => ⟨i, e, trivial⟩
    have cst : ∀ {X : Cx} {c : Fm} {δ : List Cell} {i : Int} {j pos}, PX X c δ (.Constant (.int i) j pos) (In (· = i)) := fun {_ _ _ i _ _} => in_of pv_int rfl
    have tot : ∀ {X : Cx} {c : Fm} {δ : List Cell} {e : Expr}, PV X c δ e (.int (n : Nat)) → PX X c δ e (In (· = (n : Int))) := fun h => in_of h rfl
    refine pb_ifRet (B := fun _ => True) (ptx_opB op_gt (px_dice 0 0 (.inl rfl)) cst fun _ _ _ _ => trivial) (fun _ => ?_) fun _ => ?_
    · refine pb_set 2 (P := NatBelow n) nd rfl (.inl rfl) (PX.mono (px_opI (r := fun x => 0 ≤ x ∧ x < (n : Nat)) op_mod (x_intI T (any (px_dice 0 0 (.inl rfl)))) (tot (pvv 1)) fun i j _ hj => ⟨by rw [hj]; omega, by rw [hj]; exact mod_in hn⟩) fun d h => below_of h) fun d hd => ?_
      refine pb_dice 0 0 (.inl rfl) (px_opI (g := fun i j => i / j) op_fdiv (px_dice 0 0 (.inl rfl)) (tot (pvv 1)) fun i j hi hj => ⟨by rw [hj]; exact ⟨by omega, by omega⟩, fun _ => by rw [hj]; exact Int.ediv_nonneg (hi rfl) (by omega)⟩) ?_
      exact pb_ret .refl (px_of (pvv 2) hd) fun _ h => h
    refine pb_dice 0 2 (.inr rfl) (px_opI0 (g := fun i j => i + j) op_add (any (px_dice 0 2 (.inr (.inr rfl)))) cst fun i j _ _ h => by cases h) ?_
    refine pb_set 3 (P := In fun x => 0 ≤ x ∧ x < 2305843009213693693) nd rfl (.inl rfl) (px_opI op_mod (x_intI T (any (px_opI0 (r := fun _ => True) op_add (any (px_dice 0 1 (.inr (.inl rfl)))) (any (px_opI (r := fun _ => True) op_mul cst (any (px_dice 0 2 (.inr (.inr rfl)))) fun i j hi _ => ⟨.inl (by rw [hi]; decide), trivial⟩)) fun _ _ _ _ => trivial))) cst fun i j _ hj => ⟨by rw [hj]; decide, by rw [hj]; exact mod_in (n := 2305843009213693693) (by decide)⟩) fun d ⟨o, e1, ho⟩ => ?_
    subst e1
    refine pb_set 4 (P := In fun _ => True) nd rfl (.inl rfl) (px_opI0 op_add (px_opI (r := fun _ => True) op_mul (px_opI (r := fun _ => True) op_mod (x_intI T (px_opI0 (r := fun _ => True) op_add (px_opI (r := fun _ => True) op_mul (in_of (p := fun x => 0 ≤ x ∧ x < 2305843009213693693) (pvv 3) ho) (in_of (p := fun x => 0 ≤ x ∧ x < 2305843009213693693) (pvv 3) ho) fun i j hi _ => ⟨.inl (by omega), trivial⟩) (px_opI (r := fun _ => True) op_mul cst (any (px_dice 0 2 (.inr (.inr rfl)))) fun i j hi _ => ⟨.inl (by rw [hi]; decide), trivial⟩) fun _ _ _ _ => trivial)) cst fun i j _ hj => ⟨by rw [hj]; decide, trivial⟩) cst fun i j _ hj => ⟨.inr (by rw [hj]; decide), trivial⟩) (in_of (p := fun x => 0 ≤ x ∧ x < 2305843009213693693) (pvv 3) ho) fun _ _ _ _ => trivial) fun d ⟨t, e1, _⟩ => ?_
    subst e1
    exact pb_ret (P := NatBelow n) .refl (PX.mono (px_opI (r := fun x => 0 ≤ x ∧ x < (n : Nat)) op_mod (x_intI T (px_opI (g := fun i j => i / j) (r := fun _ => True) op_fdiv (in_of (p := fun _ => True) (pvv 4) trivial) cst fun i j _ hj => ⟨by rw [hj]; exact ⟨by decide, by decide⟩, trivial⟩)) (tot (pvv 1)) fun i j _ hj => ⟨by rw [hj]; omega, by rw [hj]; exact mod_in hn⟩) fun d h => below_of h) fun _ h => h
/-! picks -/
def r__law_pick : RD := fun ds P => ∃ l : List D, ds = [.dice, .lst l] ∧ (l ≠ [] ∧ l.length < 1000000) ∧ P = fun d => d ∈ l
theorem w__law_pick (T : Tx K mg) : Cal P w K mg base 2 "_law_pick" r__law_pick :=
  calD T.d__law_pick sc63 (by rintro ds P ⟨n, rfl, _⟩; rfl) fun cdv A outer s' H E hr c ds Pd hR => by
    obtain ⟨l, rfl, ⟨hn, hb⟩, rfl⟩ := hR
    have pos : 0 < l.length := List.length_pos_iff.mpr hn
    refine pb_ret .refl (px_ix (A := Is (.lst l)) (B := NatBelow l.length) ix_list (pvv 1) (pv_call (w__law_roll T) hr (by decide) rfl (pvs_cons (pvv 0) (pvs_cons (v_lenL T (pvv 1)) pvs_nil)) ⟨l.length, rfl, ⟨pos, hb⟩, rfl⟩) fun x y e1 ⟨k, hk, e2⟩ => ?_) fun _ h => h
    cases (show x = _ from e1)
    subst e2
    intro v u H' Q bs a1 a2 q
    refine l_ixL (d := l[k]) (atI_nat (List.getElem?_eq_getElem hk)) v u H' Q bs a1 a2 fun z H2 d e r a => q z H2 d ?_ r a
    rw [show d = _ from e]
    exact List.getElem_mem hk
end G81
set_option maxRecDepth 100000
set_option maxHeartbeats 2000000
/-! x.append(y.pop(e)) -/
namespace G81
open PySem PySem.Spec PyProof.Rows L2 SlX
open SX (S)
theorem Ats.erase {k : KW} {c : Fm} {H : Hp} {l : List D} {xs : List V} (n : Nat) (h : Ats k c H l xs) : Ats k c H (l.eraseIdx n) (xs.eraseIdx n) := by
  rw [List.eraseIdx_eq_take_drop_succ, List.eraseIdx_eq_take_drop_succ]
  exact (h.take n).append (h.drop (n + 1))
section
variable {X : Cx} {c : Fm} {δ : List Cell} {e : Expr} {pos ppos apos cpos pcpos : Pos} {rest : List Stmt} {w : Wi} {l1 l2 : Addr} {ds1 ds2 : List D}
theorem pb_appPop {z y : Str} {zp yp : Pos} (i j : Nat) (hij : i ≠ j) (hd1 : δ[i]? = some (.own l1 ds1)) (hd2 : δ[j]? = some (.own l2 ds2)) (ne : l1 ≠ l2) (he : PX X c δ e (NatBelow ds2.length)) (off1 : ∀ n, offAll l1 ((δ.set j (.own l2 (ds2.eraseIdx n))).set i .no)) (off2 : offAll l2 (δ.set j .no)) (hz : ds1.length < sizeLine) (hz2 : ds2.length < 1000000)
    (q : ∀ k d, ds2[k]? = some d → PB X c ((δ.set j (.own l2 (ds2.eraseIdx k))).set i (.own l1 (ds1 ++ [d]))) rest w)
    (hN : X.N[i]? = some z := by rfl) (hv : Vis X.env.scope z := by first | exact Or.inl rfl | exact Or.inr (Or.inl rfl) | exact Or.inr (Or.inr rfl)) (h1 : (z == ("__debug__" : Str)) = false := by decide) (h2 : (z == ("__classdict__" : Str)) = false := by decide)
    (hNy : X.N[j]? = some y := by rfl) (hvy : Vis X.env.scope y := by first | exact Or.inl rfl | exact Or.inr (Or.inl rfl) | exact Or.inr (Or.inr rfl)) (h1y : (y == ("__debug__" : Str)) = false := by decide) (h2y : (y == ("__classdict__" : Str)) = false := by decide)
    (hbaseP : attributeBase (.Name y yp) "pop" X.env (eval (.Name y yp) X.env) = eval (.Name y yp) X.env := by rfl)
    (hfewP : ((backTo pcpos (starEach [e] X.env)).all (fun x => !x.1) && (backToKw pcpos (keywordEach [] X.env)).all (fun x => x.1.isSome) && decide (([e] : List Expr).length + ([] : List Keyword).length + (if ([] : List Keyword).isEmpty then 0 else 1) < 30)) = true := by rfl)
    (hlineP : (ppos.endLine == pcpos.line) = true := by rfl) (hsP : starEach [e] X.env = (false, eval e X.env) :: starEach [] X.env := by rfl) (hplainP : (backTo pcpos (starEach [] X.env)).any (·.1) = false := by rfl)
    (hbase : attributeBase (.Name z zp) "append" X.env (eval (.Name z zp) X.env) = eval (.Name z zp) X.env := by rfl)
    (hfew : ((backTo cpos (starEach [.Call (.Attribute (.Name y yp) "pop" ppos) [e] [] pcpos] X.env)).all (fun x => !x.1) && (backToKw cpos (keywordEach [] X.env)).all (fun x => x.1.isSome) && decide (([.Call (.Attribute (.Name y yp) "pop" ppos) [e] [] pcpos] : List Expr).length + ([] : List Keyword).length + (if ([] : List Keyword).isEmpty then 0 else 1) < 30)) = true := by rfl)
    (hline : (apos.endLine == cpos.line) = true := by rfl) (hs : starEach [.Call (.Attribute (.Name y yp) "pop" ppos) [e] [] pcpos] X.env = (false, eval (.Call (.Attribute (.Name y yp) "pop" ppos) [e] [] pcpos) X.env) :: starEach [] X.env := by rfl) (hplain : (backTo cpos (starEach [] X.env)).any (·.1) = false := by rfl)
    (hsw : swapsWith (.Call (.Attribute (.Name z zp) "append" apos) [.Call (.Attribute (.Name y yp) "pop" ppos) [e] [] pcpos] [] cpos) none pos.line X.env = pure false := by rfl) :
    PB X c δ (.Expr (.Call (.Attribute (.Name z zp) "append" apos) [.Call (.Attribute (.Name y yp) "pop" ppos) [e] [] pcpos] [] cpos) pos :: rest) w := by
  have key : PSs X rest (fun D σ H => ∃ k d, ds2[k]? = some d ∧ tB (kw X) c ((δ.set j (.own l2 (ds2.eraseIdx k))).set i (.own l1 (ds1 ++ [d]))) w D σ H) := ⟨fun pins s σ H D I ⟨k, d, p, z⟩ => (q k d p).run pins s σ H D I z⟩
  have hi := (List.getElem?_eq_some_iff.mp hd1).1
  have hj := (List.getElem?_eq_some_iff.mp hd2).1
  have pop := pe_bm PySem.F.plainAttrs_list PySem.F.slot_list_pop PySem.F.type_list_pop mt_popAt (pe_slot (pos := yp) j hNy hvy h1y h2y) (pa_cons he pa_nil hsP) hbaseP hfewP hlineP hsP hplainP
  refine PSs.mono (pss_cons (ps_expr (pe_bm PySem.F.plainAttrs_list PySem.F.slot_list_append PySem.F.type_list_append mt_append (pe_slot i hN hv h1 h2) (pa_cons pop pa_nil hs) hbase hfew hline hs hplain) hsw) key) fun D σ H tb => ?_
  obtain ⟨v, e0, e1, m, xs, hl, hx⟩ := tb.1.at_ i _ hd1
  subst e1
  obtain ⟨v2, f0, f1, m2, ys, hl2, hy⟩ := tb.1.at_ j _ hd2
  subst f1
  refine ⟨.ref l1, e0, .inl ⟨rfl, xs, SqL.of hl⟩, .ref l2, f0, .inl ⟨rfl, ys, SqL.of hl2⟩, tb.1, fun u H1 d ⟨k, hk, e2⟩ r a => ?_⟩
  subst e2
  cases (show u = _ from a)
  have ev1 := tb.1.rl r
  have hl1' := own_keep tb.1.oe m r hl
  have hl2' := own_keep tb.1.oe m2 r hl2
  have hx1 := hx.rl tb.1.bs.toBw (Rl.wide (O := c.O) r)
  have hy1 := hy.rl tb.1.bs.toBw (Rl.wide (O := c.O) r)
  obtain ⟨d, hd⟩ : ∃ d, ds2[k]? = some d := ⟨_, List.getElem?_eq_getElem hk⟩
  obtain ⟨y0, hy0, ay⟩ := hy1.get hd
  have hkl : k < ys.length := by rw [hy.length]; exact hk
  have r2 : Rl c.E c.O H1 (upd H1 l2 (.lst (ys.eraseIdx k))) := rl_own m2 hl2' ownK_lst
  have ev2 : Ev (kw X) c (upd H1 l2 (.lst (ys.eraseIdx k))) σ (δ.set j (.own l2 (ds2.eraseIdx k))) := ev_put ev1 m2 hl2' ownK_lst hj off2 fun v hv => by
    rw [f0] at hv
    cases hv
    exact ⟨rfl, m2, _, upd_same, (hy1.erase k).rl ev1.bs.toBw r2⟩
  have hl1'' : (upd H1 l2 (.lst (ys.eraseIdx k))) l1 = some (.lst xs) := by rw [upd_ne ne]; exact hl1'
  refine ⟨l2, ys, (k : Nat), k, y0, rfl, rfl, hl2', by omega, by omega, ?_, hy0, l1, xs, y0, rfl, rfl, hl1'', by rw [hx.length]; exact hz, k, d, hd, ?_⟩
  · rw [seqIndex_of (by omega) (by omega)]
    simp
  · have r3 : Rl c.E c.O (upd H1 l2 (.lst (ys.eraseIdx k))) (upd (upd H1 l2 (.lst (ys.eraseIdx k))) l1 (.lst (xs ++ [y0]))) := rl_own m hl1'' ownK_lst
    have ay2 := (ay.rl ev1.bs.toBw r2)
    have hx2 := hx1.rl ev1.bs.toBw r2
    refine tB_own tb (Rl.trans tb.1.oe r.wide (Rl.trans tb.1.oe r2 r3)) (ev_put ev2 m hl1'' ownK_lst (by rw [List.length_set]; exact hi) (off1 k) fun v hv => ?_)
    rw [e0] at hv
    cases hv
    exact ⟨rfl, m, _, upd_same, ((hx2.append (Ats.one ay2))).rl ev2.bs.toBw r3⟩
end
end G81
set_option maxRecDepth 100000
set_option maxHeartbeats 4000000
/-! items in a drawn order -/
namespace G81
open PySem PySem.Spec PyProof.Rows L2 SlX
open SX (S)
variable {P : Program} {w : World} {K : PySem.W.Frag} {mg : Str → Option Value} {base : Heap}
theorem sc64 : FnScope ["_law_dice_here", "_law_items", "_law_left", "_law_found", "_law_turn"] ["_law_dice_here", "_law_items"] (defScope (topS 64)) := ⟨rfl, rfl, rfl, by decide +kernel, rfl, by decide +kernel, by decide +kernel⟩
def r__law_mixed : RD := fun ds P => ∃ (l : List D) (x : D), ds = [.dice, x] ∧ (x = .lst l ∨ x = .tup l) ∧ l.length < 1000 ∧ P = fun d => ∃ m, d = .lst m ∧ m.Perm l
theorem perm_move {as bs l : List D} {k : Nat} {d : D} (h : (as ++ bs).Perm l) (hk : bs[k]? = some d) : ((as ++ [d]) ++ bs.eraseIdx k).Perm l := by
  refine List.Perm.trans ?_ h
  rw [List.append_assoc]
  refine List.Perm.append_left as ?_
  obtain ⟨hl, rfl⟩ := List.getElem?_eq_some_iff.mp hk
  show (bs[k] :: bs.eraseIdx k).Perm bs
  rw [List.eraseIdx_eq_take_drop_succ]
  have e : bs = bs.take k ++ bs[k] :: bs.drop (k + 1) := by rw [← List.drop_eq_getElem_cons hl, List.take_append_drop]
  exact (List.perm_middle.symm).trans (List.Perm.of_eq e.symm)
theorem w__law_mixed (T : Tx K mg) : Cal P w K mg base 2 "_law_mixed" r__law_mixed :=
  calD T.d__law_mixed sc64 (by rintro ds P ⟨n, x, rfl, _⟩; rfl) fun cdv A outer s' H E hr c ds Pd hR => by
    have nd := sc64.nd
    obtain ⟨l, x, rfl, hx, hl, rfl⟩ := hR
    have nl : ∀ {X : Cx} {c : Fm} {δ : List Cell} {a : Expr} {p pos : Pos} (T : Tx X.K X.mg) (h : PV X c δ a x) (hs : starEach [a] X.env = (false, eval a X.env) :: starEach [] X.env) (hg : Gl X "list") (hpl : (backTo pos (starEach [] X.env)).any (·.1) = false), PN X c δ (.Call (.Name "list" p) [a] [] pos) (· = l) := fun T h hs hg hpl => by
      rcases hx with rfl | rfl
      · exact n_listL T h hs hg hpl
      · exact n_listT T h hs hg hpl
    have vl : ∀ {X : Cx} {c : Fm} {δ : List Cell} {a : Expr} {p pos : Pos} (T : Tx X.K X.mg) (h : PV X c δ a x) (hs : starEach [a] X.env = (false, eval a X.env) :: starEach [] X.env) (hg : Gl X "len") (hpl : (backTo pos (starEach [] X.env)).any (·.1) = false), PV X c δ (.Call (.Name "len" p) [a] [] pos) (.int l.length) := fun T h hs hg hpl => by
      rcases hx with rfl | rfl
      · exact v_lenL T h hs hg hpl
      · exact v_lenT T h hs hg hpl
    refine pb_par 2 3 (pa2C (cx_own (nl T (pvv 1) rfl rfl rfl)) fun c1 y1 s1 => cx_own (pvn_lst pvs_nil)) (fun c' y1 y2 ⟨c2, s1, s2⟩ => ?_) nd
    obtain ⟨fk1, l1, d1, hl1, rfl, rfl, rfl⟩ := s1
    obtain ⟨fk2, l2, d2, hl2, rfl, rfl, rfl⟩ := s2
    have l12 : l1 ≠ l2 := fun e => hl2 (by rw [← e]; exact List.mem_cons_self)
    have l2c : l2 ∉ c.M := fun h => hl2 (List.mem_cons_of_mem _ h)
    have fk3 : Fok (c.add l2) := fok_add fk1 l2c
    have hl3 : l1 ∉ (c.add l2).M := fun h => by
      rcases List.mem_cons.mp h with z | z
      · exact l12 z
      · exact hl1 z
    refine pb_for (t := .nm 4) (emb := fun i : Nat => .int (i : Nat)) (xs := List.range d1.length) (fun i δ' => ∃ (as bs : List D) (y : Cell), y.adr = [] ∧ (as ++ bs).Perm d1 ∧ as.length = i ∧ δ' = [.d .dice, .d x, .own l1 bs, .own l2 as, y]) PassesOwn.never rfl (pix_range T.n_range (vl T (pvv 1) rfl rfl rfl) (by omega)) (pgx_nm nd rfl (.inl rfl)) ⟨[], d1, .no, rfl, List.Perm.refl _, rfl, rfl⟩ ?_ ?_
    · rintro i y0 δ' hi ⟨as, bs, y, hy, pm, ha, rfl⟩
      have hi' : i < d1.length := by
        have := (List.getElem?_eq_some_iff.mp hi).1
        rwa [List.length_range] at this
      have hlen := pm.length_eq
      rw [List.length_append] at hlen
      refine ⟨_, rfl, ?_⟩
      refine pb_appPop 3 2 (by decide) rfl rfl l12.symm ?_ (fun n => by simp [offAll, Cell.adr, l12.symm]) (by simp [offAll, Cell.adr, l12]) (Nat.lt_of_lt_of_le (show as.length < 1000 by omega) (by decide)) (by omega) fun k d hk => ?_
      · refine px_sameF .swap (px_borrow 2 (c0 := c.add l2) rfl fk3 hl3 rfl (by simp [offAll, Cell.adr, l12]) (pv_call (w__law_roll T) hr (by decide) rfl (pvs_cons (pvv 0) (pvs_cons (v_lenL T (pvv 2)) pvs_nil)) ⟨bs.length, rfl, ⟨by omega, by omega⟩, rfl⟩) ?_) ?_
        · rintro d ⟨k, _, rfl⟩; trivial
        · rintro d ⟨k, _, rfl⟩; trivial
      · exact pb_end ⟨as ++ [d], bs.eraseIdx k, _, rfl, perm_move pm hk, by rw [List.length_append, ha]; rfl, rfl⟩
    · rintro δ' ⟨as, bs, y, hy, pm, ha, rfl⟩
      rw [List.length_range] at ha
      have hlen := pm.length_eq
      rw [List.length_append] at hlen
      have hb : bs = [] := List.eq_nil_of_length_eq_zero (by omega)
      subst hb
      rw [List.append_nil] at pm
      refine pb_disown 3 fk2 hl2 rfl (by simp only [offAll, hy, List.set_cons_zero, List.set_cons_succ]; simp [Cell.adr, l12.symm]) (pb_forget 2 (Nat.le_of_ble_eq_true rfl) fk1 (by simp only [offAll, hy, List.set_cons_zero, List.set_cons_succ]; simp [Cell.adr]) ?_)
      exact pb_ret .refl (px_of (pvv 3) ⟨as, rfl, pm⟩) fun _ h => h
end G81
set_option maxRecDepth 100000
set_option maxHeartbeats 4000000
/-! rows and lines as texts, read and written -/
namespace G81
open PySem PySem.Spec PyProof.Rows L2 SlX
open SX (S)
/-- letters and turns as texts ask for them -/
def TxOk (r : Row) : Prop := ∀ p ∈ r, (97 ≤ p.1 ∧ p.1 ≤ 122) ∧ p.2 < 10
theorem row_split {r : Row} (h : r ≠ []) (hk : TxOk r) : Txt.split (S (rowC r)) (S [32]) = r.map fun p => S (itemC p) := by
  rw [SX.split_S (by decide) (by decide)]
  unfold rowC
  rw [SX.spl_join (fun e => h (List.map_eq_nil_iff.mp e)) fun p hp => ?_, List.map_map]
  · rfl
  · obtain ⟨x, hx, rfl⟩ := List.mem_map.mp hp
    have := hk x hx
    intro m
    rcases List.mem_cons.mp m with z | z
    · omega
    · have := List.mem_singleton.mp z
      omega
theorem item_int {t : Nat} (h : t < 10) : PySem.intText? (S [48 + t]) = some (t : Nat) := by
  have key : ∀ t, t < 10 → PySem.intText? (S [48 + t]) = some ((t : Nat) : Int) := by decide +kernel
  exact key t h
theorem cut_from {a : List Nat} {i : Nat} : cutS (S a) (some (i : Int)) none = S (a.drop i) := by
  rw [C8.cutS_slice, SX.slice_from (by omega)]
  rfl
theorem split_two {a b : List Nat} {q : List Nat} (ha : 32 ∉ a) (hb : 32 ∉ b) : ∃ m, Txt.split (S (a ++ (32 :: (b ++ (32 :: q))))) (S [32]) = S a :: S b :: m := by
  rw [SX.split_S (by decide) (by decide)]
  have e1 := SX.spl_free (sep := [32]) (p := a) (b ++ (32 :: q)) (by decide) (SX.free_head ha)
  have e2 := SX.spl_free (sep := [32]) (p := b) q (by decide) (SX.free_head hb)
  have e3 : a ++ (32 :: (b ++ (32 :: q))) = a ++ ([32] ++ (b ++ (32 :: q))) := rfl
  have e4 : b ++ (32 :: q) = b ++ ([32] ++ q) := rfl
  rw [e3, e1, e4, e2]
  exact ⟨_, rfl⟩
theorem split_one {a q : List Nat} (ha : 32 ∉ a) : ∃ m, Txt.split (S (a ++ (32 :: q))) (S [32]) = S a :: m := by
  rw [SX.split_S (by decide) (by decide)]
  have e1 := SX.spl_free (sep := [32]) (p := a) q (by decide) (SX.free_head ha)
  have e3 : a ++ (32 :: q) = a ++ ([32] ++ q) := rfl
  rw [e3, e1]
  exact ⟨_, rfl⟩
theorem split_G (sq : Bool) : Txt.split (lineG sq) (S [32]) = [S (codes "grid"), gname sq] := by cases sq <;> decide +kernel
theorem split_A (r : Row) : ∃ m, Txt.split (lineA r) (S [32]) = S (codes "axiom") :: m := by
  have := split_one (a := codes "axiom") (q := rowC r) (by decide +kernel)
  exact this
theorem split_R (p : Nat × Row) (h : 97 ≤ p.1) : ∃ m, Txt.split (lineR p) (S [32]) = S (codes "rule") :: lt p.1 :: m := by
  have := split_two (a := codes "rule") (b := [p.1]) (q := rowC p.2) (by decide +kernel) (by simp; omega)
  exact this
theorem cut_A (r : Row) : cutS (lineA r) (some ((6 : Nat) : Int)) none = S (rowC r) := by
  unfold lineA
  rw [cut_from]
  rfl
theorem cut_R (p : Nat × Row) : cutS (lineR p) (some ((7 : Nat) : Int)) none = S (rowC p.2) := by
  unfold lineR
  rw [cut_from]
  rfl
variable {P : Program} {w : World} {K : PySem.W.Frag} {mg : Str → Option Value} {base : Heap}
theorem sc65 : FnScope ["_law_plain_here"] ["_law_plain_here"] (defScope (topS 65)) := ⟨rfl, rfl, rfl, by decide +kernel, rfl, by decide +kernel, by decide +kernel⟩
theorem sc66 : FnScope ["_law_text", "_law_word"] ["_law_text"] (defScope (topS 66)) := ⟨rfl, rfl, rfl, by decide +kernel, rfl, by decide +kernel, by decide +kernel⟩
theorem sc67 : FnScope ["_law_row_here", "_law_letter", "_law_turn"] ["_law_row_here"] (defScope (topS 67)) := ⟨rfl, rfl, rfl, by decide +kernel, rfl, by decide +kernel, by decide +kernel⟩
theorem sc69 : FnScope ["_law_plain_here"] ["_law_plain_here"] (defScope (topS 69)) := ⟨rfl, rfl, rfl, by decide +kernel, rfl, by decide +kernel, by decide +kernel⟩
theorem sc81 : FnScope ["_law_row_here", "_law_name", "_law_direction"] ["_law_row_here"] (defScope (topS 81)) := ⟨rfl, rfl, rfl, by decide +kernel, rfl, by decide +kernel, by decide +kernel⟩
/-! directions -/
def dDirs (r : Row) : D := .lst (r.map fun p => .int (p.2 : Nat))
def r__law_directions : RD := fun ds P => ∃ r : Row, (ds = [dRowL r] ∨ ds = [dRow r]) ∧ P = Is (dDirs r)
theorem w__law_directions (T : Tx K mg) : Cal P w K mg base 1 "_law_directions" r__law_directions :=
  calD T.d__law_directions sc81 (by rintro ds P ⟨r, rfl | rfl, _⟩ <;> rfl) fun cdv A outer s' H E hr c ds Pd hR => by
    have nd := sc81.nd
    obtain ⟨r, rfl | rfl, rfl⟩ := hR
    · exact pb_ret .refl (pv_n (lcP (xs := r) (emb := dIt) (f := fun p : It2 => .int (p.2 : Nat)) 1 2 [("_law_name", 1), ("_law_direction", 2)] (pix_lstv (pvv 0)) (fun _ _ => rfl) (fun _ _ _ _ _ x _ hx => pvv 2) nd)) fun _ h => h
    · exact pb_ret .refl (pv_n (lcP (xs := r) (emb := dIt) (f := fun p : It2 => .int (p.2 : Nat)) 1 2 [("_law_name", 1), ("_law_direction", 2)] (pix_tupv (pvv 0)) (fun _ _ => rfl) (fun _ _ _ _ _ x _ hx => pvv 2) nd)) fun _ h => h
/-! how many directions -/
def r__law_around : RD := fun ds P => ∃ s : Sc, ds = [dPl s] ∧ P = Is (.int (ar s.sq : Nat))
theorem w__law_around (T : Tx K mg) : Cal P w K mg base 1 "_law_around" r__law_around :=
  calD T.d__law_around sc65 (by rintro ds P ⟨s, rfl, _⟩; rfl) fun cdv A outer s' H E hr c ds Pd hR => by
    obtain ⟨s, rfl, rfl⟩ := hR
    refine pb_ret (P := Is (.int (ar s.sq : Nat))) .refl (px_if (T := fun b => b = decide (gname s.sq = "square")) (ptv_cmp op_eq (pv_dget (d := .txt (gname s.sq)) (ru hr) (pvv 0) .dct pv_str rfl) pv_str l_eqS) (fun h => ?_) fun h => ?_) fun _ h => h
    · have : s.sq = true := by
        have h := of_decide_eq_true h.symm
        revert h
        cases s.sq <;> decide +kernel
      rw [this]
      exact pv_int
    · have : s.sq = false := by
        have h := of_decide_eq_false h.symm
        revert h
        cases s.sq <;> decide +kernel
      rw [this]
      exact pv_int
/-! a row read -/
def r__law_row : RD := fun ds P => ∃ r : Row, ds = [.txt (S (rowC r))] ∧ r ≠ [] ∧ TxOk r ∧ r.length ≤ 1000 ∧ P = Is (dRow r)
theorem w__law_row (T : Tx K mg) : Cal P w K mg base 1 "_law_row" r__law_row :=
  calD T.d__law_row sc66 (by rintro ds P ⟨s, rfl, _⟩; rfl) fun cdv A outer s' H E hr c ds Pd hR => by
    have nd := sc66.nd
    obtain ⟨r, rfl, hne, hk, hl, rfl⟩ := hR
    refine pb_ret .refl (v_tupL T (pv_n (lcN (xs := r) (emb := fun p => .txt (S (itemC p))) (f := dIt) 1 [("_law_word", 1)] (pix_lstv (pv_n (PN.mono (pn_split (pvv 0) pv_str (by decide) ?_) fun l e => ?_))) (fun _ _ => rfl) (fun _ _ _ _ _ x _ hx => ?_) nd))) fun _ h => h
    · rw [SX.S_len]
      have := rowC_len r
      exact Nat.le_trans (show _ ≤ 5000 by omega) (by decide)
    · rw [e, show (" " : Str) = S [32] by decide +kernel, row_split hne hk, List.map_map]
      rfl
    · have hx' := hk x hx
      refine pv_tup (pvs_cons (pv_ix (X := _) ix_str (pvv 1) pv_int (l_ixS (n := x.1) rfl (by show 2 ≤ sizeLine; decide))) (pvs_cons (v_intS T (pv_sliceT (i := some ((1 : Nat) : Int)) (pvv 1) (by show 2 ≤ sizeLine; decide) (io_some pv_int) io_none) ?_ ?_) pvs_nil))
      · rw [cut_from]
        exact item_int hx'.2
      · rw [cut_from]
        show 1 ≤ 640
        decide
/-! a row written -/
def r__law_row_text : RD := fun ds P => ∃ r : Row, (ds = [dRowL r]) ∧ (∀ p ∈ r, p.2 < 10) ∧ r.length ≤ 1000 ∧ P = Is (.txt (S (rowC r)))
theorem w__law_row_text (T : Tx K mg) : Cal P w K mg base 1 "_law_row_text" r__law_row_text :=
  calD T.d__law_row_text sc67 (by rintro ds P ⟨s, rfl, _⟩; rfl) fun cdv A outer s' H E hr c ds Pd hR => by
    have nd := sc67.nd
    obtain ⟨r, rfl, hk, hl, rfl⟩ := hR
    refine pb_ret .refl (pv_eq (pv_join (ys := r.map fun p => S (itemC p)) pv_str (pv_eq (pv_n (lcP (xs := r) (emb := dIt) (f := fun p : It2 => .txt (S (itemC p))) 1 2 [("_law_letter", 1), ("_law_turn", 2)] (pix_lstv (pvv 0)) (fun _ _ => rfl) (fun _ _ _ _ _ x _ hx => pv_eq (pv_op op_add_str (pvv 1) (v_strI T (pvv 2) (log_small (hk x hx))) (l_cat ?_)) ?_) nd)) (by rw [List.map_map]; rfl)) ?_) ?_) fun _ h => h
    · rw [txt_num (hk x hx)]
      show 1 + 1 ≤ sizeLine
      decide
    · rw [txt_num (hk x hx), show lt x.1 = S [x.1] from rfl, SX.S_cat]
      rfl
    · rw [sum_two, List.length_map]
      show 2 * r.length + r.length * 1 ≤ 16777216
      omega
    · rw [show (" " : Str) = S [32] by decide +kernel, row_join]
/-! a scheme made -/
noncomputable def r__law_made (K : PySem.W.Frag) : RD := fun ds P => ∃ s : Sc, ds = [dPl s] ∧ Wf s ∧ P = Is (dSch K s.srt)
theorem w__law_made (T : Tx K mg) : Cal P w K mg base 12 "_law_made" (r__law_made K) :=
  calD T.d__law_made sc69 (by rintro ds P ⟨s, rfl, _⟩; rfl) fun cdv A outer s' H E hr c ds Pd hR => by
    obtain ⟨s, rfl, W, rfl⟩ := hR
    exact pb_ret (P := Is (dSch K s.srt)) .refl (px_mk (k_Scheme T) hr (by decide) rfl (pvs_cons (d := dGrid K s.sq) (px_mk (k_Grid T) hr (by decide) rfl (pvs_cons (pv_dget (d := .txt (gname s.sq)) (ru hr) (pvv 0) .dct pv_str rfl) pvs_nil) fun ds e => ⟨_, ⟨s.sq, e, rfl⟩, fun ss e => by rw [show ss = _ from e]; rfl⟩) (pvs_cons (pv_dget (d := dRow s.ax) (ru hr) (pvv 0) .dct pv_str rfl) (pvs_cons (pv_dget (d := dRls s.rs) (ru hr) (pvv 0) .dct pv_str rfl) pvs_nil))) fun ds e => ⟨_, ⟨s, e, W, rfl⟩, fun ss e => by rw [show ss = _ from e]; rfl⟩) fun _ h => h
end G81
set_option maxRecDepth 100000
set_option maxHeartbeats 2000000
/-! a dict of one's own that holds another one -/
namespace G81
open PySem PySem.Spec PyProof.Rows L2 SlX
open SX (S)
theorem kvz_append_get {z : Str} {v : V} : ∀ {ks : List Str} {xs : List V}, ks.length = xs.length → z ∉ ks → valV (kvz ks xs ++ [(Sum.inr z, v)]) (Sum.inr z) = some v
  | [], [], _, _ => by simp [kvz, valV]
  | [], _ :: _, h, _ => nomatch h
  | _ :: _, [], h, _ => nomatch h
  | k :: ks, x :: xs, h, n => by
    rw [kvz_cons, List.cons_append, valV_neg (fun e => n (by rw [← Sum.inr.inj e]; exact List.mem_cons_self))]
    exact kvz_append_get (by simpa using h) fun m => n (List.mem_cons_of_mem _ m)
theorem kvz_append_put {z kk : Str} {u v : V} {ks : List Str} {xs : List V} (h : ks.length = xs.length) (hz : z ∈ ks) (ne : kk ≠ z) : putK (kvz ks xs ++ [(Sum.inr kk, u)]) (Sum.inr z) v = kvz ks (List.zipWith (fun k x => if k = z then v else x) ks xs) ++ [(Sum.inr kk, u)] := by
  unfold putK
  rw [List.any_append, kvz_any h, decide_eq_true hz, Bool.true_or, if_pos rfl, List.map_append, kvz_map]
  congr 1
  have e1 : ¬ (Sum.inr kk : Key) = Sum.inr z := fun e => ne (Sum.inr.inj e)
  simp [e1]
/-- a new dict that holds a new, empty one under its last key -/
def SK2 (c : Fm) (ks : List Str) (ds : List D) (kk : Str) : SC := fun c' x => Fok c ∧ ∃ l m, l ∉ c.M ∧ m ∉ c.M ∧ l ≠ m ∧ c' = (c.add l).add m ∧ x = .ow2 l m ks ds kk [] []
section
variable {X : Cx} {c : Fm} {δ : List Cell} {e k1 k2 k3 v1 v2 k o : Expr} {pos pos3 tpos kp : Pos} {d1 d2 : D} {z1 z2 z3 : Str} {P : D → Prop} {rest : List Stmt} {w : Wi} {l m : Addr} {ks ks2 : List Str} {ds ds2 : List D} {kk : Str}
theorem cx_disp2 (h1 : ∀ p, PV X (c.add p) δ k1 (.txt z1)) (g1 : ∀ p, PV X (c.add p) δ v1 d1) (h2 : ∀ p, PV X (c.add p) δ k2 (.txt z2)) (g2 : ∀ p, PV X (c.add p) δ v2 d2) (h3 : ∀ p, PV X (c.add p) δ k3 (.txt z3)) (nd : [z1, z2, z3].Nodup := by decide +kernel) :
    CX X c δ (.Dict [some k1, some k2, some k3] [v1, v2, .Dict [] [] pos3] pos) (SK2 c [z1, z2] [d1, d2] z3) := by
  have ex : ∀ {e : Expr} {d : D}, (∀ p, PV X (c.add p) δ e d) → PE X e (tPv (kw X) c δ d) := fun h => pe_ex (C := fun _ : Addr => True) fun p _ => h p
  refine PE.mono (pe_disp (pps_cons (ex h1) (ex g1) (pps_cons (ex h2) (ex g2) (pps_cons (ex h3) pe_dnewK pps_nil))) rfl rfl (fun z => nomatch z) (Nat.le_of_ble_eq_true rfl)) fun σ H Q ⟨ev, w⟩ => fun p hp => ?_
  have ev1 : Ev (kw X) (c.add p) (upd H p (.dK [])) σ δ := ev.add hp
  refine ⟨p, trivial, ev1, fun x1 H1 y1 e1 r1 a1 => ⟨p, trivial, ev1.rl r1, fun x2 H2 y2 e2 r2 a2 => ⟨p, trivial, (ev1.rl r1).rl r2, fun x3 H3 y3 e3 r3 a3 => ⟨p, trivial, ((ev1.rl r1).rl r2).rl r3, fun x4 H4 y4 e4 r4 a4 => ⟨p, trivial, (((ev1.rl r1).rl r2).rl r3).rl r4, fun x5 H5 y5 e5 r5 a5 => fun q hq => ?_⟩⟩⟩⟩⟩
  cases (show y1 = _ from e1)
  cases (show x1 = _ from a1)
  cases (show y2 = _ from e2)
  cases (show y3 = _ from e3)
  cases (show x3 = _ from a3)
  cases (show y4 = _ from e4)
  cases (show y5 = _ from e5)
  cases (show x5 = _ from a5)
  have r12 : Rl c.E [] (upd H p (.dK [])) H5 := (((r1.trans0 r2).trans0 r3).trans0 r4).trans0 r5
  have r25 : Rl c.E [] H2 H5 := (r3.trans0 r4).trans0 r5
  have b5 := ev1.rl r12
  have hp5 : H5 p = some (.dK []) := by
    rcases r12 p _ upd_same with z | ⟨mm, _⟩ | ⟨mm, _⟩
    · exact z
    · obtain ⟨o, e⟩ := ev.bs.dom p (ev.bs.em p mm)
      rw [hp] at e
      cases e
    · cases mm
  have hqp : q ≠ p := fun e => by rw [e, hp5] at hq; cases hq
  have hp6 : (upd H5 q (.dK [])) p = some (.dK []) := by rw [upd_ne (Ne.symm hqp)]; exact hp5
  have r' : Rl c.E [] H H5 := (Rl.new hp).trans0 r12
  have hqM : q ∉ c.M := fun mm => by
    obtain ⟨o, e⟩ := ev.bs.dom q mm
    rcases r' q o e with z | ⟨_, _, o', z, _⟩ | ⟨y, _⟩
    · rw [hq] at z; cases z
    · rw [hq] at z; cases z
    · cases y
  have hqn : H q = none := r'.none hq
  have r6 : Rl c.E [] H (upd (upd H5 q (.dK [])) p (.dK (kvz [z1, z2] [x2, x4] ++ [(Sum.inr z3, .ref q)]))) := fun b o e => by
    rw [upd_ne (ne_of_none e hp), upd_ne (ne_of_none e hqn)]
    exact r' b o e
  refine ⟨hp6, [(Sum.inr z1, x2), (Sum.inr z2, x4), (Sum.inr z3, .ref q)], rfl, Nat.le_of_ble_eq_true rfl, ?_⟩
  have em : mergeK [] [((Sum.inr z1 : Key), x2), (Sum.inr z2, x4), (Sum.inr z3, .ref q)] = kvz [z1, z2] [x2, x4] ++ [(Sum.inr z3, .ref q)] := by
    have := merge_kvz (ks0 := []) (xs0 := []) (ks := [z1, z2, z3]) (xs := [x2, x4, .ref q]) rfl rfl nd
    exact this
  rw [em]
  have evp : Ev (kw X) (c.add p) (upd H5 q (.dK [])) σ δ := b5.rl (.new hq)
  have rp : Rl (c.add p).E (c.add p).O (upd H5 q (.dK [])) (upd (upd H5 q (.dK [])) p (.dK (kvz [z1, z2] [x2, x4] ++ [(Sum.inr z3, .ref q)]))) := rl_own List.mem_cons_self hp6 (ownK_dK (xs := []))
  have fkc : Fok c := ev.bs.toBw.fok
  have big : ∀ τ ε, Ev (kw X) c H τ ε → Ev (kw X) ((c.add p).add q) (upd (upd H5 q (.dK [])) p (.dK (kvz [z1, z2] [x2, x4] ++ [(Sum.inr z3, .ref q)]))) τ ε := fun τ ε e0 => by
    have e1 : Ev (kw X) (c.add p) H5 τ ε := (e0.add hp).rl r12
    have e2 : Ev (kw X) ((c.add p).add q) (upd H5 q (.dK [])) τ ε := e1.add hq
    refine e2.rlO (O := [p]) (fun a mm => by rw [List.mem_singleton.mp mm]; exact List.mem_cons_of_mem _ List.mem_cons_self) (fun i x hx a mm => ?_) (rl_own (List.mem_singleton.mpr rfl) hp6 (ownK_dK (xs := [])))
    rw [List.mem_singleton.mp mm]
    exact e0.fresh hp i x hx
  refine w (.ref p) _ ((c.add p).add q) (.ow2 p q [z1, z2] [d1, d2] z3 [] []) ⟨fkc, p, q, ev.bs.free hp, hqM, Ne.symm hqp, rfl, rfl⟩ r6 ⟨rfl, fun b mm => ?_⟩ big ⟨rfl, List.mem_cons_of_mem _ List.mem_cons_self, List.mem_cons_self, Ne.symm hqp, [x2, x4], [], upd_same, rfl, ?_, by rw [upd_ne hqp]; exact upd_same, rfl, rfl⟩
  · rcases List.mem_cons.mp mm with z | z
    · rw [z]; exact .inr hqn
    · rcases List.mem_cons.mp z with y | y
      · rw [y]; exact .inr hp
      · exact .inl y
  · have a2' : At (kw X) (c.add p) H5 d1 x2 := a2.rl ((ev1.rl r1).rl r2).bs.toBw (Rl.wide (O := (c.add p).O) r25)
    have a4' : At (kw X) (c.add p) H5 d2 x4 := a4.rl ((((ev1.rl r1).rl r2).rl r3).rl r4).bs.toBw (Rl.wide (O := (c.add p).O) r5)
    have al : Ats (kw X) (c.add p) H5 [d1, d2] [x2, x4] := Ats.cons a2' (Ats.one a4')
    have al2 : Ats (kw X) ((c.add p).add q) (upd H5 q (.dK [])) [d1, d2] [x2, x4] := (al.up (Up.add b5.bs hq)).rl (Up.add b5.bs hq).b (Rl.new hq)
    exact al2.rl (b5.add (o := .dK []) hq).bs.toBw (rl_own (List.mem_cons_of_mem _ List.mem_cons_self) hp6 (ownK_dK (xs := [])))
/-- x[k] = e, k a key ahead of the last -/
theorem pb_o2put {z s : Str} {zp : Pos} (i : Nat) (hu : X.A.units + 1 < cLine) (hd : δ[i]? = some (.ow2 l m ks ds kk ks2 ds2)) (he : PX X c δ e P) (hk : PV X c δ k (.txt s)) (off : offAll l (δ.set i .no)) (hz : ks.length < 1000) (hs2 : s ∈ ks) (ne : kk ≠ s)
    (q : ∀ d, P d → PB X c (δ.set i (.ow2 l m ks (List.zipWith (fun k e => if k = s then d else e) ks ds) kk ks2 ds2)) rest w)
    (hN : X.N[i]? = some z := by rfl) (hv : Vis X.env.scope z := by first | exact Or.inl rfl | exact Or.inr (Or.inl rfl) | exact Or.inr (Or.inr rfl)) (h1 : (z == ("__debug__" : Str)) = false := by decide) (h2 : (z == ("__classdict__" : Str)) = false := by decide)
    (hsw : swapsWith e (some (.Subscript (.Name z zp) k tpos)) pos.line X.env = pure false := by rfl) : PB X c δ (.Assign [.Subscript (.Name z zp) k tpos] e pos :: rest) w := by
  have key : PSs X rest (fun D σ H => ∃ d, P d ∧ tB (kw X) c (δ.set i (.ow2 l m ks (List.zipWith (fun k e => if k = s then d else e) ks ds) kk ks2 ds2)) w D σ H) := ⟨fun pins s σ H D I ⟨d, p, z⟩ => (q d p).run pins s σ H D I z⟩
  have hi := (List.getElem?_eq_some_iff.mp hd).1
  refine PSs.mono (pss_cons (ps_dput hu (pe_slot i hN hv h1 h2) hk he hsw) key) fun D σ H tb => ⟨tb.1, fun y H1 d p r a => ?_⟩
  obtain ⟨v, e0, e1, m1, m2, nlm, xs, ys, q1, y1, z1, q2, y2, z2⟩ := tb.1.at_ i _ hd
  subst e1
  refine ⟨.ref l, e0, tb.1.rl r, fun yy H2 dd pp r2 a2 => ?_⟩
  cases (show dd = _ from pp)
  cases (show yy = _ from a2)
  have r12 := r.trans0 r2
  have ev2 := tb.1.rl r12
  have hl2 := own_keep tb.1.oe m1 r12 q1
  have hm2 := own_keep tb.1.oe m2 r12 q2
  have zz1 := z1.rl tb.1.bs.toBw (Rl.wide (O := c.O) r12)
  have zz2 := z2.rl tb.1.bs.toBw (Rl.wide (O := c.O) r12)
  have aa := a.rl (tb.1.rl r).bs.toBw (Rl.wide (O := c.O) r2)
  refine ⟨l, _, rfl, DPut.k (k := Sum.inr s) hl2 (by rw [List.length_append, kvz_len y1]; exact Nat.lt_of_lt_of_le (show _ < 1002 by simp only [List.length_cons, List.length_nil]; omega) (by decide)), d, p, ?_⟩
  rw [kvz_append_put y1 hs2 ne]
  refine tB_own tb (r12.wide.trans tb.1.oe (rl_own m1 hl2 ownK_dK)) (ev_put ev2 m1 hl2 ownK_dK hi off fun v hv => ?_)
  rw [e0] at hv
  cases hv
  have ro : Rl c.E c.O H2 (upd H2 l (.dK (kvz ks (List.zipWith (fun k x => if k = s then y else x) ks xs) ++ [(Sum.inr kk, .ref m)]))) := rl_own m1 hl2 ownK_dK
  exact ⟨rfl, m1, m2, nlm, _, ys, upd_same, by rw [List.length_zipWith]; omega, (ats_zip aa zz1).rl ev2.bs.toBw ro, by rw [upd_ne (Ne.symm nlm)]; exact hm2, y2, zz2.rl ev2.bs.toBw ro⟩
/-- x[kk][k] = e, kk the last key -/
theorem pb_o2in {z s : Str} {zp kkp : Pos} {tk : Tok} {spos : Pos} (i : Nat) (hu : X.A.units + 1 < cLine) (hd : δ[i]? = some (.ow2 l m ks ds kk ks2 ds2)) (he : PX X c δ e P) (hk : PV X c δ k (.txt s)) (off : offAll m (δ.set i .no)) (hz : ks2.length < 1000) (nin : kk ∉ ks)
    (q : ∀ d, P d → PB X c (δ.set i (.ow2 l m ks ds kk (putD ks2 ds2 s d).1 (putD ks2 ds2 s d).2)) rest w)
    (hN : X.N[i]? = some z := by rfl) (hv : Vis X.env.scope z := by first | exact Or.inl rfl | exact Or.inr (Or.inl rfl) | exact Or.inr (Or.inr rfl)) (h1 : (z == ("__debug__" : Str)) = false := by decide) (h2 : (z == ("__classdict__" : Str)) = false := by decide)
    (hns : NoSl (.Constant (.str kk) tk kkp) := by exact fun _ _ => rfl)
    (hsw : swapsWith e (some (.Subscript (.Subscript (.Name z zp) (.Constant (.str kk) tk kkp) spos) k tpos)) pos.line X.env = pure false := by rfl) : PB X c δ (.Assign [.Subscript (.Subscript (.Name z zp) (.Constant (.str kk) tk kkp) spos) k tpos] e pos :: rest) w := by
  have key : PSs X rest (fun D σ H => ∃ d, P d ∧ tB (kw X) c (δ.set i (.ow2 l m ks ds kk (putD ks2 ds2 s d).1 (putD ks2 ds2 s d).2)) w D σ H) := ⟨fun pins s σ H D I ⟨d, p, z⟩ => (q d p).run pins s σ H D I z⟩
  have hi := (List.getElem?_eq_some_iff.mp hd).1
  refine PSs.mono (pss_cons (ps_dput hu (pe_dget hu (pe_slot i hN hv h1 h2) pe_str hns) hk he hsw) key) fun D σ H tb => ⟨tb.1, fun y H1 d p r a => ?_⟩
  obtain ⟨v, e0, e1, m1, m2, nlm, xs, ys, q1, y1, z1, q2, y2, z2⟩ := tb.1.at_ i _ hd
  subst e1
  have hl1 := own_keep tb.1.oe m1 r q1
  refine ⟨.ref l, e0, l, .ref m, rfl, .inl ⟨_, .inr kk, .inl hl1, rfl, (kvz_append_get y1 nin).symm⟩, tb.1.rl r, fun yy H2 dd pp r2 a2 => ?_⟩
  cases (show dd = _ from pp)
  cases (show yy = _ from a2)
  have r12 := r.trans0 r2
  have ev2 := tb.1.rl r12
  have hl2 := own_keep tb.1.oe m1 r12 q1
  have hm2 := own_keep tb.1.oe m2 r12 q2
  have zz1 := z1.rl tb.1.bs.toBw (Rl.wide (O := c.O) r12)
  have zz2 := z2.rl tb.1.bs.toBw (Rl.wide (O := c.O) r12)
  have aa := a.rl (tb.1.rl r).bs.toBw (Rl.wide (O := c.O) r2)
  obtain ⟨xs', e3, e4, e5⟩ := put_kvz (z := s) y2 zz2 aa
  refine ⟨m, _, rfl, DPut.k (k := Sum.inr s) hm2 (by rw [kvz_len y2]; exact Nat.lt_of_lt_of_le hz (by decide)), d, p, ?_⟩
  rw [e3]
  refine tB_own tb (r12.wide.trans tb.1.oe (rl_own m2 hm2 ownK_dK)) (ev_put ev2 m2 hm2 ownK_dK hi off fun v hv => ?_)
  rw [e0] at hv
  cases hv
  have ro : Rl c.E c.O H2 (upd H2 m (.dK (kvz (putD ks2 ds2 s d).1 xs'))) := rl_own m2 hm2 ownK_dK
  exact ⟨rfl, m1, m2, nlm, xs, xs', by rw [upd_ne nlm]; exact hl2, y1, zz1.rl ev2.bs.toBw ro, upd_same, e4, e5.rl ev2.bs.toBw ro⟩
/-- the inner one is known for good -/
theorem pb_lockIn {sts : List Stmt} (i : Nat) (fk : Fok c) (hm : m ∉ c.M) (hd : δ[i]? = some (.ow2 l m ks ds kk ks2 ds2)) (off : offAll m (δ.set i .no)) (q : PB X c (δ.set i (.owk l (ks ++ [kk]) (ds ++ [.dct ks2 ds2]))) sts w) : PB X (c.add m) δ sts w := by
  refine PSs.mono (pss_freeze (fun σ H a => a = m ∧ ∃ kvs, H a = some (.dK kvs)) q) fun D σ H ⟨z, n, rt, bk⟩ => ?_
  have hi := (List.getElem?_eq_some_iff.mp hd).1
  obtain ⟨v', hv', e1, m1, m2, nlm, xs, ys, q1, y1, z1, q2, y2, z2⟩ := z.at_ i _ hd
  refine ⟨m, _, ⟨rfl, _, q2⟩, q2, fun o es ep hdt => ?_⟩
  have r0 : Rl (c.add m).E [m] H (upd H m (.frz o (.dK (kvz ks2 ys)))) := fun b u e => by
    by_cases hb : b = m
    · subst hb
      rw [q2] at e
      cases e
      exact .inr (.inr ⟨List.mem_singleton.mpr rfl, ownK_dK, _, upd_same⟩)
    · exact .inl (by rw [upd_ne hb]; exact e)
  have r0' : Rl (c.add m).E (c.add m).O H (upd H m (.frz o (.dK (kvz ks2 ys)))) := fun b u e => by
    rcases r0 b u e with z | z | ⟨mm, z⟩
    · exact .inl z
    · exact .inr (.inl z)
    · exact .inr (.inr ⟨by rw [List.mem_singleton.mp mm]; exact List.mem_cons_self, z⟩)
  have up : ∀ {H'}, Rl c.E c.O (upd H m (.frz o (.dK (kvz ks2 ys)))) H' → Rl (c.add m).E (c.add m).O H H' := fun {H'} r => by
    refine Rl.trans z.oe r0' fun b o e => ?_
    rcases r b o e with z | z | ⟨mm, z⟩
    · exact .inl z
    · exact .inr (.inl z)
    · exact .inr (.inr ⟨List.mem_cons_of_mem _ mm, z⟩)
  have z0 : Ev (kw X) (c.add m) H σ (δ.set i .no) := ⟨z.bs, fun j x hx => by
    by_cases hj : j = i
    · subst hj
      rw [List.getElem?_set_self hi] at hx
      cases hx
      exact ⟨v', hv', trivial⟩
    · rw [List.getElem?_set_ne (Ne.symm hj)] at hx
      exact z.at_ j x hx⟩
  have zz1 : Ev (kw X) (c.add m) (upd H m (.frz o (.dK (kvz ks2 ys)))) σ (δ.set i .no) := z0.rlO (O := [m]) (fun a mm => by rw [List.mem_singleton.mp mm]; exact List.mem_cons_self) (fun j x hj a mm => by rw [List.mem_singleton.mp mm]; exact off.at j x hj) r0
  have m1' : l ∈ c.O := by
    rcases List.mem_cons.mp m1 with e | e
    · exact absurd e nlm
    · exact e
  have fin := ev_drop (i := i) (y := .owk l (ks ++ [kk]) (ds ++ [.dct ks2 ds2])) fk zz1 (by rw [List.set_set]; exact off) (by rw [List.length_set]; exact hi) (fun v hv => by
    rw [hv] at hv'
    cases hv'
    refine ⟨e1, m1', xs ++ [.ref m], by rw [upd_ne nlm, ← kvz_snoc y1]; exact q1, by simp [y1], ((z1.rl z.bs.toBw r0').unadd).append (Ats.one ⟨m, o, es, ep, ys, rfl, upd_same, hdt, y2, (z2.rl z.bs.toBw r0').unadd⟩)⟩)
  rw [List.set_set] at fin
  exact ⟨fin, fun σ' H' δ' hn r e => n σ' H' δ' hn (up r) e, fun v H' d hr r a => rt v H' d hr (up r) a, fun σ' H' δ' hn r e => bk σ' H' δ' hn (up r) e⟩
end
end G81
set_option maxRecDepth 100000
set_option maxHeartbeats 4000000
/-! the plain scheme of some lines -/
namespace G81
open PySem PySem.Spec PyProof.Rows L2 SlX
open SX (S)
variable {P : Program} {w : World} {K : PySem.W.Frag} {mg : Str → Option Value} {base : Heap}
/-- lines that can be read -/
structure Rdb (s : Sc) : Prop where
  nd : s.keys.Nodup
  ax : s.ax ≠ [] ∧ TxOk s.ax ∧ s.ax.length ≤ 1000
  rs : ∀ p ∈ s.rs, (97 ≤ p.1 ∧ p.1 ≤ 122) ∧ p.2 ≠ [] ∧ TxOk p.2 ∧ p.2.length ≤ 1000
  few : s.rs.length ≤ 100
theorem Wf.txok {s : Sc} (W : Wf s) : Rdb s where
  nd := W.nd
  ax := ⟨(fun e => by have := W.ax.1; rw [e] at this; cases this), fun p hp => ⟨W.key_lt (W.ax.2.2 p hp).1, by have := (W.ax.2.2 p hp).2; have := ar_le s.sq; omega⟩, by have := W.ax.2.1; omega⟩
  rs := fun q hq => ⟨W.let_ q hq, (fun e => by have := (W.rows q hq).1; rw [e] at this; cases this), fun p hp => ⟨W.key_lt ((W.rows q hq).2.2 p hp).1, by have := ((W.rows q hq).2.2 p hp).2; have := ar_le s.sq; omega⟩, by have := (W.rows q hq).2.1; omega⟩
  few := by have := W.len.2; omega
theorem put_add {ks : List Str} {l : List D} {x : Str} {y : D} (h : x ∉ ks) : putD ks l x y = (ks ++ [x], l ++ [y]) := by unfold putD; rw [if_neg h]
def dLines (s : Sc) : List D := (linesOf s.sq s.ax s.rs).map D.txt
theorem sc68 : FnScope ["_law_lines", "_law_found", "_law_text", "_law_words"] ["_law_lines"] (defScope (topS 68)) := ⟨rfl, rfl, rfl, by decide +kernel, rfl, by decide +kernel, by decide +kernel⟩
def r__law_plain : RD := fun ds P => ∃ s : Sc, ds = [.lst (dLines s)] ∧ Rdb s ∧ P = Is (dPl s)
theorem w__law_plain (T : Tx K mg) : Cal P w K mg base 2 "_law_plain" r__law_plain :=
  calD T.d__law_plain sc68 (by rintro ds P ⟨n, rfl, _⟩; rfl) fun cdv A outer s' H E hr c ds Pd hR => by
    have nd := sc68.nd
    obtain ⟨s, rfl, R, rfl⟩ := hR
    refine pb_setC 1 (cx_disp2 (z1 := "grid") (z2 := "axiom") (z3 := "rules") (d1 := .txt "square") (d2 := .tup []) (fun _ => pv_str) (fun _ => pv_str) (fun _ => pv_str) (fun _ => pv_tup pvs_nil) (fun _ => pv_str)) (fun c' y sy => ?_) nd
    obtain ⟨fk, l, m, hl, hm, nlm, rfl, rfl⟩ := sy
    have fk2 : Fok (c.add l) := fok_add fk hl
    have hm2 : m ∉ (c.add l).M := fun h => by
      rcases List.mem_cons.mp h with z | z
      · exact nlm z.symm
      · exact hm z
    have offL : ∀ {x y : Cell} {ks2 : List Str} {ds ds2 : List D}, x.adr = [] → y.adr = [] → offAll l (([.d (.lst (dLines s)), .ow2 l m ["grid", "axiom"] ds "rules" ks2 ds2, x, y] : List Cell).set 1 .no) := fun hx hy => by
      simp only [offAll, hx, hy, List.set_cons_zero, List.set_cons_succ]
      simp [Cell.adr]
    have offM : ∀ {x y : Cell} {ks2 : List Str} {ds ds2 : List D}, x.adr = [] → y.adr = [] → offAll m (([.d (.lst (dLines s)), .ow2 l m ["grid", "axiom"] ds "rules" ks2 ds2, x, y] : List Cell).set 1 .no) := fun hx hy => by
      simp only [offAll, hx, hy, List.set_cons_zero, List.set_cons_succ]
      simp [Cell.adr]
    refine pb_for (t := .nm 2) (emb := D.txt) (xs := linesOf s.sq s.ax s.rs) (fun i δ' => ∃ x y : Cell, x.adr = [] ∧ y.adr = [] ∧ δ' = [.d (.lst (dLines s)), .ow2 l m ["grid", "axiom"] [.txt (if i = 0 then "square" else gname s.sq), if i < 2 then .tup [] else dRow s.ax] "rules" ((s.rs.take (i - 2)).map fun p => lt p.1) ((s.rs.take (i - 2)).map fun p => dRow p.2), x, y]) PassesOwn.never rfl (pix_lstv (pvv 0)) (pgx_nm nd rfl (.inl rfl)) ⟨.no, .no, rfl, rfl, rfl⟩ ?_ ?_
    · rintro i z δ' hz ⟨x, y, hx, hy, rfl⟩
      refine ⟨_, rfl, ?_⟩
      have lrow : ∀ r : Row, r.length ≤ 1000 → (rowC r).length ≤ 3000 := fun r h => Nat.le_trans (rowC_len r) (by omega)
      match i, hz with
      | 0, hz =>
        obtain rfl : lineG s.sq = z := by simpa [linesOf] using hz
        refine pb_set 3 (P := Is (.lst ([S (codes "grid"), gname s.sq].map D.txt))) nd rfl (.inl rfl) (px_n (pn_split (pvv 2) pv_str (by decide) (by cases s.sq <;> decide +kernel)) fun l e => by rw [e, show (" " : Str) = S [32] by decide +kernel, split_G]; rfl) fun d hd => ?_
        cases (show d = _ from hd)
        refine pb_if (B := (· = true)) (M := _) (ptx_eq (ptv_cmp op_eq (pv_ix ix_list (pvv 3) pv_int (l_ixL (atI_nat (i := 0) rfl))) pv_str l_eqS) (by decide +kernel)) (fun _ => ?_) (fun h => by cases h) (.inl rfl) fun δ' h => pb_end h
        refine pb_o2put 1 (ru hr) rfl (pv_ix ix_list (pvv 3) pv_int (l_ixL (d := .txt (gname s.sq)) (atI_nat (i := 1) rfl))) pv_str (offL rfl rfl) (by decide) (by decide +kernel) (by decide +kernel) fun d hd => ?_
        cases (show d = _ from hd)
        exact pb_end ⟨_, _, rfl, rfl, rfl⟩
      | 1, hz =>
        obtain rfl : lineA s.ax = z := by simpa [linesOf] using hz
        obtain ⟨mm, hmm⟩ := split_A s.ax
        refine pb_set 3 (P := Is (.lst ((S (codes "axiom") :: mm).map D.txt))) nd rfl (.inl rfl) (px_n (pn_split (pvv 2) pv_str (by decide) ?_) fun l e => by rw [e, show (" " : Str) = S [32] by decide +kernel, hmm]; rfl) fun d hd => ?_
        · show (S (codes "axiom " ++ rowC s.ax)).length + 2 ≤ _
          rw [SX.S_len, List.length_append]
          have := lrow _ R.ax.2.2
          exact Nat.le_trans (show 6 + (rowC s.ax).length + 2 ≤ 5000 by omega) (by decide)
        cases (show d = _ from hd)
        refine pb_if (B := (· = false)) (M := _) (ptx_eq (ptv_cmp op_eq (pv_ix ix_list (pvv 3) pv_int (l_ixL (atI_nat (i := 0) rfl))) pv_str l_eqS) (by decide +kernel)) (fun h => by cases h) (fun _ => ?_) (.inl rfl) fun δ' h => pb_end h
        refine pb_if (B := (· = true)) (M := _) (ptx_eq (ptv_cmp op_eq (pv_ix ix_list (pvv 3) pv_int (l_ixL (atI_nat (i := 0) rfl))) pv_str l_eqS) (by decide +kernel)) (fun _ => ?_) (fun h => by cases h) (.inl rfl) fun δ' h => pb_end h
        refine pb_o2put (P := Is (dRow s.ax)) 1 (ru hr) rfl (pv_call (w__law_row T) hr (by decide) rfl (pvs_cons (pv_eq (pv_sliceT (i := some ((6 : Nat) : Int)) (pvv 2) ?_ (io_some pv_int) io_none) (by rw [cut_A])) pvs_nil) ⟨s.ax, rfl, R.ax.1, R.ax.2.1, R.ax.2.2, rfl⟩) pv_str (offL rfl rfl) (by decide) (by decide +kernel) (by decide +kernel) fun d hd => ?_
        · show (S (codes "axiom " ++ rowC s.ax)).length ≤ _
          rw [SX.S_len, List.length_append]
          have := lrow _ R.ax.2.2
          exact Nat.le_trans (show 6 + (rowC s.ax).length ≤ 5000 by omega) (by decide)
        cases (show d = _ from hd)
        exact pb_end ⟨_, _, rfl, rfl, rfl⟩
      | j + 2, hz =>
        obtain ⟨p, hp, rfl⟩ : ∃ p, s.rs[j]? = some p ∧ lineR p = z := by
          have hz : (s.rs.map lineR)[j]? = some z := by simpa [linesOf] using hz
          rw [List.getElem?_map] at hz
          cases q : s.rs[j]? with
          | none => rw [q] at hz; cases hz
          | some p => rw [q] at hz; exact ⟨p, rfl, Option.some.inj hz⟩
        have hin : p ∈ s.rs := List.mem_of_getElem? hp
        obtain ⟨hp1, hp2, hp3, hp4⟩ := R.rs p hin
        obtain ⟨mm, hmm⟩ := split_R p hp1.1
        have lenR : (lineR p).length ≤ 5000 := by
          show (S (codes "rule " ++ (p.1 :: 32 :: rowC p.2))).length ≤ _
          rw [SX.S_len, List.length_append]
          have := lrow _ hp4
          show 5 + ((rowC p.2).length + 1 + 1) ≤ 5000
          omega
        refine pb_set 3 (P := Is (.lst ((S (codes "rule") :: lt p.1 :: mm).map D.txt))) nd rfl (.inl rfl) (px_n (pn_split (pvv 2) pv_str (by decide) (Nat.le_trans (Nat.add_le_add_right lenR 2) (by decide))) fun l e => by rw [e, show (" " : Str) = S [32] by decide +kernel, hmm]; rfl) fun d hd => ?_
        cases (show d = _ from hd)
        refine pb_if (B := (· = false)) (M := _) (ptx_eq (ptv_cmp op_eq (pv_ix ix_list (pvv 3) pv_int (l_ixL (atI_nat (i := 0) rfl))) pv_str l_eqS) (by decide +kernel)) (fun h => by cases h) (fun _ => ?_) (.inl rfl) fun δ' h => pb_end h
        refine pb_if (B := (· = false)) (M := _) (ptx_eq (ptv_cmp op_eq (pv_ix ix_list (pvv 3) pv_int (l_ixL (atI_nat (i := 0) rfl))) pv_str l_eqS) (by decide +kernel)) (fun h => by cases h) (fun _ => ?_) (.inl rfl) fun δ' h => pb_end h
        have tk : s.rs.take (j + 1) = s.rs.take j ++ [p] := by rw [List.take_succ, hp]; rfl
        have nin : lt p.1 ∉ (s.rs.take j).map fun p => lt p.1 := fun h => by
          obtain ⟨q, hq, e⟩ := List.mem_map.mp h
          have e := lt_inj e
          have := R.nd
          unfold Sc.keys at this
          rw [← List.take_append_drop (j + 1) s.rs, tk, List.map_append, List.map_append] at this
          exact (List.nodup_append.mp (List.nodup_append.mp this).1).2.2 q.1 (List.mem_map.mpr ⟨q, hq, rfl⟩) p.1 (by simp) e
        refine pb_o2in (P := Is (dRow p.2)) 1 (ru hr) rfl (pv_call (w__law_row T) hr (by decide) rfl (pvs_cons (pv_eq (pv_sliceT (i := some ((7 : Nat) : Int)) (pvv 2) (Nat.le_trans lenR (by decide)) (io_some pv_int) io_none) (by rw [cut_R])) pvs_nil) ⟨p.2, rfl, hp2, hp3, hp4, rfl⟩) (pv_ix ix_list (pvv 3) pv_int (l_ixL (d := .txt (lt p.1)) (atI_nat (i := 1) rfl))) (offM rfl rfl) ?_ (by decide +kernel) fun d hd => ?_
        · have : (s.rs.take (j + 2 - 2)).length ≤ s.rs.length := by rw [List.length_take]; omega
          have := R.few
          rw [List.length_map]
          omega
        cases (show d = _ from hd)
        rw [show j + 2 - 2 = j from rfl, put_add nin]
        refine pb_end ⟨.d (.txt (lineR p)), .d (.lst ((S (codes "rule") :: lt p.1 :: mm).map D.txt)), rfl, rfl, ?_⟩
        rw [show j + 2 + 1 - 2 = j + 1 from rfl, tk, List.map_append, List.map_append]
        rfl
    · rintro δ' ⟨x, y, hx, hy, rfl⟩
      have e0 : (linesOf s.sq s.ax s.rs).length = s.rs.length + 2 := by simp [linesOf]
      rw [e0]
      refine pb_lockIn 1 fk2 hm2 rfl (offM hx hy) (pb_lock 1 fk hl rfl (by simp only [offAll, hx, hy, List.set_cons_zero, List.set_cons_succ]; simp [Cell.adr]) ?_)
      refine pb_ret (P := Is (dPl s)) .refl (pv_eq (pvv 1) ?_) fun _ h => h
      rw [if_neg (by omega), if_neg (by omega), show s.rs.length + 2 - 2 = s.rs.length from rfl, List.take_length]
      rfl
end G81
set_option maxRecDepth 100000
set_option maxHeartbeats 2000000
/-! letters with the same sequel, plainly -/
namespace G81
open PySem PySem.Spec PyProof.Rows L2 SlX
/-- two rows with like letters and equal turns -/
def ptw (R : Nat → Nat → Prop) : Row → Row → Prop
  | [], [] => True
  | p :: l, q :: m => p.2 = q.2 ∧ R p.1 q.1 ∧ ptw R l m
  | _, _ => False
theorem ptw_refl {R : Nat → Nat → Prop} (h : ∀ a, R a a) : ∀ l, ptw R l l
  | [] => trivial
  | _ :: l => ⟨rfl, h _, ptw_refl h l⟩
theorem ptw_symm {R : Nat → Nat → Prop} (h : ∀ a b, R a b → R b a) : ∀ {l m}, ptw R l m → ptw R m l
  | [], [], _ => trivial
  | _ :: _, _ :: _, ⟨a, b, c⟩ => ⟨a.symm, h _ _ b, ptw_symm h c⟩
  | [], _ :: _, h => h.elim
  | _ :: _, [], h => h.elim
theorem ptw_trans {R : Nat → Nat → Prop} (h : ∀ a b c, R a b → R b c → R a c) : ∀ {l m n}, ptw R l m → ptw R m n → ptw R l n
  | [], [], [], _, _ => trivial
  | _ :: _, _ :: _, _ :: _, ⟨a, b, c⟩, ⟨a', b', c'⟩ => ⟨a.trans a', h _ _ _ b b', ptw_trans h c c'⟩
  | [], _ :: _, _, h, _ => h.elim
  | _ :: _, [], _, h, _ => h.elim
  | [], [], _ :: _, _, h => h.elim
  | _ :: _, _ :: _, [], _, h => h.elim
theorem ptw_imp {R R' : Nat → Nat → Prop} : ∀ {l m : Row}, (∀ p ∈ l, ∀ q ∈ m, R p.1 q.1 → R' p.1 q.1) → ptw R l m → ptw R' l m
  | [], [], _, _ => trivial
  | _ :: _, _ :: _, h, ⟨a, b, c⟩ => ⟨a, h _ List.mem_cons_self _ List.mem_cons_self b, ptw_imp (fun p hp q hq => h p (List.mem_cons_of_mem _ hp) q (List.mem_cons_of_mem _ hq)) c⟩
  | [], _ :: _, _, h => h.elim
  | _ :: _, [], _, h => h.elim
theorem ptw_len {R : Nat → Nat → Prop} : ∀ {l m : Row}, ptw R l m → l.length = m.length
  | [], [], _ => rfl
  | _ :: _, _ :: _, ⟨_, _, c⟩ => congrArg (· + 1) (ptw_len c)
  | [], _ :: _, h => h.elim
  | _ :: _, [], h => h.elim
theorem ptw_map {R : Nat → Nat → Prop} {f g : Nat → Nat} : ∀ {l m : Row}, ptw R (callR f l) (callR g m) ↔ ptw (fun a b => R (f a) (g b)) l m
  | [], [] => Iff.rfl
  | p :: l, q :: m => and_congr Iff.rfl (and_congr Iff.rfl (ptw_map (l := l) (m := m)))
  | [], _ :: _ => Iff.rfl
  | _ :: _, [] => Iff.rfl
theorem ptw_eq {f g : Nat → Nat} : ∀ {l m : Row}, ptw (fun a b => f a = g b) l m ↔ callR f l = callR g m
  | [], [] => ⟨fun _ => rfl, fun _ => trivial⟩
  | p :: l, q :: m => by
    show (p.2 = q.2 ∧ f p.1 = g q.1 ∧ ptw _ l m) ↔ (f p.1, p.2) :: callR f l = (g q.1, q.2) :: callR g m
    rw [List.cons.injEq, Prod.mk.injEq, ptw_eq (l := l) (m := m)]
    exact ⟨fun ⟨a, b, c⟩ => ⟨⟨b, a⟩, c⟩, fun ⟨⟨b, a⟩, c⟩ => ⟨a, b, c⟩⟩
  | [], _ :: _ => ⟨fun h => h.elim, fun h => nomatch h⟩
  | _ :: _, [] => ⟨fun h => h.elim, fun h => nomatch h⟩
/-- .. as the program tells it: the turns, and the marks of the letters -/
theorem told_eq {f : Nat → Nat} {l m : Row} : (l.map (·.2) = m.map (·.2) ∧ l.map (fun p => f p.1) = m.map (fun p => f p.1)) ↔ callR f l = callR f m := by
  unfold callR
  constructor
  · rintro ⟨h1, h2⟩
    induction l generalizing m with
    | nil => cases m with
      | nil => rfl
      | cons q m => cases h1
    | cons p l ih => cases m with
      | nil => cases h1
      | cons q m =>
        simp only [List.map_cons, List.cons.injEq] at h1 h2 ⊢
        exact ⟨Prod.ext h2.1 h1.1, ih h1.2 h2.2⟩
  · intro h
    have h1 := congrArg (List.map (·.2)) h
    have h2 := congrArg (List.map (·.1)) h
    rw [List.map_map, List.map_map] at h1 h2
    exact ⟨h1, h2⟩
/-- letters whose sequels are alike up to an order -/
def Eqn (s : Sc) : Nat → Nat → Nat → Prop
  | 0, _, _ => True
  | n + 1, a, b => Eqn s n a b ∧ ptw (Eqn s n) (rowOf s.rs a) (rowOf s.rs b)
theorem Eqn.refl (s : Sc) : ∀ n a, Eqn s n a a
  | 0, _ => trivial
  | n + 1, a => ⟨Eqn.refl s n a, ptw_refl (Eqn.refl s n) _⟩
theorem Eqn.symm {s : Sc} : ∀ {n a b}, Eqn s n a b → Eqn s n b a
  | 0, _, _, _ => trivial
  | n + 1, _, _, ⟨h, q⟩ => ⟨Eqn.symm h, ptw_symm (fun _ _ => Eqn.symm) q⟩
theorem Eqn.trans {s : Sc} : ∀ {n a b c}, Eqn s n a b → Eqn s n b c → Eqn s n a c
  | 0, _, _, _, _, _ => trivial
  | n + 1, _, _, _, ⟨h, q⟩, ⟨h', q'⟩ => ⟨Eqn.trans h h', ptw_trans (R := Eqn s n) (fun _ _ _ z z' => Eqn.trans z z') q q'⟩
theorem Eqn.down {s : Sc} {n k a b : Nat} (h : Eqn s (n + k) a b) : Eqn s n a b := by
  induction k with
  | zero => exact h
  | succ k ih => exact ih h.1
theorem Eqn.mono {s : Sc} {n m a b : Nat} (h : Eqn s m a b) (le : n ≤ m) : Eqn s n a b := by
  obtain ⟨k, rfl⟩ := Nat.le.dest le
  exact h.down
def Alk (s : Sc) (a b : Nat) : Prop := ∀ n, Eqn s n a b
theorem Alk.refl (s : Sc) (a : Nat) : Alk s a a := fun n => Eqn.refl s n a
theorem Alk.symm {s : Sc} {a b : Nat} (h : Alk s a b) : Alk s b a := fun n => (h n).symm
theorem Alk.trans {s : Sc} {a b c : Nat} (h : Alk s a b) (q : Alk s b c) : Alk s a c := fun n => (h n).trans (q n)
theorem ptw_all {R : Nat → Nat → Nat → Prop} (hm : ∀ n a b, R (n + 1) a b → R n a b) : ∀ {l m : Row}, (∀ n, ptw (R n) l m) → ptw (fun a b => ∀ n, R n a b) l m
  | [], [], _ => trivial
  | _ :: _, _ :: _, h => ⟨(h 0).1, fun n => (h n).2.1, ptw_all hm fun n => (h n).2.2⟩
  | [], _ :: _, h => (h 0).elim
  | _ :: _, [], h => (h 0).elim
/-- alike letters have alike rows -/
theorem Alk.rows {s : Sc} {a b : Nat} (h : Alk s a b) : ptw (Alk s) (rowOf s.rs a) (rowOf s.rs b) := ptw_all (R := Eqn s) (fun n a b q => Eqn.down (s := s) (n := n) (k := 1) q) fun n => (h (n + 1)).2
/-- nothing new at n: nothing new later on -/
def Stab (s : Sc) (n : Nat) : Prop := ∀ a ∈ s.keys, ∀ b ∈ s.keys, Eqn s n a b → Eqn s (n + 1) a b
theorem row_keys {s : Sc} (W : Wf s) {a : Nat} (h : a ∈ s.keys) {p : It2} (hp : p ∈ rowOf s.rs a) : p.1 ∈ s.keys := ((W.rows _ (rowOf_in h)).2.2 p hp).1
theorem Stab.up {s : Sc} (W : Wf s) {n : Nat} (h : Stab s n) : Stab s (n + 1) := fun a ha b hb ⟨e, q⟩ => ⟨⟨e, q⟩, ptw_imp (fun p hp r hr z => h _ (row_keys W ha hp) _ (row_keys W hb hr) z) q⟩
theorem Stab.all {s : Sc} (W : Wf s) {n a b : Nat} (h : Stab s n) (ha : a ∈ s.keys) (hb : b ∈ s.keys) (e : Eqn s n a b) : Alk s a b := by
  have st : ∀ k, Stab s (n + k) := fun k => by
    induction k with
    | zero => exact h
    | succ k ih => exact ih.up W
  have key : ∀ k, Eqn s (n + k) a b := fun k => by
    induction k with
    | zero => exact e
    | succ k ih => exact st k a ha b hb ih
  intro m
  exact (key m).mono (Nat.le_add_left _ _)
/-! the letter that stands for all alike ones -/
open Classical in
noncomputable def Sc.rep (s : Sc) (a : Nat) : Nat := (s.keys.find? fun o => decide (Alk s o a)).getD a
theorem rep_find {s : Sc} {a : Nat} (h : a ∈ s.keys) : s.rep a ∈ s.keys ∧ Alk s (s.rep a) a := by
  unfold Sc.rep
  cases e : s.keys.find? fun o => @decide (Alk s o a) (Classical.propDecidable _) with
  | none => exact absurd (List.find?_eq_none.mp e a h) (by simp [Alk.refl])
  | some o =>
    have := List.find?_some e
    exact ⟨List.mem_of_find?_eq_some e, by simpa using this⟩
theorem rep_mem {s : Sc} {a : Nat} (h : a ∈ s.keys) : s.rep a ∈ s.keys := (rep_find h).1
theorem rep_alk {s : Sc} {a : Nat} (h : a ∈ s.keys) : Alk s (s.rep a) a := (rep_find h).2
theorem rep_eq {s : Sc} {a b : Nat} (ha : a ∈ s.keys) (hb : b ∈ s.keys) : s.rep a = s.rep b ↔ Alk s a b := by
  constructor
  · intro e
    exact (rep_alk ha).symm.trans (e ▸ rep_alk hb)
  · intro e
    have key : (s.keys.find? fun o => @decide (Alk s o a) (Classical.propDecidable _)) = s.keys.find? fun o => @decide (Alk s o b) (Classical.propDecidable _) := by
      refine congrArg (fun q => s.keys.find? q) (funext fun o => ?_)
      have : Alk s o a ↔ Alk s o b := ⟨fun h => h.trans e, fun h => h.trans e.symm⟩
      exact decide_eq_decide.mpr this
    unfold Sc.rep
    rw [← key]
    cases e2 : s.keys.find? fun o => @decide (Alk s o a) (Classical.propDecidable _) with
    | none => exact absurd (List.find?_eq_none.mp e2 a ha) (by simp [Alk.refl])
    | some o => rfl
theorem rep_rep {s : Sc} {a : Nat} (h : a ∈ s.keys) : s.rep (s.rep a) = s.rep a := (rep_eq (rep_mem h) h).mpr (rep_alk h)
/-! the scheme of the letters that stand for others -/
noncomputable def Sc.reps (s : Sc) : List Nat := ordL (s.keys.map s.rep)
noncomputable def Sc.fold (s : Sc) : Sc := ⟨s.sq, callR s.rep s.ax, s.reps.map fun l => (l, callR s.rep (rowOf s.rs l))⟩
theorem mem_reps {s : Sc} (W : Wf s) {l : Nat} : l ∈ s.reps ↔ l ∈ s.keys ∧ s.rep l = l := by
  unfold Sc.reps
  rw [mem_ordL' fun x hx => by obtain ⟨y, hy, rfl⟩ := List.mem_map.mp hx; exact W.k123 _ (rep_mem hy), List.mem_map]
  constructor
  · rintro ⟨a, ha, rfl⟩
    exact ⟨rep_mem ha, rep_rep ha⟩
  · rintro ⟨h, e⟩
    exact ⟨l, h, e⟩
theorem rep_in {s : Sc} (W : Wf s) {a : Nat} (h : a ∈ s.keys) : s.rep a ∈ s.reps := (mem_reps W).mpr ⟨rep_mem h, rep_rep h⟩
theorem fold_keys (s : Sc) : s.fold.keys = s.reps := by
  unfold Sc.keys Sc.fold
  rw [List.map_map]
  exact List.map_id _
theorem row_in_fold {s : Sc} (W : Wf s) {a : Nat} (h : a ∈ s.reps) : rowOf s.fold.rs a = callR s.rep (rowOf s.rs a) := by
  refine rowOf_eq (r := callR s.rep (rowOf s.rs a)) ?_ ?_
  · show s.fold.keys.Nodup
    rw [fold_keys]
    exact ordL_nd
  · exact List.mem_map.mpr ⟨a, h, rfl⟩
theorem callR_snd {f : Nat → Nat} {r : Row} : (callR f r).map (·.2) = r.map (·.2) := by unfold callR; rw [List.map_map]; rfl
theorem end_call {sq : Bool} {f : Nat → Nat} : ∀ (r : Row) (p : Int × Int), endOf sq p (callR f r) = endOf sq p r
  | [], _ => rfl
  | x :: r, p => end_call r _
/-- rows of alike letters, called by those that stand for them, are the same -/
theorem rep_rows {s : Sc} (W : Wf s) {a b : Nat} (ha : a ∈ s.keys) (hb : b ∈ s.keys) (h : Alk s a b) : callR s.rep (rowOf s.rs a) = callR s.rep (rowOf s.rs b) :=
  ptw_eq.mp (ptw_imp (fun p hp q hq z => (rep_eq (row_keys W ha hp) (row_keys W hb hq)).mpr z) h.rows)
theorem Ws.fold {s : Sc} (W : Ws s) : Ws s.fold where
  nd := by rw [fold_keys]; exact ordL_nd
  len := by
    have e : s.fold.rs.length = s.reps.length := List.length_map _
    rw [e]
    obtain ⟨p, hp⟩ : ∃ p, p ∈ s.ax := List.exists_mem_of_length_pos W.toWf.ax.1
    refine ⟨List.length_pos_of_mem (rep_in W.toWf (W.toWf.ax.2.2 p hp).1), ?_⟩
    have h1 : s.reps.length ≤ s.keys.length := nat_nodup_len _ _ ordL_nd fun l hl => ((mem_reps W.toWf).mp hl).1
    have h2 := W.toWf.len.2
    unfold Sc.keys at h1
    rw [List.length_map] at h1
    omega
  let_ := fun p hp => by
    obtain ⟨l, hl, rfl⟩ := List.mem_map.mp hp
    exact W.toWf.key_lt ((mem_reps W.toWf).mp hl).1
  rows := fun p hp => by
    obtain ⟨l, hl, rfl⟩ := List.mem_map.mp hp
    have hk := ((mem_reps W.toWf).mp hl).1
    have h := W.toWf.rows _ (rowOf_in hk)
    refine ⟨by unfold callR; rw [List.length_map]; exact h.1, by unfold callR; rw [List.length_map]; exact h.2.1, fun q hq => ?_⟩
    obtain ⟨x, hx, rfl⟩ := List.mem_map.mp hq
    rw [fold_keys]
    exact ⟨rep_in W.toWf (h.2.2 x hx).1, (h.2.2 x hx).2⟩
  ax := by
    refine ⟨by show 1 ≤ (callR _ _).length; unfold callR; rw [List.length_map]; exact W.toWf.ax.1, by show (callR _ _).length ≤ 12; unfold callR; rw [List.length_map]; exact W.toWf.ax.2.1, fun q hq => ?_⟩
    obtain ⟨x, hx, rfl⟩ := List.mem_map.mp hq
    rw [fold_keys]
    exact ⟨rep_in W.toWf (W.toWf.ax.2.2 x hx).1, (W.toWf.ax.2.2 x hx).2⟩
  ends := by
    obtain ⟨g, h1, h2⟩ := W.ends
    refine ⟨g, h1, fun p hp => ?_⟩
    obtain ⟨l, hl, rfl⟩ := List.mem_map.mp hp
    exact (end_call _ _).trans (h2 _ (rowOf_in ((mem_reps W.toWf).mp hl).1))
  ord := by rw [fold_keys]; exact ordL_lt
/-- likeness within the folded scheme -/
theorem Eqn_fold {s : Sc} (W : Wf s) : ∀ n, ∀ a ∈ s.keys, ∀ b ∈ s.keys, (Eqn s.fold n (s.rep a) (s.rep b) ↔ Eqn s n a b)
  | 0, _, _, _, _ => Iff.rfl
  | n + 1, a, ha, b, hb => by
    have ih := Eqn_fold W n
    have e1 : Eqn s (n + 1) a b ↔ Eqn s (n + 1) (s.rep a) (s.rep b) := ⟨fun h => ((rep_alk ha (n + 1)).trans h).trans (rep_alk hb (n + 1)).symm, fun h => ((rep_alk ha (n + 1)).symm.trans h).trans (rep_alk hb (n + 1))⟩
    rw [e1]
    show (Eqn s.fold n _ _ ∧ ptw (Eqn s.fold n) (rowOf s.fold.rs _) (rowOf s.fold.rs _)) ↔ (Eqn s n _ _ ∧ ptw (Eqn s n) _ _)
    rw [row_in_fold W (rep_in W ha), row_in_fold W (rep_in W hb), ptw_map]
    refine and_congr ?_ ⟨fun h => ptw_imp (fun p hp q hq z => (ih _ (row_keys W (rep_mem ha) hp) _ (row_keys W (rep_mem hb) hq)).mp z) h, fun h => ptw_imp (fun p hp q hq z => (ih _ (row_keys W (rep_mem ha) hp) _ (row_keys W (rep_mem hb) hq)).mpr z) h⟩
    have := ih _ (rep_mem ha) _ (rep_mem hb)
    rw [rep_rep ha, rep_rep hb] at this
    exact this
theorem fold_red {s : Sc} (W : Wf s) {a b : Nat} (ha : a ∈ s.fold.keys) (hb : b ∈ s.fold.keys) (h : Alk s.fold a b) : a = b := by
  rw [fold_keys, mem_reps W] at ha hb
  have : Alk s a b := fun n => (Eqn_fold W n a ha.1 b hb.1).mp (by rw [ha.2, hb.2]; exact h n)
  rw [← ha.2, ← hb.2]
  exact (rep_eq ha.1 hb.1).mpr this
/-- no two letters are alike -/
def Red (s : Sc) : Prop := ∀ a ∈ s.keys, ∀ b ∈ s.keys, Alk s a b → a = b
theorem Red.rep {s : Sc} (R : Red s) {a : Nat} (h : a ∈ s.keys) : s.rep a = a := R _ (rep_mem h) _ h (rep_alk h)
theorem callR_id {f : Nat → Nat} {r : Row} (h : ∀ p ∈ r, f p.1 = p.1) : callR f r = r := by
  unfold callR
  conv => rhs; rw [← List.map_id r]
  exact List.map_congr_left fun p hp => Prod.ext (h p hp) rfl
theorem rs_eq' {rs : Rls} (nd : (rs.map (·.1)).Nodup) : (rs.map (·.1)).map (fun l => (l, rowOf rs l)) = rs := by
  rw [List.map_map]
  conv => rhs; rw [← List.map_id rs]
  exact List.map_congr_left fun p hp => Prod.ext rfl (rowOf_eq nd hp)
theorem Red.fold {s : Sc} (W : Ws s) (R : Red s) : s.fold = s := by
  have e1 : s.reps = s.keys := by
    unfold Sc.reps
    rw [show s.keys.map s.rep = s.keys.map id from List.map_congr_left fun a ha => R.rep ha, List.map_id]
    exact ordL_of W.ord (fun _ => Iff.rfl) W.toWf.k123
  have e2 : callR s.rep s.ax = s.ax := callR_id fun p hp => R.rep (W.toWf.ax.2.2 p hp).1
  have e3 : (s.keys.map fun l => (l, callR s.rep (rowOf s.rs l))) = s.rs := by
    rw [show (s.keys.map fun l => (l, callR s.rep (rowOf s.rs l))) = s.keys.map fun l => (l, rowOf s.rs l) from List.map_congr_left fun a ha => by rw [callR_id fun p hp => R.rep (row_keys W.toWf ha hp)]]
    exact rs_eq' W.nd
  unfold Sc.fold
  rw [e1, e2, e3]
end G81
set_option maxRecDepth 100000
set_option maxHeartbeats 2000000
/-! lines of folded and spared schemes; letters that are not alike draw unlike rows -/
namespace G81
open PySem PySem.Spec PyProof.Rows L2 SlX
abbrev dirs (r : Row) : List Nat := r.map (·.2)
theorem turn_call {n d : Nat} {f : Nat → Nat} (r : Row) : turnRow n d (callR f r) = callR f (turnRow n d r) := by
  unfold turnRow callR
  rw [List.map_map, List.map_map]
  rfl
theorem repl_fold {s : Sc} (W : Wf s) : ∀ {st : Row}, (∀ p ∈ st, p.1 ∈ s.keys) → repl s.fold (callR s.rep st) = callR s.rep (repl s st)
  | [], _ => rfl
  | p :: st, h => by
    have ih := repl_fold W (st := st) fun q hq => h q (List.mem_cons_of_mem _ hq)
    have hp := h p List.mem_cons_self
    show turnRow _ p.2 (rowOf s.fold.rs (s.rep p.1)) ++ repl s.fold (callR s.rep st) = callR s.rep (turnRow _ p.2 (rowOf s.rs p.1) ++ repl s st)
    rw [ih, row_in_fold W (rep_in W hp), rep_rows W (rep_mem hp) hp (rep_alk hp), turn_call]
    unfold callR
    rw [List.map_append]
    rfl
theorem grow_fold {s : Sc} (W : Wf s) {r : Row} (h : ∀ p ∈ r, p.1 ∈ s.keys) : ∀ n, growN s.fold (callR s.rep r) n = callR s.rep (growN s r n)
  | 0 => rfl
  | n + 1 => by
    show repl s.fold (growN s.fold _ n) = callR s.rep (repl s (growN s r n))
    rw [grow_fold W h n, repl_fold W (grow_keys W h n)]
theorem fold_dirs {s : Sc} (W : Wf s) (n : Nat) : dirs (growN s.fold s.fold.ax n) = dirs (growN s s.ax n) := by
  show dirs (growN s.fold (callR s.rep s.ax) n) = _
  rw [grow_fold W (fun p hp => (W.ax.2.2 p hp).1)]
  exact callR_snd
/-! spared -/
theorem row_spare {s : Sc} {l : Nat} (W : Ws s) (h : l ∈ s.used) : rowOf s.spare.rs l = rowOf s.rs l := by
  refine rowOf_eq (r := rowOf s.rs l) ?_ ?_
  · show s.spare.keys.Nodup
    exact W.spare.nd
  · exact List.mem_map.mpr ⟨l, h, rfl⟩
theorem used_row {s : Sc} (W : Wf s) {l : Nat} (h : l ∈ s.used) {p : It2} (hp : p ∈ rowOf s.rs l) : p.1 ∈ s.used := by
  have z := mem_used.mp h
  exact mem_used.mpr ⟨row_keys W z.1 hp, .step z.2 (rowOf_in z.1) hp⟩
theorem repl_spare {s : Sc} (W : Ws s) : ∀ {st : Row}, (∀ p ∈ st, p.1 ∈ s.used) → repl s.spare st = repl s st
  | [], _ => rfl
  | p :: st, h => by
    show turnRow _ p.2 (rowOf s.spare.rs p.1) ++ repl s.spare st = turnRow _ p.2 (rowOf s.rs p.1) ++ repl s st
    rw [repl_spare W (st := st) fun q hq => h q (List.mem_cons_of_mem _ hq), row_spare W (h p List.mem_cons_self)]
    rfl
theorem repl_used {s : Sc} (W : Wf s) {st : Row} (h : ∀ p ∈ st, p.1 ∈ s.used) : ∀ p ∈ repl s st, p.1 ∈ s.used := fun p hp => by
  obtain ⟨q, hq, h2⟩ := List.mem_flatMap.mp hp
  obtain ⟨x, hx, rfl⟩ := List.mem_map.mp h2
  exact used_row (p := x) W (h q hq) hx
theorem grow_used {s : Sc} (W : Wf s) {r : Row} (h : ∀ p ∈ r, p.1 ∈ s.used) : ∀ n, ∀ p ∈ growN s r n, p.1 ∈ s.used
  | 0 => h
  | n + 1 => repl_used W (grow_used W h n)
theorem ax_used {s : Sc} (W : Wf s) : ∀ p ∈ s.ax, p.1 ∈ s.used := fun p hp => mem_used.mpr ⟨(W.ax.2.2 p hp).1, .ax hp⟩
theorem grow_spare {s : Sc} (W : Ws s) {r : Row} (h : ∀ p ∈ r, p.1 ∈ s.used) : ∀ n, growN s.spare r n = growN s r n
  | 0 => rfl
  | n + 1 => by
    show repl s.spare (growN s.spare r n) = repl s (growN s r n)
    rw [grow_spare W h n, repl_spare W (grow_used W.toWf h n)]
theorem reach_spare {s : Sc} (W : Ws s) {l : Nat} (h : Reach s.ax s.rs l) : Reach s.spare.ax s.spare.rs l := by
  induction h with
  | ax hp => exact .ax hp
  | step hl hr hp ih => exact .step ih ((mem_spare W.toWf).mpr ⟨hr, hl⟩) hp
/-- all letters are met -/
def Full (s : Sc) : Prop := ∀ l ∈ s.keys, Reach s.ax s.rs l
theorem spare_full {s : Sc} (W : Ws s) : Full s.spare := fun l h => by
  rw [spare_keys] at h
  exact reach_spare W (mem_used.mp h).2
theorem Full.used {s : Sc} (F : Full s) : s.used = s.keys := by
  unfold Sc.used
  exact List.filter_eq_self.mpr fun l h => by simpa using F l h
theorem Full.spare {s : Sc} (W : Ws s) (F : Full s) : s.spare = s := by
  unfold Sc.spare
  rw [F.used]
  show (⟨s.sq, s.ax, (s.rs.map (·.1)).map fun l => (l, rowOf s.rs l)⟩ : Sc) = s
  rw [rs_eq' W.nd]
theorem mem_callR {f : Nat → Nat} {r : Row} {p : It2} (h : p ∈ r) : (f p.1, p.2) ∈ callR f r := List.mem_map.mpr ⟨p, h, rfl⟩
theorem reach_fold {s : Sc} (W : Wf s) {l : Nat} (h : Reach s.ax s.rs l) : l ∈ s.keys ∧ Reach s.fold.ax s.fold.rs (s.rep l) := by
  induction h with
  | ax hp => exact ⟨(W.ax.2.2 _ hp).1, .ax (mem_callR (f := s.rep) hp)⟩
  | @step l r p hl hr hp ih =>
    have hk := ih.1
    have e : rowOf s.rs l = r := rowOf_eq W.nd hr
    refine ⟨((W.rows _ hr).2.2 _ hp).1, ?_⟩
    have h2 : (s.rep l, callR s.rep r) ∈ s.fold.rs := by
      refine List.mem_map.mpr ⟨s.rep l, rep_in W hk, ?_⟩
      rw [rep_rows W (rep_mem hk) hk (rep_alk hk), e]
    exact .step ih.2 h2 (mem_callR (f := s.rep) hp)
theorem Full.fold {s : Sc} (W : Wf s) (F : Full s) : Full s.fold := fun l h => by
  rw [fold_keys, mem_reps W] at h
  have := (reach_fold W (F l h.1)).2
  rw [h.2] at this
  exact this
/-- the least scheme -/
noncomputable def Sc.least (s : Sc) : Sc := s.spare.fold
theorem Ws.least {s : Sc} (W : Ws s) : Ws s.least := W.spare.fold
theorem least_full {s : Sc} (W : Ws s) : Full s.least := (spare_full W).fold W.spare.toWf
theorem least_red {s : Sc} (W : Ws s) : Red s.least := fun a ha b hb h => fold_red W.spare.toWf ha hb h
theorem least_least {s : Sc} (W : Ws s) : s.least.least = s.least := by
  show s.least.spare.fold = s.least
  rw [(least_full W).spare W.least]
  exact (least_red W).fold W.least
theorem spare_spare {s : Sc} (W : Ws s) : s.spare.spare = s.spare := (spare_full W).spare W.spare
theorem least_dirs {s : Sc} (W : Ws s) (n : Nat) : dirs (growN s.least s.least.ax n) = dirs (growN s s.ax n) := by
  show dirs (growN s.spare.fold s.spare.fold.ax n) = _
  rw [fold_dirs W.spare.toWf, show s.spare.ax = s.ax from rfl, grow_spare W (ax_used W.toWf)]
theorem growth_eq {s : Sc} {g : Int × Int} (h1 : 1 ≤ s.rs.length) (h : ∀ p ∈ s.rs, endOf s.sq (0, 0) p.2 = g) : s.growth = g := by
  unfold Sc.growth
  cases e : s.rs with
  | nil => rw [e] at h1; cases h1
  | cons p r => exact h p (by rw [e]; exact List.mem_cons_self)
theorem least_growth {s : Sc} (W : Ws s) : s.least.growth = s.growth := by
  obtain ⟨g, _, h⟩ := W.ends
  rw [growth_eq W.len.1 h]
  refine growth_eq W.least.len.1 fun p hp => ?_
  obtain ⟨l, hl, rfl⟩ := List.mem_map.mp hp
  have hk := ((mem_reps W.spare.toWf).mp hl).1
  have := (mem_spare W.toWf).mp (rowOf_in hk)
  exact (end_call _ _).trans (h _ this.1)
theorem Even.spare {s : Sc} (W : Ws s) (e : s.even = true) : s.spare.even = true := by
  rw [even_iff] at e ⊢
  exact fun p hp q hq => e p ((mem_spare W.toWf).mp hp).1 q ((mem_spare W.toWf).mp hq).1
theorem callR_len {f : Nat → Nat} {r : Row} : (callR f r).length = r.length := List.length_map _
theorem Even.fold {s : Sc} (W : Wf s) (e : s.even = true) : s.fold.even = true := by
  rw [even_iff] at e ⊢
  intro p hp q hq
  obtain ⟨l, hl, rfl⟩ := List.mem_map.mp hp
  obtain ⟨m, hm, rfl⟩ := List.mem_map.mp hq
  show (callR _ _).length = (callR _ _).length
  rw [callR_len, callR_len]
  exact e _ (rowOf_in ((mem_reps W).mp hl).1) _ (rowOf_in ((mem_reps W).mp hm).1)
theorem Even.least {s : Sc} (W : Ws s) (e : s.even = true) : s.least.even = true := Even.fold W.spare.toWf (Even.spare W e)
/-! growth, block by block -/
theorem repl_app (s : Sc) (a b : Row) : repl s (a ++ b) = repl s a ++ repl s b := by unfold repl; rw [List.flatMap_append]
theorem grow_app (s : Sc) (a b : Row) : ∀ n, growN s (a ++ b) n = growN s a n ++ growN s b n
  | 0 => rfl
  | n + 1 => by
    show repl s (growN s (a ++ b) n) = repl s _ ++ repl s _
    rw [grow_app s a b n, repl_app]
theorem grow_nil (s : Sc) : ∀ n, growN s [] n = []
  | 0 => rfl
  | n + 1 => by show repl s (growN s [] n) = []; rw [grow_nil s n]; rfl
theorem grow_flat (s : Sc) (n : Nat) : ∀ r : Row, growN s r n = r.flatMap fun p => growN s [p] n
  | [] => grow_nil s n
  | p :: r => by
    rw [List.flatMap_cons, ← grow_flat s n r, ← grow_app]
    rfl
theorem grow_succ (s : Sc) (r : Row) : ∀ n, growN s (repl s r) n = growN s r (n + 1)
  | 0 => rfl
  | n + 1 => by show repl s (growN s (repl s r) n) = repl s (growN s r (n + 1)); rw [grow_succ s r n]
theorem turn_turn {n d e : Nat} (r : Row) : turnRow n d (turnRow n e r) = turnRow n ((e + d) % n) r := by
  unfold turnRow
  rw [List.map_map]
  refine List.map_congr_left fun p _ => Prod.ext rfl ?_
  show ((p.2 + e) % n + d) % n = (p.2 + (e + d) % n) % n
  rw [Nat.mod_add_mod, Nat.add_mod_mod, Nat.add_assoc]
theorem turn_mod {n d : Nat} (r : Row) : turnRow n (d % n) r = turnRow n d r := by
  unfold turnRow
  refine List.map_congr_left fun p _ => Prod.ext rfl ?_
  show (p.2 + d % n) % n = (p.2 + d) % n
  rw [Nat.add_mod_mod]
theorem repl_turn (s : Sc) (d : Nat) : ∀ r : Row, repl s (turnRow (ar s.sq) d r) = turnRow (ar s.sq) d (repl s r)
  | [] => rfl
  | p :: r => by
    show turnRow _ ((p.2 + d) % ar s.sq) (rowOf s.rs p.1) ++ repl s (turnRow _ d r) = turnRow _ d (turnRow _ p.2 (rowOf s.rs p.1) ++ repl s r)
    rw [repl_turn s d r, show turnRow (ar s.sq) d (turnRow (ar s.sq) p.2 (rowOf s.rs p.1) ++ repl s r) = turnRow _ d (turnRow _ p.2 (rowOf s.rs p.1)) ++ turnRow _ d (repl s r) from List.map_append, turn_turn]
theorem grow_turn (s : Sc) (d : Nat) (r : Row) : ∀ n, growN s (turnRow (ar s.sq) d r) n = turnRow (ar s.sq) d (growN s r n)
  | 0 => rfl
  | n + 1 => by show repl s (growN s _ n) = turnRow _ d (repl s _); rw [grow_turn s d r n, repl_turn]
theorem grow_one {s : Sc} {p : It2} (h : p.2 < ar s.sq) (n : Nat) : growN s [p] n = turnRow (ar s.sq) p.2 (growN s [(p.1, 0)] n) := by
  rw [← grow_turn]
  show _ = growN s [(p.1, (0 + p.2) % ar s.sq)] n
  rw [Nat.zero_add, Nat.mod_eq_of_lt h]
theorem repl_lt {s : Sc} (r : Row) : ∀ p ∈ repl s r, p.2 < ar s.sq := fun p hp => by
  obtain ⟨q, _, h2⟩ := List.mem_flatMap.mp hp
  obtain ⟨x, _, rfl⟩ := List.mem_map.mp h2
  exact Nat.mod_lt _ (ar_pos s.sq)
theorem grow_lt {s : Sc} {r : Row} (h : ∀ p ∈ r, p.2 < ar s.sq) : ∀ n, ∀ p ∈ growN s r n, p.2 < ar s.sq
  | 0 => h
  | n + 1 => repl_lt _
/-- the rules' length -/
def Len (s : Sc) (e : Nat) : Prop := ∀ p ∈ s.rs, p.2.length = e
theorem even_len {s : Sc} (h : s.even = true) : ∃ e, Len s e := by
  cases q : s.rs with
  | nil => exact ⟨0, fun p hp => by rw [q] at hp; cases hp⟩
  | cons p r => exact ⟨p.2.length, fun p' hp' => (even_iff.mp h) p' hp' p (by rw [q]; exact List.mem_cons_self)⟩
theorem repl_len {s : Sc} {e : Nat} (L : Len s e) : ∀ {r : Row}, (∀ p ∈ r, p.1 ∈ s.keys) → (repl s r).length = r.length * e
  | [], _ => (Nat.zero_mul e).symm
  | p :: r, h => by
    show (turnRow _ p.2 (rowOf s.rs p.1) ++ repl s r).length = (r.length + 1) * e
    rw [List.length_append, repl_len L fun q hq => h q (List.mem_cons_of_mem _ hq), show (turnRow _ p.2 (rowOf s.rs p.1)).length = _ from List.length_map _, L _ (rowOf_in (h p List.mem_cons_self)), Nat.succ_mul, Nat.add_comm]
theorem grow_len {s : Sc} (W : Wf s) {e : Nat} (L : Len s e) {r : Row} (h : ∀ p ∈ r, p.1 ∈ s.keys) : ∀ n, (growN s r n).length = r.length * e ^ n
  | 0 => (Nat.mul_one _).symm
  | n + 1 => by
    show (repl s (growN s r n)).length = _
    rw [repl_len L (grow_keys W h n), grow_len W L h n, Nat.pow_succ, Nat.mul_assoc]
/-- rows of equal blocks -/
theorem blocks {α : Type} {k : Nat} {f g : α → List Nat} : ∀ {l : List α}, (∀ x ∈ l, (f x).length = k) → (∀ x ∈ l, (g x).length = k) → l.flatMap f = l.flatMap g → ∀ x ∈ l, f x = g x
  | [], _, _, _, x, h => nomatch h
  | y :: l, hf, hg, e, x, h => by
    rw [List.flatMap_cons, List.flatMap_cons] at e
    obtain ⟨e1, e2⟩ := List.append_inj e (by rw [hf y List.mem_cons_self, hg y List.mem_cons_self])
    rcases List.mem_cons.mp h with z | z
    · rw [z]; exact e1
    · exact blocks (fun x hx => hf x (List.mem_cons_of_mem _ hx)) (fun x hx => hg x (List.mem_cons_of_mem _ hx)) e2 x z
theorem dirs_turn {n d : Nat} (r : Row) : dirs (turnRow n d r) = (dirs r).map fun t => (t + d) % n := by
  unfold turnRow dirs
  rw [List.map_map, List.map_map]
  rfl
theorem mod_inj {n d a b : Nat} (ha : a < n) (hb : b < n) (h : (a + d) % n = (b + d) % n) : a = b := by
  have h1 : ((a + d) % n + (n - d % n)) % n = ((b + d) % n + (n - d % n)) % n := by rw [h]
  have dn : d % n < n := Nat.mod_lt _ (by omega)
  have key : ∀ x, x < n → ((x + d) % n + (n - d % n)) % n = x := fun x hx => by
    rw [Nat.mod_add_mod]
    have e : d = n * (d / n) + d % n := (Nat.div_add_mod d n).symm
    rw [show x + d + (n - d % n) = x + n * (d / n + 1) by rw [Nat.mul_add]; omega, Nat.add_mul_mod_self_left, Nat.mod_eq_of_lt hx]
  rw [key a ha, key b hb] at h1
  exact h1
theorem map_mod_inj {n d : Nat} : ∀ {l m : List Nat}, (∀ x ∈ l, x < n) → (∀ x ∈ m, x < n) → (l.map fun t => (t + d) % n) = (m.map fun t => (t + d) % n) → l = m
  | [], [], _, _, _ => rfl
  | [], _ :: _, _, _, h => nomatch h
  | _ :: _, [], _, _, h => nomatch h
  | x :: l, y :: m, hl, hm, h => by
    simp only [List.map_cons, List.cons.injEq] at h
    rw [mod_inj (hl x List.mem_cons_self) (hm y List.mem_cons_self) h.1, map_mod_inj (fun z hz => hl z (List.mem_cons_of_mem _ hz)) (fun z hz => hm z (List.mem_cons_of_mem _ hz)) h.2]
/-- equal directions at the orders 1 to n -/
def DirEq (s : Sc) (n a b : Nat) : Prop := ∀ j, 1 ≤ j → j ≤ n → dirs (growN s [(a, 0)] j) = dirs (growN s [(b, 0)] j)
theorem dirs_len {r : Row} : (dirs r).length = r.length := List.length_map _
theorem repl_one (s : Sc) (W : Wf s) {a : Nat} (h : a ∈ s.keys) : repl s [(a, 0)] = rowOf s.rs a := by
  show turnRow _ 0 (rowOf s.rs a) ++ [] = _
  rw [List.append_nil]
  unfold turnRow
  conv => rhs; rw [← List.map_id (rowOf s.rs a)]
  refine List.map_congr_left fun p hp => Prod.ext rfl ?_
  show (p.2 + 0) % _ = p.2
  rw [Nat.add_zero, Nat.mod_eq_of_lt ((W.rows _ (rowOf_in h)).2.2 p hp).2]
theorem dirs_flat {l : Row} {f : It2 → Row} : dirs (l.flatMap f) = l.flatMap fun p => dirs (f p) := by unfold dirs; rw [List.map_flatMap]
theorem zip_flat {l m : Row} {f : It2 → List Nat} (h : l.length = m.length) : l.flatMap f = (l.zip m).flatMap (fun p => f p.1) ∧ m.flatMap f = (l.zip m).flatMap fun p => f p.2 := by
  induction l generalizing m with
  | nil => cases m with
    | nil => exact ⟨rfl, rfl⟩
    | cons _ _ => cases h
  | cons p l ih => cases m with
    | nil => cases h
    | cons q m =>
      obtain ⟨h1, h2⟩ := ih (Nat.succ.inj h)
      simp only [List.zip_cons_cons, List.flatMap_cons]
      rw [← h1, ← h2]
      exact ⟨rfl, rfl⟩
theorem ptw_zip {R : Nat → Nat → Prop} : ∀ {l m : Row}, dirs l = dirs m → (∀ p ∈ l.zip m, R p.1.1 p.2.1) → ptw R l m
  | [], [], _, _ => trivial
  | [], _ :: _, h, _ => nomatch h
  | _ :: _, [], h, _ => nomatch h
  | p :: l, q :: m, h, k => by
    simp only [dirs, List.map_cons, List.cons.injEq] at h
    exact ⟨h.1, k (p, q) List.mem_cons_self, ptw_zip h.2 fun x hx => k x (List.mem_cons_of_mem _ hx)⟩
theorem zip_snd : ∀ {l m : Row}, dirs l = dirs m → ∀ p ∈ l.zip m, p.1 ∈ l ∧ p.2 ∈ m ∧ p.1.2 = p.2.2
  | [], _, _, _, h => by cases ‹List It2› <;> cases h
  | _ :: _, [], _, _, h => nomatch h
  | x :: l, y :: m, e, p, h => by
    simp only [dirs, List.map_cons, List.cons.injEq] at e
    rcases List.mem_cons.mp h with z | z
    · rw [z]; exact ⟨List.mem_cons_self, List.mem_cons_self, e.1⟩
    · have := zip_snd e.2 p z
      exact ⟨List.mem_cons_of_mem _ this.1, List.mem_cons_of_mem _ this.2.1, this.2.2⟩
theorem dirs_eqn {s : Sc} (W : Wf s) {e : Nat} (L : Len s e) : ∀ {n a b : Nat}, a ∈ s.keys → b ∈ s.keys → DirEq s n a b → Eqn s n a b
  | 0, _, _, _, _, _ => trivial
  | n + 1, a, b, ha, hb, h => by
    refine ⟨dirs_eqn W L ha hb fun j h1 h2 => h j h1 (Nat.le_succ_of_le h2), ?_⟩
    have h1 : dirs (rowOf s.rs a) = dirs (rowOf s.rs b) := by
      have := h 1 (Nat.le_refl _) (Nat.succ_le_succ (Nat.zero_le _))
      rw [show growN s [(a, 0)] 1 = repl s [(a, 0)] from rfl, show growN s [(b, 0)] 1 = repl s [(b, 0)] from rfl, repl_one s W ha, repl_one s W hb] at this
      exact this
    have hl : (rowOf s.rs a).length = (rowOf s.rs b).length := by
      have := congrArg List.length h1
      rwa [dirs_len, dirs_len] at this
    refine ptw_zip h1 fun p hp => ?_
    obtain ⟨p1, p2, p3⟩ := zip_snd h1 p hp
    have k1 := row_keys W ha p1
    have k2 := row_keys W hb p2
    have t1 := ((W.rows _ (rowOf_in ha)).2.2 _ p1).2
    have t2 := ((W.rows _ (rowOf_in hb)).2.2 _ p2).2
    refine dirs_eqn W L k1 k2 fun j j1 j2 => ?_
    have hj := h (j + 1) (Nat.le_add_left _ _) (Nat.succ_le_succ j2)
    rw [← grow_succ, ← grow_succ, repl_one s W ha, repl_one s W hb, grow_flat, grow_flat s j (rowOf s.rs b), dirs_flat, dirs_flat, (zip_flat (f := fun p => dirs (growN s [p] j)) hl).1, (zip_flat (f := fun p => dirs (growN s [p] j)) hl).2] at hj
    have bl := blocks (k := e ^ j) (f := fun p : It2 × It2 => dirs (growN s [p.1] j)) (g := fun p : It2 × It2 => dirs (growN s [p.2] j)) (fun x hx => by
      rw [dirs_len, grow_len W L (fun q hq => by rw [List.mem_singleton.mp hq]; exact row_keys W ha (zip_snd h1 x hx).1)]
      exact Nat.one_mul _) (fun x hx => by
      rw [dirs_len, grow_len W L (fun q hq => by rw [List.mem_singleton.mp hq]; exact row_keys W hb (zip_snd h1 x hx).2.1)]
      exact Nat.one_mul _) hj p hp
    have bl : dirs (growN s [p.1] j) = dirs (growN s [p.2] j) := bl
    rw [grow_one t1, grow_one t2, dirs_turn, dirs_turn, p3] at bl
    have lt : ∀ x : Nat, ∀ t ∈ dirs (growN s [(x, 0)] j), t < ar s.sq := fun x t ht => by
      obtain ⟨q, hq, rfl⟩ := List.mem_map.mp ht
      exact grow_lt (fun y hy => by rw [List.mem_singleton.mp hy]; exact ar_pos s.sq) j q hq
    exact map_mod_inj (lt _) (lt _) bl
end G81
set_option maxRecDepth 100000
set_option maxHeartbeats 2000000
/-! how soon likeness is settled; how many letters a least scheme has -/
namespace G81
open PySem PySem.Spec PyProof.Rows L2 SlX
open Classical in
/-- the first letters of their classes at n -/
noncomputable def firsts (s : Sc) (n : Nat) : List Nat := s.keys.filter fun l => decide (∀ o ∈ s.keys, Eqn s n o l → l ≤ o)
theorem mem_firsts {s : Sc} {n l : Nat} : l ∈ firsts s n ↔ l ∈ s.keys ∧ ∀ o ∈ s.keys, Eqn s n o l → l ≤ o := by
  unfold firsts
  rw [List.mem_filter]
  exact and_congr Iff.rfl (by classical exact decide_eq_true_iff)
theorem least_of {l : List Nat} {P : Nat → Prop} (h : ∃ x ∈ l, P x) : ∃ x ∈ l, P x ∧ ∀ y ∈ l, P y → x ≤ y := by
  induction l with
  | nil => obtain ⟨x, hx, _⟩ := h; cases hx
  | cons a l ih =>
    by_cases q : ∃ x ∈ l, P x
    · obtain ⟨x, hx, px, hm⟩ := ih q
      by_cases pa : P a ∧ a ≤ x
      · refine ⟨a, List.mem_cons_self, pa.1, fun y hy py => ?_⟩
        rcases List.mem_cons.mp hy with z | z
        · omega
        · exact Nat.le_trans pa.2 (hm y z py)
      · refine ⟨x, List.mem_cons_of_mem _ hx, px, fun y hy py => ?_⟩
        rcases List.mem_cons.mp hy with z | z
        · subst z
          have : ¬ y ≤ x := fun h => pa ⟨py, h⟩
          omega
        · exact hm y z py
    · obtain ⟨x, hx, px⟩ := h
      rcases List.mem_cons.mp hx with z | z
      · subst z
        refine ⟨x, List.mem_cons_self, px, fun y hy py => ?_⟩
        rcases List.mem_cons.mp hy with z | z
        · omega
        · exact absurd ⟨y, z, py⟩ q
      · exact absurd ⟨x, z, px⟩ q
theorem first_of {s : Sc} {n a : Nat} (h : a ∈ s.keys) : ∃ l ∈ firsts s n, Eqn s n l a := by
  obtain ⟨x, hx, px, hm⟩ := least_of (l := s.keys) (P := fun o => Eqn s n o a) ⟨a, h, Eqn.refl s n a⟩
  exact ⟨x, mem_firsts.mpr ⟨hx, fun o ho q => hm o ho (q.trans px)⟩, px⟩
theorem firsts_nd {s : Sc} (W : Wf s) (n : Nat) : (firsts s n).Nodup := by unfold firsts; exact List.Pairwise.filter _ W.nd
theorem firsts_up {s : Sc} (n : Nat) : ∀ l ∈ firsts s n, l ∈ firsts s (n + 1) := fun l h => by
  obtain ⟨h1, h2⟩ := mem_firsts.mp h
  exact mem_firsts.mpr ⟨h1, fun o ho e => h2 o ho e.1⟩
/-- a list without repeats within another one that is no longer: the same members -/
theorem same_mem : ∀ {l m : List Nat}, l.Nodup → (∀ x ∈ l, x ∈ m) → m.length ≤ l.length → ∀ x ∈ m, x ∈ l := by
  intro l m nd sub len x hx
  by_cases h : x ∈ l
  · exact h
  · have := nat_nodup_len (x :: l) m (List.nodup_cons.mpr ⟨h, nd⟩) fun y hy => by
      rcases List.mem_cons.mp hy with z | z
      · rw [z]; exact hx
      · exact sub y z
    rw [List.length_cons] at this
    omega
theorem firsts_stab {s : Sc} (W : Wf s) {n : Nat} (h : (firsts s (n + 1)).length ≤ (firsts s n).length) : Stab s n := fun a ha b hb e => by
  have sm := same_mem (firsts_nd W n) (firsts_up n) h
  obtain ⟨p, hp, ep⟩ := first_of (n := n + 1) ha
  obtain ⟨q, hq, eq⟩ := first_of (n := n + 1) hb
  have p2 := mem_firsts.mp (sm p hp)
  have q2 := mem_firsts.mp (sm q hq)
  have pq : Eqn s n p q := (ep.1.trans e).trans eq.1.symm
  have : p = q := Nat.le_antisymm (p2.2 q q2.1 pq.symm) (q2.2 p p2.1 pq)
  subst this
  exact ep.symm.trans eq
/-- likeness is settled at the number of the letters -/
theorem settle {s : Sc} (W : Wf s) {a b : Nat} (ha : a ∈ s.keys) (hb : b ∈ s.keys) (h : Eqn s s.keys.length a b) : Alk s a b := by
  have key : ∀ n, (∃ k, k < n ∧ Stab s k) ∨ n ≤ (firsts s n).length := fun n => by
    induction n with
    | zero => exact .inr (Nat.zero_le _)
    | succ n ih =>
      rcases ih with ⟨k, h1, h2⟩ | ih
      · exact .inl ⟨k, Nat.lt_succ_of_lt h1, h2⟩
      · by_cases q : (firsts s (n + 1)).length ≤ (firsts s n).length
        · exact .inl ⟨n, Nat.lt_succ_self n, firsts_stab W q⟩
        · exact .inr (by omega)
  rcases key (s.keys.length + 1) with ⟨k, h1, h2⟩ | h2
  · exact h2.all W ha hb (h.mono (Nat.le_of_lt_succ h1))
  · have := nat_nodup_len _ _ (firsts_nd W (s.keys.length + 1)) fun l hl => (mem_firsts.mp hl).1
    omega
/-- two letters of a scheme without alike ones draw unlike rows at some order up to the number of letters -/
theorem unlike {s : Sc} (W : Wf s) (ev : s.even = true) (R : Red s) {a b : Nat} (ha : a ∈ s.keys) (hb : b ∈ s.keys) (ne : a ≠ b) : ∃ j, 1 ≤ j ∧ j ≤ s.keys.length ∧ dirs (growN s [(a, 0)] j) ≠ dirs (growN s [(b, 0)] j) := by
  obtain ⟨e, L⟩ := even_len ev
  refine Classical.byContradiction fun h => ne (R a ha b hb (settle W ha hb (dirs_eqn W L ha hb fun j h1 h2 => ?_)))
  exact Classical.byContradiction fun q => h ⟨j, h1, h2, q⟩
/-! copies -/
/-- letters come under several names: t tells the first ones -/
structure Cop (s : Sc) (t : Nat → Nat) : Prop where
  ax : ∀ p ∈ s.ax, t p.1 ∈ [97, 98, 99]
  rs : ∀ q ∈ s.rs, t q.1 ∈ [97, 98, 99] → ∀ p ∈ q.2, t p.1 ∈ [97, 98, 99]
  eq : ∀ q ∈ s.rs, ∀ r ∈ s.rs, t q.1 = t r.1 → callR t q.2 = callR t r.2
theorem Cop.eqn {s : Sc} {t : Nat → Nat} (W : Wf s) (C : Cop s t) : ∀ n, ∀ a ∈ s.keys, ∀ b ∈ s.keys, t a = t b → Eqn s n a b
  | 0, _, _, _, _, _ => trivial
  | n + 1, a, ha, b, hb, e => ⟨C.eqn W n a ha b hb e, ptw_imp (fun p hp q hq z => C.eqn W n _ (row_keys W ha hp) _ (row_keys W hb hq) z) (ptw_eq.mpr (C.eq _ (rowOf_in ha) _ (rowOf_in hb) e))⟩
theorem Cop.reach {s : Sc} {t : Nat → Nat} (C : Cop s t) {l : Nat} (h : Reach s.ax s.rs l) : t l ∈ [97, 98, 99] := by
  induction h with
  | ax hp => exact C.ax _ hp
  | step _ hr hp ih => exact C.rs _ hr ih _ hp
theorem Cop.spare {s : Sc} {t : Nat → Nat} (W : Ws s) (C : Cop s t) : Cop s.spare t where
  ax := C.ax
  rs := fun q hq => C.rs q ((mem_spare W.toWf).mp hq).1
  eq := fun q hq r hr => C.eq q ((mem_spare W.toWf).mp hq).1 r ((mem_spare W.toWf).mp hr).1
theorem Cop.few {s : Sc} {t : Nat → Nat} (W : Ws s) (C : Cop s t) : s.least.keys.length ≤ 3 := by
  have W2 := W.spare
  have C2 := C.spare W
  have e : s.least.keys = s.spare.reps := fold_keys _
  rw [e]
  have nd : (s.spare.reps.map t).Nodup := by
    refine List.pairwise_map.mpr (List.Pairwise.imp_of_mem ?_ (show s.spare.reps.Pairwise (· ≠ ·) from ordL_nd))
    intro a b ha hb ne q
    have ha := (mem_reps W2.toWf).mp ha
    have hb := (mem_reps W2.toWf).mp hb
    have := (rep_eq ha.1 hb.1).mpr fun n => C2.eqn W2.toWf n a ha.1 b hb.1 q
    rw [ha.2, hb.2] at this
    exact ne this
  have := nat_nodup_len _ [97, 98, 99] nd fun x hx => by
    obtain ⟨a, ha, rfl⟩ := List.mem_map.mp hx
    have ha := (mem_reps W2.toWf).mp ha
    exact C2.reach (spare_full W a ha.1)
  rw [List.length_map] at this
  exact this
/-! the letters that are met, by rounds -/
/-- one more round -/
def rnd (rs : Rls) (fs : List Nat) : List Nat := ordL (fs ++ fs.flatMap fun l => (rowOf rs l).map (·.1))
def rnds (s : Sc) : Nat → List Nat
  | 0 => ordL (s.ax.map (·.1))
  | n + 1 => rnd s.rs (rnds s n)
theorem rnds_ok {s : Sc} (W : Wf s) : ∀ n, ∀ l ∈ rnds s n, l ∈ s.keys ∧ Reach s.ax s.rs l
  | 0, l, h => by
    obtain ⟨p, hp, rfl⟩ := List.mem_map.mp (mem_ordL.mp h).2
    exact ⟨(W.ax.2.2 p hp).1, .ax hp⟩
  | n + 1, l, h => by
    rcases List.mem_append.mp (mem_ordL.mp h).2 with z | z
    · exact rnds_ok W n l z
    · obtain ⟨k, hk, h2⟩ := List.mem_flatMap.mp z
      obtain ⟨p, hp, rfl⟩ := List.mem_map.mp h2
      have := rnds_ok W n k hk
      exact ⟨row_keys W this.1 hp, .step this.2 (rowOf_in this.1) hp⟩
theorem rnds_up {s : Sc} (W : Wf s) {n l : Nat} (h : l ∈ rnds s n) : l ∈ rnds s (n + 1) := mem_ordL.mpr ⟨W.k123 _ (rnds_ok W n l h).1, List.mem_append_left _ h⟩
theorem rnds_nd {s : Sc} : ∀ n, (rnds s n).Nodup
  | 0 => ordL_nd
  | _ + 1 => ordL_nd
/-- nothing new at n -/
def RSt (s : Sc) (n : Nat) : Prop := ∀ l ∈ rnds s (n + 1), l ∈ rnds s n
theorem RSt.reach {s : Sc} (W : Wf s) {n : Nat} (h : RSt s n) {l : Nat} (r : Reach s.ax s.rs l) : l ∈ rnds s n := by
  have up : ∀ k, ∀ l ∈ rnds s 0, l ∈ rnds s k := fun k => by
    induction k with
    | zero => exact fun _ h => h
    | succ k ih => exact fun l hl => rnds_up W (ih l hl)
  induction r with
  | @ax p hp => exact up n _ (mem_ordL.mpr ⟨W.k123 _ (W.ax.2.2 p hp).1, List.mem_map.mpr ⟨p, hp, rfl⟩⟩)
  | @step l r p hl hr hp ih =>
    have k := rnds_ok W n l ih
    have e : rowOf s.rs l = r := rowOf_eq W.nd hr
    exact h _ (mem_ordL.mpr ⟨W.k123 _ ((W.rows _ hr).2.2 p hp).1, List.mem_append_right _ (List.mem_flatMap.mpr ⟨l, ih, List.mem_map.mpr ⟨p, by rw [e]; exact hp, rfl⟩⟩)⟩)
theorem rnds_all {s : Sc} (W : Wf s) {l : Nat} : l ∈ rnds s 7 ↔ l ∈ s.keys ∧ Reach s.ax s.rs l := by
  refine ⟨rnds_ok W 7 l, fun ⟨_, r⟩ => ?_⟩
  have key : ∀ n, (∃ k, k < n ∧ RSt s k) ∨ n ≤ (rnds s n).length := fun n => by
    induction n with
    | zero => exact .inr (Nat.zero_le _)
    | succ n ih =>
      rcases ih with ⟨k, h1, h2⟩ | ih
      · exact .inl ⟨k, Nat.lt_succ_of_lt h1, h2⟩
      · by_cases q : (rnds s (n + 1)).length ≤ (rnds s n).length
        · exact .inl ⟨n, Nat.lt_succ_self n, same_mem (rnds_nd n) (fun x hx => rnds_up W hx) q⟩
        · exact .inr (by omega)
  have up : ∀ d k, ∀ l ∈ rnds s k, l ∈ rnds s (k + d) := fun d k => by
    induction d with
    | zero => exact fun _ h => h
    | succ d ih => exact fun l hl => rnds_up W (ih l hl)
  rcases key 7 with ⟨k, h1, h2⟩ | h2
  · have := up (7 - k) k l (h2.reach W r)
    rwa [show k + (7 - k) = 7 by omega] at this
  · have := nat_nodup_len _ _ (rnds_nd 7) fun l hl => (rnds_ok W 7 l hl).1
    have h6 := W.len.2
    unfold Sc.keys at this
    rw [List.length_map] at this
    omega
theorem rnds_ord {s : Sc} : (rnds s 7).Pairwise (· < ·) := ordL_lt
/-- .. are the letters used by the scheme in order -/
theorem rnds_used {s : Sc} (W : Wf s) : rnds s 7 = s.srt.used := by
  have r : ∀ l, Reach s.srt.ax s.srt.rs l ↔ Reach s.ax s.rs l := fun l => by
    constructor
    · intro h
      induction h with
      | ax hp => exact .ax hp
      | step _ hr hp ih => exact .step ih ((mem_srt W).mp hr) hp
    · intro h
      induction h with
      | ax hp => exact .ax hp
      | step _ hr hp ih => exact .step ih ((mem_srt W).mpr hr) hp
  have a := ordL_of (ls := rnds s 7) (ms := rnds s 7) rnds_ord (fun _ => Iff.rfl) fun l hl => W.k123 _ (rnds_ok W 7 l hl).1
  rw [← a]
  exact ordL_of W.srt.used_lt (fun l => by rw [mem_used, rnds_all W, mem_srtk W, r]) fun l hl => W.srt.toWf.k123 l (mem_used.mp hl).1
/-! other names of the letters -/
def Sc.ren (s : Sc) (f : Nat → Nat) : Sc := ⟨s.sq, callR f s.ax, s.rs.map fun p => (f p.1, callR f p.2)⟩
def Inj (s : Sc) (f : Nat → Nat) : Prop := ∀ a ∈ s.keys, ∀ b ∈ s.keys, f a = f b → a = b
theorem ren_keys (s : Sc) (f : Nat → Nat) : (s.ren f).keys = s.keys.map f := by
  unfold Sc.keys Sc.ren
  rw [List.map_map, List.map_map]
  rfl
theorem ren_wf {s : Sc} {f : Nat → Nat} (W : Wf s) (I : Inj s f) (h : ∀ l ∈ s.keys, 97 ≤ f l ∧ f l ≤ 122) : Wf (s.ren f) where
  nd := by
    rw [ren_keys]
    exact List.pairwise_map.mpr (List.Pairwise.imp_of_mem (fun ha hb ne q => ne (I _ ha _ hb q)) W.nd)
  len := by show 1 ≤ (s.rs.map _).length ∧ (s.rs.map _).length ≤ 6; rw [List.length_map]; exact W.len
  let_ := fun p hp => by
    obtain ⟨q, hq, rfl⟩ := List.mem_map.mp hp
    exact h _ (List.mem_map.mpr ⟨q, hq, rfl⟩)
  rows := fun p hp => by
    obtain ⟨q, hq, rfl⟩ := List.mem_map.mp hp
    have z := W.rows q hq
    refine ⟨by rw [callR_len]; exact z.1, by rw [callR_len]; exact z.2.1, fun x hx => ?_⟩
    obtain ⟨y, hy, rfl⟩ := List.mem_map.mp hx
    rw [ren_keys]
    exact ⟨List.mem_map.mpr ⟨_, (z.2.2 y hy).1, rfl⟩, (z.2.2 y hy).2⟩
  ax := by
    refine ⟨by show 1 ≤ (callR _ _).length; rw [callR_len]; exact W.ax.1, by show (callR _ _).length ≤ 12; rw [callR_len]; exact W.ax.2.1, fun x hx => ?_⟩
    obtain ⟨y, hy, rfl⟩ := List.mem_map.mp hx
    rw [ren_keys]
    exact ⟨List.mem_map.mpr ⟨_, (W.ax.2.2 y hy).1, rfl⟩, (W.ax.2.2 y hy).2⟩
  ends := by
    obtain ⟨g, h1, h2⟩ := W.ends
    refine ⟨g, h1, fun p hp => ?_⟩
    obtain ⟨q, hq, rfl⟩ := List.mem_map.mp hp
    exact (end_call _ _).trans (h2 q hq)
theorem even_mem {s u : Sc} (h : ∀ p ∈ u.rs, ∃ q ∈ s.rs, q.2.length = p.2.length) (e : s.even = true) : u.even = true := by
  rw [even_iff] at e ⊢
  intro p hp q hq
  obtain ⟨p', h1, h2⟩ := h p hp
  obtain ⟨q', h3, h4⟩ := h q hq
  rw [← h2, ← h4]
  exact e p' h1 q' h3
theorem ren_even {s : Sc} {f : Nat → Nat} (e : s.even = true) : (s.ren f).even = true := even_mem (fun p hp => by
  obtain ⟨q, hq, rfl⟩ := List.mem_map.mp hp
  exact ⟨q, hq, callR_len.symm⟩) e
theorem srt_even {s : Sc} (W : Wf s) (e : s.even = true) : s.srt.even = true := even_mem (fun p hp => ⟨p, (mem_srt W).mp hp, rfl⟩) e
/-- u is s with its letters called by f, as far as rows go -/
structure Mrr (s u : Sc) (f : Nat → Nat) : Prop where
  ks : ∀ l, l ∈ u.keys ↔ ∃ a ∈ s.keys, f a = l
  ax : u.ax = callR f s.ax
  rs : ∀ a ∈ s.keys, rowOf u.rs (f a) = callR f (rowOf s.rs a)
theorem Mrr.eqn {s u : Sc} {f : Nat → Nat} (W : Wf s) (m : Mrr s u f) : ∀ n, ∀ a ∈ s.keys, ∀ b ∈ s.keys, (Eqn u n (f a) (f b) ↔ Eqn s n a b)
  | 0, _, _, _, _ => Iff.rfl
  | n + 1, a, ha, b, hb => by
    show (Eqn u n _ _ ∧ ptw (Eqn u n) (rowOf u.rs _) (rowOf u.rs _)) ↔ (Eqn s n _ _ ∧ ptw (Eqn s n) _ _)
    rw [m.rs a ha, m.rs b hb, ptw_map]
    exact and_congr (m.eqn W n a ha b hb) ⟨fun h => ptw_imp (fun p hp q hq z => (m.eqn W n _ (row_keys W ha hp) _ (row_keys W hb hq)).mp z) h, fun h => ptw_imp (fun p hp q hq z => (m.eqn W n _ (row_keys W ha hp) _ (row_keys W hb hq)).mpr z) h⟩
theorem Mrr.reps {s u : Sc} {f : Nat → Nat} (W : Wf s) (V : Wf u) (m : Mrr s u f) : u.reps.length = s.reps.length := by
  have alk : ∀ a ∈ s.keys, ∀ b ∈ s.keys, (Alk u (f a) (f b) ↔ Alk s a b) := fun a ha b hb => forall_congr' fun n => m.eqn W n a ha b hb
  have inK : ∀ a ∈ s.keys, f a ∈ u.keys := fun a ha => (m.ks _).mpr ⟨a, ha, rfl⟩
  have le1 : s.reps.length ≤ u.reps.length := by
    have nd : (s.reps.map fun a => u.rep (f a)).Nodup := by
      refine List.pairwise_map.mpr (List.Pairwise.imp_of_mem ?_ (show s.reps.Pairwise (· ≠ ·) from ordL_nd))
      intro a b ha hb ne q
      have ha := (mem_reps W).mp ha
      have hb := (mem_reps W).mp hb
      have := (alk a ha.1 b hb.1).mp ((rep_eq (inK a ha.1) (inK b hb.1)).mp q)
      have := (rep_eq ha.1 hb.1).mpr this
      rw [ha.2, hb.2] at this
      exact ne this
    have := nat_nodup_len _ u.reps nd fun x hx => by
      obtain ⟨a, ha, rfl⟩ := List.mem_map.mp hx
      exact rep_in V (inK a ((mem_reps W).mp ha).1)
    rwa [List.length_map] at this
  have le2 : u.reps.length ≤ s.reps.length := by
    have nd : ((s.reps.map fun a => u.rep (f a))).length ≤ s.reps.length := by rw [List.length_map]; exact Nat.le_refl _
    refine Nat.le_trans (nat_nodup_len _ _ (show u.reps.Nodup from ordL_nd) fun x hx => ?_) nd
    have hx := (mem_reps V).mp hx
    obtain ⟨a, ha, e⟩ := (m.ks x).mp hx.1
    refine List.mem_map.mpr ⟨s.rep a, rep_in W ha, ?_⟩
    rw [← hx.2, ← e]
    exact (rep_eq (inK _ (rep_mem ha)) (inK a ha)).mpr ((alk _ (rep_mem ha) a ha).mpr (rep_alk ha))
  exact Nat.le_antisymm le2 le1
theorem row_srt {s : Sc} (W : Wf s) {l : Nat} (h : l ∈ s.keys) : rowOf s.srt.rs l = rowOf s.rs l :=
  rowOf_eq (show s.srt.keys.Nodup from W.srt.nd) ((mem_srt W).mpr (rowOf_in h))
/-- other names of the letters: as many letters in the least scheme -/
theorem ren_least {s : Sc} {f : Nat → Nat} (W : Ws s) (I : Inj s f) (h : ∀ l ∈ s.keys, 97 ≤ f l ∧ f l ≤ 122) : (s.ren f).srt.least.keys.length = s.least.keys.length := by
  have V := ren_wf W.toWf I h
  have V2 := V.srt
  have rowR : ∀ a ∈ s.keys, rowOf (s.ren f).srt.rs (f a) = callR f (rowOf s.rs a) := fun a ha => by
    rw [row_srt V (by rw [ren_keys]; exact List.mem_map.mpr ⟨a, ha, rfl⟩)]
    exact rowOf_eq V.nd (List.mem_map.mpr ⟨(a, rowOf s.rs a), rowOf_in ha, rfl⟩)
  have reach1 : ∀ l, Reach s.ax s.rs l → l ∈ s.keys ∧ Reach (s.ren f).srt.ax (s.ren f).srt.rs (f l) := fun l r => by
    induction r with
    | ax hp => exact ⟨(W.toWf.ax.2.2 _ hp).1, .ax (mem_callR (f := f) hp)⟩
    | @step l r p _ hr hp ih =>
      exact ⟨((W.rows _ hr).2.2 _ hp).1, .step ih.2 ((mem_srt V).mpr (List.mem_map.mpr ⟨(l, r), hr, rfl⟩)) (mem_callR (f := f) hp)⟩
  have reach2 : ∀ x, Reach (s.ren f).srt.ax (s.ren f).srt.rs x → ∃ l ∈ s.keys, f l = x ∧ Reach s.ax s.rs l := fun x r => by
    induction r with
    | ax hp =>
      obtain ⟨q, hq, rfl⟩ := List.mem_map.mp hp
      exact ⟨q.1, (W.toWf.ax.2.2 q hq).1, rfl, .ax hq⟩
    | @step x r p _ hr hp ih =>
      obtain ⟨l, hl, e, rl⟩ := ih
      obtain ⟨q, hq, e2⟩ := List.mem_map.mp ((mem_srt V).mp hr)
      have e3 : f q.1 = x := congrArg Prod.fst e2
      have e4 : callR f q.2 = r := congrArg Prod.snd e2
      have hqk : q.1 ∈ s.keys := List.mem_map.mpr ⟨q, hq, rfl⟩
      have : q.1 = l := I _ hqk _ hl (e3.trans e.symm)
      subst this
      rw [← e4] at hp
      obtain ⟨y, hy, rfl⟩ := List.mem_map.mp hp
      exact ⟨y.1, ((W.rows q hq).2.2 y hy).1, rfl, .step rl hq hy⟩
  have mem : ∀ l, l ∈ (s.ren f).srt.used ↔ ∃ a ∈ s.used, f a = l := fun l => by
    constructor
    · intro hl
      obtain ⟨a, ha, e, ra⟩ := reach2 l (mem_used.mp hl).2
      exact ⟨a, mem_used.mpr ⟨ha, ra⟩, e⟩
    · rintro ⟨a, ha, rfl⟩
      have := mem_used.mp ha
      exact mem_used.mpr ⟨by rw [mem_srtk V, ren_keys]; exact List.mem_map.mpr ⟨a, this.1, rfl⟩, (reach1 a this.2).2⟩
  have m : Mrr s.spare (s.ren f).srt.spare f := {
    ks := fun l => by rw [spare_keys, spare_keys]; exact mem l
    ax := rfl
    rs := fun a ha => by
      rw [spare_keys] at ha
      rw [row_spare V2 ((mem _).mpr ⟨a, ha, rfl⟩), rowR a (mem_used.mp ha).1, row_spare W ha] }
  show (s.ren f).srt.spare.fold.keys.length = s.spare.fold.keys.length
  rw [fold_keys, fold_keys]
  exact m.reps W.spare.toWf V2.spare.toWf
end G81
set_option maxRecDepth 100000
set_option maxHeartbeats 2000000
/-! other names of the letters: the walk -/
namespace G81
open PySem PySem.Spec PyProof.Rows L2 SlX
open SX (S)
variable {P : Program} {w : World} {K : PySem.W.Frag} {mg : Str → Option Value} {base : Heap}
theorem dLet_inj {a b : Nat} (h : dLet a = dLet b) : a = b := lt_inj (D.txt.inj h)
theorem setOf_len {l m : List D} (h : SetOf l m) (nd : m.Nodup) : l.length = m.length := ((List.perm_ext_iff_of_nodup h.1 nd).mpr h.2).length_eq
theorem map_nd {α β : Type} {f : α → β} {l : List α} (nd : l.Nodup) (h : ∀ a ∈ l, ∀ b ∈ l, f a = f b → a = b) : (l.map f).Nodup :=
  List.pairwise_map.mpr (List.Pairwise.imp_of_mem (fun ha hb ne q => ne (h _ ha _ hb q)) nd)
theorem keys_len {s : Sc} (W : Wf s) : s.keys.length ≤ 6 := by unfold Sc.keys; rw [List.length_map]; exact W.len.2
theorem sc55 : FnScope ["scheme", "value", "letter"] ["scheme", "value"] (defScope (topS 55)) := ⟨rfl, rfl, rfl, by decide +kernel, rfl, by decide +kernel, by decide +kernel⟩
theorem sc56 : FnScope ["scheme", "letters", "rules", "letter"] ["scheme", "letters"] (defScope (topS 56)) := ⟨rfl, rfl, rfl, by decide +kernel, rfl, by decide +kernel, by decide +kernel⟩
def Ren (s : Sc) (f : Nat → Nat) : Prop := Inj s f ∧ ∀ l ∈ s.keys, 97 ≤ f l ∧ f l ≤ 122
noncomputable def r_is_renaming (K : PySem.W.Frag) : RD := fun ds P => ∃ (s : Sc) (f : Nat → Nat), ds = [dSch K s, dMap s.keys f] ∧ Wf s ∧ Ren s f ∧ P = Is (.bl true)
theorem w_is_renaming (T : Tx K mg) : Cal P w K mg base 4 "is_renaming" (r_is_renaming K) :=
  calD T.d_is_renaming sc55 (by rintro ds P ⟨n, f, rfl, _⟩; rfl) fun cdv A outer s' H E hr c ds Pd hR => by
    have nd := sc55.nd
    obtain ⟨s, f, rfl, W, R, rfl⟩ := hR
    have k6 := keys_len W
    have vlen : ∀ {X : Cx} {j : Nat} {c : Fm} {δ : List Cell} {a : Expr} {pos p : Pos} (T : Tx X.K X.mg) (hr : Room j X.A) (hk : 2 ≤ j) (h : PV X c δ a (dSch X.K s)) (hs : starEach [a] X.env = (false, eval a X.env) :: starEach [] X.env) (hg : Gl X "len") (hpl : (backTo pos (starEach [] X.env)).any (·.1) = false), PV X c δ (.Call (.Name "len" p) [a] [] pos) (.int (s.keys.length : Nat)) :=
      fun T hr hk h hs hg hpl => v_lenO T T.m_Scheme_len (w_Scheme_len T) hr hk h ⟨s, rfl, rfl⟩ (by omega) (by omega) hs hg hpl
    refine pb_ifRet (ptx_eq (ptx_bo (pwv_or (ptv_not (ptv_val (v_isD T (pvv 1)))) fun _ => pwx_or1 (ptv_cmp op_ne (v_lenD T (pvv 1)) (vlen T hr (by decide) (pvv 0) rfl rfl rfl) l_neI))) (k' := false) ?_) (fun h => nomatch h) fun _ => ?_
    · rw [List.length_map]; simp
    refine pb_ifRet (ptx_eq (ptv_not (ptv_val (v_all T (bs := s.keys.map fun _ => true) (pv_eq (pv_n (lcN (xs := s.keys) (emb := dLet) (f := fun _ => D.bl true) 2 [("letter", 2)] (PIX.mono (pix_ownK (pvv 0) T.m_Scheme_iter.at_ T.m_Scheme_iter.fn (w_Scheme_iter T) hr (by decide) rfl) fun ds e => by rw [e, keys_txt]) (fun _ _ => rfl) (fun _ _ _ _ _ x _ hx => ?_) nd)) (by rw [List.map_map]; rfl))))) (k' := false) ?_) (fun h => nomatch h) fun _ => ?_
    · refine pv_eq (pv_and (pv_din (ru hr) (pvv 2) (pvv 1) .dct) fun _ => pv_one (pv_call (w_is_letter T) hr (by decide) rfl (pvs_cons (pv_dget (ru hr) (pvv 1) .dct (pvv 2) (look_int (g := fun l => dLet (f l)) hx)) pvs_nil) ⟨f x, rfl, R.2 x hx, rfl⟩)) ?_
      rw [look_int (g := fun l => dLet (f l)) hx]
      rfl
    · rw [all_true]; rfl
    refine pb_ret (P := Is (.bl true)) .refl (px_cmp op_eq (v_lenSet T (v_setF T hr (PX.mono (pv_n (pn_listVals T.n_list (pvv 1))) fun x e => .inl e) (by rw [List.length_map]; omega) fun d hd => ?_)) (vlen T hr (by decide) (pvv 0) rfl rfl rfl) fun d e h1 h2 => ?_) fun _ h => h
    · obtain ⟨l, _, rfl⟩ := List.mem_map.mp hd
      exact .inl ⟨_, rfl⟩
    · obtain ⟨l, hl, rfl⟩ := h1
      cases (show e = _ from h2)
      have e2 := setOf_len hl (map_nd W.nd fun a ha b hb q => R.1 a ha b hb (dLet_inj q))
      rw [List.length_map] at e2
      rw [e2]
      have := l_eqI (k := ⟨K, w⟩) (c := c) (i := (s.keys.length : Nat)) (j := (s.keys.length : Nat))
      rw [decide_eq_true rfl] at this
      exact this
noncomputable def r_renamed_scheme (K : PySem.W.Frag) : RD := fun ds P => ∃ (s : Sc) (f : Nat → Nat), ds = [dSch K s, dMap s.keys f] ∧ Wf s ∧ Ren s f ∧ P = Is (dSch K (s.ren f).srt)
theorem w_renamed_scheme (T : Tx K mg) : Cal P w K mg base 12 "renamed_scheme" (r_renamed_scheme K) :=
  calD T.d_renamed_scheme sc56 (by rintro ds P ⟨n, f, rfl, _⟩; rfl) fun cdv A outer s' H E hr c ds Pd hR => by
    have nd := sc56.nd
    obtain ⟨s, f, rfl, W, R, rfl⟩ := hR
    have V := ren_wf W R.1 R.2
    refine pb_expr (pv_call (w_require_scheme T) hr (by decide) rfl (pvs_cons (pvv 0) pvs_nil) ⟨s, rfl, rfl⟩) ?_
    refine pb_ifRet (ptv_not (ptv_val (pv_call (w_is_renaming T) hr (by decide) rfl (pvs_cons (pvv 0) (pvs_cons (pvv 1) pvs_nil)) ⟨s, f, rfl, W, R, rfl⟩))) (fun h => nomatch h) fun _ => ?_
    refine pb_setDc (xs := s.rs) (emb := fun p : Nat × Row => dLet p.1) (kf := fun p => lt (f p.1)) (vf := fun p => dRow (callR f p.2)) (i := 2) (.nm 3) [("letter", 3)] (PIX.mono (pix_ownK (pvv 0) T.m_Scheme_iter.at_ T.m_Scheme_iter.fn (w_Scheme_iter T) hr (by decide) rfl) fun ds e => by rw [e, keys_txt]; unfold Sc.keys; rw [List.map_map]; rfl) (fun _ _ => rfl) (blkOk_by (by rfl)) (by intros; exact pgx_nm (by assumption) rfl (by first | exact Or.inl rfl | exact Or.inr rfl)) (fun _ _ _ _ _ x _ hx => ?_) (fun _ _ _ _ _ x _ hx => ?_) nd ?_ fun c' y sy => ?_
    · exact pv_dget (ru hr) (pvv 1) .dct (pvv 3) (look_int (g := fun l => dLet (f l)) (List.mem_map.mpr ⟨x, hx, rfl⟩))
    · exact pv_call (w_called T) hr (by decide) rfl (pvs_cons (v_prop (v_rule T hr (by decide) (pvv 0) (pvv 3) W.nd hx .name) T.c_Rule.1 T.p_Rule_row (w_Rule_row T) hr (by decide) ⟨s.sq, x.2, rfl, rfl⟩) (pvs_cons (pvv 1) pvs_nil)) ⟨x.2, s.keys, f, rfl, fun q hq => ((W.rows x hx).2.2 q hq).1, rfl⟩
    · have := map_nd (f := fun l => lt (f l)) W.nd fun a ha b hb q => R.1 a ha b hb (lt_inj q)
      unfold Sc.keys at this
      rw [List.map_map] at this
      exact this
    obtain ⟨fk, l, hl, rfl, rfl⟩ := sy
    refine pb_lock 2 fk hl rfl (by simp [offAll, startD, Cell.adr]) ?_
    refine pb_ret (P := Is (dSch K (s.ren f).srt)) .refl (px_mk (k_Scheme T) hr (by decide) rfl (pvs_cons (v_prop (pvv 0) T.c_Scheme.1 T.p_Scheme_grid (w_Scheme_grid T) hr (by decide) ⟨s, rfl, rfl⟩) (pvs_cons (pv_call (w_called T) hr (by decide) rfl (pvs_cons (v_prop (pvv 0) T.c_Scheme.1 T.p_Scheme_axiom (w_Scheme_axiom T) hr (by decide) ⟨s, rfl, rfl⟩) (pvs_cons (pvv 1) pvs_nil)) ⟨s.ax, s.keys, f, rfl, fun q hq => (W.ax.2.2 q hq).1, rfl⟩) (pvs_cons (pvv 2) pvs_nil))) fun ds e => ⟨_, ⟨s.ren f, ?_, V, rfl⟩, fun ss e => ?_⟩) fun _ h => h
    · rw [e]
      unfold dRls Sc.ren
      rw [List.map_map, List.map_map]
      rfl
    · rw [show ss = _ from e]
      rfl
end G81
set_option maxRecDepth 100000
set_option maxHeartbeats 2000000
/-! letters with the same sequel: what the rounds tell, plainly; sorted of nested data -/
namespace G81
open PySem PySem.Spec PyProof.Rows L2 SlX
open SX (S)
/-- what a round tells of a letter -/
def toldD (s : Sc) (mk : Nat → Nat) (l : Nat) : D := .tup [.int (mk l : Nat), .tup ((rowOf s.rs l).map fun p => .int (p.2 : Nat)), .tup ((rowOf s.rs l).map fun p => .int (mk p.1 : Nat))]
/-- marks tell the classes at n -/
def Marks (s : Sc) (n : Nat) (mk : Nat → Nat) : Prop := ∀ a ∈ s.keys, ∀ b ∈ s.keys, (mk a = mk b ↔ Eqn s n a b)
theorem int_inj {a b : Nat} (h : D.int (a : Nat) = D.int (b : Nat)) : a = b := by
  have := D.int.inj h
  omega
theorem ints_inj {α : Type} {f g : α → Nat} : ∀ {l m : List α}, (l.map fun p => D.int (f p : Nat)) = (m.map fun p => D.int (g p : Nat)) ↔ l.map f = m.map g
  | [], [] => ⟨fun _ => rfl, fun _ => rfl⟩
  | [], _ :: _ => ⟨(fun h => nomatch h), (fun h => nomatch h)⟩
  | _ :: _, [] => ⟨(fun h => nomatch h), (fun h => nomatch h)⟩
  | x :: l, y :: m => by
    simp only [List.map_cons, List.cons.injEq, ints_inj (f := f) (g := g) (l := l) (m := m)]
    exact ⟨fun ⟨a, b⟩ => ⟨int_inj a, b⟩, fun ⟨a, b⟩ => ⟨by rw [a], b⟩⟩
theorem told_iff {s : Sc} (W : Wf s) {n : Nat} {mk : Nat → Nat} (M : Marks s n mk) {a b : Nat} (ha : a ∈ s.keys) (hb : b ∈ s.keys) : toldD s mk a = toldD s mk b ↔ Eqn s (n + 1) a b := by
  have e1 : toldD s mk a = toldD s mk b ↔ (mk a = mk b ∧ (rowOf s.rs a).map (·.2) = (rowOf s.rs b).map (·.2) ∧ (rowOf s.rs a).map (fun p => mk p.1) = (rowOf s.rs b).map (fun p => mk p.1)) := by
    unfold toldD
    simp only [D.tup.injEq, List.cons.injEq, and_true]
    rw [ints_inj, ints_inj]
    exact and_congr ⟨int_inj, fun h => by rw [h]⟩ Iff.rfl
  rw [e1, told_eq, ← ptw_eq]
  show _ ↔ (Eqn s n a b ∧ ptw (Eqn s n) (rowOf s.rs a) (rowOf s.rs b))
  refine and_congr (M a ha b hb) ⟨fun h => ptw_imp (fun p hp q hq z => (M _ (row_keys W ha hp) _ (row_keys W hb hq)).mp z) h, fun h => ptw_imp (fun p hp q hq z => (M _ (row_keys W ha hp) _ (row_keys W hb hq)).mpr z) h⟩
/-- how many values there are -/
theorem vals_len {s : Sc} (W : Wf s) {n : Nat} {f : Nat → D} (M : ∀ a ∈ s.keys, ∀ b ∈ s.keys, (f a = f b ↔ Eqn s n a b)) {l : List D} (h : SetOf l (s.keys.map f)) : l.length = (firsts s n).length := by
  have fk : ∀ a ∈ firsts s n, a ∈ s.keys := fun a ha => (mem_firsts.mp ha).1
  have nd : ((firsts s n).map f).Nodup := map_nd (firsts_nd W n) fun a ha b hb e => by
    have q := (M a (fk a ha) b (fk b hb)).mp e
    have h1 := mem_firsts.mp ha
    have h2 := mem_firsts.mp hb
    exact Nat.le_antisymm (h1.2 b h2.1 q.symm) (h2.2 a h1.1 q)
  have mem : ∀ x, x ∈ l ↔ x ∈ (firsts s n).map f := fun x => by
    rw [h.2, List.mem_map, List.mem_map]
    constructor
    · rintro ⟨a, ha, rfl⟩
      obtain ⟨p, hp, e⟩ := first_of (n := n) ha
      exact ⟨p, hp, (M p (fk p hp) a ha).mpr e⟩
    · rintro ⟨a, ha, rfl⟩
      exact ⟨a, fk a ha, rfl⟩
  have := ((List.perm_ext_iff_of_nodup h.1 nd).mpr mem).length_eq
  rwa [List.length_map] at this
theorem firsts_le {s : Sc} (n : Nat) : (firsts s n).length ≤ s.keys.length := by unfold firsts; exact List.length_filter_le _ _
theorem firsts_grow {s : Sc} (W : Wf s) (n : Nat) : (firsts s n).length ≤ (firsts s (n + 1)).length := nat_nodup_len _ _ (firsts_nd W n) (firsts_up n)
/-! places in a list -/
open Classical in
noncomputable def ixD (l : List D) (d : D) : Nat := if h : ∃ j, l[j]? = some d then choose h else 0
theorem ixD_at {l : List D} {d : D} (h : d ∈ l) : l[ixD l d]? = some d := by
  obtain ⟨j, hj⟩ := List.mem_iff_getElem?.mp h
  have q : ∃ j, l[j]? = some d := ⟨j, hj⟩
  unfold ixD
  rw [dif_pos q]
  exact Classical.choose_spec q
theorem ixD_eq {l : List D} {d e : D} (hd : d ∈ l) (he : e ∈ l) : ixD l d = ixD l e ↔ d = e := by
  constructor
  · intro h
    have h1 := ixD_at hd
    rw [h, ixD_at he] at h1
    exact (Option.some.inj h1).symm
  · intro h; rw [h]
theorem ixD_first {l : List D} {d : D} (nd : l.Nodup) (h : d ∈ l) : ∀ i, i < ixD l d → l[i]? ≠ some d := fun i hi e => by
  have h1 := ixD_at h
  obtain ⟨b1, e1⟩ := List.getElem?_eq_some_iff.mp e
  obtain ⟨b2, e2⟩ := List.getElem?_eq_some_iff.mp h1
  have := (List.pairwise_iff_getElem.mp nd) i (ixD l d) b1 b2 hi
  exact this (e1.trans e2.symm)
/-- the first letter of the class -/
theorem filter_rep {s : Sc} (W : Ws s) {q : Nat → Bool} {a : Nat} (ha : a ∈ s.keys) (h : ∀ o ∈ s.keys, (q o = true ↔ Alk s o a)) : ∃ r, s.keys.filter q = s.rep a :: r ∧ ∀ m ∈ r, s.rep a ≤ m := by
  have f0 : s.keys.filter q = s.keys.filter fun o => @decide (Alk s o a) (Classical.propDecidable _) := List.filter_congr fun o ho => by
    rw [Bool.eq_iff_iff, h o ho]
    exact ⟨fun z => @decide_eq_true _ (Classical.propDecidable _) z, fun z => @of_decide_eq_true _ (Classical.propDecidable _) z⟩
  have ord : (s.keys.filter q).Pairwise (· < ·) := List.Pairwise.filter _ W.ord
  cases e : s.keys.filter q with
  | nil => exact absurd (List.mem_filter.mpr ⟨ha, (h a ha).mpr (Alk.refl s a)⟩) (by rw [e]; exact fun z => nomatch z)
  | cons x r =>
    have hx : s.rep a = x := by
      unfold Sc.rep
      rw [← List.head?_filter, ← f0, e]
      rfl
    refine ⟨r, by rw [hx], fun m hm => ?_⟩
    rw [hx]
    rw [e] at ord
    exact Nat.le_of_lt ((List.pairwise_cons.mp ord).1 m hm)
/-! facts about what is told -/
theorem nd_ints : ∀ {l : List D} {n : Nat}, (∀ d ∈ l, ∃ i, d = .int i) → Nds l n
  | [], _, _ => trivial
  | d :: l, n, h => by
    obtain ⟨i, rfl⟩ := h d List.mem_cons_self
    exact ⟨trivial, nd_ints fun x hx => h x (List.mem_cons_of_mem _ hx)⟩
theorem dq_ints : ∀ {l : List D} {n : Nat}, (∀ d ∈ l, ∃ i, d = .int i) → Dqs l n
  | [], _, _ => trivial
  | d :: l, n, h => by
    obtain ⟨i, rfl⟩ := h d List.mem_cons_self
    exact ⟨trivial, dq_ints fun x hx => h x (List.mem_cons_of_mem _ hx)⟩
theorem map_int {α : Type} {f : α → Int} {l : List α} : ∀ d ∈ l.map fun p => D.int (f p), ∃ i, d = .int i := fun d hd => by
  obtain ⟨x, _, rfl⟩ := List.mem_map.mp hd
  exact ⟨_, rfl⟩
theorem told_nd {s : Sc} {mk : Nat → Nat} (l : Nat) : Nd (toldD s mk l) 8 := ⟨trivial, nd_ints map_int, nd_ints map_int, trivial⟩
theorem told_dq {s : Sc} {mk : Nat → Nat} (l : Nat) : Dq (toldD s mk l) 2 := ⟨trivial, dq_ints map_int, dq_ints map_int, trivial⟩
theorem alike_ints : ∀ {l m : List D}, (∀ d ∈ l, ∃ i, d = .int i) → (∀ d ∈ m, ∃ i, d = .int i) → PySem.W.alikeAll (pys l) (pys m) = true
  | [], _, _, _ => by rw [pys, PySem.W.alikeAll]
  | d :: l, [], _, _ => by rw [pys, pys, PySem.W.alikeAll]
  | d :: l, e :: m, h, k => by
    obtain ⟨i, rfl⟩ := h d List.mem_cons_self
    obtain ⟨j, rfl⟩ := k e List.mem_cons_self
    rw [pys, pys, PySem.W.alikeAll, alike_ints (fun x hx => h x (List.mem_cons_of_mem _ hx)) (fun x hx => k x (List.mem_cons_of_mem _ hx)), Bool.and_true]
    rfl
theorem told_alike {s : Sc} {mk : Nat → Nat} (a b : Nat) : PySem.W.alike (toldD s mk a).py (toldD s mk b).py = true := by
  unfold toldD
  simp only [D.py, pys, PySem.W.alike, PySem.W.alikeAll]
  rw [alike_ints map_int map_int, alike_ints map_int map_int]
  rfl
section
variable {X : Cx} (T : Tx X.K X.mg) {c : Fm} {δ : List Cell} {a : Expr} {pos p : Pos} {j n : Nat} {ds : List D}
include T
/-- sorted(a set of nested tuples) -/
theorem n_sortN (hr : Room j X.A) (h : PX X c δ a (IsSet ds)) (hd : ∀ d ∈ ds, Nd d n ∧ ∃ x r, d.py = .tuple (x :: r)) (hk : ∀ d ∈ ds, ∀ e ∈ ds, PySem.W.alike d.py e.py = true) (hn : n ≤ 8) (hc : X.calm = true := by rfl) (hs : starEach [a] X.env = (false, eval a X.env) :: starEach [] X.env := by rfl) (hg : Gl X "sorted" := by rfl) (hpl : (backTo pos (starEach [] X.env)).any (·.1) = false := by rfl) : PN X c δ (.Call (.Name "sorted" p) [a] [] pos) (fun l => SetOf l ds) :=
  pn_cB (As := fun m => ∃ d, IsSet ds d ∧ m = [d]) (cr_sortN hc (ru hr)) T.n_sorted bb_sorted (pxs_one h hs) (fun m ⟨d, q, e⟩ => by
    subst e
    obtain ⟨l, rfl, h1, h2⟩ := q
    exact fun vs H Q b a w => ln_sortN (fun d m => hd d ((h2 d).mp m)) (fun d m e m' => hk d ((h2 d).mp m) e ((h2 e).mp m')) hn vs H Q b a fun a H' xs ds pm => w a H' xs ds ⟨(pm.nodup_iff).mpr h1, fun x => (pm.mem_iff).trans (h2 x)⟩) hg (by decide) (by decide) hs hpl
end
end G81
set_option maxRecDepth 100000
set_option maxHeartbeats 4000000
/-! sequels_alike: the walk -/
namespace G81
open PySem PySem.Spec PyProof.Rows L2 SlX
open SX (S)
variable {P : Program} {w : World} {K : PySem.W.Frag} {mg : Str → Option Value} {base : Heap}
theorem sc58 : FnScope ["scheme", "letter", "marks", "told", "turns", "kinds", "later", "other", "turn"] ["scheme"] (defScope (topS 58)) := ⟨rfl, rfl, rfl, by decide +kernel, rfl, by decide +kernel, by decide +kernel⟩
noncomputable def r_sequels_alike (K : PySem.W.Frag) : RD := fun ds P => ∃ s : Sc, ds = [dSch K s] ∧ Ws s ∧ P = Is (dMap s.keys s.rep)
theorem dCnt_vals (s : Sc) (g : Nat → Nat) : dCnt s g = .dct (s.keys.map lt) (s.keys.map fun l => .int (g l : Nat)) := rfl
theorem w_sequels_alike (T : Tx K mg) : Cal P w K mg base 5 "sequels_alike" (r_sequels_alike K) :=
  calD T.d_sequels_alike sc58 (by rintro ds P ⟨n, rfl, _⟩; rfl) fun cdv A outer s' H E hr c ds Pd hR => by
    have nd := sc58.nd
    obtain ⟨s, rfl, W, rfl⟩ := hR
    have W0 := W.toWf
    have k6 := keys_len W0
    have ltnd : (s.keys.map lt).Nodup := map_nd W0.nd fun a _ b _ q => lt_inj q
    refine pb_setC 2 (cx_k (pk_dc (xs := s.keys) (emb := dLet) (kf := lt) (vf := fun _ => .int 0) (.nm 1) [("letter", 1)] (PIX.mono (pix_ownK (pvv 0) T.m_Scheme_iter.at_ T.m_Scheme_iter.fn (w_Scheme_iter T) hr (by decide) rfl) fun ds e => by rw [e, keys_txt]) (fun _ _ => rfl) (blkOk_by (by rfl)) (by intros; exact pgx_nm (by assumption) rfl (by first | exact Or.inl rfl | exact Or.inr rfl)) (fun _ _ _ _ _ x _ hx => pvv 1) (fun _ _ _ _ _ x _ hx => pv_int) nd ltnd)) (fun c' y sy => ?_) nd
    obtain ⟨fk, l0, hl0, rfl, rfl⟩ := sy
    refine pb_lock 2 fk hl0 rfl (by simp [offAll, startD, Cell.adr]) ?_
    refine pb_while (B := fun _ _ b => b = true) (fun m δ' => ∃ (n : Nat) (mk : Nat → Nat) (x1 x3 x4 x5 x6 : Cell), (x1.adr = [] ∧ x3.adr = [] ∧ x4.adr = [] ∧ x5.adr = [] ∧ x6.adr = []) ∧ Marks s n mk ∧ m = 7 - (firsts s n).length ∧ δ' = [.d (dSch K s), x1, .d (dCnt s mk), x3, x4, x5, x6, .no, .no]) PassesOwn.never _ ⟨0, fun _ => 0, .no, .no, .no, .no, .no, ⟨rfl, rfl, rfl, rfl, rfl⟩, fun a _ b _ => ⟨fun _ => trivial, fun _ => rfl⟩, rfl, rfl⟩ ?_ ?_ ?_
    · rintro m δ' _
      exact ptv_val pv_bl
    · rintro m δ' ⟨n, mk, x1, x3, x4, x5, x6, ⟨h1, h3, h4, h5, h6⟩, M, rfl, rfl⟩ _
      -- told = {}
      refine pb_setC 3 cx_dict (fun c' y sy => ?_) nd
      obtain ⟨fk1, l1, hl1, rfl, rfl⟩ := sy
      have offK : ∀ {x y : Cell} {ks : List Str} {ds : List D}, x.adr = [] → y.adr = [] → offAll l1 (([.d (dSch K s), x, .d (dCnt s mk), .owk l1 ks ds, y, x5, x6, .no, .no] : List Cell).set 3 .no) := fun hx hy => by
        simp only [offAll, hx, hy, h5, h6, List.set_cons_zero, List.set_cons_succ]
        simp [Cell.adr]
      refine pb_for (t := .nm 1) (emb := dLet) (xs := s.keys) (fun i δ' => ∃ x y : Cell, x.adr = [] ∧ y.adr = [] ∧ δ' = [.d (dSch K s), x, .d (dCnt s mk), .owk l1 ((s.keys.take i).map lt) ((s.keys.take i).map (toldD s mk)), y, x5, x6, .no, .no]) PassesOwn.never rfl (PIX.mono (pix_ownK (pvv 0) T.m_Scheme_iter.at_ T.m_Scheme_iter.fn (w_Scheme_iter T) hr (by decide) rfl) fun ds e => by rw [e, keys_txt]) (pgx_nm nd rfl (.inl rfl)) ⟨x1, x4, h1, h4, rfl⟩ ?_ ?_
      · rintro i a δ' ha ⟨x, y, hx, hy, rfl⟩
        refine ⟨_, rfl, ?_⟩
        have hak : a ∈ s.keys := List.mem_of_getElem? ha
        have hin := rowOf_in hak
        have tk : s.keys.take (i + 1) = s.keys.take i ++ [a] := by rw [List.take_succ, ha]; rfl
        have nin : a ∉ s.keys.take i := fun z => by
          have := W0.nd
          rw [← List.take_append_drop (i + 1) s.keys, tk] at this
          exact (List.nodup_append.mp (List.nodup_append.mp this).1).2.2 a z a List.mem_cons_self rfl
        refine pv_set 4 nd rfl (.inl rfl) (v_tupL T (pv_n (lcP (xs := rowOf s.rs a) (emb := dIt) (f := fun p : It2 => D.int (p.2 : Nat)) 7 8 [("other", 7), ("turn", 8)] (pix_ownT (v_rule (p := (a, rowOf s.rs a)) T hr (by decide) (pvv 0) (pvv 1) W0.nd hin .name) T.m_Rule_iter.at_ T.m_Rule_iter.fn (w_Rule_iter T) hr (by decide) rfl) (fun _ _ => rfl) (fun _ _ _ _ _ x _ hx => pvv 8) nd))) ?_
        refine pb_dput (P := Is (toldD s mk a)) 3 (ru hr) rfl (pv_tup (pvs_cons (pv_dget (ru hr) (pvv 2) .dct (pvv 1) (look_int (g := fun l => D.int (mk l : Nat)) hak)) (pvs_cons (pvv 4) (pvs_cons (v_tupL T (pv_n (lcP (xs := rowOf s.rs a) (emb := dIt) (f := fun p : It2 => D.int (mk p.1 : Nat)) 7 8 [("other", 7), ("turn", 8)] (pix_ownT (v_rule (p := (a, rowOf s.rs a)) T hr (by decide) (pvv 0) (pvv 1) W0.nd hin .name) T.m_Rule_iter.at_ T.m_Rule_iter.fn (w_Rule_iter T) hr (by decide) rfl) (fun _ _ => rfl) (fun _ _ _ _ _ x _ hx => pv_dget (ru hr) (pvv 2) .dct (pvv 7) (look_int (g := fun l => D.int (mk l : Nat)) (row_keys W0 hak hx))) nd))) pvs_nil)))) (pvv 1) (offK rfl rfl) ?_ fun d hd => ?_
        · rw [List.length_map]
          have : (s.keys.take i).length ≤ s.keys.length := by rw [List.length_take]; omega
          exact Nat.lt_of_le_of_lt (show _ ≤ 6 by omega) (by decide)
        · cases (show d = _ from hd)
          rw [put_new (g := toldD s mk) nin, ← tk]
          exact pb_end ⟨_, _, rfl, rfl, rfl⟩
      · rintro δ' ⟨x, y, hx, hy, rfl⟩
        rw [List.take_length]
        refine pb_lock 3 fk1 hl1 rfl (offK hx hy) ?_
        have tl : (s.keys.map (toldD s mk)).length < 63 := by rw [List.length_map]; omega
        -- kinds = sorted(set(list(told.values())))
        refine pb_set 5 (P := fun d => ∃ kd, d = .lst kd ∧ SetOf kd (s.keys.map (toldD s mk))) nd rfl (.inr rfl) (px_n (n_sortN T (n := 8) hr (v_setN T hr (PX.mono (pv_n (pn_listVals T.n_list (pvv 3))) fun x e => .inl e) tl fun d hd => ?_) (fun d hd => ?_) (fun d hd e he => ?_) (by decide)) fun l h => ⟨l, rfl, h⟩) fun d hd => ?_
        · obtain ⟨a, _, rfl⟩ := List.mem_map.mp hd
          exact ⟨told_nd a, _, rfl⟩
        · obtain ⟨a, _, rfl⟩ := List.mem_map.mp hd
          exact ⟨told_nd a, _, _, rfl⟩
        · obtain ⟨a, _, rfl⟩ := List.mem_map.mp hd
          obtain ⟨b, _, rfl⟩ := List.mem_map.mp he
          exact told_alike a b
        obtain ⟨kd, rfl, hkd⟩ := hd
        have inKd : ∀ a ∈ s.keys, toldD s mk a ∈ kd := fun a ha => (hkd.2 _).mpr (List.mem_map.mpr ⟨a, ha, rfl⟩)
        have dqKd : Dqs kd 2 := Dqs.all fun d hd => by
          obtain ⟨a, _, rfl⟩ := List.mem_map.mp ((hkd.2 d).mp hd)
          exact told_dq a
        have M2 : Marks s (n + 1) fun l => ixD kd (toldD s mk l) := fun a ha b hb => (ixD_eq (inKd a ha) (inKd b hb)).trans (told_iff W0 M ha hb)
        -- later = {..}
        refine pb_setC 6 (cx_k (pk_dc (xs := s.keys) (emb := dLet) (kf := lt) (vf := fun l => .int (ixD kd (toldD s mk l) : Nat)) (.nm 1) [("letter", 1)] (PIX.mono (pix_ownK (pvv 0) T.m_Scheme_iter.at_ T.m_Scheme_iter.fn (w_Scheme_iter T) hr (by decide) rfl) fun ds e => by rw [e, keys_txt]) (fun _ _ => rfl) (blkOk_by (by rfl)) (by intros; exact pgx_nm (by assumption) rfl (by first | exact Or.inl rfl | exact Or.inr rfl)) (fun _ _ _ _ _ x _ hx => pvv 1) (fun _ _ _ _ _ a _ ha => pv_indexD (n := 2) (m := 2) (ru hr) (pvv 5) (pv_dget (ru hr) (pvv 3) .dct (pvv 1) (look_int (g := toldD s mk) ha)) (told_dq a) dqKd (by decide) (by decide) (ixD_at (inKd a ha)) (ixD_first hkd.1 (inKd a ha))) nd ltnd)) (fun c' y2 sy => ?_) nd
        obtain ⟨fk2, l2, hl2, rfl, rfl⟩ := sy
        refine pb_lock 6 fk2 hl2 rfl (by simp only [offAll, hx, hy, List.set_cons_zero, List.set_cons_succ]; simp [Cell.adr]) ?_
        -- if len(kinds) == len(set(list(marks.values()))): break
        refine pb_ifRet (B := fun b => b = decide ((firsts s (n + 1)).length = (firsts s n).length)) (ptx_cmp op_eq (v_lenL T (pvv 5)) (v_lenSet T (v_setF T hr (PX.mono (pv_n (pn_listVals T.n_list (pvv 2))) fun x e => .inl e) (by rw [List.length_map]; omega) fun d hd => ?_)) fun d e h1 h2 => ?_) (fun hB => ?_) (fun hB => ?_) (.inl rfl)
        · obtain ⟨a, _, rfl⟩ := List.mem_map.mp hd
          exact .inr ⟨_, rfl⟩
        · obtain ⟨l, hl, rfl⟩ := h2
          cases (show d = _ from h1)
          have e1 := vals_len W0 (n := n + 1) (f := toldD s mk) (fun a ha b hb => told_iff W0 M ha hb) hkd
          have e2 := vals_len W0 (n := n) (f := fun l => D.int (mk l : Nat)) (fun a ha b hb => ⟨fun q => (M a ha b hb).mp (int_inj q), fun q => by rw [(M a ha b hb).mpr q]⟩) hl
          rw [e1, e2]
          intro v w' H' Q b a1 a2 q
          refine l_eqI (k := ⟨K, w⟩) (c := c) v w' H' Q b a1 a2 fun z H2 d hd r a => q z H2 d ⟨_, hd, ?_⟩ r a
          show decide _ = decide _
          rw [Bool.eq_iff_iff, decide_eq_true_eq, decide_eq_true_eq]
          omega
        · -- break: the answer
          have st : Stab s n := firsts_stab W0 (by have := of_decide_eq_true hB.symm; omega)
          have al : ∀ a ∈ s.keys, ∀ o ∈ s.keys, (ixD kd (toldD s mk o) = ixD kd (toldD s mk a) ↔ Alk s o a) := fun a ha o ho => (M2 o ho a ha).trans ⟨fun q => (st.up W0).all W0 ho ha q, fun q => q _⟩
          refine pb_break rfl ?_
          refine pb_ret (P := Is (dMap s.keys s.rep)) .refl (px_k (pk_dc (xs := s.keys) (emb := dLet) (kf := lt) (vf := fun l => dLet (s.rep l)) (.nm 1) [("letter", 1)] (PIX.mono (pix_ownK (pvv 0) T.m_Scheme_iter.at_ T.m_Scheme_iter.fn (w_Scheme_iter T) hr (by decide) rfl) fun ds e => by rw [e, keys_txt]) (fun _ _ => rfl) (blkOk_by (by rfl)) (by intros; exact pgx_nm (by assumption) rfl (by first | exact Or.inl rfl | exact Or.inr rfl)) (fun _ _ _ _ _ x _ hx => pvv 1) (fun _ _ _ _ _ a _ ha => ?_) nd ltnd)) fun _ h => h
          obtain ⟨r, hr1, hr2⟩ := filter_rep W (q := fun o => decide (((ixD kd (toldD s mk o) : Nat) : Int) = ((ixD kd (toldD s mk a) : Nat) : Int))) ha fun o ho => by
            rw [decide_eq_true_eq, ← al a ha o ho]
            omega
          refine v_minLet T hr (pv_eq (pv_n (pvn_lcf (xs := s.keys) (emb := dLet) (f := dLet) (q := fun o => decide (((ixD kd (toldD s mk o) : Nat) : Int) = ((ixD kd (toldD s mk a) : Nat) : Int))) (.nm 7) [("other", 7)] (PIX.mono (pix_ownK (pvv 0) T.m_Scheme_iter.at_ T.m_Scheme_iter.fn (w_Scheme_iter T) hr (by decide) rfl) fun ds e => by rw [e, keys_txt]) (fun _ _ => rfl) (blkOk_by (by rfl)) (by intros; exact pgx_nm (by assumption) rfl (by first | exact Or.inl rfl | exact Or.inr rfl)) (fun _ _ _ _ _ o _ ho => ptv_cmp op_eq (pv_dget (ru hr) (pvv 6) .dct (pvv 7) (look_int (g := fun l => D.int (ixD kd (toldD s mk l) : Nat)) ho)) (pv_dget (ru hr) (pvv 6) .dct (pvv 1) (look_int (g := fun l => D.int (ixD kd (toldD s mk l) : Nat)) ha)) l_eqI) (fun _ _ _ _ _ o _ ho => pvv 7) nd)) (by rw [hr1])) hr2
        · -- marks = later
          have ne : (firsts s (n + 1)).length ≠ (firsts s n).length := of_decide_eq_false hB.symm
          have g1 := firsts_grow W0 n
          have g2 := firsts_le (s := s) (n + 1)
          refine pv_set 2 nd rfl (.inr rfl) (pvv 6) (pb_end ⟨_, ?_, n + 1, fun l => ixD kd (toldD s mk l), x, _, y, _, _, ⟨hx, rfl, hy, rfl, rfl⟩, M2, rfl, rfl⟩)
          omega
    · rintro m δ' _ hB
      cases hB
end G81
set_option maxRecDepth 100000
set_option maxHeartbeats 4000000
/-! least_scheme: the walk -/
namespace G81
open PySem PySem.Spec PyProof.Rows L2 SlX
open SX (S)
variable {P : Program} {w : World} {K : PySem.W.Frag} {mg : Str → Option Value} {base : Heap}
theorem sc59 : FnScope ["scheme", "less", "letters", "rules", "letter"] ["scheme"] (defScope (topS 59)) := ⟨rfl, rfl, rfl, by decide +kernel, rfl, by decide +kernel, by decide +kernel⟩
noncomputable def r_least_scheme (K : PySem.W.Frag) : RD := fun ds P => ∃ s : Sc, ds = [dSch K s] ∧ Ws s ∧ s.even = true ∧ P = Is (dSch K s.least)
theorem w_least_scheme (T : Tx K mg) : Cal P w K mg base 13 "least_scheme" (r_least_scheme K) :=
  calD T.d_least_scheme sc59 (by rintro ds P ⟨n, rfl, _⟩; rfl) fun cdv A outer s' H E hr c ds Pd hR => by
    have nd := sc59.nd
    obtain ⟨s, rfl, W, ev, rfl⟩ := hR
    have W2 := W.spare
    have W0 := W2.toWf
    have k6 := keys_len W0
    refine pb_expr (pv_call (w_require_scheme T) hr (by decide) rfl (pvs_cons (pvv 0) pvs_nil) ⟨s, rfl, rfl⟩) ?_
    refine pb_ifRet (ptx_eq (ptv_not (ptv_val (v_prop (pvv 0) T.c_Scheme.1 T.p_Scheme_is_even (w_Scheme_is_even T) hr (by decide) ⟨s, rfl, W.toWf, rfl⟩))) (k' := false) (by rw [ev]; rfl)) (fun h => nomatch h) fun _ => ?_
    refine pv_set 1 nd rfl (.inr rfl) (pv_call (w_spared T) hr (by decide) rfl (pvs_cons (pvv 0) pvs_nil) ⟨s, rfl, W, rfl⟩) ?_
    refine pv_set 2 nd rfl (.inr rfl) (pv_call (w_sequels_alike T) hr (by decide) rfl (pvs_cons (pvv 1) pvs_nil) ⟨s.spare, rfl, W2, rfl⟩) ?_
    refine pb_setDc (xs := s.spare.reps) (emb := dLet) (kf := lt) (vf := fun l => dRow (callR s.spare.rep (rowOf s.spare.rs l))) (i := 3) (.nm 4) [("letter", 4)] (pix_lstv (pv_n (n_sortLets T (ls := s.spare.keys.map s.spare.rep) (v_setF T hr (PX.mono (pv_n (pn_listVals T.n_list (pvv 2))) fun x e => .inl (by rw [show x = _ from e, List.map_map]; rfl)) (by rw [List.length_map, List.length_map]; omega) fun d hd => ?_) fun l hl => ?_))) (fun _ _ => rfl) (blkOk_by (by rfl)) (by intros; exact pgx_nm (by assumption) rfl (by first | exact Or.inl rfl | exact Or.inr rfl)) (fun _ _ _ _ _ x _ hx => pvv 4) (fun _ _ _ _ _ x _ hx => ?_) nd (map_nd ordL_nd fun a _ b _ q => lt_inj q) fun c' y sy => ?_
    · obtain ⟨a, _, rfl⟩ := List.mem_map.mp hd
      exact .inl ⟨_, rfl⟩
    · obtain ⟨a, ha, rfl⟩ := List.mem_map.mp hl
      exact W0.k123 _ (rep_mem ha)
    · have hk := ((mem_reps W0).mp hx).1
      exact pv_call (w_called T) hr (by decide) rfl (pvs_cons (v_prop (v_rule (p := (x, rowOf s.spare.rs x)) T hr (by decide) (pvv 1) (pvv 4) W0.nd (rowOf_in hk) .name) T.c_Rule.1 T.p_Rule_row (w_Rule_row T) hr (by decide) ⟨s.spare.sq, _, rfl, rfl⟩) (pvs_cons (pvv 2) pvs_nil)) ⟨rowOf s.spare.rs x, s.spare.keys, s.spare.rep, rfl, fun q hq => row_keys W0 hk hq, rfl⟩
    obtain ⟨fk, l, hl, rfl, rfl⟩ := sy
    refine pb_lock 3 fk hl rfl (by simp [offAll, startD, Cell.adr]) ?_
    refine pb_ret (P := Is (dSch K s.least)) .refl (px_mk (k_Scheme T) hr (by decide) rfl (pvs_cons (v_prop (pvv 1) T.c_Scheme.1 T.p_Scheme_grid (w_Scheme_grid T) hr (by decide) ⟨s.spare, rfl, rfl⟩) (pvs_cons (pv_call (w_called T) hr (by decide) rfl (pvs_cons (v_prop (pvv 1) T.c_Scheme.1 T.p_Scheme_axiom (w_Scheme_axiom T) hr (by decide) ⟨s.spare, rfl, rfl⟩) (pvs_cons (pvv 2) pvs_nil)) ⟨s.spare.ax, s.spare.keys, s.spare.rep, rfl, fun q hq => (W0.ax.2.2 q hq).1, rfl⟩) (pvs_cons (pvv 3) pvs_nil))) fun ds e => ⟨_, ⟨s.least, ?_, W.least.toWf, rfl⟩, fun ss e => ?_⟩) fun _ h => h
    · rw [e]
      unfold dRls Sc.least Sc.fold
      rw [List.map_map, List.map_map]
      rfl
    · rw [show ss = _ from e, W.least.srt_id]
      rfl
end G81
set_option maxRecDepth 100000
set_option maxHeartbeats 4000000
/-! lines by the law's own words -/
namespace G81
open PySem PySem.Spec PyProof.Rows L2 SlX
open SX (S)
variable {P : Program} {w : World} {K : PySem.W.Frag} {mg : Str → Option Value} {base : Heap}
theorem sc70 : FnScope ["_law_plain_here", "_law_row_here", "_law_around_here", "_law_found", "_law_letter", "_law_direction", "_law_name", "_law_turn"] ["_law_plain_here", "_law_row_here"] (defScope (topS 70)) := ⟨rfl, rfl, rfl, by decide +kernel, rfl, by decide +kernel, by decide +kernel⟩
theorem sc71 : FnScope ["_law_plain_here", "_law_order", "_law_found", "_law_turn"] ["_law_plain_here", "_law_order"] (defScope (topS 71)) := ⟨rfl, rfl, rfl, by decide +kernel, rfl, by decide +kernel, by decide +kernel⟩
theorem sc72 : FnScope ["_law_plain_here", "_law_bound", "_law_row_here", "_law_order", "_law_total", "_law_letter", "_law_direction"] ["_law_plain_here", "_law_bound"] (defScope (topS 72)) := ⟨rfl, rfl, rfl, by decide +kernel, rfl, by decide +kernel, by decide +kernel⟩
theorem sc78 : FnScope ["_law_own", "_law_name", "_law_turn", "_law_found", "_law_more_here", "_law_other"] ["_law_own"] (defScope (topS 78)) := ⟨rfl, rfl, rfl, by decide +kernel, rfl, by decide +kernel, by decide +kernel⟩
section
variable {X : Cx} {c : Fm} {δ : List Cell} {o i : Expr} {pos : Pos} {j : Nat} {s : Sc}
/-- plain["rules"][letter] -/
theorem v_prow {kk kp spos} (hu : X.A.units + 1 < cLine) (ho : PV X c δ o (dPl s)) {l : Nat} (hi : PV X c δ i (dLet l)) (nd : s.keys.Nodup) (hl : l ∈ s.keys) (hb : NoSl (.Constant (.str "rules") kk kp) := by exact fun _ _ => rfl) (hs : NoSl i := by exact fun _ _ => rfl) : PV X c δ (.Subscript (.Subscript o (.Constant (.str "rules") kk kp) spos) i pos) (dRow (rowOf s.rs l)) :=
  pv_dget hu (pv_dget (d := dRls s.rs) hu ho .dct pv_str rfl hb) .dct hi (look_get (g := fun p => dRow p.2) (p := (l, rowOf s.rs l)) nd (rowOf_in hl)) hs
end
theorem repl_snoc {s : Sc} {r : Row} {i : Nat} {p : It2} (h : r[i]? = some p) : repl s (r.take (i + 1)) = repl s (r.take i) ++ turnRow (ar s.sq) p.2 (rowOf s.rs p.1) := by
  have e : r.take (i + 1) = r.take i ++ [p] := by rw [List.take_succ, h]; rfl
  rw [e, repl_app]
  show _ ++ (turnRow _ _ _ ++ []) = _
  rw [List.append_nil]
theorem repl_le_take {s : Sc} {r : Row} (i : Nat) : (repl s (r.take i)).length ≤ (repl s r).length := by
  conv => rhs; rw [← List.take_append_drop i r, repl_app, List.length_append]
  omega
def r__law_more : RD := fun ds P => ∃ (s : Sc) (r : Row), ds = [dPl s, dRowL r] ∧ s.keys.Nodup ∧ (∀ p ∈ r, p.1 ∈ s.keys) ∧ (repl s r).length ≤ 100000 ∧ P = Is (dRowL (repl s r))
theorem w__law_more (T : Tx K mg) : Cal P w K mg base 2 "_law_more" r__law_more :=
  calD T.d__law_more sc70 (by rintro ds P ⟨n, r, rfl, _⟩; rfl) fun cdv A outer s' H E hr c ds Pd hR => by
    have nd := sc70.nd
    obtain ⟨s, r, rfl, W, hk, hl, rfl⟩ := hR
    refine pb_tup2 2 3 (pa2C (cv_d (pv_call (w__law_around T) hr (by decide) rfl (pvs_cons (pvv 0) pvs_nil) ⟨s, rfl, rfl⟩)) fun c1 y1 s1 => cx_own (pvn_lst pvs_nil)) (fun c' y1 y2 ⟨c2, s1, s2⟩ => ?_) nd
    obtain ⟨rfl, d0, rfl, e0⟩ := s1
    cases (show d0 = _ from e0)
    obtain ⟨fk, l, d2, hl2, rfl, rfl, rfl⟩ := s2
    refine pb_for (t := .pr 4 5) (emb := dIt) (xs := r) (fun i δ' => ∃ x y : Cell, x.adr = [] ∧ y.adr = [] ∧ δ' = [.d (dPl s), .d (dRowL r), .d (.int (ar s.sq : Nat)), .own l ((repl s (r.take i)).map dIt), x, y, .no, .no]) PassesOwn.never rfl (pix_lstv (pvv 1)) (pgx_pr rfl nd rfl rfl (.inl rfl) (.inr rfl)) ⟨.no, .no, rfl, rfl, rfl⟩ ?_ ?_
    · rintro i p δ' hp ⟨x, y, hx, hy, rfl⟩
      have hpk := hk p (List.mem_of_getElem? hp)
      refine ⟨_, rfl, ?_⟩
      refine pb_ext 3 (ms := (turnRow (ar s.sq) p.2 (rowOf s.rs p.1)).map dIt) rfl (pv_eq (pv_n (lcP (xs := rowOf s.rs p.1) (emb := dIt) (f := fun q : It2 => dIt (q.1, (q.2 + p.2) % ar s.sq)) 6 7 [("_law_name", 6), ("_law_turn", 7)] (pix_tupv (v_prow (ru hr) (pvv 0) (pvv 4) W hpk)) (fun _ _ => rfl) (fun _ _ _ _ _ q _ hq => pv_tup (pvs_cons (pvv 6) (pvs_cons (pv_eq (pv_op op_mod (pv_op op_add (pvv 5) (pvv 7) l_int) (pvv 2) (l_intC (C := fun _ j => 0 < j) (Int.ofNat_lt.mpr (ar_pos s.sq)))) ?_) pvs_nil))) nd)) (by unfold turnRow; rw [List.map_map]; rfl)) (.inl rfl) (by simp [offAll, Cell.adr]) ?_ ?_
      · rw [Nat.add_comm]; rfl
      · have h1 := repl_le_take (s := s) (r := r) (i + 1)
        rw [repl_snoc hp, List.length_append] at h1
        rw [List.length_map, List.length_map]
        exact Nat.le_trans (show _ ≤ 100000 by omega) (by decide)
      · refine pb_end ⟨.d (dLet p.1), .d (.int (p.2 : Nat)), rfl, rfl, ?_⟩
        rw [repl_snoc hp, List.map_append]
        rfl
    · rintro δ' ⟨x, y, hx, hy, rfl⟩
      rw [List.take_length]
      refine pb_disown 3 fk hl2 rfl (by simp only [offAll, hx, hy, List.set_cons_zero, List.set_cons_succ]; simp [Cell.adr]) ?_
      exact pb_ret .refl (pvv 3) fun _ h => h
def r__law_line : RD := fun ds P => ∃ (s : Sc) (n : Nat), ds = [dPl s, .int (n : Nat)] ∧ Wf s ∧ n ≤ 200 ∧ (growN s s.ax n).length ≤ 5000 ∧ P = Is (dRowL (growN s s.ax n))
theorem w__law_line (T : Tx K mg) : Cal P w K mg base 3 "_law_line" r__law_line :=
  calD T.d__law_line sc71 (by rintro ds P ⟨n, r, rfl, _⟩; rfl) fun cdv A outer s' H E hr c ds Pd hR => by
    have nd := sc71.nd
    obtain ⟨s, n, rfl, W, hn, hl, rfl⟩ := hR
    have hk : ∀ p ∈ s.ax, p.1 ∈ s.keys := fun p hp => (W.ax.2.2 p hp).1
    refine pv_set 2 nd rfl (.inl rfl) (pv_n (n_listT T (pv_dget (d := dRow s.ax) (ru hr) (pvv 0) .dct pv_str rfl))) ?_
    refine pb_for (t := .nm 3) (emb := fun i : Nat => .int (i : Nat)) (xs := List.range n) (fun i δ' => i ≤ n ∧ ∃ x : Cell, δ' = [.d (dPl s), .d (.int (n : Nat)), .d (dRowL (growN s s.ax i)), x]) PassesOwn.never rfl (pix_range T.n_range (pvv 1) (by omega)) (pgx_nm nd rfl (.inl rfl)) ⟨Nat.zero_le _, .no, rfl⟩ ?_ ?_
    · rintro i x δ' hx ⟨_, y, rfl⟩
      have hi : i < n := by
        have := (List.getElem?_eq_some_iff.mp hx).1
        rwa [List.length_range] at this
      refine ⟨_, rfl, ?_⟩
      have le : (repl s (growN s s.ax i)).length ≤ 100000 := by
        have := grow_le W hk (n := i + 1) (n - (i + 1))
        rw [show i + 1 + (n - (i + 1)) = n by omega] at this
        exact Nat.le_trans this (Nat.le_trans hl (by decide))
      exact pv_set 2 nd rfl (.inl rfl) (pv_call (w__law_more T) hr (by decide) rfl (pvs_cons (pvv 0) (pvs_cons (pvv 2) pvs_nil)) ⟨s, growN s s.ax i, rfl, W.nd, grow_keys W hk i, le, rfl⟩) (pb_end ⟨hi, _, rfl⟩)
    · rintro δ' ⟨_, y, rfl⟩
      rw [List.length_range]
      exact pb_ret .refl (pvv 2) fun _ h => h
theorem repl_sum {s : Sc} : ∀ {r : Row}, ((r.map fun p => (((rowOf s.rs p.1).length : Nat) : Int)).sum) = ((repl s r).length : Nat)
  | [] => rfl
  | p :: r => by
    have ih := repl_sum (s := s) (r := r)
    show _ = (((turnRow _ p.2 (rowOf s.rs p.1)) ++ repl s r).length : Int)
    rw [List.map_cons, List.sum_cons, ih, List.length_append, turn_len]
    omega
def r__law_low_order : RD := fun ds P => ∃ s : Sc, ds = [dPl s, .int 200] ∧ Wf s ∧ P = fun d => ∃ n : Nat, d = .int (n : Nat) ∧ n ≤ 12 ∧ (growN s s.ax n).length ≤ 200
theorem w__law_low_order (T : Tx K mg) : Cal P w K mg base 3 "_law_low_order" r__law_low_order :=
  calD T.d__law_low_order sc72 (by rintro ds P ⟨n, rfl, _⟩; rfl) fun cdv A outer s' H E hr c ds Pd hR => by
    have nd := sc72.nd
    obtain ⟨s, rfl, W, rfl⟩ := hR
    have hk : ∀ p ∈ s.ax, p.1 ∈ s.keys := fun p hp => (W.ax.2.2 p hp).1
    refine pb_par 2 3 (pa2C (cv_d (pv_n (n_listT T (pv_dget (d := dRow s.ax) (ru hr) (pvv 0) .dct pv_str rfl)))) fun c1 y1 s1 => cv_d pv_int) (fun c' y1 y2 ⟨c2, s1, s2⟩ => ?_) nd
    obtain ⟨rfl, d1, rfl, e1⟩ := s1
    cases (show d1 = _ from e1)
    obtain ⟨rfl, d2, rfl, e2⟩ := s2
    cases (show d2 = _ from e2)
    refine pb_while (B := fun m _ b => b = decide (0 < m)) (fun m δ' => ∃ (n : Nat) (x : Cell), m = 12 - n ∧ n ≤ 12 ∧ (growN s s.ax n).length ≤ 200 ∧ δ' = [.d (dPl s), .d (.int 200), .d (dRowL (growN s s.ax n)), .d (.int (n : Nat)), x, .no, .no]) PassesOwn.never _ ⟨0, .no, rfl, by decide, by have := W.ax.2.1; show s.ax.length ≤ 200; omega, rfl⟩ ?_ ?_ ?_
    · rintro m δ' ⟨n, x, rfl, hn, hl, rfl⟩
      refine ptx_eq (ptv_cmp op_lt (pvv 3) pv_int l_bl) ?_
      rw [Bool.eq_iff_iff, decide_eq_true_eq, decide_eq_true_eq]
      omega
    · rintro m δ' ⟨n, x, rfl, hn, hl, rfl⟩ hB
      have hn2 : n < 12 := by have := of_decide_eq_true hB.symm; omega
      have gk := grow_keys W hk n
      refine pv_set 4 nd rfl (.inl rfl) (v_sum T (ns := (growN s s.ax n).map fun p => (((rowOf s.rs p.1).length : Nat) : Int)) (pv_eq (pv_n (lcP (xs := growN s s.ax n) (emb := dIt) (f := fun p : It2 => .int ((rowOf s.rs p.1).length : Nat)) 5 6 [("_law_letter", 5), ("_law_direction", 6)] (pix_lstv (pvv 2)) (fun _ _ => rfl) (fun _ _ _ _ _ p _ hp => pv_eq (v_lenT T (v_prow (ru hr) (pvv 0) (pvv 5) W.nd (gk p hp))) (by rw [List.length_map])) nd)) (by rw [List.map_map]; rfl))) ?_
      rw [repl_sum]
      refine pb_ifRet (B := (· = decide (200 < (repl s (growN s s.ax n)).length))) (ptx_eq (ptv_cmp op_gt (pvv 4) (pvv 1) l_bl) ?_) (fun hB => ?_) (fun hB => ?_) (.inl rfl)
      · rw [Bool.eq_iff_iff, decide_eq_true_eq, decide_eq_true_eq]
        omega
      · exact pb_break rfl (pb_ret .refl (px_of (pvv 3) ⟨n, rfl, hn, hl⟩) fun _ h => h)
      · have le := of_decide_eq_false hB.symm
        refine pb_par 2 3 (pa2C (cv_d (pv_call (w__law_more T) hr (by decide) rfl (pvs_cons (pvv 0) (pvs_cons (pvv 2) pvs_nil)) ⟨s, growN s s.ax n, rfl, W.nd, gk, by omega, rfl⟩)) fun c1 y1 s1 => cv_d (d := .int ((n : Nat) + 1)) (pv_op op_add (pvv (d := .int (n : Nat)) 3) pv_int l_int)) (fun c' y1 y2 ⟨c2, s1, s2⟩ => ?_) nd
        obtain ⟨rfl, d1, rfl, e1⟩ := s1
        cases (show d1 = _ from e1)
        obtain ⟨rfl, d2, rfl, e2⟩ := s2
        cases (show d2 = _ from e2)
        exact pb_end ⟨_, by omega, n + 1, _, rfl, hn2, by show (repl s _).length ≤ 200; omega, rfl⟩
    · rintro m δ' ⟨n, x, rfl, hn, hl, rfl⟩ hB
      exact pb_ret .refl (px_of (pvv 3) ⟨n, rfl, hn, hl⟩) fun _ h => h
/-! the letters used -/
theorem flat_snoc {α β : Type} {f : α → List β} {l : List α} {i : Nat} {x : α} (h : l[i]? = some x) : (l.take (i + 1)).flatMap f = (l.take i).flatMap f ++ f x := by
  have e : l.take (i + 1) = l.take i ++ [x] := by rw [List.take_succ, h]; rfl
  rw [e, List.flatMap_append]
  show _ ++ (f x ++ []) = _
  rw [List.append_nil]
def r__law_used : RD := fun ds P => ∃ s : Sc, ds = [dPl s] ∧ Wf s ∧ (∀ p ∈ s.rs, p.2.length ≤ 5) ∧ P = Is (.lst ((rnds s 7).map dLet))
theorem w__law_used (T : Tx K mg) : Cal P w K mg base 2 "_law_used" r__law_used :=
  calD T.d__law_used sc78 (by rintro ds P ⟨n, rfl, _⟩; rfl) fun cdv A outer s' H E hr c ds Pd hR => by
    have nd := sc78.nd
    obtain ⟨s, rfl, W, h5, rfl⟩ := hR
    have k6 := keys_len W
    refine pv_set 3 nd rfl (.inl rfl) (pv_n (n_sortLets T (ls := s.ax.map (·.1)) (v_setF T hr (PX.mono (pv_n (lcP (xs := s.ax) (emb := dIt) (f := fun p : It2 => dLet p.1) 1 2 [("_law_name", 1), ("_law_turn", 2)] (pix_tupv (pv_dget (d := dRow s.ax) (ru hr) (pvv 0) .dct pv_str rfl)) (fun _ _ => rfl) (fun _ _ _ _ _ p _ hp => pvv 1) nd)) fun x e => .inl (by rw [show x = _ from e, List.map_map]; rfl)) (by rw [List.length_map, List.length_map]; have := W.ax.2.1; omega) fun d hd => ?_) fun l hl => ?_)) ?_
    · obtain ⟨a, _, rfl⟩ := List.mem_map.mp hd
      exact .inl ⟨_, rfl⟩
    · obtain ⟨p, hp, rfl⟩ := List.mem_map.mp hl
      exact W.k123 _ (W.ax.2.2 p hp).1
    refine pb_for (t := .nm 2) (emb := fun i : Nat => .int (i : Nat)) (xs := List.range 7) (fun i δ' => ∃ x y z : Cell, x.adr = [] ∧ y.adr = [] ∧ z.adr = [] ∧ δ' = [.d (dPl s), x, y, .d (.lst ((rnds s i).map dLet)), z, .no]) PassesOwn.never rfl (pix_range (n := 7) T.n_range pv_int (by decide)) (pgx_nm nd rfl (.inl rfl)) ⟨.no, .no, .no, rfl, rfl, rfl, rfl⟩ ?_ ?_
    · rintro i t δ' ht ⟨x, y, z, hx, hy, hz, rfl⟩
      refine ⟨_, rfl, ?_⟩
      have ok := rnds_ok W i
      have len6 : (rnds s i).length ≤ 6 := Nat.le_trans (nat_nodup_len _ _ (rnds_nd i) fun l hl => (ok l hl).1) k6
      have len5 : ∀ fs : List Nat, (∀ l ∈ fs, l ∈ s.keys) → (fs.flatMap fun l => (rowOf s.rs l).map (·.1)).length ≤ 5 * fs.length := fun fs => by
        induction fs with
        | nil => exact fun _ => Nat.zero_le _
        | cons l fs ih =>
          intro h
          rw [List.flatMap_cons, List.length_append, List.length_map, List.length_cons]
          have := ih fun x hx => h x (List.mem_cons_of_mem _ hx)
          have := (show (rowOf s.rs l).length ≤ 5 from h5 _ (rowOf_in (h l List.mem_cons_self)))
          omega
      refine pb_setC 4 (cx_own (n_listL T (pvv 3))) (fun c' yy sy => ?_) nd
      obtain ⟨fk, l, d2, hl2, rfl, rfl, rfl⟩ := sy
      refine pb_for (t := .nm 1) (emb := dLet) (xs := rnds s i) (fun j δ' => ∃ x : Cell, x.adr = [] ∧ δ' = [.d (dPl s), x, .d (.int (t : Nat)), .d (.lst ((rnds s i).map dLet)), .own l ((rnds s i ++ ((rnds s i).take j).flatMap fun l => (rowOf s.rs l).map (·.1)).map dLet), .no]) PassesOwn.never rfl (pix_lstv (pvv 3)) (pgx_nm nd rfl (.inl rfl)) ⟨x, hx, ?_⟩ ?_ ?_
      · rw [List.take_zero, List.flatMap_nil, List.append_nil]
        rfl
      · rintro j a δ' ha ⟨x, hx, rfl⟩
        have hak := (ok a (List.mem_of_getElem? ha)).1
        refine ⟨_, rfl, ?_⟩
        have lt5 := len5 ((rnds s i).take (j + 1)) fun l hl => (ok l (List.mem_of_mem_take hl)).1
        rw [flat_snoc ha, List.length_append] at lt5
        have t1 : ((rnds s i).take (j + 1)).length ≤ (rnds s i).length := by rw [List.length_take]; omega
        refine pb_ext 4 (ms := ((rowOf s.rs a).map (·.1)).map dLet) rfl (pv_eq (pv_n (lcP (xs := rowOf s.rs a) (emb := dIt) (f := fun p : It2 => dLet p.1) 5 2 [("_law_other", 5), ("_law_turn", 2)] (pix_tupv (v_prow (ru hr) (pvv 0) (pvv 1) W.nd hak)) (fun _ _ => rfl) (fun _ _ _ _ _ p _ hp => pvv 5) nd)) (by rw [List.map_map]; rfl)) (.inl rfl) (by simp [offAll, Cell.adr]) ?_ ?_
        · simp only [List.length_map, List.length_append] at lt5 ⊢
          exact Nat.le_trans (show _ ≤ 1000 by omega) (by decide)
        · refine pb_end ⟨.d (dLet a), rfl, ?_⟩
          rw [flat_snoc ha, ← List.append_assoc, List.map_append (l₁ := _ ++ _)]
          rfl
      · rintro δ' ⟨x, hx, rfl⟩
        rw [List.take_length]
        refine pb_disown 4 fk hl2 rfl (by simp only [offAll, hx, List.set_cons_zero, List.set_cons_succ]; simp [Cell.adr]) ?_
        refine pv_set 3 nd rfl (.inl rfl) (pv_n (n_sortLets T (ls := rnds s i ++ (rnds s i).flatMap fun l => (rowOf s.rs l).map (·.1)) (v_setF T hr (PX.mono (pvv 4) fun x e => .inl e) ?_ fun d hd => ?_) fun l hl => ?_)) (pb_end ⟨_, _, _, hx, rfl, rfl, rfl⟩)
        · rw [List.length_map, List.length_append]
          have := len5 (rnds s i) fun l hl => (ok l hl).1
          omega
        · obtain ⟨a, _, rfl⟩ := List.mem_map.mp hd
          exact .inl ⟨_, rfl⟩
        · rcases List.mem_append.mp hl with q | q
          · exact W.k123 _ (ok l q).1
          · obtain ⟨a, ha, h2⟩ := List.mem_flatMap.mp q
            obtain ⟨p, hp, rfl⟩ := List.mem_map.mp h2
            exact W.k123 _ (row_keys W (ok a ha).1 hp)
    · rintro δ' ⟨x, y, z, hx, hy, hz, rfl⟩
      exact pb_ret .refl (pvv 3) fun _ h => h
end G81
set_option maxRecDepth 100000
set_option maxHeartbeats 4000000
/-! drawn schemes, plainly -/
namespace G81
open PySem PySem.Spec PyProof.Rows L2 SlX
open SX (S)
theorem perm_sum {l m : List Int} (h : l.Perm m) : l.sum = m.sum := by
  induction h with
  | nil => rfl
  | cons x _ ih => rw [List.sum_cons, List.sum_cons, ih]
  | swap x y l => simp only [List.sum_cons]; omega
  | trans _ _ ih1 ih2 => exact ih1.trans ih2
/-- the sum of the units of turns -/
def uS (sq : Bool) (ts : List Nat) : Int × Int := ((ts.map fun t => (uat sq t).1).sum, (ts.map fun t => (uat sq t).2).sum)
theorem end_uS {sq : Bool} (r : Row) : endOf sq (0, 0) r = uS sq (dirs r) := by
  rw [end_sum]
  unfold uS dirs
  rw [List.map_map, List.map_map]
  simp only [Int.zero_add]
  rfl
theorem uS_perm {sq : Bool} {l m : List Nat} (h : l.Perm m) : uS sq l = uS sq m := by
  unfold uS
  rw [perm_sum (h.map fun t => (uat sq t).1), perm_sum (h.map fun t => (uat sq t).2)]
theorem uS_app {sq : Bool} (l m : List Nat) : uS sq (l ++ m) = padd (uS sq l) (uS sq m) := by
  unfold uS padd
  simp only [List.map_append, List.sum_append]
def half (sq : Bool) : Nat := ar sq / 2
theorem uS_opp {sq : Bool} {t : Nat} (h : t < ar sq) : uS sq [t, (t + half sq) % ar sq] = (0, 0) := by
  have key : ∀ sq : Bool, ∀ t, t < ar sq → uS sq [t, (t + half sq) % ar sq] = (0, 0) := by decide +kernel
  exact key sq t h
theorem uS_ins {sq : Bool} {l : List Nat} {k t : Nat} (h : t < ar sq) : uS sq (l.take k ++ [t, (t + half sq) % ar sq] ++ l.drop k) = uS sq l := by
  rw [uS_app, uS_app, uS_opp h]
  conv => rhs; rw [← List.take_append_drop k l, uS_app]
  unfold padd
  simp
/-- the turns that are drawn from -/
def tL (sq : Bool) : List (List Nat) := if sq then [[0, 1], [0, 3], [0, 0], [0, 0, 1], [0, 1, 0, 3], [1, 0, 0]] else [[0, 1], [5, 0], [0, 2, 0], [0, 0], [0, 1, 5, 0], [0, 0, 1]]
def aL (sq : Bool) : List (List Nat) := if sq then [[0], [0, 1], [0, 0, 1], [0, 1, 2, 3], [0, 2], [3], [0, 3, 2, 1]] else [[0], [0, 1], [0, 0, 2], [0, 2, 4], [0, 3], [5], [0, 4, 2]]
theorem tL_ok (sq : Bool) : ∀ ts ∈ tL sq, (2 ≤ ts.length ∧ ts.length ≤ 4) ∧ (∀ t ∈ ts, t < ar sq) ∧ 2 ≤ norm sq (uS sq ts) := by cases sq <;> decide +kernel
theorem aL_ok (sq : Bool) : ∀ ts ∈ aL sq, (1 ≤ ts.length ∧ ts.length ≤ 4) ∧ ∀ t ∈ ts, t < ar sq := by cases sq <;> decide +kernel
/-- a drawn row -/
structure GoodR (sq : Bool) (ls : List Nat) (ts : List Nat) (r : Row) : Prop where
  len : 2 ≤ r.length ∧ r.length ≤ 5
  its : ∀ p ∈ r, p.1 ∈ ls ∧ p.2 < ar sq
  end_ : endOf sq (0, 0) r = uS sq ts
/-- a written or drawn scheme -/
structure Bas (s : Sc) : Prop extends Wf s where
  sub : ∀ l ∈ s.keys, l ∈ [97, 98, 99, 122]
  five : ∀ p ∈ s.rs, p.2.length ≤ 5
  nozA : ∀ p ∈ s.ax, p.1 ≠ 122
  nozR : ∀ q ∈ s.rs, q.1 ≠ 122 → ∀ p ∈ q.2, p.1 ≠ 122
theorem bas_of {sq : Bool} {ax : Row} {rs : Rls} {ls ts : List Nat} (hts : ts ∈ tL sq) (hls : ls ∈ [[97], [97, 98], [97, 98, 99]]) (hk : rs.map (·.1) = ls) (hax : (1 ≤ ax.length ∧ ax.length ≤ 12) ∧ ∀ p ∈ ax, p.1 ∈ ls ∧ p.2 < ar sq) (hrs : ∀ q ∈ rs, GoodR sq ls ts q.2) : Bas ⟨sq, ax, rs⟩ := by
  have lsF : ∀ ls ∈ [[97], [97, 98], [97, 98, 99]], ls.Nodup ∧ (1 ≤ ls.length ∧ ls.length ≤ 6) ∧ ∀ l ∈ ls, (97 ≤ l ∧ l ≤ 122) ∧ l ∈ [97, 98, 99, 122] ∧ l ≠ 122 := by decide +kernel
  obtain ⟨f1, f2, f3⟩ := lsF ls hls
  have inK : ∀ q ∈ rs, q.1 ∈ ls := fun q hq => by rw [← hk]; exact List.mem_map.mpr ⟨q, hq, rfl⟩
  have lenE : rs.length = ls.length := by rw [← hk, List.length_map]
  exact {
    nd := by show (rs.map (·.1)).Nodup; rw [hk]; exact f1
    len := by show 1 ≤ rs.length ∧ rs.length ≤ 6; rw [lenE]; exact f2
    let_ := fun q hq => (f3 _ (inK q hq)).1
    rows := fun q hq => ⟨(hrs q hq).len.1, by have := (hrs q hq).len.2; omega, fun p hp => by
      have := (hrs q hq).its p hp
      refine ⟨?_, this.2⟩
      show p.1 ∈ rs.map (·.1)
      rw [hk]
      exact this.1⟩
    ax := ⟨hax.1.1, hax.1.2, fun p hp => ⟨by show p.1 ∈ rs.map (·.1); rw [hk]; exact (hax.2 p hp).1, (hax.2 p hp).2⟩⟩
    ends := ⟨uS sq ts, (tL_ok sq ts hts).2.2, fun q hq => (hrs q hq).end_⟩
    sub := fun l hl => by
      have hl : l ∈ rs.map (·.1) := hl
      rw [hk] at hl
      exact (f3 l hl).2.1
    five := fun q hq => (hrs q hq).len.2
    nozA := fun p hp => (f3 _ (hax.2 p hp).1).2.2
    nozR := fun q hq _ p hp => (f3 _ ((hrs q hq).its p hp).1).2.2 }
/-! the written ones -/
def wS : List Sc := [⟨true, [(97, 0)], [(97, [(97, 0), (98, 1)]), (98, [(97, 1), (98, 0)])]⟩, ⟨true, [(97, 0)], [(97, [(97, 0), (97, 1)])]⟩, ⟨false, [(97, 0), (97, 4), (97, 2)], [(97, [(97, 0), (97, 1), (97, 5), (97, 0)])]⟩,
  ⟨true, [(97, 0)], [(97, [(97, 0), (97, 0), (97, 2), (97, 0)])]⟩, ⟨true, [(97, 0), (97, 1)], [(97, [(97, 0), (97, 0)])]⟩, ⟨false, [(97, 0)], [(97, [(97, 0), (97, 2), (97, 0)])]⟩, ⟨true, [(97, 0), (97, 0), (97, 1), (97, 2), (97, 3), (97, 3)], [(97, [(97, 0), (97, 0)])]⟩,
  ⟨true, [(97, 0), (97, 1), (97, 2), (97, 3)], [(97, [(97, 0), (97, 1), (97, 0), (97, 3), (97, 0)])]⟩, ⟨true, [(97, 0), (98, 0)], [(97, [(97, 0), (98, 1), (97, 0), (97, 3)]), (98, [(98, 0), (97, 3), (98, 1), (98, 0)])]⟩, ⟨false, [(97, 0)], [(97, [(98, 1), (97, 0), (98, 5)]), (98, [(97, 5), (98, 0), (97, 1)])]⟩]
/-- whether a scheme is as it must be -/
def basB (s : Sc) : Bool := decide (s.keys.Nodup) && (decide (1 ≤ s.rs.length ∧ s.rs.length ≤ 6) && (s.keys.all (fun l => decide (l ∈ [97, 98, 99])) && (s.rs.all (fun q => decide (2 ≤ q.2.length ∧ q.2.length ≤ 5) && q.2.all fun p => decide (p.1 ∈ s.keys ∧ p.2 < ar s.sq)) && ((decide (1 ≤ s.ax.length ∧ s.ax.length ≤ 12) && s.ax.all fun p => decide (p.1 ∈ s.keys ∧ p.2 < ar s.sq)) &&
  (decide (2 ≤ norm s.sq s.growth) && s.rs.all fun q => decide (endOf s.sq (0, 0) q.2 = s.growth))))))
theorem basB_ok {s : Sc} (h : basB s = true) : Bas s := by
  obtain ⟨h1, h⟩ := Bool.and_eq_true_iff.mp h
  obtain ⟨h2, h⟩ := Bool.and_eq_true_iff.mp h
  obtain ⟨h3, h⟩ := Bool.and_eq_true_iff.mp h
  obtain ⟨h4, h⟩ := Bool.and_eq_true_iff.mp h
  obtain ⟨h5, h⟩ := Bool.and_eq_true_iff.mp h
  obtain ⟨h6, h7⟩ := Bool.and_eq_true_iff.mp h
  obtain ⟨h8, h9⟩ := Bool.and_eq_true_iff.mp h5
  have k : ∀ l ∈ s.keys, l ∈ [97, 98, 99] := fun l hl => of_decide_eq_true (List.all_eq_true.mp h3 l hl)
  have k2 : ∀ l ∈ [97, 98, 99], (97 ≤ l ∧ l ≤ 122) ∧ l ∈ [97, 98, 99, 122] ∧ l ≠ 122 := by decide
  have rw_ : ∀ q ∈ s.rs, (2 ≤ q.2.length ∧ q.2.length ≤ 5) ∧ ∀ p ∈ q.2, p.1 ∈ s.keys ∧ p.2 < ar s.sq := fun q hq => by
    obtain ⟨a, b⟩ := Bool.and_eq_true_iff.mp (List.all_eq_true.mp h4 q hq)
    exact ⟨of_decide_eq_true a, fun p hp => of_decide_eq_true (List.all_eq_true.mp b p hp)⟩
  have ax_ : ∀ p ∈ s.ax, p.1 ∈ s.keys ∧ p.2 < ar s.sq := fun p hp => of_decide_eq_true (List.all_eq_true.mp h9 p hp)
  exact {
    nd := of_decide_eq_true h1
    len := of_decide_eq_true h2
    let_ := fun q hq => (k2 _ (k _ (List.mem_map.mpr ⟨q, hq, rfl⟩))).1
    rows := fun q hq => ⟨(rw_ q hq).1.1, by have := (rw_ q hq).1.2; omega, (rw_ q hq).2⟩
    ax := ⟨(of_decide_eq_true h8).1, (of_decide_eq_true h8).2, ax_⟩
    ends := ⟨s.growth, of_decide_eq_true h6, fun q hq => of_decide_eq_true (List.all_eq_true.mp h7 q hq)⟩
    sub := fun l hl => (k2 _ (k l hl)).2.1
    five := fun q hq => (rw_ q hq).1.2
    nozA := fun p hp => (k2 _ (k _ (ax_ p hp).1)).2.2
    nozR := fun q hq _ p hp => (k2 _ (k _ ((rw_ q hq).2 p hp).1)).2.2 }
theorem wS_ok : ∀ s ∈ wS, Bas s := by
  have h : wS.all basB = true := by decide +kernel
  exact fun s hs => basB_ok (List.all_eq_true.mp h s hs)
/-- a letter more that is not used by the others -/
theorem bas_more {s : Sc} {a : Nat} {r : Row} (B : Bas s) (hz : 122 ∉ s.keys) (hn : s.rs.length ≤ 5) (ha : a ∈ s.keys) (hd : (dirs r).Perm (dirs (rowOf s.rs a))) (hk : ∀ p ∈ r, p.1 ∈ s.keys ∨ p.1 = 122) : Bas ⟨s.sq, s.ax, s.rs ++ [(122, r)]⟩ := by
  have W := B.toWf
  have R := W.rows _ (rowOf_in ha)
  have keysE : (⟨s.sq, s.ax, s.rs ++ [(122, r)]⟩ : Sc).keys = s.keys ++ [122] := by unfold Sc.keys; rw [List.map_append]; rfl
  have lenE : r.length = (rowOf s.rs a).length := by
    have := hd.length_eq
    rwa [dirs_len, dirs_len] at this
  have cases_ : ∀ q ∈ s.rs ++ [(122, r)], q ∈ s.rs ∨ q = (122, r) := fun q hq => (List.mem_append.mp hq).imp id fun h => List.mem_singleton.mp h
  have up : ∀ l, l ∈ s.keys → l ∈ (⟨s.sq, s.ax, s.rs ++ [(122, r)]⟩ : Sc).keys := fun l h => by rw [keysE]; exact List.mem_append_left _ h
  have turns : ∀ p ∈ r, p.2 < ar s.sq := fun p hp => by
    have : p.2 ∈ dirs (rowOf s.rs a) := (hd.mem_iff).mp (List.mem_map.mpr ⟨p, hp, rfl⟩)
    obtain ⟨q, hq, e⟩ := List.mem_map.mp this
    rw [← e]
    exact (R.2.2 q hq).2
  exact {
    nd := by
      rw [keysE]
      exact List.nodup_append.mpr ⟨W.nd, by simp, fun x hx y hy e => hz (by rw [List.mem_singleton.mp hy] at e; rw [← e]; exact hx)⟩
    len := by show 1 ≤ (s.rs ++ [(122, r)]).length ∧ _; rw [List.length_append]; simp only [List.length_cons, List.length_nil]; omega
    let_ := fun q hq => by
      rcases cases_ q hq with h | rfl
      · exact W.let_ q h
      · exact ⟨(by decide : 97 ≤ 122), (by decide : 122 ≤ 122)⟩
    rows := fun q hq => by
      rcases cases_ q hq with h | rfl
      · exact ⟨(W.rows q h).1, (W.rows q h).2.1, fun p hp => ⟨up _ ((W.rows q h).2.2 p hp).1, ((W.rows q h).2.2 p hp).2⟩⟩
      · refine ⟨by show 2 ≤ r.length; rw [lenE]; exact R.1, by show r.length ≤ 12; rw [lenE]; exact R.2.1, fun p hp => ⟨?_, turns p hp⟩⟩
        rcases hk p hp with h | h
        · exact up _ h
        · rw [keysE, h]; exact List.mem_append_right _ (List.mem_singleton.mpr rfl)
    ax := ⟨W.ax.1, W.ax.2.1, fun p hp => ⟨up _ (W.ax.2.2 p hp).1, (W.ax.2.2 p hp).2⟩⟩
    ends := by
      obtain ⟨g, g1, g2⟩ := W.ends
      refine ⟨g, g1, fun q hq => ?_⟩
      rcases cases_ q hq with h | rfl
      · exact g2 q h
      · show endOf s.sq (0, 0) r = g
        rw [end_uS, uS_perm hd, ← end_uS]
        exact g2 _ (rowOf_in ha)
    sub := fun l hl => by
      rw [keysE] at hl
      rcases List.mem_append.mp hl with h | h
      · exact B.sub l h
      · rw [List.mem_singleton.mp h]; decide
    five := fun q hq => by
      rcases cases_ q hq with h | rfl
      · exact B.five q h
      · show r.length ≤ 5; rw [lenE]; exact B.five _ (rowOf_in ha)
    nozA := B.nozA
    nozR := fun q hq ne => by
      rcases cases_ q hq with h | rfl
      · exact B.nozR q h ne
      · exact absurd rfl ne }
/-! copies -/
def tau (l : Nat) : Nat := if l = 120 then 97 else if l = 121 then 98 else l
/-- the names under which a letter comes -/
def Twin (a : Nat) (v : List Nat) : Prop := v = [a] ∨ (a = 97 ∧ v = [97, 120]) ∨ (a = 98 ∧ v = [98, 121])
theorem Twin.ok {a : Nat} {v : List Nat} (h : Twin a v) (ha : a ∈ [97, 98, 99, 122]) : v ≠ [] ∧ v.Nodup ∧ ∀ l ∈ v, tau l = a ∧ l ∈ [97, 98, 99, 122, 120, 121] := by
  have key : ∀ a ∈ [97, 98, 99, 122], ([a] ≠ []) ∧ ([a] : List Nat).Nodup ∧ ∀ l ∈ [a], tau l = a ∧ l ∈ [97, 98, 99, 122, 120, 121] := by decide
  rcases h with rfl | ⟨rfl, rfl⟩ | ⟨rfl, rfl⟩
  · exact key a ha
  · decide
  · decide
/-- rows under other names -/
abbrev RowCp (tw : Nat → List Nat) (r0 r : Row) : Prop := ptw (fun o l => l ∈ tw o) r0 r
theorem cp_tau {tw : Nat → List Nat} : ∀ {r0 r : Row}, (∀ p ∈ r0, ∀ l ∈ tw p.1, tau l = p.1) → RowCp tw r0 r → callR tau r = r0
  | [], [], _, _ => rfl
  | p :: r0, q :: r, h, ⟨a, b, c⟩ => by
    show (tau q.1, q.2) :: callR tau r = p :: r0
    rw [cp_tau (fun p hp => h p (List.mem_cons_of_mem _ hp)) c, h p List.mem_cons_self q.1 b, ← a]
  | [], _ :: _, _, h => h.elim
  | _ :: _, [], _, h => h.elim
theorem cp_mem {tw : Nat → List Nat} : ∀ {r0 r : Row}, RowCp tw r0 r → ∀ q ∈ r, ∃ p ∈ r0, q.2 = p.2 ∧ q.1 ∈ tw p.1
  | [], [], _, q, h => nomatch h
  | p :: r0, q' :: r, ⟨a, b, c⟩, q, h => by
    rcases List.mem_cons.mp h with z | z
    · rw [z]; exact ⟨p, List.mem_cons_self, a.symm, b⟩
    · obtain ⟨p', h1, h2⟩ := cp_mem c q z
      exact ⟨p', List.mem_cons_of_mem _ h1, h2⟩
  | [], _ :: _, h, _, _ => h.elim
  | _ :: _, [], h, _, _ => h.elim
theorem cp_dirs {tw : Nat → List Nat} : ∀ {r0 r : Row}, RowCp tw r0 r → dirs r = dirs r0
  | [], [], _ => rfl
  | p :: r0, q :: r, ⟨a, _, c⟩ => by
    show q.2 :: dirs r = p.2 :: dirs r0
    rw [cp_dirs c, a]
  | [], _ :: _, h => h.elim
  | _ :: _, [], h => h.elim
/-- what a scheme with copies is -/
structure Copd (u : Sc) : Prop extends Wf u where
  five : ∀ p ∈ u.rs, p.2.length ≤ 5
  cop : Cop u tau
theorem copd_of {s : Sc} {tw : Nat → List Nat} {ax : Row} {rs : Rls} (B : Bas s) (ht : ∀ a ∈ s.keys, Twin a (tw a)) (hax : RowCp tw s.ax ax) (hk : rs.map (·.1) = (ordL s.keys).flatMap tw) (hrs : ∀ q ∈ rs, ∃ a ∈ s.keys, q.1 ∈ tw a ∧ RowCp tw (rowOf s.rs a) q.2) : Copd ⟨s.sq, ax, rs⟩ := by
  have W := B.toWf
  have tk : ∀ a ∈ s.keys, tw a ≠ [] ∧ (tw a).Nodup ∧ ∀ l ∈ tw a, tau l = a ∧ l ∈ [97, 98, 99, 122, 120, 121] := fun a ha => (ht a ha).ok (B.sub a ha)
  have memK : ∀ l, l ∈ (⟨s.sq, ax, rs⟩ : Sc).keys ↔ ∃ a ∈ s.keys, l ∈ tw a := fun l => by
    show l ∈ rs.map (·.1) ↔ _
    rw [hk, List.mem_flatMap]
    exact ⟨fun ⟨a, h1, h2⟩ => ⟨a, (mem_ordL' W.k123).mp h1, h2⟩, fun ⟨a, h1, h2⟩ => ⟨a, (mem_ordL' W.k123).mpr h1, h2⟩⟩
  have ndK : (⟨s.sq, ax, rs⟩ : Sc).keys.Nodup := by
    show (rs.map (·.1)).Nodup
    rw [hk]
    have key : ∀ L : List Nat, L.Nodup → (∀ a ∈ L, a ∈ s.keys) → (L.flatMap tw).Nodup := by
      intro L
      induction L with
      | nil => exact fun _ _ => List.nodup_nil
      | cons a L ih =>
        intro nd h
        obtain ⟨n1, n2⟩ := List.nodup_cons.mp nd
        rw [List.flatMap_cons]
        refine List.nodup_append.mpr ⟨(tk a (h a List.mem_cons_self)).2.1, ih n2 fun x hx => h x (List.mem_cons_of_mem _ hx), fun x hx y hy e => ?_⟩
        obtain ⟨b, hb, hy⟩ := List.mem_flatMap.mp hy
        have e1 := ((tk a (h a List.mem_cons_self)).2.2 x hx).1
        have e2 := ((tk b (h b (List.mem_cons_of_mem _ hb))).2.2 y hy).1
        rw [e, e2] at e1
        exact n1 (by rw [← e1]; exact hb)
    exact key _ ordL_nd fun a ha => (mem_ordL' W.k123).mp ha
  have six : ∀ l ∈ [97, 98, 99, 122, 120, 121], 97 ≤ l ∧ l ≤ 122 := by decide
  have in6 : ∀ l ∈ (⟨s.sq, ax, rs⟩ : Sc).keys, l ∈ [97, 98, 99, 122, 120, 121] := fun l hl => by
    obtain ⟨a, ha, hl⟩ := (memK l).mp hl
    exact ((tk a ha).2.2 l hl).2
  have base : ∀ q ∈ rs, ∃ a ∈ s.keys, tau q.1 = a ∧ RowCp tw (rowOf s.rs a) q.2 := fun q hq => by
    obtain ⟨a, ha, h1, h2⟩ := hrs q hq
    exact ⟨a, ha, ((tk a ha).2.2 _ h1).1, h2⟩
  have axK : ∀ p ∈ s.ax, p.1 ∈ s.keys := fun p hp => (W.ax.2.2 p hp).1
  have itK : ∀ {r0 r : Row}, (∀ p ∈ r0, p.1 ∈ s.keys ∧ p.2 < ar s.sq) → RowCp tw r0 r → ∀ q ∈ r, q.1 ∈ (⟨s.sq, ax, rs⟩ : Sc).keys ∧ q.2 < ar s.sq := fun h c q hq => by
    obtain ⟨p, hp, e, hm⟩ := cp_mem c q hq
    exact ⟨(memK _).mpr ⟨p.1, (h p hp).1, hm⟩, by rw [e]; exact (h p hp).2⟩
  have tauR : ∀ {r0 r : Row}, (∀ p ∈ r0, p.1 ∈ s.keys) → RowCp tw r0 r → callR tau r = r0 := fun h c => cp_tau (fun p hp l hl => ((tk _ (h p hp)).2.2 l hl).1) c
  have lenC : ∀ {r0 r : Row}, RowCp tw r0 r → r.length = r0.length := fun c => (ptw_len c).symm
  have abc : ∀ l ∈ s.keys, l ≠ 122 → l ∈ [97, 98, 99] := fun l hl ne => by
    have := B.sub l hl
    simp only [List.mem_cons, List.not_mem_nil, or_false] at this ⊢
    rcases this with h | h | h | h
    · exact .inl h
    · exact .inr (.inl h)
    · exact .inr (.inr h)
    · exact absurd h ne
  exact {
    nd := ndK
    len := by
      refine ⟨?_, ?_⟩
      · obtain ⟨p, hp⟩ : ∃ p, p ∈ s.ax := List.exists_mem_of_length_pos W.ax.1
        have hk' := axK p hp
        obtain ⟨l, hl⟩ := List.exists_mem_of_ne_nil _ (tk _ hk').1
        have := List.length_pos_of_mem ((memK l).mpr ⟨_, hk', hl⟩)
        unfold Sc.keys at this
        rwa [List.length_map] at this
      · have := nat_nodup_len _ _ ndK in6
        unfold Sc.keys at this
        rwa [List.length_map] at this
    let_ := fun q hq => six _ (in6 _ (List.mem_map.mpr ⟨q, hq, rfl⟩))
    rows := fun q hq => by
      obtain ⟨a, ha, _, c⟩ := base q hq
      have R := W.rows _ (rowOf_in ha)
      exact ⟨by rw [lenC c]; exact R.1, by rw [lenC c]; exact R.2.1, itK R.2.2 c⟩
    ax := ⟨by show 1 ≤ ax.length; rw [lenC hax]; exact W.ax.1, by show ax.length ≤ 12; rw [lenC hax]; exact W.ax.2.1, itK W.ax.2.2 hax⟩
    ends := by
      obtain ⟨g, g1, g2⟩ := W.ends
      refine ⟨g, g1, fun q hq => ?_⟩
      obtain ⟨a, ha, _, c⟩ := base q hq
      show endOf s.sq (0, 0) q.2 = g
      rw [end_uS, cp_dirs c, ← end_uS]
      exact g2 _ (rowOf_in ha)
    five := fun q hq => by
      obtain ⟨a, ha, _, c⟩ := base q hq
      rw [lenC c]
      exact B.five _ (rowOf_in ha)
    cop := {
      ax := fun q hq => by
        obtain ⟨p, hp, _, hm⟩ := cp_mem hax q hq
        rw [((tk _ (axK p hp)).2.2 _ hm).1]
        exact abc _ (axK p hp) (B.nozA p hp)
      rs := fun q hq h p hp => by
        obtain ⟨a, ha, e, c⟩ := base q hq
        rw [e] at h
        obtain ⟨p0, hp0, _, hm⟩ := cp_mem c p hp
        have hk0 := row_keys W ha hp0
        rw [((tk _ hk0).2.2 _ hm).1]
        refine abc _ hk0 (B.nozR _ (rowOf_in ha) ?_ p0 hp0)
        intro z
        have z : a = 122 := z
        rw [z] at h
        exact absurd h (by decide)
      eq := fun q hq r hr e => by
        obtain ⟨a, ha, e1, c1⟩ := base q hq
        obtain ⟨b, hb, e2, c2⟩ := base r hr
        have : a = b := by rw [← e1, ← e2, e]
        subst this
        rw [tauR (fun p hp => row_keys W ha hp) c1, tauR (fun p hp => row_keys W ha hp) c2] } }
end G81
set_option maxRecDepth 100000
set_option maxHeartbeats 4000000
/-! turns; written schemes -/
namespace G81
open PySem PySem.Spec PyProof.Rows L2 SlX
open SX (S)
variable {P : Program} {w : World} {K : PySem.W.Frag} {mg : Str → Option Value} {base : Heap}
def dI (l : List Nat) : D := .lst (l.map fun t => .int (t : Nat))
theorem sc74 : FnScope ["_law_grid"] ["_law_grid"] (defScope (topS 74)) := ⟨rfl, rfl, rfl, by decide +kernel, rfl, by decide +kernel, by decide +kernel⟩
def r__law_turns : RD := fun ds P => ∃ sq : Bool, ds = [.txt (gname sq)] ∧ P = Is (.lst ((tL sq).map dI))
theorem w__law_turns (T : Tx K mg) : Cal P w K mg base 1 "_law_turns" r__law_turns :=
  calD T.d__law_turns sc74 (by rintro ds P ⟨n, rfl, _⟩; rfl) fun cdv A outer s' H E hr c ds Pd hR => by
    obtain ⟨sq, rfl, rfl⟩ := hR
    cases sq with
    | true =>
      refine pb_ifRet (B := (· = true)) (ptx_eq (ptv_cmp op_eq (pvv 0) pv_str l_eqS) (by decide +kernel)) (fun _ => ?_) (fun h => by cases h)
      refine pb_ret (P := Is (.lst ((tL true).map dI))) .refl (pv_n (pvn_lst (l := (tL true).map dI) ?_)) fun _ h => h
      repeat (first | exact pv_int | exact pv_str | exact pvs_nil | refine pvs_cons ?_ ?_ | refine pv_n (pvn_lst ?_))
    | false =>
      refine pb_ifRet (B := (· = false)) (ptx_eq (ptv_cmp op_eq (pvv 0) pv_str l_eqS) (by decide +kernel)) (fun h => by cases h) fun _ => ?_
      refine pb_ret (P := Is (.lst ((tL false).map dI))) .refl (pv_n (pvn_lst (l := (tL false).map dI) ?_)) fun _ h => h
      repeat (first | exact pv_int | exact pv_str | exact pvs_nil | refine pvs_cons ?_ ?_ | refine pv_n (pvn_lst ?_))
end G81
set_option maxRecDepth 100000
set_option maxHeartbeats 4000000
/-! written schemes: the walk -/
namespace G81
open PySem PySem.Spec PyProof.Rows L2 SlX
open SX (S)
variable {P : Program} {w : World} {K : PySem.W.Frag} {mg : Str → Option Value} {base : Heap}
def rowT (s : Sc) : List Str := gname s.sq :: S (rowC s.ax) :: s.rs.map fun p => S (p.1 :: 32 :: rowC p.2)
def rowD (s : Sc) : D := .lst ((rowT s).map D.txt)
/-- the rows as they are written -/
def rowsW : List (List Str) := [["square", "a0", "a a0 b1", "b a1 b0"], ["square", "a0", "a a0 a1"], ["triangle", "a0 a4 a2", "a a0 a1 a5 a0"], ["square", "a0", "a a0 a0 a2 a0"], ["square", "a0 a1", "a a0 a0"], ["triangle", "a0", "a a0 a2 a0"], ["square", "a0 a0 a1 a2 a3 a3", "a a0 a0"], ["square", "a0 a1 a2 a3", "a a0 a1 a0 a3 a0"], ["square", "a0 b0", "a a0 b1 a0 a3", "b b0 a3 b1 b0"], ["triangle", "a0", "a b1 a0 b5", "b a5 b0 a1"]]
theorem rowsW_eq : rowsW = wS.map rowT := by decide +kernel
def rD (r : List Str) : D := .lst (r.map D.txt)
theorem sc73 : FnScope ["_law_way", "_law_rows", "_law_row_here", "_law_text"] ["_law_way"] (defScope (topS 73)) := ⟨rfl, rfl, rfl, by decide +kernel, rfl, by decide +kernel, by decide +kernel⟩
def r__law_written : RD := fun ds P => ∃ k : Nat, ds = [.int (k : Nat)] ∧ k < 10 ∧ P = fun d => ∃ s ∈ wS, d = .lst (dLines s)
theorem cut_nat {l : List D} {k : Nat} : cutD l (some ((k : Nat) : Int)) none = l.drop k := by
  unfold cutD
  rw [HT.sIx_nat, HT.sIx_none]
  by_cases h : k ≤ l.length
  · rw [Nat.min_eq_left h]
    exact List.take_of_length_le (by rw [List.length_drop]; omega)
  · rw [Nat.min_eq_right (by omega), List.drop_eq_nil_of_le (Nat.le_refl _), List.drop_eq_nil_of_le (by omega), List.take_nil]
theorem cut_to {l : List D} {k : Nat} : cutD l none (some ((k : Nat) : Int)) = l.take k := by
  unfold cutD
  rw [HT.sIx_nat, HT.sIx_none, List.drop_zero, Nat.sub_zero]
  by_cases h : k ≤ l.length
  · rw [Nat.min_eq_left h]
  · rw [Nat.min_eq_right (by omega), List.take_of_length_le (Nat.le_refl _), List.take_of_length_le (by omega)]
theorem lineG_cat (sq : Bool) : ("grid " : Str) ++ gname sq = lineG sq := by cases sq <;> decide +kernel
theorem lineA_cat (r : Row) : ("axiom " : Str) ++ S (rowC r) = lineA r := by
  rw [show ("axiom " : Str) = S (codes "axiom ") by decide +kernel, SX.S_cat]
  rfl
theorem lineR_cat (p : Nat × Row) : ("rule " : Str) ++ S (p.1 :: 32 :: rowC p.2) = lineR p := by
  rw [show ("rule " : Str) = S (codes "rule ") by decide +kernel, SX.S_cat]
  rfl
theorem rowC_small {r : Row} (h : r.length ≤ 1000) : (S (rowC r)).length ≤ 3000 := by
  rw [SX.S_len]
  exact Nat.le_trans (rowC_len r) (by omega)
theorem w__law_written (T : Tx K mg) : Cal P w K mg base 1 "_law_written" r__law_written :=
  calD T.d__law_written sc73 (by rintro ds P ⟨n, rfl, _⟩; rfl) fun cdv A outer s' H E hr c ds Pd hR => by
    have nd := sc73.nd
    obtain ⟨k, rfl, hk, rfl⟩ := hR
    refine pb_setC 1 (cx_own (P := (· = (rowsW.take 2).map rD)) (pvn_lst ?_)) (fun c' y sy => ?_) nd
    · repeat (first | exact pv_int | exact pv_str | exact pvs_nil | refine pvs_cons ?_ ?_ | refine pv_n (pvn_lst ?_))
    obtain ⟨fk, l, d2, hl2, rfl, rfl, rfl⟩ := sy
    refine pb_app (P := Is (rD (rowsW.getD 2 []))) 1 rfl (pv_n (pvn_lst ?_)) (by simp [offAll, startD, Cell.adr]) (Nat.lt_of_lt_of_le (show _ < 3 by decide) (by decide)) (fun d e => ?_)
    · repeat (first | exact pv_int | exact pv_str | exact pvs_nil | refine pvs_cons ?_ ?_)
    cases (show d = _ from e)
    refine pb_app (P := Is (rD (rowsW.getD 3 []))) 1 rfl (pv_n (pvn_lst ?_)) (by simp [offAll, startD, Cell.adr]) (Nat.lt_of_lt_of_le (show _ < 4 by decide) (by decide)) (fun d e => ?_)
    · repeat (first | exact pv_int | exact pv_str | exact pvs_nil | refine pvs_cons ?_ ?_)
    cases (show d = _ from e)
    refine pb_app (P := Is (rD (rowsW.getD 4 []))) 1 rfl (pv_n (pvn_lst ?_)) (by simp [offAll, startD, Cell.adr]) (Nat.lt_of_lt_of_le (show _ < 5 by decide) (by decide)) (fun d e => ?_)
    · repeat (first | exact pv_int | exact pv_str | exact pvs_nil | refine pvs_cons ?_ ?_)
    cases (show d = _ from e)
    refine pb_app (P := Is (rD (rowsW.getD 5 []))) 1 rfl (pv_n (pvn_lst ?_)) (by simp [offAll, startD, Cell.adr]) (Nat.lt_of_lt_of_le (show _ < 6 by decide) (by decide)) (fun d e => ?_)
    · repeat (first | exact pv_int | exact pv_str | exact pvs_nil | refine pvs_cons ?_ ?_)
    cases (show d = _ from e)
    refine pb_app (P := Is (rD (rowsW.getD 6 []))) 1 rfl (pv_n (pvn_lst ?_)) (by simp [offAll, startD, Cell.adr]) (Nat.lt_of_lt_of_le (show _ < 7 by decide) (by decide)) (fun d e => ?_)
    · repeat (first | exact pv_int | exact pv_str | exact pvs_nil | refine pvs_cons ?_ ?_)
    cases (show d = _ from e)
    refine pb_app (P := Is (rD (rowsW.getD 7 []))) 1 rfl (pv_n (pvn_lst ?_)) (by simp [offAll, startD, Cell.adr]) (Nat.lt_of_lt_of_le (show _ < 8 by decide) (by decide)) (fun d e => ?_)
    · repeat (first | exact pv_int | exact pv_str | exact pvs_nil | refine pvs_cons ?_ ?_)
    cases (show d = _ from e)
    refine pb_app (P := Is (rD (rowsW.getD 8 []))) 1 rfl (pv_n (pvn_lst ?_)) (by simp [offAll, startD, Cell.adr]) (Nat.lt_of_lt_of_le (show _ < 9 by decide) (by decide)) (fun d e => ?_)
    · repeat (first | exact pv_int | exact pv_str | exact pvs_nil | refine pvs_cons ?_ ?_)
    cases (show d = _ from e)
    refine pb_app (P := Is (rD (rowsW.getD 9 []))) 1 rfl (pv_n (pvn_lst ?_)) (by simp [offAll, startD, Cell.adr]) (Nat.lt_of_lt_of_le (show _ < 10 by decide) (by decide)) (fun d e => ?_)
    · repeat (first | exact pv_int | exact pv_str | exact pvs_nil | refine pvs_cons ?_ ?_)
    cases (show d = _ from e)
    refine pb_disown 1 fk hl2 rfl (by simp [offAll, startD, Cell.adr]) ?_
    have hl : k < wS.length := hk
    have hs : wS[k] ∈ wS := List.getElem_mem hl
    have at_ : (rowsW.map rD)[k]? = some (rowD wS[k]) := by
      rw [rowsW_eq, List.map_map, List.getElem?_map, List.getElem?_eq_getElem hl]
      rfl
    generalize wS[k] = s at hs at_
    have R := (wS_ok s hs).toWf.txok
    refine pv_set 2 nd rfl (.inl rfl) (pv_ix ix_list (pv_eq (pvv 1) (show _ = D.lst (rowsW.map rD) from rfl)) (pvv 0) (l_ixL (d := rowD s) (atI_nat at_))) ?_
    refine pb_ret (P := Is (.lst (dLines s))) .refl (pv_eq (pv_op op_cat (pv_n (pvn_lst (l := [.txt (lineG s.sq), .txt (lineA s.ax)]) (pvs_cons (pv_eq (pv_op op_add_str pv_str (pv_ix ix_list (pvv 2) pv_int (l_ixL (d := .txt (gname s.sq)) (atI_nat (i := 0) rfl))) (l_cat ?_)) (by rw [lineG_cat])) (pvs_cons (pv_eq (pv_op op_add_str pv_str (pv_ix ix_list (pvv 2) pv_int (l_ixL (d := .txt (S (rowC s.ax))) (atI_nat (i := 1) rfl))) (l_cat ?_)) (by rw [lineA_cat])) pvs_nil)))) (pv_n (lcN (xs := s.rs) (emb := fun p : Nat × Row => .txt (S (p.1 :: 32 :: rowC p.2))) (f := fun p : Nat × Row => .txt (lineR p)) 3 [("_law_text", 3)] (pix_lstv (pv_n (PN.mono (pn_slice (i := some ((2 : Nat) : Int)) (pvv 2) (io_some pv_int) io_none) fun l e => ?_))) (fun _ _ => rfl) (fun _ _ _ _ _ p _ hp => pv_eq (pv_op op_add_str pv_str (pvv 3) (l_cat ?_)) (by rw [lineR_cat])) nd)) (l_catL ?_)) ?_) fun d e => ⟨s, hs, e⟩
    · cases s.sq <;> decide +kernel
    · have := rowC_small R.ax.2.2
      exact Nat.le_trans (show 6 + (S (rowC s.ax)).length ≤ 5000 by omega) (by decide)
    · rw [e, cut_nat]
      unfold rowT
      rw [List.map_cons, List.map_cons, List.drop_succ_cons, List.drop_succ_cons, List.drop_zero, List.map_map]
      rfl
    · have := rowC_small (R.rs p hp).2.2.2
      rw [SX.S_len] at this ⊢
      exact Nat.le_trans (show 5 + ((rowC p.2).length + 1 + 1) ≤ 5000 by omega) (by decide)
    · rw [List.length_map]
      have := R.few
      exact Nat.le_trans (show 2 + s.rs.length ≤ 1000 by omega) (by decide)
    · unfold dLines linesOf
      rw [List.map_cons, List.map_cons, List.map_map]
      rfl
end G81
set_option maxRecDepth 100000
set_option maxHeartbeats 4000000
/-! comprehensions whose items are known in part; joined texts known in part -/
namespace G81
open PySem PySem.Spec PyProof.Rows L2 SlX
open SX (S)
def A2 {α β : Type} (Q : α → β → Prop) : List α → List β → Prop
  | [], [] => True
  | x :: l, y :: m => Q x y ∧ A2 Q l m
  | _, _ => False
theorem A2.len {α β : Type} {Q : α → β → Prop} : ∀ {l : List α} {m : List β}, A2 Q l m → m.length = l.length
  | [], [], _ => rfl
  | _ :: _, _ :: _, h => congrArg (· + 1) h.2.len
  | [], _ :: _, h => h.elim
  | _ :: _, [], h => h.elim
theorem A2.right {α β : Type} {Q : α → β → Prop} : ∀ {l : List α} {m : List β}, A2 Q l m → ∀ y ∈ m, ∃ x ∈ l, Q x y
  | [], [], _, y, h => nomatch h
  | x :: l, z :: m, h, y, hy => by
    rcases List.mem_cons.mp hy with e | e
    · rw [e]; exact ⟨x, List.mem_cons_self, h.1⟩
    · obtain ⟨x', h1, h2⟩ := A2.right h.2 y e
      exact ⟨x', List.mem_cons_of_mem _ h1, h2⟩
  | [], _ :: _, h, _, _ => h.elim
  | _ :: _, [], h, _, _ => h.elim
theorem LcR.a2 {α β : Type} {Q : α → β → Prop} {g : β → D} : ∀ {l : List α} {r : List D}, LcR (fun _ b => b = true) (fun x d => ∃ y, Q x y ∧ d = g y) l r → ∃ ys, A2 Q l ys ∧ r = ys.map g
  | [], _, h => ⟨[], trivial, h⟩
  | z :: l, r, h => by
    rcases h with ⟨b, h⟩ | ⟨b, y, r', rfl, ⟨u, p, rfl⟩, h⟩
    · cases b
    · obtain ⟨ys, h1, rfl⟩ := LcR.a2 h
      exact ⟨u :: ys, ⟨p, h1⟩, rfl⟩
section
variable {X : Cx} {c : Fm} {δ : List Cell} {elt tg iter test : Expr} {scope : Scope} {pos : Pos} {α β : Type} {emb : α → D} {xs : List α} {δ' : α → List Cell} {x y : Str} {px py pt : Pos} {kk : Nat} {Q : α → β → Prop} {g : β → D}
theorem lcNE (i : Nat) (own : List (Str × Nat)) (hi : PIX X c δ (.Name x px) iter (· = xs.map emb)) (hp : ∀ x, x ∈ xs → (Tg.nm i).put (emb x) (wipeD δ (own.map (·.2))) = some (δ' x))
    (he : ∀ (s : Shared) (H : Hp) (C : Addr) (cl : List (Str × Addr)) (fp : List Addr) (x : α) (D : Addr), x ∈ xs → PX (X.blk s H scope (compEnvC scope cl C X.env) fp) (c.add D) (δ' x) elt (fun d => ∃ y, Q x y ∧ d = g y)) (hN : X.N.Nodup) (bo : BlkOk X.N X.env.scope scope own := by exact blkOk_by (by rfl))
    (hg : ∀ (s : Shared) (H : Hp) (C : Addr) (cl : List (Str × Addr)) (fp : List Addr), PGX (X.blk s H scope (compEnvC scope cl C X.env) fp) (.Name x px) (.nm i) := by intros; exact pgx_nm (by assumption) rfl (by first | exact Or.inl rfl | exact Or.inr rfl))
    (hc : X.calm = true := by rfl) (hv : ∀ i' ∈ (Tg.nm i).ix, i' ∈ own.map (·.2) := by decide) (hs : ∀ x, foldedSetIterable iter X.env x = pure x := by intro _; rfl) : PN X c δ (.ListComp elt [⟨.Name x px, iter, [], 0⟩] scope pos) (fun r => ∃ ys, A2 Q xs ys ∧ r = ys.map g) :=
  pn_lc (Px := (· = xs)) (ok := (· ∈ xs)) (B := fun _ b => b = true) (Pe := fun x d => ∃ y, Q x y ∧ d = g y) hc hN (PIX.mono hi fun _ e => ⟨xs, rfl, e⟩) bo (fun _ e _ h => e ▸ h) hg hp hv (fun _ _ _ _ _ _ _ _ => ptxs_nil) he (fun ys r e h => by rw [e] at h; exact h.a2) hs
theorem lcPE (i j : Nat) (own : List (Str × Nat)) (hi : PIX X c δ (.Tuple [.Name x px, .Name y py] kk pt) iter (· = xs.map emb)) (hp : ∀ x, x ∈ xs → (Tg.pr i j).put (emb x) (wipeD δ (own.map (·.2))) = some (δ' x))
    (he : ∀ (s : Shared) (H : Hp) (C : Addr) (cl : List (Str × Addr)) (fp : List Addr) (x : α) (D : Addr), x ∈ xs → PX (X.blk s H scope (compEnvC scope cl C X.env) fp) (c.add D) (δ' x) elt (fun d => ∃ y, Q x y ∧ d = g y)) (hN : X.N.Nodup) (bo : BlkOk X.N X.env.scope scope own := by exact blkOk_by (by rfl))
    (hg : ∀ (s : Shared) (H : Hp) (C : Addr) (cl : List (Str × Addr)) (fp : List Addr), PGX (X.blk s H scope (compEnvC scope cl C X.env) fp) (.Tuple [.Name x px, .Name y py] kk pt) (.pr i j) := by intros; exact pgx_pr rfl (by assumption) rfl rfl (by first | exact Or.inl rfl | exact Or.inr rfl) (by first | exact Or.inl rfl | exact Or.inr rfl))
    (hc : X.calm = true := by rfl) (hv : ∀ i' ∈ (Tg.pr i j).ix, i' ∈ own.map (·.2) := by decide) (hs : ∀ x, foldedSetIterable iter X.env x = pure x := by intro _; rfl) : PN X c δ (.ListComp elt [⟨.Tuple [.Name x px, .Name y py] kk pt, iter, [], 0⟩] scope pos) (fun r => ∃ ys, A2 Q xs ys ∧ r = ys.map g) :=
  pn_lc (Px := (· = xs)) (ok := (· ∈ xs)) (B := fun _ b => b = true) (Pe := fun x d => ∃ y, Q x y ∧ d = g y) hc hN (PIX.mono hi fun _ e => ⟨xs, rfl, e⟩) bo (fun _ e _ h => e ▸ h) hg hp hv (fun _ _ _ _ _ _ _ _ => ptxs_nil) he (fun ys r e h => by rw [e] at h; exact h.a2) hs
/-- y = [e for x in ..], e known in part -/
theorem pb_setLcN {z : Str} {zp spos : Pos} {rest : List Stmt} {w : Wi} (k i : Nat) (own : List (Str × Nat)) (hi : PIX X c δ (.Name x px) iter (· = xs.map emb)) (hp : ∀ x, x ∈ xs → (Tg.nm i).put (emb x) (wipeD δ (own.map (·.2))) = some (δ' x))
    (he : ∀ (s : Shared) (H : Hp) (C : Addr) (cl : List (Str × Addr)) (fp : List Addr) (x : α) (D : Addr), x ∈ xs → PX (X.blk s H scope (compEnvC scope cl C X.env) fp) (c.add D) (δ' x) elt (fun d => ∃ y, Q x y ∧ d = g y)) (hN : X.N.Nodup) (q : ∀ ys, A2 Q xs ys → PB X c (δ.set k (.d (.lst (ys.map g)))) rest w)
    (hy : X.N[k]? = some z := by rfl) (hyl : X.env.scope.names.lookup z = some .local := by rfl) (hsw : swapsWith (.ListComp elt [⟨.Name x px, iter, [], 0⟩] scope pos) (some (.Name z zp)) spos.line X.env = pure true := by rfl) (bo : BlkOk X.N X.env.scope scope own := by exact blkOk_by (by rfl))
    (hg : ∀ (s : Shared) (H : Hp) (C : Addr) (cl : List (Str × Addr)) (fp : List Addr), PGX (X.blk s H scope (compEnvC scope cl C X.env) fp) (.Name x px) (.nm i) := by intros; exact pgx_nm (by assumption) rfl (by first | exact Or.inl rfl | exact Or.inr rfl))
    (hc : X.calm = true := by rfl) (hv : ∀ i' ∈ (Tg.nm i).ix, i' ∈ own.map (·.2) := by decide) (hs : ∀ x, foldedSetIterable iter X.env x = pure x := by intro _; rfl) : PB X c δ (.Assign [.Name z zp] (.ListComp elt [⟨.Name x px, iter, [], 0⟩] scope pos) spos :: rest) w :=
  pb_setLc (Px := (· = xs)) (ok := (· ∈ xs)) (B := fun _ b => b = true) (Pe := fun x d => ∃ y, Q x y ∧ d = g y) (P := fun d => ∃ ys, A2 Q xs ys ∧ d = .lst (ys.map g)) k hc hN hy hyl hsw (PIX.mono hi fun _ e => ⟨xs, rfl, e⟩) bo (fun _ e _ h => e ▸ h) hg hp hv (fun _ _ _ _ _ _ _ _ => ptxs_nil) he (fun ys r e h => by rw [e] at h; obtain ⟨zs, h1, h2⟩ := h.a2; exact ⟨zs, h1, by rw [h2]⟩) (fun d ⟨ys, h1, h2⟩ => by rw [h2]; exact q ys h1) hs
theorem pb_setLcP {z : Str} {zp spos : Pos} {rest : List Stmt} {w : Wi} (k i j : Nat) (own : List (Str × Nat)) (hi : PIX X c δ (.Tuple [.Name x px, .Name y py] kk pt) iter (· = xs.map emb)) (hp : ∀ x, x ∈ xs → (Tg.pr i j).put (emb x) (wipeD δ (own.map (·.2))) = some (δ' x))
    (he : ∀ (s : Shared) (H : Hp) (C : Addr) (cl : List (Str × Addr)) (fp : List Addr) (x : α) (D : Addr), x ∈ xs → PX (X.blk s H scope (compEnvC scope cl C X.env) fp) (c.add D) (δ' x) elt (fun d => ∃ y, Q x y ∧ d = g y)) (hN : X.N.Nodup) (q : ∀ ys, A2 Q xs ys → PB X c (δ.set k (.d (.lst (ys.map g)))) rest w)
    (hy : X.N[k]? = some z := by rfl) (hyl : X.env.scope.names.lookup z = some .local := by rfl) (hsw : swapsWith (.ListComp elt [⟨.Tuple [.Name x px, .Name y py] kk pt, iter, [], 0⟩] scope pos) (some (.Name z zp)) spos.line X.env = pure true := by rfl) (bo : BlkOk X.N X.env.scope scope own := by exact blkOk_by (by rfl))
    (hg : ∀ (s : Shared) (H : Hp) (C : Addr) (cl : List (Str × Addr)) (fp : List Addr), PGX (X.blk s H scope (compEnvC scope cl C X.env) fp) (.Tuple [.Name x px, .Name y py] kk pt) (.pr i j) := by intros; exact pgx_pr rfl (by assumption) rfl rfl (by first | exact Or.inl rfl | exact Or.inr rfl) (by first | exact Or.inl rfl | exact Or.inr rfl))
    (hc : X.calm = true := by rfl) (hv : ∀ i' ∈ (Tg.pr i j).ix, i' ∈ own.map (·.2) := by decide) (hs : ∀ x, foldedSetIterable iter X.env x = pure x := by intro _; rfl) : PB X c δ (.Assign [.Name z zp] (.ListComp elt [⟨.Tuple [.Name x px, .Name y py] kk pt, iter, [], 0⟩] scope pos) spos :: rest) w :=
  pb_setLc (Px := (· = xs)) (ok := (· ∈ xs)) (B := fun _ b => b = true) (Pe := fun x d => ∃ y, Q x y ∧ d = g y) (P := fun d => ∃ ys, A2 Q xs ys ∧ d = .lst (ys.map g)) k hc hN hy hyl hsw (PIX.mono hi fun _ e => ⟨xs, rfl, e⟩) bo (fun _ e _ h => e ▸ h) hg hp hv (fun _ _ _ _ _ _ _ _ => ptxs_nil) he (fun ys r e h => by rw [e] at h; obtain ⟨zs, h1, h2⟩ := h.a2; exact ⟨zs, h1, by rw [h2]⟩) (fun d ⟨ys, h1, h2⟩ => by rw [h2]; exact q ys h1) hs
end
section
variable {X : Cx} {c : Fm} {δ : List Cell} {e o : Expr} {pos apos : Pos} {z : Str} {Q : List Str → Prop}
theorem px_join (ho : PV X c δ o (.txt z)) (he : PX X c δ e (fun d => ∃ ys : List Str, d = .lst (ys.map D.txt) ∧ Q ys)) (hz : ∀ ys, Q ys → (ys.map (·.length)).sum + ys.length * z.length ≤ 16777216) (hs : starEach [e] X.env = [(false, eval e X.env)] := by rfl) (hbase : attributeBase o "join" X.env (eval o X.env) = eval o X.env := by rfl) (hline : (apos.endLine == pos.line) = true := by rfl) :
    PX X c δ (.Call (.Attribute o "join" apos) [e] [] pos) (fun d => ∃ ys, Q ys ∧ d = .txt (Txt.join z ys)) :=
  PE.mono (pe_join ho he hs hbase hline) fun σ H W ⟨ev, w⟩ => ⟨ev, fun v H1 d q r a => by
    cases (show d = _ from q)
    cases (show v = _ from a)
    refine ⟨⟨z, rfl⟩, ev.rl r, fun u H2 d ⟨ys, e1, hy⟩ r2 a => ?_⟩
    subst e1
    obtain ⟨l, xs, rfl, hm, hl, hx⟩ := a
    rw [hx.txts] at hl
    exact ⟨z, l, ys, rfl, rfl, .inl (SqL.of hl), hz ys hy, w _ H2 _ ⟨ys, hy, rfl⟩ (r.trans0 r2) rfl⟩⟩
end
end G81
set_option maxRecDepth 100000
set_option maxHeartbeats 4000000
/-! a drawn rule -/
namespace G81
open PySem PySem.Spec PyProof.Rows L2 SlX
open SX (S)
variable {P : Program} {w : World} {K : PySem.W.Frag} {mg : Str → Option Value} {base : Heap}
theorem sc75 : FnScope ["_law_dice_here", "_law_grid", "_law_letters", "_law_turns_here", "_law_row_here", "_law_around_here", "_law_at", "_law_turn"] ["_law_dice_here", "_law_grid", "_law_letters", "_law_turns_here"] (defScope (topS 75)) := ⟨rfl, rfl, rfl, by decide +kernel, rfl, by decide +kernel, by decide +kernel⟩
/-- a drawn letter with a turn -/
def QIt (ls : List Nat) (t : Nat) (y : It2) : Prop := y.2 = t ∧ y.1 ∈ ls
theorem px_item {X : Cx} (T : Tx X.K X.mg) {c : Fm} {δ : List Cell} {a b : Expr} {pos pp sp : Pos} {ls : List Nat} {t : Nat} (ha : PX X c δ a (fun d => d ∈ ls.map dLet)) (hb : PV X c δ b (.int (t : Nat))) (ht : t < 10)
    (hs : starEach [b] X.env = (false, eval b X.env) :: starEach [] X.env := by rfl) (hg : Gl X "str" := by rfl) (hpl : (backTo sp (starEach [] X.env)).any (·.1) = false := by rfl) :
    PX X c δ (.BinOp a .Add (.Call (.Name "str" pp) [b] [] sp) pos) (fun d => ∃ y : It2, QIt ls t y ∧ d = .txt (S (itemC y))) :=
  px_op op_add_str ha (v_strI T hb (log_small ht) hs hg hpl) fun x y h1 h2 => by
    obtain ⟨l, hl, rfl⟩ := List.mem_map.mp h1
    cases (show y = _ from h2)
    intro v w H Q bs a1 a2 q
    refine l_cat (by rw [txt_num ht]; show 1 + 1 ≤ sizeLine; decide) v w H Q bs a1 a2 fun z H' d e r a => q z H' d ⟨(l, t), ⟨rfl, hl⟩, ?_⟩ r a
    rw [show d = _ from e, txt_num ht, show lt l = S [l] from rfl, SX.S_cat]
    rfl
theorem qits {ls : List Nat} : ∀ {ts : List Nat} {r : Row}, A2 (QIt ls) ts r → dirs r = ts ∧ ∀ p ∈ r, p.1 ∈ ls
  | [], [], _ => ⟨rfl, fun _ h => nomatch h⟩
  | t :: ts, p :: r, h => by
    obtain ⟨h1, h2⟩ := qits h.2
    refine ⟨by show p.2 :: dirs r = _; rw [h1, h.1.1], fun q hq => ?_⟩
    rcases List.mem_cons.mp hq with z | z
    · rw [z]; exact h.1.2
    · exact h2 q z
  | [], _ :: _, h => h.elim
  | _ :: _, [], h => h.elim
/-- a row's text, its items known in part -/
theorem px_rowtext {X : Cx} {c : Fm} {δ : List Cell} {e : Expr} {pos apos cpos : Pos} {ls : List Nat} {ts : List Nat} {kk : Tok} (he : PN X c δ e (fun r => ∃ ys : Row, A2 (QIt ls) ts ys ∧ r = ys.map fun y => .txt (S (itemC y)))) (hl : ts.length ≤ 1000) (hs : starEach [e] X.env = [(false, eval e X.env)] := by rfl) (hbase : attributeBase (.Constant (.str " ") kk cpos) "join" X.env (eval (.Constant (.str " ") kk cpos) X.env) = eval (.Constant (.str " ") kk cpos) X.env := by rfl) (hline : (apos.endLine == pos.line) = true := by rfl) :
    PX X c δ (.Call (.Attribute (.Constant (.str " ") kk cpos) "join" apos) [e] [] pos) (fun d => ∃ r : Row, (dirs r = ts ∧ ∀ p ∈ r, p.1 ∈ ls) ∧ d = .txt (S (rowC r))) :=
  PX.mono (px_join (Q := fun ys => ∃ r : Row, (dirs r = ts ∧ ∀ p ∈ r, p.1 ∈ ls) ∧ ys = r.map fun p => S (itemC p)) pv_str (px_n he fun l ⟨ys, h1, h2⟩ => ⟨ys.map fun p => S (itemC p), by rw [h2, List.map_map]; rfl, ys, qits h1, rfl⟩) (fun ys ⟨r, h, e⟩ => by
    subst e
    have : r.length = ts.length := by rw [← h.1, dirs_len]
    rw [sum_two, List.length_map]
    show 2 * r.length + r.length * 1 ≤ 16777216
    omega) hs hbase hline) fun d ⟨ys, ⟨r, h, e1⟩, e2⟩ => ⟨r, h, by rw [e2, e1, show (" " : Str) = S [32] by decide +kernel, row_join]⟩
def r__law_drawn_rule : RD := fun ds P => ∃ (sq : Bool) (ls ts : List Nat), ds = [.dice, .txt (gname sq), .lst (ls.map dLet), dI ts] ∧ (ls ≠ [] ∧ ls.length < 1000) ∧ ts ∈ tL sq ∧ P = fun d => ∃ r : Row, GoodR sq ls ts r ∧ d = .txt (S (rowC r))
theorem w__law_drawn_rule (T : Tx K mg) : Cal P w K mg base 4 "_law_drawn_rule" r__law_drawn_rule :=
  calD T.d__law_drawn_rule sc75 (by rintro ds P ⟨n, a, b, rfl, _⟩; rfl) fun cdv A outer s' H E hr c ds Pd hR => by
    have nd := sc75.nd
    obtain ⟨sq, ls, ts, rfl, ⟨hls, hls2⟩, hts, rfl⟩ := hR
    obtain ⟨⟨t2, t4⟩, tlt, tn⟩ := tL_ok sq ts hts
    have ar6 := ar_le sq
    have arp := ar_pos sq
    refine pb_par 4 5 (pa2C (cx_d (px_call (w__law_mixed T) hr (by decide) rfl (pvs_cons (pvv 0) (pvs_cons (pvv 3) pvs_nil)) fun ds e => ⟨_, dI ts, e, .inl rfl, by rw [List.length_map]; omega, rfl⟩)) fun c1 y1 s1 => cv_d (d := .int (ar sq : Nat)) (px_if (T := fun b => b = decide (gname sq = "square")) (ptv_cmp op_eq (pvv 1) pv_str l_eqS) (fun h => ?_) fun h => ?_)) (fun c' y1 y2 ⟨c2, s1, s2⟩ => ?_) nd
    · have : sq = true := by
        have h := of_decide_eq_true h.symm
        revert h
        cases sq <;> decide +kernel
      rw [this]
      exact pv_int
    · have : sq = false := by
        have h := of_decide_eq_false h.symm
        revert h
        cases sq <;> decide +kernel
      rw [this]
      exact pv_int
    obtain ⟨rfl, d1, rfl, m, rfl, pm⟩ := s1
    obtain ⟨rfl, d2, rfl, e2⟩ := s2
    cases (show d2 = _ from e2)
    obtain ⟨us, pu, rfl⟩ := perm_lift pm rfl
    have ulen : us.length = ts.length := pu.length_eq
    have ult : ∀ t ∈ us, t < ar sq := fun t h => tlt t (pu.mem_iff.mp h)
    refine pb_if (B := fun b => b = true → ts.length < 4) (M := fun δ' => ∃ (vs : List Nat) (x6 x7 : Cell), (2 ≤ vs.length ∧ vs.length ≤ 5) ∧ (∀ t ∈ vs, t < ar sq) ∧ uS sq vs = uS sq ts ∧ δ' = [.d .dice, .d (.txt (gname sq)), .d (.lst (ls.map dLet)), .d (dI ts), .d (dI vs), .d (.int (ar sq : Nat)), x6, x7]) (ptx_bo (pwx_and (T := fun _ => True) (ptx_eqI (p := fun _ => True) (q := fun _ => True) (PX.mono (pv_call (w__law_roll T) hr (by decide) rfl (pvs_cons (pvv 0) (pvs_cons pv_int pvs_nil)) ⟨6, rfl, ⟨by decide, by decide⟩, rfl⟩) fun d ⟨k, _, e⟩ => ⟨_, e, trivial⟩) (in_of pv_int trivial) fun _ _ _ _ => trivial) (fun _ => pwx_and (T := fun b => b = decide (ts.length < 4)) (ptx_eq (ptv_cmp op_lt (v_lenL T (pvv 3)) pv_int l_bl) ?_) (fun h => pwx_and1 (T := fun b => b = true → ts.length < 4) (ptx_cmp (op_notInD (ru hr)) (pvv 3) (pv_n (PN.mono (pn_slice (i := none) (j := some (if sq then 2 else 3)) (pv_call (w__law_turns T) hr (by decide) rfl (pvs_cons (pvv 1) pvs_nil) ⟨sq, rfl, rfl⟩) io_none (io_some (px_if (T := fun b => b = !sq) (ptx_eq (ptv_cmp op_eq (pvv 5) pv_int l_eqI) ?_) (fun h => ?_) fun h => ?_))) fun l e => e)) fun x y e1 e2 => ?_)) fun _ h => by cases h) fun _ h => by cases h)) (fun hB => ?_) (fun _ => ?_) (.inl rfl) ?_
    · rw [List.length_map, Bool.eq_iff_iff, decide_eq_true_eq, decide_eq_true_eq]; omega
    · cases sq <;> decide
    · have : sq = false := by cases sq <;> first | rfl | cases h
      rw [this]; exact pv_int
    · have : sq = true := by cases sq <;> first | rfl | cases h
      rw [this]; exact pv_int
    · cases (show x = _ from e1)
      cases (show y = _ from e2)
      refine l_notInD (n := 1) (m := 1) (dq_ints map_int) (Dqs.all fun d hd => ?_) (by decide) (by decide) fun b _ => ⟨_, rfl, fun _ => of_decide_eq_true h.symm⟩
      have hd : d ∈ (tL sq).map dI := List.mem_of_mem_drop (List.mem_of_mem_take hd)
      obtain ⟨u, _, rfl⟩ := List.mem_map.mp hd
      exact dq_ints map_int
    · -- the branch
      have t4' := hB rfl
      refine pb_par 6 7 (pa2C (cx_d (P := NatBelow (us.length + 1)) (px_call (w__law_roll T) hr (by decide) rfl (pvs_cons (pvv 0) (pvs_cons (pv_op op_add (v_lenL T (pvv 4)) pv_int l_int) pvs_nil)) fun ds e => ⟨us.length + 1, by rw [e, List.length_map]; rfl, ⟨by omega, by omega⟩, rfl⟩)) fun c1 y1 s1 => cx_d (P := NatBelow (ar sq)) (px_call (w__law_roll T) hr (by decide) rfl (pvs_cons (pvv 0) (pvs_cons (pvv 5) pvs_nil)) fun ds e => ⟨ar sq, e, ⟨by omega, by omega⟩, rfl⟩)) (fun c' y1 y2 ⟨c2, s1, s2⟩ => ?_) nd
      obtain ⟨rfl, d1, rfl, k, hk, rfl⟩ := s1
      obtain ⟨rfl, d2, rfl, t, ht, rfl⟩ := s2
      refine pv_set 4 (d := dI (us.take k ++ [t, (t + half sq) % ar sq] ++ us.drop k)) nd rfl (.inl rfl) (pv_eq (pv_op op_cat (pv_op op_cat (pv_n (PN.mono (pn_slice (i := none) (j := some ((k : Nat) : Int)) (pvv 4) io_none (io_some (pvv 6))) fun l e => e)) (pv_n (pvn_lst (l := [.int (t : Nat), .int (((t + half sq) % ar sq : Nat) : Int)]) (pvs_cons (pvv 7) (pvs_cons (pv_eq (pv_op op_mod (pv_op op_add (pvv 7) (pv_op op_fdiv (pvv 5) pv_int (l_intC ⟨by decide, by decide⟩)) l_int) (pvv 5) (l_intC (C := fun _ j => 0 < j) (Int.ofNat_lt.mpr arp))) ?_) pvs_nil)))) (l_catL ?_)) (pv_n (PN.mono (pn_slice (i := some ((k : Nat) : Int)) (j := none) (pvv 4) (io_some (pvv 6)) io_none) fun l e => e)) (l_catL ?_)) ?_) ?_
      · rfl
      · rw [cut_to]
        refine Nat.le_trans (?_ : _ ≤ 1000) (by decide)
        rw [List.length_take, List.length_map]
        show min k us.length + 2 ≤ 1000
        omega
      · rw [cut_to, cut_nat]
        refine Nat.le_trans (?_ : _ ≤ 1000) (by decide)
        rw [List.length_append, List.length_take, List.length_drop, List.length_map]
        show min k us.length + 2 + (us.length - k) ≤ 1000
        omega
      · rw [cut_to, cut_nat]
        unfold dI
        rw [List.map_append, List.map_append, ← List.map_take, ← List.map_drop]
        rfl
      · refine pb_end ⟨_, _, _, ⟨?_, ?_⟩, fun u hu => ?_, ?_, rfl⟩
        · rw [List.length_append, List.length_append, List.length_take, List.length_drop]; show 2 ≤ min k us.length + 2 + (us.length - k); omega
        · rw [List.length_append, List.length_append, List.length_take, List.length_drop]; show min k us.length + 2 + (us.length - k) ≤ 5; omega
        · rcases List.mem_append.mp hu with h | h
          · rcases List.mem_append.mp h with h | h
            · exact ult u (List.mem_of_mem_take h)
            · rcases List.mem_cons.mp h with z | z
              · rw [z]; exact ht
              · rw [List.mem_singleton.mp z]; exact Nat.mod_lt _ arp
          · exact ult u (List.mem_of_mem_drop h)
        · rw [uS_ins ht, uS_perm pu]
    · exact pb_end ⟨us, .no, .no, ⟨by omega, by omega⟩, ult, uS_perm pu, rfl⟩
    · rintro δ' ⟨vs, x6, x7, hv, vlt, vs_, rfl⟩
      refine pb_ret .refl (PX.mono (px_rowtext (ls := ls) (ts := vs) (lcNE (xs := vs) (emb := fun t : Nat => .int (t : Nat)) (g := fun y : It2 => .txt (S (itemC y))) (Q := QIt ls) 7 [("_law_turn", 7)] (pix_lstv (pvv 4)) (fun _ _ => rfl) (fun _ _ _ _ _ t _ ht => px_item T (px_call (w__law_pick T) hr (by decide) rfl (pvs_cons (pvv 0) (pvs_cons (pvv 2) pvs_nil)) fun ds e => ⟨ls.map dLet, e, ⟨?_, ?_⟩, rfl⟩) (pvv 7) ?_) nd) (by omega)) fun d ⟨r, ⟨h1, h2⟩, e⟩ => ⟨r, ⟨?_, fun p hp => ⟨h2 p hp, ?_⟩, ?_⟩, e⟩) fun _ h => h
      · exact fun z => hls (List.map_eq_nil_iff.mp z)
      · rw [List.length_map]; omega
      · have := vlt t ht; omega
      · have : r.length = vs.length := by rw [← h1, dirs_len]
        omega
      · exact vlt _ (by rw [← h1]; exact List.mem_map.mpr ⟨p, hp, rfl⟩)
      · rw [end_uS, h1, vs_]
end G81
set_option maxRecDepth 100000
set_option maxHeartbeats 4000000
/-! a drawn scheme -/
namespace G81
open PySem PySem.Spec PyProof.Rows L2 SlX
open SX (S)
variable {P : Program} {w : World} {K : PySem.W.Frag} {mg : Str → Option Value} {base : Heap}
theorem sc76 : FnScope ["_law_dice_here", "_law_grid", "_law_many", "_law_turns_here", "_law_letters", "_law_axioms", "_law_axiom", "_law_rules", "_law_turn", "_law_name"] ["_law_dice_here"] (defScope (topS 76)) := ⟨rfl, rfl, rfl, by decide +kernel, rfl, by decide +kernel, by decide +kernel⟩
theorem sc77 : FnScope ["_law_dice_here"] ["_law_dice_here"] (defScope (topS 77)) := ⟨rfl, rfl, rfl, by decide +kernel, rfl, by decide +kernel, by decide +kernel⟩
theorem px_rowtext2 {X : Cx} {c : Fm} {δ : List Cell} {e : Expr} {pos apos cpos : Pos} {ls : List Nat} {R : List Nat → Prop} {kk : Tok} (he : PN X c δ e (fun r => ∃ ts, R ts ∧ ∃ ys : Row, A2 (QIt ls) ts ys ∧ r = ys.map fun y => .txt (S (itemC y)))) (hl : ∀ ts, R ts → ts.length ≤ 1000) (hs : starEach [e] X.env = [(false, eval e X.env)] := by rfl) (hbase : attributeBase (.Constant (.str " ") kk cpos) "join" X.env (eval (.Constant (.str " ") kk cpos) X.env) = eval (.Constant (.str " ") kk cpos) X.env := by rfl) (hline : (apos.endLine == pos.line) = true := by rfl) :
    PX X c δ (.Call (.Attribute (.Constant (.str " ") kk cpos) "join" apos) [e] [] pos) (fun d => ∃ r : Row, (R (dirs r) ∧ ∀ p ∈ r, p.1 ∈ ls) ∧ d = .txt (S (rowC r))) :=
  PX.mono (px_join (Q := fun ys => ∃ r : Row, (R (dirs r) ∧ ∀ p ∈ r, p.1 ∈ ls) ∧ ys = r.map fun p => S (itemC p)) pv_str (px_n he fun l ⟨ts, hR, ys, h1, h2⟩ => ⟨ys.map fun p => S (itemC p), by rw [h2, List.map_map]; rfl, ys, ⟨by rw [(qits h1).1]; exact hR, (qits h1).2⟩, rfl⟩) (fun ys ⟨r, h, e⟩ => by
    subst e
    have := hl _ h.1
    rw [dirs_len] at this
    rw [sum_two, List.length_map]
    show 2 * r.length + r.length * 1 ≤ 16777216
    omega) hs hbase hline) fun d ⟨ys, ⟨r, h, e1⟩, e2⟩ => ⟨r, h, by rw [e2, e1, show (" " : Str) = S [32] by decide +kernel, row_join]⟩
theorem lineR_cat4 (p : Nat × Row) : ("rule " : Str) ++ lt p.1 ++ (" " : Str) ++ S (rowC p.2) = lineR p := by
  rw [show ("rule " : Str) = S (codes "rule ") by decide +kernel, show lt p.1 = S [p.1] from rfl, show (" " : Str) = S [32] by decide +kernel, SX.S_cat, SX.S_cat, SX.S_cat]
  show S _ = S _
  simp [List.append_assoc]
/-- what is drawn or written: without the letter z -/
def Bas0 (s : Sc) : Prop := Bas s ∧ 122 ∉ s.keys ∧ s.rs.length ≤ 5
theorem rules_a2 {sq : Bool} {ls ts : List Nat} : ∀ {l : List Nat} {rs : Rls}, A2 (fun (a : Nat) (p : Nat × Row) => p.1 = a ∧ GoodR sq ls ts p.2) l rs → rs.map (·.1) = l ∧ ∀ q ∈ rs, GoodR sq ls ts q.2
  | [], [], _ => ⟨rfl, fun _ h => nomatch h⟩
  | t :: l, p :: rs, h => by
    obtain ⟨h1, h2⟩ := rules_a2 h.2
    refine ⟨by rw [List.map_cons, h1, h.1.1], fun q hq => ?_⟩
    rcases List.mem_cons.mp hq with z | z
    · rw [z]; exact h.1.2
    · exact h2 q z
  | [], _ :: _, h => h.elim
  | _ :: _, [], h => h.elim
def r__law_drawn : RD := fun ds P => ds = [.dice] ∧ P = fun d => ∃ s, d = .lst (dLines s) ∧ Bas0 s
theorem w__law_drawn (T : Tx K mg) : Cal P w K mg base 6 "_law_drawn" r__law_drawn :=
  calD T.d__law_drawn sc76 (by rintro ds P ⟨rfl, _⟩; rfl) fun cdv A outer s' H E hr c ds Pd hR => by
    have nd := sc76.nd
    obtain ⟨rfl, rfl⟩ := hR
    -- grid, many
    refine pb_tup2 1 2 (pa2C (cx_d (P := fun d => ∃ sq : Bool, d = .txt (gname sq)) (PX.mono (px_call (P := fun d => d ∈ [D.txt "square", .txt "triangle"]) (w__law_pick T) hr (by decide) rfl (pvs_cons (pvv 0) (pvs_cons (pv_n (pvn_lst (l := [.txt "square", .txt "triangle"]) (pvs_cons pv_str (pvs_cons pv_str pvs_nil)))) pvs_nil)) fun ds e => ⟨_, e, ⟨by simp, by decide⟩, rfl⟩) fun d hd => ?_)) fun c1 y1 s1 => cx_d (P := fun d => ∃ k : Nat, d = .int (k : Nat) ∧ 1 ≤ k ∧ k ≤ 3) (PX.mono (px_call (P := fun d => d ∈ [D.int 1, .int 1, .int 2, .int 2, .int 3]) (w__law_pick T) hr (by decide) rfl (pvs_cons (pvv 0) (pvs_cons (pv_n (pvn_lst (l := [.int 1, .int 1, .int 2, .int 2, .int 3]) (pvs_cons pv_int (pvs_cons pv_int (pvs_cons pv_int (pvs_cons pv_int (pvs_cons pv_int pvs_nil))))))) pvs_nil)) fun ds e => ⟨_, e, ⟨by simp, by decide⟩, rfl⟩) fun d hd => ?_)) (fun c' y1 y2 ⟨c2, s1, s2⟩ => ?_) nd
    · rcases List.mem_cons.mp hd with h | h
      · exact ⟨true, h⟩
      · exact ⟨false, List.mem_singleton.mp h⟩
    · simp only [List.mem_cons, List.not_mem_nil, or_false] at hd
      rcases hd with h | h | h | h | h
      · exact ⟨1, h, by decide, by decide⟩
      · exact ⟨1, h, by decide, by decide⟩
      · exact ⟨2, h, by decide, by decide⟩
      · exact ⟨2, h, by decide, by decide⟩
      · exact ⟨3, h, by decide, by decide⟩
    obtain ⟨rfl, d1, rfl, sq, rfl⟩ := s1
    obtain ⟨rfl, d2, rfl, k, rfl, k1, k3⟩ := s2
    have ar6 := ar_le sq
    have arp := ar_pos sq
    -- turns
    refine pb_set 3 (P := fun d => ∃ ts ∈ tL sq, d = dI ts) nd rfl (.inr rfl) (PX.mono (px_call (P := fun d => d ∈ (tL sq).map dI) (w__law_pick T) hr (by decide) rfl (pvs_cons (pvv 0) (pvs_cons (pv_call (w__law_turns T) hr (by decide) rfl (pvs_cons (pvv 1) pvs_nil) ⟨sq, rfl, rfl⟩) pvs_nil)) fun ds e => ⟨_, e, by cases sq <;> exact ⟨by simp [tL], by decide⟩, rfl⟩) fun d hd => ?_) fun d hd => ?_
    · obtain ⟨ts, h, e⟩ := List.mem_map.mp hd
      exact ⟨ts, h, e.symm⟩
    obtain ⟨ts, hts, rfl⟩ := hd
    -- letters
    refine pb_set 4 (P := fun d => ∃ ls ∈ [[97], [97, 98], [97, 98, 99]], d = .lst (ls.map dLet)) nd rfl (.inr rfl) ?_ fun d hd => ?_
    · have inK : ∀ n : Nat, 1 ≤ n → n ≤ 3 → ∃ ls ∈ [[97], [97, 98], [97, 98, 99]], (([97, 98, 99] : List Nat).map dLet).take n = ls.map dLet := fun n h1 h3 => by
        rcases (show n = 1 ∨ n = 2 ∨ n = 3 by omega) with rfl | rfl | rfl
        · exact ⟨[97], by decide, rfl⟩
        · exact ⟨[97, 98], by decide, rfl⟩
        · exact ⟨[97, 98, 99], by decide, rfl⟩
      have fin : ∀ n : Nat, 1 ≤ n → n ≤ 3 → ∀ d, d = D.lst (cutD (([97, 98, 99] : List Nat).map dLet) none (some ((n : Nat) : Int))) → ∃ ls ∈ [[97], [97, 98], [97, 98, 99]], d = .lst (ls.map dLet) := fun n h1 h3 d e => by
        obtain ⟨ls, h, e2⟩ := inK n h1 h3
        exact ⟨ls, h, by rw [e, cut_to, e2]⟩
      by_cases hX : dI ts ∈ cutD ((tL sq).map dI) none (some ((3 : Nat) : Int))
      · refine PX.mono (pv_n (PN.mono (pn_slice (i := none) (j := some ((min k 2 : Nat) : Int)) (pv_n (pvn_lst (l := ([97, 98, 99] : List Nat).map dLet) (pvs_cons pv_str (pvs_cons pv_str (pvs_cons pv_str pvs_nil))))) io_none (io_some (px_if (T := fun b => b = true) (ptx_cmp (op_inD (ru hr)) (pvv 3) (pv_n (PN.mono (pn_slice (i := none) (j := some ((3 : Nat) : Int)) (pv_call (w__law_turns T) hr (by decide) rfl (pvs_cons (pvv 1) pvs_nil) ⟨sq, rfl, rfl⟩) io_none (io_some pv_int)) fun l e => e)) fun x y e1 e2 => ?_) (fun _ => ?_) fun h => by cases h))) fun l e => e)) (fin (min k 2) (by omega) (by omega))
        · cases (show x = _ from e1)
          cases (show y = _ from e2)
          refine l_inD (n := 1) (m := 1) (dq_ints map_int) (Dqs.all fun d hd => ?_) (by decide) (by decide) fun b hb => ⟨_, rfl, hb.mpr hX⟩
          have hd : d ∈ (tL sq).map dI := List.mem_of_mem_drop (List.mem_of_mem_take hd)
          obtain ⟨u, _, rfl⟩ := List.mem_map.mp hd
          exact dq_ints map_int
        · refine pv_eq (v_min T (pvv 2) pv_int) (congrArg D.int ?_)
          split <;> omega
      · refine PX.mono (pv_n (PN.mono (pn_slice (i := none) (j := some ((k : Nat) : Int)) (pv_n (pvn_lst (l := ([97, 98, 99] : List Nat).map dLet) (pvs_cons pv_str (pvs_cons pv_str (pvs_cons pv_str pvs_nil))))) io_none (io_some (px_if (T := fun b => b = false) (ptx_cmp (op_inD (ru hr)) (pvv 3) (pv_n (PN.mono (pn_slice (i := none) (j := some ((3 : Nat) : Int)) (pv_call (w__law_turns T) hr (by decide) rfl (pvs_cons (pvv 1) pvs_nil) ⟨sq, rfl, rfl⟩) io_none (io_some pv_int)) fun l e => e)) fun x y e1 e2 => ?_) (fun h => by cases h) fun _ => pvv 2))) fun l e => e)) (fin k k1 k3)
        cases (show x = _ from e1)
        cases (show y = _ from e2)
        refine l_inD (n := 1) (m := 1) (dq_ints map_int) (Dqs.all fun d hd => ?_) (by decide) (by decide) fun b hb => ⟨_, rfl, ?_⟩
        · have hd : d ∈ (tL sq).map dI := List.mem_of_mem_drop (List.mem_of_mem_take hd)
          obtain ⟨u, _, rfl⟩ := List.mem_map.mp hd
          exact dq_ints map_int
        · cases b with
          | false => rfl
          | true => exact absurd (hb.mp rfl) hX
    obtain ⟨ls, hls, rfl⟩ := hd
    have lsF : ∀ ls ∈ [[97], [97, 98], [97, 98, 99]], (ls ≠ [] ∧ ls.length < 1000) ∧ 122 ∉ ls ∧ ls.length ≤ 3 := by decide
    obtain ⟨lsn, ls122, ls3⟩ := lsF ls hls
    -- axioms
    refine pv_set 5 (d := .lst ((aL true).map dI)) nd rfl (.inl rfl) (pv_n (pvn_lst ?_)) ?_
    · repeat (first | exact pv_int | exact pv_str | exact pvs_nil | refine pvs_cons ?_ ?_ | refine pv_n (pvn_lst ?_))
    refine pb_if (B := fun b => b = !sq) (M := fun δ' => δ' = [.d .dice, .d (.txt (gname sq)), .d (.int (k : Nat)), .d (dI ts), .d (.lst (ls.map dLet)), .d (.lst ((aL sq).map dI)), .no, .no, .no, .no]) (ptx_eq (ptv_cmp op_eq (pvv 1) pv_str l_eqS) (by cases sq <;> decide +kernel)) (fun h => ?_) (fun h => ?_) (.inl rfl) fun δ' e => ?_
    · have : sq = false := by cases sq <;> first | rfl | cases h
      subst this
      refine pv_set 5 (d := .lst ((aL false).map dI)) nd rfl (.inl rfl) (pv_n (pvn_lst ?_)) (pb_end rfl)
      repeat (first | exact pv_int | exact pv_str | exact pvs_nil | refine pvs_cons ?_ ?_ | refine pv_n (pvn_lst ?_))
    · have : sq = true := by cases sq <;> first | rfl | cases h
      subst this
      exact pb_end rfl
    subst e
    -- axiom
    refine pb_set 6 nd rfl (.inl rfl) (px_rowtext2 (ls := ls) (R := fun us => us ∈ aL sq) (pn_lc (α := Nat) (emb := fun t : Nat => .int (t : Nat)) (Px := fun us => us ∈ aL sq) (ok := fun t => t < ar sq) (B := fun _ b => b = true) (Pe := fun t d => ∃ y : It2, QIt ls t y ∧ d = .txt (S (itemC y))) (own := [("_law_turn", 8)]) (t := .nm 8) rfl nd (pix_list (px_call (P := fun d => d ∈ (aL sq).map dI) (w__law_pick T) hr (by decide) rfl (pvs_cons (pvv 0) (pvs_cons (pvv 5) pvs_nil)) fun ds e => ⟨_, e, by cases sq <;> exact ⟨by simp [aL], by decide⟩, rfl⟩) fun d hd => ?_) (blkOk_by (by rfl)) (fun us h => (aL_ok sq us h).2) (by intros; exact pgx_nm (by assumption) rfl (by first | exact Or.inl rfl | exact Or.inr rfl)) (fun _ _ => rfl) (by decide) (fun _ _ _ _ _ _ _ _ => ptxs_nil) (fun _ _ _ _ _ t _ ht => px_item T (px_call (w__law_pick T) hr (by decide) rfl (pvs_cons (pvv 0) (pvs_cons (pvv 4) pvs_nil)) fun ds e => ⟨ls.map dLet, e, ⟨?_, ?_⟩, rfl⟩) (pvv 8) (by omega)) fun us r h q => ⟨us, h, q.a2⟩) fun us h => by have := (aL_ok sq us h).1.2; omega) fun d hd => ?_
    · obtain ⟨us, h, e⟩ := List.mem_map.mp hd
      exact ⟨_, e.symm, us, h, rfl⟩
    · exact fun z => lsn.1 (List.map_eq_nil_iff.mp z)
    · rw [List.length_map]; have := lsn.2; omega
    obtain ⟨ax, ⟨ha1, ha2⟩, rfl⟩ := hd
    have ha1 : dirs ax ∈ aL sq := ha1
    obtain ⟨aln, alt⟩ := aL_ok sq _ ha1
    rw [dirs_len] at aln
    have rc : ∀ r : Row, r.length ≤ 1000 → (S (rowC r)).length ≤ 3000 := fun r h => rowC_small h
    -- rules
    refine pb_setLcN 7 9 [("_law_name", 9)] (xs := ls) (emb := dLet) (g := fun p : Nat × Row => .txt (lineR p)) (Q := fun a p => p.1 = a ∧ GoodR sq ls ts p.2) (pix_lstv (pvv 4)) (fun _ _ => rfl) (fun _ _ _ _ _ a _ hal => px_op op_add_str (A := Is (.txt (("rule " : Str) ++ lt a ++ (" " : Str)))) (pv_op op_add_str (pv_op op_add_str pv_str (pvv 9) (l_cat ?_)) pv_str (l_cat ?_)) (px_call (w__law_drawn_rule T) hr (by decide) rfl (pvs_cons (pvv 0) (pvs_cons (pvv 1) (pvs_cons (pvv 4) (pvs_cons (pvv 3) pvs_nil)))) fun ds e => ⟨sq, ls, ts, e, lsn, hts, rfl⟩) fun x y e1 e2 => ?_) nd fun rs hrs => ?_
    · show 5 + 1 ≤ sizeLine; decide
    · show 6 + 1 ≤ sizeLine; decide
    · obtain ⟨r, hr, rfl⟩ := e2
      cases (show x = _ from e1)
      intro v w H Q bs a1 a2 q
      have := rc r (by have := hr.len.2; omega)
      refine l_cat (Nat.le_trans (show 7 + (S (rowC r)).length ≤ 5000 by omega) (by decide)) v w H Q bs a1 a2 fun z H' d e r' a' => q z H' d ⟨(a, r), ⟨rfl, hr⟩, ?_⟩ r' a'
      rw [show d = _ from e, lineR_cat4 (a, r)]
    obtain ⟨hk, hg⟩ := rules_a2 hrs
    have rlen : rs.length = ls.length := by rw [← hk, List.length_map]
    have B : Bas ⟨sq, ax, rs⟩ := bas_of hts hls hk ⟨⟨aln.1, by omega⟩, fun p hp => ⟨ha2 p hp, alt _ (List.mem_map.mpr ⟨p, hp, rfl⟩)⟩⟩ hg
    refine pb_ret (P := Is (.lst (dLines ⟨sq, ax, rs⟩))) .refl (pv_eq (pv_op op_cat (pv_n (pvn_lst (l := [.txt (lineG sq), .txt (lineA ax)]) (pvs_cons (pv_eq (pv_op op_add_str pv_str (pvv 1) (l_cat ?_)) (by rw [lineG_cat])) (pvs_cons (pv_eq (pv_op op_add_str pv_str (pvv 6) (l_cat ?_)) (by rw [lineA_cat])) pvs_nil)))) (pvv 7) (l_catL ?_)) ?_) fun d e => ⟨_, e, B, ?_, ?_⟩
    · cases sq <;> decide +kernel
    · have := rc ax (by omega)
      exact Nat.le_trans (show 6 + (S (rowC ax)).length ≤ 5000 by omega) (by decide)
    · rw [List.length_map]
      exact Nat.le_trans (show 2 + rs.length ≤ 1000 by omega) (by decide)
    · unfold dLines linesOf
      rw [List.map_cons, List.map_cons, List.map_map]
      rfl
    · show 122 ∉ rs.map (·.1)
      rw [hk]; exact ls122
    · show rs.length ≤ 5
      omega
theorem wS_ok0 : ∀ s ∈ wS, Bas0 s := fun s hs => by
  have key : ∀ s ∈ wS, 122 ∉ s.keys ∧ s.rs.length ≤ 5 := by
    have h : wS.all (fun s => decide (122 ∉ s.keys ∧ s.rs.length ≤ 5)) = true := by decide +kernel
    exact fun s hs => of_decide_eq_true (List.all_eq_true.mp h s hs)
  exact ⟨wS_ok s hs, key s hs⟩
def r__law_any : RD := fun ds P => ds = [.dice] ∧ P = fun d => ∃ s, d = .lst (dLines s) ∧ Bas0 s
theorem w__law_any (T : Tx K mg) : Cal P w K mg base 7 "_law_any" r__law_any :=
  calD T.d__law_any sc77 (by rintro ds P ⟨rfl, _⟩; rfl) fun cdv A outer s' H E hr c ds Pd hR => by
    obtain ⟨rfl, rfl⟩ := hR
    refine pb_ret .refl (px_if (T := fun _ => True) (ptx_eqI (p := fun _ => True) (q := fun _ => True) (PX.mono (pv_call (w__law_roll T) hr (by decide) rfl (pvs_cons (pvv 0) (pvs_cons pv_int pvs_nil)) ⟨3, rfl, ⟨by decide, by decide⟩, rfl⟩) fun d ⟨k, _, e⟩ => ⟨_, e, trivial⟩) (in_of pv_int trivial) fun _ _ _ _ => trivial) (fun _ => ?_) fun _ => ?_) fun _ h => h
    · refine PX.mono (px_call (P := fun d => ∃ s ∈ wS, d = .lst (dLines s)) (As := fun l => ∃ k : Nat, k < 10 ∧ l = [.int (k : Nat)]) (w__law_written T) hr (by decide) rfl (PXs.mono (pxs_one (pv_call (w__law_roll T) hr (by decide) rfl (pvs_cons (pvv 0) (pvs_cons pv_int pvs_nil)) ⟨10, rfl, ⟨by decide, by decide⟩, rfl⟩)) fun l ⟨d, ⟨k, hk, e1⟩, e2⟩ => ⟨k, hk, by rw [e2, e1]⟩) fun ds ⟨k, hk, e⟩ => ⟨k, e, hk, rfl⟩) fun d ⟨s, hs, e⟩ => ⟨s, e, wS_ok0 s hs⟩
    · exact px_call (w__law_drawn T) hr (by decide) rfl (pvs_cons (pvv 0) pvs_nil) fun ds e => ⟨e, rfl⟩
end G81
set_option maxRecDepth 100000
set_option maxHeartbeats 4000000
/-! wild lines -/
namespace G81
open PySem PySem.Spec PyProof.Rows L2 SlX
open SX (S)
variable {P : Program} {w : World} {K : PySem.W.Frag} {mg : Str → Option Value} {base : Heap}
theorem sc79 : FnScope ["_law_dice_here", "_law_lines", "_law_own", "_law_name", "_law_row_here", "_law_extra", "_law_letter", "_law_turn"] ["_law_dice_here"] (defScope (topS 79)) := ⟨rfl, rfl, rfl, by decide +kernel, rfl, by decide +kernel, by decide +kernel⟩
/-- sorted(plain["rules"]) -/
theorem n_names {X : Cx} (T : Tx X.K X.mg) {c : Fm} {δ : List Cell} {o : Expr} {pos p kp spos : Pos} {kk : Tok} {j : Nat} {s : Sc} (hr : Room j X.A) (W : Wf s) (h : PV X c δ o (dPl s)) (hb : NoSl (.Constant (.str "rules") kk kp) := by exact fun _ _ => rfl) (hc : X.calm = true := by rfl) (hs : starEach [.Subscript o (.Constant (.str "rules") kk kp) spos] X.env = (false, eval (.Subscript o (.Constant (.str "rules") kk kp) spos) X.env) :: starEach [] X.env := by rfl) (hg : Gl X "sorted" := by rfl) (hpl : (backTo pos (starEach [] X.env)).any (·.1) = false := by rfl) :
    PN X c δ (.Call (.Name "sorted" p) [.Subscript o (.Constant (.str "rules") kk kp) spos] [] pos) (· = (ordL s.keys).map dLet) :=
  n_sortDL T (ls := s.keys) (l := s.rs.map fun p => dRow p.2) (pv_eq (pv_dget (d := dRls s.rs) (ru hr) h .dct pv_str rfl hb) (by unfold dRls Sc.keys; rw [List.map_map]; rfl)) W.nd (by have := keys_len W; omega) W.k123 hc hs hg hpl
theorem lineZ_cat (r : Row) : ("rule z " : Str) ++ S (rowC r) = lineR (122, r) := by
  rw [show ("rule z " : Str) = S (codes "rule z ") by decide +kernel, SX.S_cat]
  show S _ = S _
  congr 1
theorem a2_dirs {Q : It2 → It2 → Prop} (h : ∀ p y, Q p y → y.2 = p.2) : ∀ {l m : Row}, A2 Q l m → dirs m = dirs l
  | [], [], _ => rfl
  | p :: l, q :: m, k => by
    show q.2 :: dirs m = p.2 :: dirs l
    rw [a2_dirs h k.2, h _ _ k.1]
  | [], _ :: _, k => k.elim
  | _ :: _, [], k => k.elim
def r__law_wild_lines : RD := fun ds P => ds = [.dice] ∧ P = fun d => ∃ s, d = .lst (dLines s) ∧ Bas s
theorem w__law_wild_lines (T : Tx K mg) : Cal P w K mg base 8 "_law_wild_lines" r__law_wild_lines :=
  calD T.d__law_wild_lines sc79 (by rintro ds P ⟨rfl, _⟩; rfl) fun cdv A outer s' H E hr c ds Pd hR => by
    have nd := sc79.nd
    obtain ⟨rfl, rfl⟩ := hR
    refine pb_set 1 nd rfl (.inl rfl) (px_call (w__law_any T) hr (by decide) rfl (pvs_cons (pvv 0) pvs_nil) fun ds e => ⟨e, rfl⟩) fun d hd => ?_
    obtain ⟨s, rfl, B, n122, r5⟩ := hd
    have W := B.toWf
    refine pv_set 2 nd rfl (.inr rfl) (pv_call (w__law_plain T) hr (by decide) rfl (pvs_cons (pvv 1) pvs_nil) ⟨s, rfl, W.txok, rfl⟩) ?_
    refine pb_if (B := fun _ => True) (M := fun δ' => ∃ (u : Sc) (x2 x3 x4 x5 x6 x7 : Cell), Bas u ∧ δ' = [.d .dice, .d (.lst (dLines u)), x2, x3, x4, x5, x6, x7]) (ptx_eqI (p := fun _ => True) (q := fun _ => True) (PX.mono (pv_call (w__law_roll T) hr (by decide) rfl (pvs_cons (pvv 0) (pvs_cons pv_int pvs_nil)) ⟨3, rfl, ⟨by decide, by decide⟩, rfl⟩) fun d ⟨k, _, e⟩ => ⟨_, e, trivial⟩) (in_of pv_int trivial) fun _ _ _ _ => trivial) (fun _ => ?_) (fun _ => pb_end ⟨s, _, _, _, _, _, _, B, rfl⟩) (.inl rfl) ?_
    · have k6 := keys_len W
      have ol : (ordL s.keys).length = s.keys.length := ordL_len W.nd W.k123
      have k1 : 0 < s.keys.length := by have := W.len.1; unfold Sc.keys; rw [List.length_map]; omega
      refine pb_set 3 (P := fun d => ∃ a ∈ s.keys, d = dLet a) nd rfl (.inl rfl) (PX.mono (px_call (P := fun d => d ∈ (ordL s.keys).map dLet) (w__law_pick T) hr (by decide) rfl (pvs_cons (pvv 0) (pvs_cons (pv_n (n_names T hr W (pvv 2))) pvs_nil)) fun ds e => ⟨_, e, ⟨?_, ?_⟩, rfl⟩) fun d hd => ?_) fun d hd => ?_
      · intro z
        have := congrArg List.length z
        rw [List.length_map, ol, List.length_nil] at this
        omega
      · rw [List.length_map, ol]; omega
      · obtain ⟨a, ha, e⟩ := List.mem_map.mp hd
        exact ⟨a, (mem_ordL' W.k123).mp ha, e.symm⟩
      obtain ⟨a, ha, rfl⟩ := hd
      have R := W.rows _ (rowOf_in ha)
      have R12 : (rowOf s.rs a).length ≤ 12 := R.2.1
      refine pb_set 4 (P := fun d => ∃ r0 : Row, r0.Perm (rowOf s.rs a) ∧ d = dRowL r0) nd rfl (.inl rfl) (PX.mono (px_call (w__law_mixed T) hr (by decide) rfl (pvs_cons (pvv 0) (pvs_cons (v_prow (ru hr) (pvv 2) (pvv 3) W.nd ha) pvs_nil)) fun ds e => ⟨(rowOf s.rs a).map dIt, dRow (rowOf s.rs a), e, .inr rfl, by rw [List.length_map]; omega, rfl⟩) fun d hd => ?_) fun d hd => ?_
      · obtain ⟨m, rfl, pm⟩ := hd
        obtain ⟨r0, pu, rfl⟩ := perm_lift pm rfl
        exact ⟨r0, pu, rfl⟩
      obtain ⟨r0, pr, rfl⟩ := hd
      refine pb_setLcP 5 6 7 [("_law_letter", 6), ("_law_turn", 7)] (xs := r0) (emb := dIt) (g := dIt) (Q := fun (p y : It2) => y.2 = p.2 ∧ (y.1 ∈ s.keys ∨ y.1 = 122)) (pix_lstv (pvv 4)) (fun _ _ => rfl) (fun _ _ _ _ _ p _ hp => px_tup (P' := fun d => ∃ y : It2, (y.2 = p.2 ∧ (y.1 ∈ s.keys ∨ y.1 = 122)) ∧ d = dIt y) (pxs_cons (px_call (P := fun d => d ∈ (ordL s.keys ++ [122]).map dLet) (w__law_pick T) hr (by decide) rfl (pvs_cons (pvv 0) (pvs_cons (pv_eq (pv_op op_cat (pv_n (n_names T hr W (pvv 2))) (pv_n (pvn_lst (l := [dLet 122]) (pvs_cons pv_str pvs_nil))) (l_catL ?_)) (by rw [List.map_append]; rfl)) pvs_nil)) fun ds e => ⟨_, e, ⟨?_, ?_⟩, rfl⟩) (pvs_cons (pvv 7) pvs_nil)) ?_ ?_) nd fun r hr' => ?_
      · rw [List.length_map, ol]
        exact Nat.le_trans (show s.keys.length + 1 ≤ 1000 by omega) (by decide)
      · rw [List.map_append]
        intro z
        have := congrArg List.length z
        simp at this
      · rw [List.length_map, List.length_append, ol]
        show s.keys.length + 1 < 1000000
        omega
      · rintro l ⟨d, r, rfl, _, rfl⟩
        show 2 ≤ sizeLine
        decide
      · rintro l ⟨d, r, rfl, hd, rfl⟩
        obtain ⟨b, hb, rfl⟩ := List.mem_map.mp hd
        refine ⟨(b, p.2), ⟨rfl, ?_⟩, rfl⟩
        rcases List.mem_append.mp hb with h | h
        · exact .inl ((mem_ordL' W.k123).mp h)
        · exact .inr (List.mem_singleton.mp h)
      have dE : dirs r = dirs r0 := a2_dirs (fun p y h => h.1) hr'
      have dP : (dirs r).Perm (dirs (rowOf s.rs a)) := by rw [dE]; exact pr.map _
      have rk : ∀ p ∈ r, p.1 ∈ s.keys ∨ p.1 = 122 := fun p hp => by
        obtain ⟨_, _, h⟩ := hr'.right p hp
        exact h.2
      have rl : r.length ≤ 12 := by
        have := dP.length_eq
        rw [dirs_len, dirs_len] at this
        omega
      have rt : ∀ p ∈ r, p.2 < 10 := fun p hp => by
        have : p.2 ∈ dirs (rowOf s.rs a) := dP.mem_iff.mp (List.mem_map.mpr ⟨p, hp, rfl⟩)
        obtain ⟨q, hq, e⟩ := List.mem_map.mp this
        have := (R.2.2 q hq).2
        have := ar_le s.sq
        omega
      have B2 := bas_more B n122 r5 ha dP rk
      refine pv_set 1 (d := .lst (dLines ⟨s.sq, s.ax, s.rs ++ [(122, r)]⟩)) nd rfl (.inl rfl) (pv_eq (pv_op op_cat (pvv 1) (pv_n (pvn_lst (l := [.txt (lineR (122, r))]) (pvs_cons (pv_eq (pv_op op_add_str pv_str (pv_call (w__law_row_text T) hr (by decide) rfl (pvs_cons (pvv 5) pvs_nil) ⟨r, rfl, rt, by omega, rfl⟩) (l_cat ?_)) (by rw [lineZ_cat])) pvs_nil))) (l_catL ?_)) ?_) (pb_end ⟨_, _, _, _, _, _, _, B2, rfl⟩)
      · have := rowC_small (r := r) (by omega)
        exact Nat.le_trans (show 7 + (S (rowC r)).length ≤ 5000 by omega) (by decide)
      · unfold dLines linesOf
        rw [List.length_map]
        simp only [List.length_cons, List.length_map, List.length_nil]
        exact Nat.le_trans (show _ ≤ 1000 by omega) (by decide)
      · unfold dLines linesOf
        rw [List.map_append]
        simp only [List.map_cons, List.map_append, List.map_nil, List.cons_append, List.append_assoc]
    · rintro δ' ⟨u, x2, x3, x4, x5, x6, x7, Bu, rfl⟩
      exact pb_ret .refl (px_of (pvv 1) ⟨u, rfl, Bu⟩) fun _ h => h
end G81
set_option maxRecDepth 100000
set_option maxHeartbeats 4000000
/-! a plain scheme with copies -/
namespace G81
open PySem PySem.Spec PyProof.Rows L2 SlX
open SX (S)
variable {P : Program} {w : World} {K : PySem.W.Frag} {mg : Str → Option Value} {base : Heap}
theorem sc80 : FnScope ["_law_dice_here", "_law_own", "_law_rules", "_law_twins", "_law_name", "_law_twin", "_law_axiom", "_law_other", "_law_turn"] ["_law_dice_here", "_law_own"] (defScope (topS 80)) := ⟨rfl, rfl, rfl, by decide +kernel, rfl, by decide +kernel, by decide +kernel⟩
/-- tuple(a list known in part) -/
theorem px_tupL {X : Cx} (T : Tx X.K X.mg) {c : Fm} {δ : List Cell} {a : Expr} {pos p : Pos} {Q : List D → Prop} (h : PN X c δ a Q) (hs : starEach [a] X.env = (false, eval a X.env) :: starEach [] X.env := by rfl) (hg : Gl X "tuple" := by rfl) (hpl : (backTo pos (starEach [] X.env)).any (·.1) = false := by rfl) : PX X c δ (.Call (.Name "tuple" p) [a] [] pos) (fun d => ∃ l, Q l ∧ d = .tup l) :=
  px_cT (As := fun m => ∃ d, (∃ l, Q l ∧ d = .lst l) ∧ m = [d]) call_tuple_of T.n_tuple bb_tuple (pxs_one (px_n h fun l q => ⟨l, q, rfl⟩) hs) (fun m ⟨d, ⟨l, q, e1⟩, e⟩ => by
    subst e1
    subst e
    exact fun vs H Q b a w => l_tupL vs H Q b a fun v H' d e r => w v H' d ⟨l, q, e⟩ r) hg (by decide) (by decide) hs hpl
theorem a2_cp {tw : Nat → List Nat} : ∀ {l m : Row}, A2 (fun (p y : It2) => y.2 = p.2 ∧ y.1 ∈ tw p.1) l m → RowCp tw l m
  | [], [], _ => trivial
  | p :: l, q :: m, k => ⟨k.1.1.symm, k.1.2, a2_cp k.2⟩
  | [], _ :: _, k => k.elim
  | _ :: _, [], k => k.elim
def twD (tw : Nat → List Nat) (a : Nat) : D := .lst ((tw a).map dLet)
/-- one of the names of a letter -/
theorem px_twin {X : Cx} (T : Tx X.K X.mg) {c : Fm} {δ : List Cell} {a b i : Expr} {pos p spos : Pos} {j : Nat} {names : List Nat} {tw : Nat → List Nat} {o : Nat} (hr : Room j X.A) (hk : 2 ≤ j) (hd : PV X c δ a .dice) (ht : PV X c δ b (.dct (names.map lt) (names.map (twD tw)))) (hi : PV X c δ i (dLet o)) (ho : o ∈ names) (ne : tw o ≠ [] ∧ (tw o).length < 1000) (hg : Gl X "_law_pick") (h1 : starEach [a, .Subscript b i spos] X.env = (false, eval a X.env) :: starEach [.Subscript b i spos] X.env) (h2 : starEach [.Subscript b i spos] X.env = (false, eval (.Subscript b i spos) X.env) :: starEach [] X.env) (hpl : (backTo pos (starEach [.Subscript b i spos] X.env)).any (·.1) = false) (hs : NoSl i) :
    PX X c δ (.Call (.Name "_law_pick" p) [a, .Subscript b i spos] [] pos) (fun d => ∃ l ∈ tw o, d = dLet l) :=
  PX.mono (px_call (P := fun d => d ∈ (tw o).map dLet) (w__law_pick T) hr hk hg (pvs_cons hd (pvs_cons (pv_dget (d := twD tw o) (ru hr) ht .dct hi (look_int (g := twD tw) ho) hs) pvs_nil h2) h1) (fun ds e => ⟨(tw o).map dLet, e, ⟨fun z => ne.1 (List.map_eq_nil_iff.mp z), by rw [List.length_map]; have := ne.2; omega⟩, rfl⟩) (by decide) h1 hpl) fun d hd => by
    obtain ⟨l, hl, e⟩ := List.mem_map.mp hd
    exact ⟨l, hl, e.symm⟩
def r__law_with_copies : RD := fun ds P => ∃ s : Sc, ds = [.dice, dPl s] ∧ Bas s ∧ P = fun d => ∃ u, d = dPl u ∧ Copd u
theorem w__law_with_copies (T : Tx K mg) : Cal P w K mg base 3 "_law_with_copies" r__law_with_copies :=
  calD T.d__law_with_copies sc80 (by rintro ds P ⟨s, rfl, _⟩; rfl) fun cdv A outer s' H E hr c ds Pd hR => by
    have nd := sc80.nd
    obtain ⟨s, rfl, B, rfl⟩ := hR
    have W := B.toWf
    have k6 := keys_len W
    have ol : (ordL s.keys).length = s.keys.length := ordL_len W.nd W.k123
    have nk : ∀ a ∈ ordL s.keys, a ∈ s.keys := fun a h => (mem_ordL' W.k123).mp h
    have kn : ∀ a ∈ s.keys, a ∈ ordL s.keys := fun a h => (mem_ordL' W.k123).mpr h
    refine pb_tup2 2 3 (pa2C cx_dict fun c1 y1 s1 => cx_dict) (fun c' y1 y2 ⟨c2, s1, s2⟩ => ?_) nd
    obtain ⟨fk1, l1, hl1, rfl, rfl⟩ := s1
    obtain ⟨fk2, l2, hl2, rfl, rfl⟩ := s2
    have l12 : l1 ≠ l2 := fun e => hl2 (by rw [← e]; exact List.mem_cons_self)
    -- the twins
    refine pb_for (t := .nm 4) (emb := dLet) (xs := ordL s.keys) (fun i δ' => ∃ (tw : Nat → List Nat) (x y : Cell), x.adr = [] ∧ y.adr = [] ∧ (∀ a ∈ (ordL s.keys).take i, Twin a (tw a)) ∧ δ' = [.d .dice, .d (dPl s), .owk l1 [] [], .owk l2 (((ordL s.keys).take i).map lt) (((ordL s.keys).take i).map (twD tw)), x, y, .no, .no, .no]) PassesOwn.never rfl (pix_lstv (pv_n (n_names T hr W (pvv 1)))) (pgx_nm nd rfl (.inl rfl)) ⟨fun _ => [], .no, .no, rfl, rfl, (fun a h => nomatch h), rfl⟩ ?_ ?_
    · rintro i a δ' ha ⟨tw, x, y, hx, hy, ht, rfl⟩
      refine ⟨_, rfl, ?_⟩
      have tk : (ordL s.keys).take (i + 1) = (ordL s.keys).take i ++ [a] := by rw [List.take_succ, ha]; rfl
      have nin : a ∉ (ordL s.keys).take i := fun z => by
        have := ordL_nd (ls := s.keys)
        rw [← List.take_append_drop (i + 1) (ordL s.keys), tk] at this
        exact (List.nodup_append.mp (List.nodup_append.mp this).1).2.2 a z a List.mem_cons_self rfl
      refine pv_set 5 (d := dLet (if a = 97 then 120 else 121)) nd rfl (.inl rfl) (px_if (T := fun b => b = decide (lt a = "a")) (ptv_cmp op_eq (pvv 4) pv_str l_eqS) (fun h => ?_) fun h => ?_) ?_
      · have : a = 97 := lt_inj ((of_decide_eq_true h.symm).trans (show ("a" : Str) = lt 97 by decide +kernel))
        rw [if_pos this]
        exact pv_str
      · have : a ≠ 97 := fun z => of_decide_eq_false h.symm (by rw [z]; decide +kernel)
        rw [if_neg this]
        exact pv_str
      refine pb_dput (P := fun d => ∃ v, Twin a v ∧ d = .lst (v.map dLet)) 3 (ru hr) rfl (px_if (T := fun b => b = true → a = 97 ∨ a = 98) (ptx_bo (pwx_and (T := fun b => b = true → a = 97 ∨ a = 98) (PTX.imp (ptv_cmp op_in_seq (pvv 4) (pv_tup (l := (["a", "b"] : List Str).map D.txt) (pvs_cons pv_str (pvs_cons pv_str pvs_nil))) (l_inTs (neg := false) (.inl rfl))) fun k hk h => ?_) (fun h => pwx_and1 (ptx_eqI (p := fun _ => True) (q := fun _ => True) (PX.mono (pv_call (w__law_roll T) hr (by decide) rfl (pvs_cons (pvv 0) (pvs_cons pv_int pvs_nil)) ⟨2, rfl, ⟨by decide, by decide⟩, rfl⟩) fun d ⟨k, _, e⟩ => ⟨_, e, trivial⟩) (in_of pv_int trivial) fun _ _ _ _ _ => h rfl)) fun _ h => by cases h)) (fun h => ?_) fun _ => ?_) (pvv 4) ?_ ?_ fun d hd => ?_
      · have hk : k = decide (lt a ∈ (["a", "b"] : List Str)) := hk
        rw [h] at hk
        have := of_decide_eq_true hk.symm
        rcases List.mem_cons.mp this with z | z
        · exact .inl (lt_inj (z.trans (show ("a" : Str) = lt 97 by decide +kernel)))
        · exact .inr (lt_inj ((List.mem_singleton.mp z).trans (show ("b" : Str) = lt 98 by decide +kernel)))
      · refine px_n (pvn_lst (l := [dLet a, dLet (if a = 97 then 120 else 121)]) (pvs_cons (pvv 4) (pvs_cons (pvv 5) pvs_nil))) fun l e => ?_
        subst e
        rcases h rfl with rfl | rfl
        · exact ⟨[97, 120], .inr (.inl ⟨rfl, rfl⟩), rfl⟩
        · exact ⟨[98, 121], .inr (.inr ⟨rfl, rfl⟩), rfl⟩
      · exact px_n (pvn_lst (l := [dLet a]) (pvs_cons (pvv 4) pvs_nil)) fun l e => ⟨[a], .inl rfl, by rw [e]; rfl⟩
      · simp only [offAll, hx, hy, List.set_cons_zero, List.set_cons_succ]; simp [Cell.adr, l12.symm]
      · rw [List.length_map]
        have : ((ordL s.keys).take i).length ≤ s.keys.length := by rw [List.length_take, ol]; omega
        exact Nat.lt_of_le_of_lt (show _ ≤ 6 by omega) (by decide)
      · obtain ⟨v, hv, rfl⟩ := hd
        rw [put_add fun h => by obtain ⟨b, hb, e⟩ := List.mem_map.mp h; exact nin (by rw [← lt_inj e]; exact hb)]
        have same : ((ordL s.keys).take i).map (twD fun l => if l = a then v else tw l) = ((ordL s.keys).take i).map (twD tw) := List.map_congr_left fun b hb => by
          have : b ≠ a := fun e => nin (by rw [← e]; exact hb)
          show D.lst ((if b = a then v else tw b).map dLet) = .lst ((tw b).map dLet)
          rw [if_neg this]
        refine pb_end ⟨fun l => if l = a then v else tw l, .d (dLet a), .d (dLet (if a = 97 then 120 else 121)), rfl, rfl, fun b hb => ?_, ?_⟩
        · rw [tk] at hb
          rcases List.mem_append.mp hb with z | z
          · have : b ≠ a := fun e => nin (by rw [← e]; exact z)
            show Twin b (if b = a then v else tw b)
            rw [if_neg this]
            exact ht b z
          · rw [List.mem_singleton.mp z]
            show Twin a (if a = a then v else tw a)
            rw [if_pos rfl]
            exact hv
        · rw [tk, List.map_append, List.map_append, same]
          show _ = [Cell.d .dice, .d (dPl s), .owk l1 [] [], .owk l2 (((ordL s.keys).take i).map lt ++ [lt a]) (((ordL s.keys).take i).map (twD tw) ++ [.lst ((if a = a then v else tw a).map dLet)]), .d (dLet a), .d (dLet (if a = 97 then 120 else 121)), .no, .no, .no]
          rw [if_pos rfl]
          rfl
    · rintro δ' ⟨tw, x, y, hx, hy, ht, rfl⟩
      rw [List.take_length] at ht ⊢
      refine pb_lock 3 fk2 hl2 rfl (by simp only [offAll, hx, hy, List.set_cons_zero, List.set_cons_succ]; simp [Cell.adr, l12.symm]) ?_
      have tk' : ∀ a ∈ s.keys, tw a ≠ [] ∧ (tw a).Nodup ∧ ∀ l ∈ tw a, tau l = a ∧ l ∈ [97, 98, 99, 122, 120, 121] := fun a ha => (ht a (kn a ha)).ok (B.sub a ha)
      have twl : ∀ a ∈ s.keys, (tw a).length ≤ 2 := fun a ha => by
        rcases ht a (kn a ha) with h | ⟨_, h⟩ | ⟨_, h⟩ <;> rw [h] <;> simp
      -- the rules
      refine pb_for (t := .nm 4) (emb := dLet) (xs := ordL s.keys) (fun i δ' => ∃ (rs : Rls) (x y : Cell), x.adr = [] ∧ y.adr = [] ∧ rs.map (·.1) = ((ordL s.keys).take i).flatMap tw ∧ (∀ q ∈ rs, ∃ a ∈ s.keys, q.1 ∈ tw a ∧ RowCp tw (rowOf s.rs a) q.2) ∧ δ' = [.d .dice, .d (dPl s), .owk l1 (rs.map fun p => lt p.1) (rs.map fun p => dRow p.2), .d (.dct ((ordL s.keys).map lt) ((ordL s.keys).map (twD tw))), x, y, .no, .no, .no]) PassesOwn.never rfl (pix_lstv (pv_n (n_names T hr W (pvv 1)))) (pgx_nm nd rfl (.inl rfl)) ⟨[], x, y, hx, hy, rfl, (fun q h => nomatch h), rfl⟩ ?_ ?_
      · rintro i a δ' ha ⟨rs, x, y, hx, hy, hk, hq, rfl⟩
        refine ⟨_, rfl, ?_⟩
        have han : a ∈ ordL s.keys := List.mem_of_getElem? ha
        have hak := nk a han
        have tk : (ordL s.keys).take (i + 1) = (ordL s.keys).take i ++ [a] := by rw [List.take_succ, ha]; rfl
        have nin : a ∉ (ordL s.keys).take i := fun z => by
          have := ordL_nd (ls := s.keys)
          rw [← List.take_append_drop (i + 1) (ordL s.keys), tk] at this
          exact (List.nodup_append.mp (List.nodup_append.mp this).1).2.2 a z a List.mem_cons_self rfl
        have flen : ∀ L : List Nat, (∀ b ∈ L, b ∈ s.keys) → (L.flatMap tw).length ≤ 2 * L.length := fun L => by
          induction L with
          | nil => exact fun _ => Nat.zero_le _
          | cons b L ih =>
            intro h
            rw [List.flatMap_cons, List.length_append, List.length_cons]
            have := ih fun x hx => h x (List.mem_cons_of_mem _ hx)
            have := twl b (h b List.mem_cons_self)
            omega
        refine pb_for (t := .nm 5) (emb := dLet) (xs := tw a) (fun j δ' => ∃ (rs : Rls) (y : Cell), y.adr = [] ∧ rs.map (·.1) = ((ordL s.keys).take i).flatMap tw ++ (tw a).take j ∧ (∀ q ∈ rs, ∃ a ∈ s.keys, q.1 ∈ tw a ∧ RowCp tw (rowOf s.rs a) q.2) ∧ δ' = [.d .dice, .d (dPl s), .owk l1 (rs.map fun p => lt p.1) (rs.map fun p => dRow p.2), .d (.dct ((ordL s.keys).map lt) ((ordL s.keys).map (twD tw))), .d (dLet a), y, .no, .no, .no]) PassesOwn.never rfl (pix_lstv (pv_dget (d := twD tw a) (ru hr) (pvv 3) .dct (pvv 4) (look_int (g := twD tw) han))) (pgx_nm nd rfl (.inl rfl)) ⟨rs, y, hy, by rw [hk]; simp, hq, rfl⟩ ?_ ?_
        · rintro j b δ' hb ⟨rs, y, hy, hk, hq, rfl⟩
          refine ⟨_, rfl, ?_⟩
          have hba : b ∈ tw a := List.mem_of_getElem? hb
          have tkj : (tw a).take (j + 1) = (tw a).take j ++ [b] := by rw [List.take_succ, hb]; rfl
          have nb : lt b ∉ rs.map fun p => lt p.1 := fun h => by
            obtain ⟨p, hp, e⟩ := List.mem_map.mp h
            have e := lt_inj e
            have hp' : p.1 ∈ rs.map (·.1) := List.mem_map.mpr ⟨p, hp, rfl⟩
            rw [e, hk] at hp'
            rcases List.mem_append.mp hp' with z | z
            · obtain ⟨a2, h2, h3⟩ := List.mem_flatMap.mp z
              have e1 := ((tk' a2 (nk a2 (List.mem_of_mem_take h2))).2.2 b h3).1
              have e2 := ((tk' a hak).2.2 b hba).1
              rw [e1] at e2
              exact nin (by rw [← e2]; exact h2)
            · have := (tk' a hak).2.1
              rw [← List.take_append_drop (j + 1) (tw a), tkj] at this
              exact (List.nodup_append.mp (List.nodup_append.mp this).1).2.2 b z b List.mem_cons_self rfl
          refine pb_dput (P := fun d => ∃ r : Row, RowCp tw (rowOf s.rs a) r ∧ d = dRow r) 2 (ru hr) rfl (PX.mono (px_tupL T (lcPE 7 8 [("_law_other", 7), ("_law_turn", 8)] (xs := rowOf s.rs a) (emb := dIt) (g := dIt) (Q := fun (p y : It2) => y.2 = p.2 ∧ y.1 ∈ tw p.1) (pix_tupv (v_prow (ru hr) (pvv 1) (pvv 4) W.nd hak)) (fun _ _ => rfl) (fun _ _ _ _ _ p _ hp => px_tup (P' := fun d => ∃ y : It2, (y.2 = p.2 ∧ y.1 ∈ tw p.1) ∧ d = dIt y) (pxs_cons (px_twin (names := ordL s.keys) (tw := tw) (o := p.1) T hr (by decide) (pvv 0) (pvv 3) (pvv 7) (kn _ (row_keys W hak hp)) ⟨(tk' _ (row_keys W hak hp)).1, by have := twl _ (row_keys W hak hp); omega⟩ rfl rfl rfl rfl fun _ _ => rfl) (pvs_cons (pvv 8) pvs_nil)) ?_ ?_) nd)) fun d hd => ?_) (pvv 5) (by simp [offAll, Cell.adr]) ?_ fun d hd => ?_
          · rintro l ⟨d, r, rfl, _, rfl⟩
            show 2 ≤ sizeLine
            decide
          · rintro l ⟨d, r, rfl, ⟨b, hb, rfl⟩, rfl⟩
            exact ⟨(b, p.2), ⟨rfl, hb⟩, rfl⟩
          · obtain ⟨l, ⟨r, h1, rfl⟩, rfl⟩ := hd
            exact ⟨r, a2_cp h1, rfl⟩
          · rw [List.length_map]
            have := congrArg List.length hk
            rw [List.length_map, List.length_append, List.length_take] at this
            have h1 := flen ((ordL s.keys).take i) fun b hb => nk b (List.mem_of_mem_take hb)
            rw [List.length_take] at h1
            have h2 := twl a hak
            exact Nat.lt_of_le_of_lt (show rs.length ≤ 100 by omega) (by decide)
          · obtain ⟨r, hcp, rfl⟩ := hd
            rw [put_add nb]
            refine pb_end ⟨rs ++ [(b, r)], .d (dLet b), rfl, ?_, fun q hq' => ?_, ?_⟩
            · rw [List.map_append, hk, tkj, List.append_assoc]
              rfl
            · rcases List.mem_append.mp hq' with z | z
              · exact hq q z
              · rw [List.mem_singleton.mp z]
                exact ⟨a, hak, hba, hcp⟩
            · rw [List.map_append, List.map_append]
              rfl
        · rintro δ' ⟨rs, y, hy, hk, hq, rfl⟩
          rw [List.take_length] at hk
          exact pb_end ⟨rs, .d (dLet a), y, rfl, hy, by rw [hk, tk, List.flatMap_append]; simp, hq, rfl⟩
      · rintro δ' ⟨rs, x, y, hx, hy, hk, hq, rfl⟩
        rw [List.take_length] at hk
        refine pb_lock 2 fk1 hl1 rfl (by simp only [offAll, hx, hy, List.set_cons_zero, List.set_cons_succ]; simp [Cell.adr]) ?_
        have axk : ∀ p ∈ s.ax, p.1 ∈ s.keys := fun p hp => (W.ax.2.2 p hp).1
        refine pb_set 6 (P := fun d => ∃ r : Row, RowCp tw s.ax r ∧ d = dRow r) nd rfl (.inl rfl) (PX.mono (px_tupL T (lcPE 4 8 [("_law_name", 4), ("_law_turn", 8)] (xs := s.ax) (emb := dIt) (g := dIt) (Q := fun (p y : It2) => y.2 = p.2 ∧ y.1 ∈ tw p.1) (pix_tupv (pv_dget (d := dRow s.ax) (ru hr) (pvv 1) .dct pv_str rfl)) (fun _ _ => rfl) (fun _ _ _ _ _ p _ hp => px_tup (P' := fun d => ∃ y : It2, (y.2 = p.2 ∧ y.1 ∈ tw p.1) ∧ d = dIt y) (pxs_cons (px_twin (names := ordL s.keys) (tw := tw) (o := p.1) T hr (by decide) (pvv 0) (pvv 3) (pvv 4) (kn _ (axk p hp)) ⟨(tk' _ (axk p hp)).1, by have := twl _ (axk p hp); omega⟩ rfl rfl rfl rfl fun _ _ => rfl) (pvs_cons (pvv 8) pvs_nil)) ?_ ?_) nd)) fun d hd => ?_) fun d hd => ?_
        · rintro l ⟨d, r, rfl, _, rfl⟩
          show 2 ≤ sizeLine
          decide
        · rintro l ⟨d, r, rfl, ⟨b, hb, rfl⟩, rfl⟩
          exact ⟨(b, p.2), ⟨rfl, hb⟩, rfl⟩
        · obtain ⟨l, ⟨r, h1, rfl⟩, rfl⟩ := hd
          exact ⟨r, a2_cp h1, rfl⟩
        obtain ⟨ax, hax, rfl⟩ := hd
        refine pb_ret (P := Is (dPl ⟨s.sq, ax, rs⟩)) .refl (px_k (pk_disp (ks := ["grid", "axiom", "rules"]) (ds := [.txt (gname s.sq), dRow ax, dRls rs]) (.cons (fun _ => pv_str) (fun _ => pv_dget (d := .txt (gname s.sq)) (ru hr) (pvv 1) .dct pv_str rfl) (.cons (fun _ => pv_str) (fun _ => pvv 6) (.cons (fun _ => pv_str) (fun _ => pvv 2) .nil))))) fun d e => ⟨_, e, copd_of B (fun a ha => ht a (kn a ha)) hax hk hq⟩
end G81
set_option maxRecDepth 100000
set_option maxHeartbeats 4000000
/-! a for over what is known in part; comparisons of what is the same -/
namespace G81
open PySem PySem.Spec PyProof.Rows L2 SlX
open SX (S)
section
variable {X : Cx} {c : Fm} {δ : List Cell} {e : Expr} {pos : Pos} {w : Wi} {rest : List Stmt}
def tTurnQ {α : Type} (X : Cx) (c : Fm) (w : Wi) (rest : List Stmt) (Qx : List α → Prop) (Iv : List α → Nat → List Cell → Prop) (emb : α → D) (t : Tg) : TS := fun D σ H => ∃ (xs : List α) (i : Nat) (x : α) (δ' δ2 : List Cell), Qx xs ∧ xs[i]? = some x ∧ Iv xs i δ' ∧ t.put (emb x) δ' = some δ2 ∧
  tB (kw X) c δ2 { c := c, N := Iv xs (i + 1), R := w.R, B := fun δ3 => PB X c δ3 rest w, rc := w.rc } D σ H
theorem pb_forQ {α : Type} {tg iter : Expr} {body : List Stmt} {t : Tg} {emb : α → D} {Qx : List α → Prop} (Iv : List α → Nat → List Cell → Prop) (hp : PassesOwn (model X.prog X.w) X.A X.env X.xe) (hc : X.calm = true)
    (hi : PIX X c δ tg iter (fun ds => ∃ xs, Qx xs ∧ ds = xs.map emb)) (hg : PGX X tg t) (h0 : ∀ xs, Qx xs → Iv xs 0 δ)
    (hb : ∀ (xs : List α) (i : Nat) (x : α) (δ' : List Cell), Qx xs → xs[i]? = some x → Iv xs i δ' → ∃ δ2, t.put (emb x) δ' = some δ2 ∧ PB X c δ2 body { c := c, N := Iv xs (i + 1), R := w.R, B := fun δ3 => PB X c δ3 rest w, rc := w.rc })
    (hr : ∀ xs δ', Qx xs → Iv xs xs.length δ' → PB X c δ' rest w) (hs : ∀ x, foldedSetIterable iter X.env x = pure x := by intro _; rfl) : PB X c δ (.For tg iter body [] pos :: rest) w := by
  have bd : PSs X body (tTurnQ X c w rest Qx Iv emb t) := by
    refine ⟨fun pins s σ H D I ⟨xs, i, x, δ', δ2, h0, h1, h2, h3, z⟩ => ?_⟩
    obtain ⟨δ3, h4, h5⟩ := hb xs i x δ' h0 h1 h2
    rw [h3] at h4
    cases h4
    exact h5.run pins s σ H D I z
  have key : PSs X rest (fun D σ H => ∃ δ', PB X c δ' rest w ∧ tB (kw X) c δ' w D σ H) := ⟨fun pins s σ H D I ⟨d, p, z⟩ => p.run pins s σ H D I z⟩
  refine PSs.mono (pss_cons (ps_for hp hc hi hg bd hs) key) fun D σ H ⟨z, n, rt, bk⟩ => ⟨z, fun J H1 ds ⟨xs, hQ, hd⟩ r1 ⟨m, G, Y, W, hn, wk⟩ hz => ?_⟩
  subst hd
  have z1 := z.rl r1
  have up : Up c c H1 := ⟨rfl, fun _ _ h => h, z1.bs.toBw⟩
  obtain ⟨wg, wy⟩ := wk c up
  rw [List.length_map] at hn
  subst hn
  have rst : ∀ {σ' H' δ'}, Rl c.E c.O H1 H' → Ev (kw X) c H' σ' δ' → PB X c δ' rest w → ∃ δ', PB X c δ' rest w ∧ tB (kw X) c δ' w D σ' H' := fun {σ' H' δ'} r e2 pb => ⟨δ', pb, e2, fun σ3 H3 δ3 hn r3 e3 => n σ3 H3 δ3 hn (Rl.trans z.oe (Rl.trans z.oe r1.wide r) r3) e3,
    fun v H3 d' hr r3 a3 => rt v H3 d' hr (Rl.trans z.oe (Rl.trans z.oe r1.wide r) r3) a3, fun σ3 H3 δ3 hn r3 e3 => bk σ3 H3 δ3 hn (Rl.trans z.oe (Rl.trans z.oe r1.wide r) r3) e3⟩
  refine for_it (g := t.g X.K) (tb := tTurnQ X c w rest Qx Iv emb t) (D := { D with nx := fun σ3 H3 => ∃ δ3, PB X c δ3 rest w ∧ tB (kw X) c δ3 w D σ3 H3 }) W (fun i σ' H' => Rl c.E c.O H1 H' ∧ ∃ δ', Ev (kw X) c H' σ' δ' ∧ Iv xs i δ') ⟨.refl, δ, z1, h0 xs hQ⟩ (fun i σ' H' hi ⟨r, _⟩ => wg H' r) (fun i v σ' H' H2 hi ⟨r, δ', e', iv⟩ hy => ?_) (fun σ' H' ⟨r, δ', e', iv⟩ => rst r e' (hr xs δ' hQ iv))
  obtain ⟨d, hd, kp, ha⟩ := wy i H' v H2 hi r hy
  have ex : xs[i]? = some xs[i] := List.getElem?_eq_getElem hi
  rw [List.getElem?_map, ex] at hd
  obtain rfl : emb xs[i] = d := Option.some.inj hd
  obtain ⟨δ2, h3, h5⟩ := hb xs i xs[i] δ' hQ ex iv
  have rk : Rl c.E [] H' H2 := .of_same kp
  refine put_go (vs := []) (e'.rl rk) ha h3 fun σ2 e2 _ => ⟨xs, i, xs[i], δ', δ2, hQ, ex, iv, h3, e2, fun σ3 H3 δ3 hn r3 e3 => ⟨Rl.trans z.oe (Rl.trans z.oe r rk.wide) r3, δ3, e3, hn⟩, fun v H3 d' hr r3 a3 => rt v H3 d' hr (Rl.trans z.oe r1.wide (Rl.trans z.oe (Rl.trans z.oe r rk.wide) r3)) a3, fun σ3 H3 δ3 hn r3 e3 => rst (Rl.trans z.oe (Rl.trans z.oe r rk.wide) r3) e3 hn⟩
/-- range(n), n known in part -/
theorem pix_rangeQ {R : Nat → Prop} {tg a : Expr} {p : Pos} (hm : X.mg "range" = none) (ha : PX X c δ a (fun d => ∃ n : Nat, d = .int (n : Nat) ∧ R n)) (hn : ∀ n, R n → n < 2 ^ 20) (hg : Gl X "range" := by rfl) (hs : starEach [a] X.env = [(false, eval a X.env)] := by rfl) :
    PIX X c δ tg (.Call (.Name "range" p) [a] [] pos) (fun ds => ∃ xs : List Nat, (∃ n, R n ∧ xs = List.range n) ∧ ds = xs.map fun i : Nat => D.int (i : Nat)) := by
  refine PI.mono (pi_range1 hg hm (pa_cons ha pa_nil hs) hs) fun σ H W ⟨ev, w⟩ => ⟨ev, fun v H1 d1 ⟨n, e1, hR⟩ r a => ?_⟩
  subst e1
  cases (show v = _ from a)
  have hn := hn n hR
  refine ⟨n, rfl, by omega, by omega, w _ H1 _ ⟨List.range n, ⟨n, hR, rfl⟩, rfl⟩ r ⟨n, _, _, (by have := walk_range (lo := 0) (n := (n : Int).toNat); rw [Int.toNat_natCast] at this ⊢; exact this), by simp, fun c' u => ⟨fun _ _ => trivial, fun i H' x H2 hi r' y => ?_⟩⟩ (by rw [List.length_map, List.length_range, sizeLine_eq]; omega)⟩
  obtain ⟨rfl, rfl⟩ := y
  exact ⟨.int (i : Nat), by rw [List.getElem?_map, List.getElem?_range hi]; rfl, fun _ _ e => e, by show V.int (0 + (i : Int)) = V.int i; rw [Int.zero_add]⟩
variable {a b : Expr} {d d' : D} {n j : Nat}
theorem pt_neD {k : Bool} (hr : Room j X.A) (ha : PV X c δ a d) (hb : PV X c δ b d') (hd : Dq d n) (hd' : Dq d' n) (hn : n ≤ 64) (hk : (d = d' ∧ k = false) ∨ (d ≠ d' ∧ k = true)) (hm : behindInMarks .NotEq b = false := by first | exact nomark _ | rfl | with_unfolding_all rfl) : PTX X c δ (.Compare a [.NotEq] [b] pos) (· = k) :=
  ptx_cmp (op_neD (ru hr)) ha hb (fun x y e1 e2 => by
    cases (show x = _ from e1)
    cases (show y = _ from e2)
    refine l_neD (n := n) (m := n) hd hd' hn hn fun q hq => ⟨_, rfl, ?_⟩
    rcases hk with ⟨e, rfl⟩ | ⟨e, rfl⟩
    · rw [hq.mpr e]; rfl
    · cases q with
      | false => rfl
      | true => exact absurd (hq.mp rfl) e) hm
theorem pt_eqD {k : Bool} (hr : Room j X.A) (ha : PV X c δ a d) (hb : PV X c δ b d') (hd : Dq d n) (hd' : Dq d' n) (hn : n ≤ 64) (hk : (d = d' ∧ k = true) ∨ (d ≠ d' ∧ k = false)) (hm : behindInMarks .Eq b = false := by first | exact nomark _ | rfl | with_unfolding_all rfl) : PTX X c δ (.Compare a [.Eq] [b] pos) (· = k) :=
  ptx_cmp (op_eqD (ru hr)) ha hb (fun x y e1 e2 => by
    cases (show x = _ from e1)
    cases (show y = _ from e2)
    refine l_eqD (n := n) (m := n) hd hd' hn hn fun q hq => ⟨_, rfl, ?_⟩
    rcases hk with ⟨e, rfl⟩ | ⟨e, rfl⟩
    · exact hq.mpr e
    · cases q with
      | false => rfl
      | true => exact absurd (hq.mp rfl) e) hm
theorem pv_eqSame (hr : Room j X.A) (ha : PV X c δ a d) (hb : PV X c δ b d) (hd : Dq d n) (hn : n ≤ 64) (hm : behindInMarks .Eq b = false := by first | exact nomark _ | rfl | with_unfolding_all rfl) : PV X c δ (.Compare a [.Eq] [b] pos) (.bl true) :=
  px_cmp (op_eqD (ru hr)) ha hb (fun x y e1 e2 => by
    cases (show x = _ from e1)
    cases (show y = _ from e2)
    exact l_eqD (n := n) (m := n) hd hd hn hn fun q hq => by rw [hq.mpr rfl]; rfl) hm
end
section
variable {X : Cx} {c : Fm} {δ : List Cell} {a b : Expr} {pos : Pos} {j n : Nat} {C g : Addr} {l m : List D} {R : RD} {q : Bool}
theorem pt_neO (mt : Meth X.K C "__eq__" g) (ne : PySem.W.findIn X.K (.ref C) "__ne__" = some (some (.builtin "object.__ne__"))) (ob : PySem.W.mroIn X.K C (.type "object") = some true) (F : FnR X.prog X.w X.K X.mg X.base CX0 n g (spD (kw X) R)) (hr : Room j X.A) (hk : n + 1 ≤ j) (h : PV X c δ a (.obj C l)) (h2 : PV X c δ b (.obj C m)) (hR : R [.obj C l, .obj C m] (Is (.bl q)))
    (hm : behindInMarks .NotEq b = false := by first | exact nomark _ | rfl | with_unfolding_all rfl) : PTX X c δ (.Compare a [.NotEq] [b] pos) (· = !q) :=
  ptv_cmp (op_neSl mt.at_ ne ob mt.fn F (hr.mono hk)) h h2 (fun v w H Q bs a1 a2 wn => l_eqSl (neg := true) hR v w H Q bs a1 a2 wn) hm
end
theorem dq_lets {ls : List Nat} (h : ∀ l ∈ ls, l < 123) : Dqs (ls.map dLet) 0 := Dqs.all fun d hd => by
  obtain ⟨l, hl, rfl⟩ := List.mem_map.mp hd
  exact lt_ok (h l hl)
theorem dq_nil {n : Nat} : Dq (.lst []) (n + 1) := trivial
theorem dq_dirs {r : Row} : Dq (dDirs r) 1 := dq_ints map_int
theorem dDirs_eq {r q : Row} : dDirs r = dDirs q ↔ dirs r = dirs q := by
  unfold dDirs
  rw [D.lst.injEq]
  exact ints_inj (f := fun p : It2 => p.2) (g := fun p : It2 => p.2)
/-! lines do not ask for the order of the rules -/
theorem repl_srt {s : Sc} (W : Wf s) : ∀ {st : Row}, (∀ p ∈ st, p.1 ∈ s.keys) → repl s.srt st = repl s st
  | [], _ => rfl
  | p :: st, h => by
    show turnRow _ p.2 (rowOf s.srt.rs p.1) ++ repl s.srt st = turnRow _ p.2 (rowOf s.rs p.1) ++ repl s st
    rw [repl_srt W (st := st) fun q hq => h q (List.mem_cons_of_mem _ hq), row_srt W (h p List.mem_cons_self)]
    rfl
theorem grow_srt {s : Sc} (W : Wf s) {r : Row} (h : ∀ p ∈ r, p.1 ∈ s.keys) : ∀ n, growN s.srt r n = growN s r n
  | 0 => rfl
  | n + 1 => by
    show repl s.srt (growN s.srt r n) = repl s (growN s r n)
    rw [grow_srt W h n, repl_srt W (grow_keys W h n)]
theorem Cop.srt {s : Sc} {t : Nat → Nat} (W : Wf s) (C : Cop s t) : Cop s.srt t where
  ax := C.ax
  rs := fun q hq => C.rs q ((mem_srt W).mp hq)
  eq := fun q hq r hr => C.eq q ((mem_srt W).mp hq) r ((mem_srt W).mp hr)
/-- what is not used is not counted -/
theorem cnt_unused {s : Sc} (W : Wf s) {l n : Nat} (h : l ∉ s.used) : cnt0 (growN s s.ax n) l = 0 := by
  unfold cnt0
  rw [List.countP_eq_zero]
  intro p hp e
  exact h (by rw [← of_decide_eq_true e]; exact grow_used W (ax_used W) n p hp)
theorem cnt_spare {s : Sc} (W : Ws s) (n : Nat) : cntN s.spare s.ax n = cntN s s.ax n := by
  rw [cntN_grow W.spare.toWf (r := s.ax) (fun p hp => (W.spare.toWf.ax.2.2 p hp).1), cntN_grow W.toWf (fun p hp => (W.toWf.ax.2.2 p hp).1), grow_spare W (ax_used W.toWf)]
end G81
set_option maxRecDepth 100000
set_option maxHeartbeats 4000000
/-! the spared scheme is right -/
namespace G81
open PySem PySem.Spec PyProof.Rows L2 SlX
open SX (S)
variable {P : Program} {w : World} {K : PySem.W.Frag} {mg : Str → Option Value} {base : Heap}
theorem sc82 : FnScope ["_law_own", "_law_scheme", "_law_less", "_law_names", "_law_counts", "_law_due", "_law_order", "_law_name"] ["_law_own", "_law_scheme"] (defScope (topS 82)) := ⟨rfl, rfl, rfl, by decide +kernel, rfl, by decide +kernel, by decide +kernel⟩
theorem rule_small {s : Sc} (W : Wf s) {a : Nat} (h : a ∈ s.keys) : ∀ p ∈ rowOf s.rs a, p.1 < 123 := fun p hp => W.k123 _ (row_keys W h hp)
noncomputable def r__law_spared_right (K : PySem.W.Frag) : RD := fun ds P => ∃ u : Sc, ds = [dPl u, dSch K u.srt] ∧ Copd u ∧ P = Is (.bl true)
theorem w__law_spared_right (T : Tx K mg) : Cal P w K mg base 13 "_law_spared_right" (r__law_spared_right K) :=
  calD T.d__law_spared_right sc82 (by rintro ds P ⟨n, rfl, _⟩; rfl) fun cdv A outer s' H E hr c ds Pd hR => by
    have nd := sc82.nd
    obtain ⟨u, rfl, U, rfl⟩ := hR
    have W := U.toWf
    have Ws := W.srt
    have W2 := Ws.spare
    have W3 := W2.toWf
    have ru7 : rnds u 7 = u.srt.spare.keys := by rw [rnds_used W, spare_keys]
    have sl : u.srt.spare.keys = u.srt.used := spare_keys _
    have c0 : ∀ l ∈ u.srt.spare.keys, l < 123 := W3.k123
    have hx : ∀ p ∈ u.srt.spare.ax, p.1 ∈ u.srt.spare.keys := fun p hp => (W3.ax.2.2 p hp).1
    refine pb_tup2 2 3 (pa2C (cv_d (pv_call (w_spared T) hr (by decide) rfl (pvs_cons (pvv 1) pvs_nil) ⟨u.srt, rfl, Ws, rfl⟩)) fun c1 y1 s1 => cv_d (pv_call (w__law_used T) hr (by decide) rfl (pvs_cons (pvv 0) pvs_nil) ⟨u, rfl, W, U.five, rfl⟩)) (fun c' y1 y2 ⟨c2, s1, s2⟩ => ?_) nd
    obtain ⟨rfl, d1, rfl, e1⟩ := s1
    cases (show d1 = _ from e1)
    obtain ⟨rfl, d2, rfl, e2⟩ := s2
    cases (show d2 = _ from e2)
    refine pb_ifRet (B := (· = false)) (ptx_bo (pwx_or (T := (· = false)) (pt_neD (n := 1) (k := false) (d := .lst (u.srt.spare.keys.map dLet)) (d' := .lst (u.srt.spare.keys.map dLet)) hr (pv_n (n_listT T (v_prop (pvv 2) T.c_Scheme.1 T.p_Scheme_letters (w_Scheme_letters T) hr (by decide) ⟨u.srt.spare, rfl, rfl⟩))) (pv_eq (pvv 3) (by rw [ru7])) (dq_lets c0) (dq_lets c0) (by decide) (.inl ⟨rfl, rfl⟩)) (fun _ => pwx_or (T := (· = false)) (ptx_eq ((pt_neO T.m_Scheme_eq T.ne_Scheme T.c_Scheme.2.cm (w_Scheme_eq T) hr (by decide) (pv_call (w_spared T) hr (by decide) rfl (pvs_cons (pvv 2) pvs_nil) ⟨u.srt.spare, rfl, W2, rfl⟩) (pvv 2) ⟨u.srt.spare, by rw [spare_spare Ws]; rfl, W3, rfl⟩)) (k' := false) rfl) (fun _ => pwx_or1 (T := (· = false)) (pt_neD (n := 2) (k := false) (d := dRow u.srt.ax) hr (v_prop (pvv 2) T.c_Scheme.1 T.p_Scheme_axiom (w_Scheme_axiom T) hr (by decide) ⟨u.srt.spare, rfl, rfl⟩) (v_prop (pvv 1) T.c_Scheme.1 T.p_Scheme_axiom (w_Scheme_axiom T) hr (by decide) ⟨u.srt, rfl, rfl⟩) (dq_row fun p hp => W.k123 _ (W.ax.2.2 p hp).1) (dq_row fun p hp => W.k123 _ (W.ax.2.2 p hp).1) (by decide) (.inl ⟨rfl, rfl⟩))) fun h => by cases h) fun h => by cases h)) (fun h => by cases h) fun _ => ?_
    refine pb_ifRet (B := (· = false)) (pt_neD (n := 1) (k := false) (d := .lst []) hr (pv_eq (pv_n (pvn_lcf (xs := u.srt.spare.keys) (emb := dLet) (f := dLet) (q := fun _ => false) (.nm 7) [("_law_name", 7)] (pix_lstv (pv_eq (pvv 3) (by rw [ru7]))) (fun _ _ => rfl) (blkOk_by (by rfl)) (by intros; exact pgx_nm (by assumption) rfl (by first | exact Or.inl rfl | exact Or.inr rfl)) (fun _ _ _ _ _ a _ ha => ?_) (fun _ _ _ _ _ a _ ha => pvv 7) nd)) (by simp)) (pv_n (pvn_lst pvs_nil)) dq_nil dq_nil (by decide) (.inl ⟨rfl, rfl⟩)) (fun h => by cases h) fun _ => ?_
    · have hk := mem_used.mp (show a ∈ u.srt.used by rw [← sl]; exact ha)
      have e : rowOf u.srt.spare.rs a = rowOf u.srt.rs a := row_spare Ws (by rw [← sl]; exact ha)
      exact ptx_eq ((pt_neO T.m_Rule_eq T.ne_Rule T.c_Rule.2.cm (w_Rule_eq T) hr (by decide) (pv_eq (v_rule (p := (a, rowOf u.srt.spare.rs a)) T hr (by decide) (pvv 2) (pvv 7) W3.nd (rowOf_in ha) .name) (show _ = dRule _ u.srt.sq (rowOf u.srt.rs a) by rw [e]; rfl)) (v_rule (p := (a, rowOf u.srt.rs a)) T hr (by decide) (pvv 1) (pvv 7) Ws.nd (rowOf_in hk.1) .name) ⟨u.srt.sq, rowOf u.srt.rs a, rfl, rule_small Ws.toWf hk.1, rfl⟩)) (k' := false) rfl
    refine pb_tup2 4 5 (pa2C (cv_d (pv_call (w_letter_counts T) hr (by decide) rfl (pvs_cons (pvv 2) (pvs_cons pv_int pvs_nil)) ⟨u.srt.spare, 60, rfl, W3, by decide, rfl⟩)) fun c1 y1 s1 => cv_d (pv_call (w_letter_counts T) hr (by decide) rfl (pvs_cons (pvv 1) (pvs_cons pv_int pvs_nil)) ⟨u.srt, 60, rfl, Ws.toWf, by decide, rfl⟩)) (fun c' y1 y2 ⟨c2, s1, s2⟩ => ?_) nd
    obtain ⟨rfl, d1, rfl, e1⟩ := s1
    cases (show d1 = _ from e1)
    obtain ⟨rfl, d2, rfl, e2⟩ := s2
    cases (show d2 = _ from e2)
    refine pb_ifRet (B := (· = false)) (pt_neD (n := 1) (k := false) (d := .lst []) hr (pv_eq (pv_n (pvn_lcf (xs := u.srt.keys) (emb := dLet) (f := dLet) (q := fun _ => false) (.nm 7) [("_law_name", 7)] (PIX.mono (pix_dkeys (pvv 5)) fun ds e => by rw [e, List.map_map]; rfl) (fun _ _ => rfl) (blkOk_by (by rfl)) (by intros; exact pgx_nm (by assumption) rfl (by first | exact Or.inl rfl | exact Or.inr rfl)) (fun _ _ _ _ _ a _ ha => ?_) (fun _ _ _ _ _ a _ ha => pvv 7) nd)) (by simp)) (pv_n (pvn_lst pvs_nil)) dq_nil dq_nil (by decide) (.inl ⟨rfl, rfl⟩)) (fun h => by cases h) fun _ => ?_
    · refine ptx_eq (ptv_cmp op_ne (pv_dget (ru hr) (pvv 5) .dct (pvv 7) (look_int (g := fun l => D.int (cntN u.srt u.srt.ax 60 l : Nat)) ha)) (pv_eq (pv_dget2 (ru hr) (pvv 4) .dct (pvv 7) pv_int ⟨rfl, rfl, rfl, rfl⟩) (d' := .int (cntN u.srt u.srt.ax 60 a : Nat)) ?_) l_neI) (by rw [decide_eq_true rfl]; rfl)
      by_cases hs : a ∈ u.srt.spare.keys
      · rw [look_int (g := fun l => D.int (cntN u.srt.spare u.srt.spare.ax 60 l : Nat)) hs]
        show D.int _ = _
        rw [show cntN u.srt.spare u.srt.spare.ax 60 = cntN u.srt u.srt.ax 60 from cnt_spare Ws 60]
      · have : (lookD (u.srt.spare.keys.map lt) (u.srt.spare.keys.map fun l => D.int (cntN u.srt.spare u.srt.spare.ax 60 l : Nat)) (lt a)).isSome = false := by rw [look_mem, decide_eq_false hs]
        rw [Option.isSome_eq_false_iff, Option.isNone_iff_eq_none] at this
        rw [this]
        show D.int 0 = _
        rw [cntN_grow Ws.toWf (fun p hp => (Ws.toWf.ax.2.2 p hp).1), cnt_unused Ws.toWf (by rw [← sl]; exact hs)]
        rfl
    refine pb_set 6 nd rfl (.inl rfl) (pv_call (w__law_low_order T) hr (by decide) rfl (pvs_cons (pvv 0) (pvs_cons pv_int pvs_nil)) ⟨u, rfl, W, rfl⟩) fun d hd => ?_
    obtain ⟨n, rfl, hn, hl⟩ := hd
    have uk : ∀ p ∈ u.ax, p.1 ∈ u.keys := fun p hp => (W.ax.2.2 p hp).1
    have g1 : growN u.srt u.srt.ax n = growN u u.ax n := grow_srt W uk n
    have g2 : growN u.srt.spare u.srt.spare.ax n = growN u.srt u.srt.ax n := grow_spare Ws (ax_used Ws.toWf) n
    refine pb_ret (P := Is (.bl true)) .refl (pv_eqSame (n := 2) (d := dRow (growN u.srt u.srt.ax n)) hr (pv_eq (pv_call (w_steps_of T) hr (by decide) rfl (pvs_cons (pvv 2) (pvs_cons (pvv 6) pvs_nil)) ⟨u.srt.spare, n, rfl, W3, by omega, by rw [g2, g1]; omega, rfl⟩) (by rw [g2])) (pv_call (w_steps_of T) hr (by decide) rfl (pvs_cons (pvv 1) (pvs_cons (pvv 6) pvs_nil)) ⟨u.srt, n, rfl, Ws.toWf, by omega, by rw [g1]; omega, rfl⟩) (dq_row fun p hp => Ws.toWf.k123 _ (grow_keys Ws.toWf (fun p hp => (Ws.toWf.ax.2.2 p hp).1) n p hp)) (by decide)) fun _ h => h
end G81
set_option maxRecDepth 100000
set_option maxHeartbeats 4000000
/-! the least scheme is right -/
namespace G81
open PySem PySem.Spec PyProof.Rows L2 SlX
open SX (S)
variable {P : Program} {w : World} {K : PySem.W.Frag} {mg : Str → Option Value} {base : Heap}
theorem sc83 : FnScope ["_law_own", "_law_scheme", "_law_less", "_law_order", "_law_names", "_law_fresh", "_law_at", "_law_name", "_law_other", "_law_rows", "_law_turn"] ["_law_own", "_law_scheme"] (defScope (topS 83)) := ⟨rfl, rfl, rfl, by decide +kernel, rfl, by decide +kernel, by decide +kernel⟩
theorem least_five {s : Sc} (W : Ws s) (h : ∀ p ∈ s.rs, p.2.length ≤ 5) : ∀ p ∈ s.least.rs, p.2.length ≤ 5 := fun p hp => by
  obtain ⟨l, hl, rfl⟩ := List.mem_map.mp hp
  have hk := ((mem_reps W.spare.toWf).mp hl).1
  show (callR _ _).length ≤ 5
  rw [callR_len]
  exact h _ ((mem_spare W.toWf).mp (rowOf_in hk)).1
theorem grow_small {s : Sc} (W : Wf s) (h : ∀ p ∈ s.rs, p.2.length ≤ 5) {e : Nat} (L : Len s e) {a : Nat} (ha : a ∈ s.keys) {j : Nat} (hj : j ≤ 3) : (growN s [(a, 0)] j).length ≤ 125 := by
  rw [grow_len W L (fun p hp => by rw [List.mem_singleton.mp hp]; exact ha)]
  have he : e ≤ 5 := by
    have := L _ (rowOf_in ha)
    rw [← this]
    exact h _ (rowOf_in ha)
  show 1 * e ^ j ≤ 125
  rw [Nat.one_mul]
  exact Nat.le_trans (Nat.pow_le_pow_left he j) (Nat.le_trans (Nat.pow_le_pow_right (by decide) hj) (by decide))
theorem least_keys_sub {s : Sc} (W : Ws s) : ∀ l ∈ s.least.keys, l ∈ s.used := fun l hl => by
  have hl : l ∈ s.spare.reps := by rw [← fold_keys]; exact hl
  have := ((mem_reps W.spare.toWf).mp hl).1
  rwa [spare_keys] at this
noncomputable def r__law_least_right (K : PySem.W.Frag) : RD := fun ds P => ∃ u : Sc, ds = [dPl u, dSch K u.srt] ∧ Copd u ∧ u.srt.even = true ∧ P = Is (.bl true)
theorem w__law_least_right (T : Tx K mg) : Cal P w K mg base 15 "_law_least_right" (r__law_least_right K) :=
  calD T.d__law_least_right sc83 (by rintro ds P ⟨n, rfl, _⟩; rfl) fun cdv A outer s' H E hr c ds Pd hR => by
    have nd := sc83.nd
    obtain ⟨u, rfl, U, ev, rfl⟩ := hR
    have W := U.toWf
    have Ws := W.srt
    have WL := Ws.least
    have W3 := WL.toWf
    have evL := Even.least Ws ev
    obtain ⟨eL, hL⟩ := even_len evL
    have redL := least_red Ws
    have fullL := least_full Ws
    have five : ∀ p ∈ u.srt.least.rs, p.2.length ≤ 5 := least_five Ws fun p hp => U.five p ((mem_srt W).mp hp)
    have few : u.srt.least.keys.length ≤ 3 := (U.cop.srt W).few Ws
    have k123 := W3.k123
    have uk : ∀ p ∈ u.ax, p.1 ∈ u.keys := fun p hp => (W.ax.2.2 p hp).1
    have dE : ∀ n, dirs (growN u.srt.least u.srt.least.ax n) = dirs (growN u u.ax n) := fun n => by
      rw [least_dirs Ws, show u.srt.ax = u.ax from rfl, grow_srt W uk]
    have lE : ∀ n, (growN u.srt.least u.srt.least.ax n).length = (growN u u.ax n).length := fun n => by
      have := congrArg List.length (dE n)
      rwa [dirs_len, dirs_len] at this
    refine pv_set 2 nd rfl (.inl rfl) (pv_call (w_least_scheme T) hr (by decide) rfl (pvs_cons (pvv 1) pvs_nil) ⟨u.srt, rfl, Ws, ev, rfl⟩) ?_
    refine pb_ifRet (B := (· = false)) (ptx_bo (pwx_or (T := (· = false)) (pt_neD (n := 1) (k := false) (d := dPt u.srt.growth) hr (pv_eq (v_prop (P := Is (dPt u.srt.least.growth)) (pvv 2) T.c_Scheme.1 T.p_Scheme_growth (w_Scheme_growth T) hr (by decide) ⟨u.srt.least, rfl, rfl⟩) (by rw [least_growth Ws])) (v_prop (pvv 1) T.c_Scheme.1 T.p_Scheme_growth (w_Scheme_growth T) hr (by decide) ⟨u.srt, rfl, rfl⟩) ⟨trivial, trivial, trivial⟩ ⟨trivial, trivial, trivial⟩ (by decide) (.inl ⟨rfl, rfl⟩)) (fun _ => pwx_or (T := (· = false)) (pt_neD (n := 1) (k := false) (d := .lst (u.srt.least.keys.map dLet)) (d' := .lst (u.srt.least.keys.map dLet)) hr (pv_n (n_listT T (v_prop (pvv 2) T.c_Scheme.1 T.p_Scheme_letters (w_Scheme_letters T) hr (by decide) ⟨u.srt.least, rfl, rfl⟩))) (pv_eq (pv_n (n_sortLets T (ls := u.srt.least.keys) (v_setF T hr (PX.mono (v_prop (P := Is (.tup (u.srt.least.keys.map dLet))) (pvv 2) T.c_Scheme.1 T.p_Scheme_letters (w_Scheme_letters T) hr (by decide) ⟨u.srt.least, rfl, rfl⟩) fun x e => .inr e) (by rw [List.length_map]; omega) fun d hd => ?_) k123)) ?_) (dq_lets k123) (dq_lets k123) (by decide) (.inl ⟨rfl, rfl⟩)) (fun _ => pwx_or1 (T := (· = false)) (ptx_eq (pt_neO T.m_Scheme_eq T.ne_Scheme T.c_Scheme.2.cm (w_Scheme_eq T) hr (by decide) (pv_call (w_least_scheme T) hr (by decide) rfl (pvs_cons (pvv 2) pvs_nil) ⟨u.srt.least, rfl, WL, evL, rfl⟩) (pvv 2) ⟨u.srt.least, by rw [least_least Ws]; rfl, W3, rfl⟩) (k' := false) rfl)) fun h => by cases h) fun h => by cases h)) (fun h => by cases h) fun _ => ?_
    · obtain ⟨a, _, rfl⟩ := List.mem_map.mp hd
      exact .inl ⟨_, rfl⟩
    · rw [ordL_of WL.ord (fun _ => Iff.rfl) k123]
    -- the lines
    refine pb_forQ (α := Nat) (t := .nm 3) (emb := fun i : Nat => .int (i : Nat)) (Qx := fun xs => ∃ m, (∃ n, m = n + 1 ∧ n ≤ 12 ∧ (growN u u.ax n).length ≤ 200) ∧ xs = List.range m) (fun xs i δ' => ∃ x : Cell, δ' = [.d (dPl u), .d (dSch K u.srt), .d (dSch K u.srt.least), x, .no, .no, .no, .no, .no, .no, .no]) PassesOwn.never rfl (pix_rangeQ (R := fun m => ∃ n, m = n + 1 ∧ n ≤ 12 ∧ (growN u u.ax n).length ≤ 200) T.n_range (px_op op_add (A := fun d => ∃ n : Nat, d = .int (n : Nat) ∧ n ≤ 12 ∧ (growN u u.ax n).length ≤ 200) (B := Is (.int 1)) (pv_call (w__law_low_order T) hr (by decide) rfl (pvs_cons (pvv 0) (pvs_cons pv_int pvs_nil)) ⟨u, rfl, W, rfl⟩) pv_int fun x y e1 e2 => ?_) fun m ⟨n, e, h, _⟩ => by omega) (pgx_nm nd rfl (.inl rfl)) (fun xs _ => ⟨.no, rfl⟩) ?_ ?_
    · obtain ⟨n, rfl, hn, hl⟩ := e1
      cases (show y = _ from e2)
      exact fun v w H Q bs a1 a2 wn => l_int v w H Q bs a1 a2 fun z H' d e r a => wn z H' d ⟨n + 1, e, n, rfl, hn, hl⟩ r a
    · rintro xs i k δ' ⟨m, ⟨n, rfl, hn, hl⟩, rfl⟩ hk ⟨x, rfl⟩
      have hi : k ≤ n := by
        have := List.mem_of_getElem? hk
        rw [List.mem_range] at this
        omega
      have gl : (growN u u.ax k).length ≤ 200 := by
        have := grow_le W uk (n := k) (n - k)
        rw [show k + (n - k) = n by omega] at this
        omega
      refine ⟨_, rfl, ?_⟩
      refine pb_ifRet (B := (· = false)) (pt_neD (n := 1) (k := false) (d := dDirs (growN u u.ax k)) hr (pv_eq (pv_call (P := Is (dDirs (growN u.srt.least u.srt.least.ax k))) (w__law_directions T) hr (by decide) rfl (pvs_cons (pv_call (w_steps_of T) hr (by decide) rfl (pvs_cons (pvv 2) (pvs_cons (pvv 3) pvs_nil)) ⟨u.srt.least, k, rfl, W3, by omega, by rw [lE]; omega, rfl⟩) pvs_nil) ⟨growN u.srt.least u.srt.least.ax k, .inr rfl, rfl⟩) (dDirs_eq.mpr (dE k))) (pv_call (w__law_directions T) hr (by decide) rfl (pvs_cons (pv_call (w__law_line T) hr (by decide) rfl (pvs_cons (pvv 0) (pvs_cons (pvv 3) pvs_nil)) ⟨u, k, rfl, W, by omega, by omega, rfl⟩) pvs_nil) ⟨growN u u.ax k, .inl rfl, rfl⟩) dq_dirs dq_dirs (by decide) (.inl ⟨rfl, rfl⟩)) (fun h => by cases h) (fun _ => pb_end ⟨_, rfl⟩) (.inl rfl)
    rintro xs δ' ⟨m, ⟨n, rfl, hn, hl⟩, rfl⟩ ⟨x3, rfl⟩
    -- names, fresh
    refine pb_par 4 5 (pa2C (cv_d (d := .lst (u.srt.least.keys.map dLet)) (pv_n (n_listT T (v_prop (pvv 2) T.c_Scheme.1 T.p_Scheme_letters (w_Scheme_letters T) hr (by decide) ⟨u.srt.least, rfl, rfl⟩)))) fun c1 y1 s1 => cv_d (d := dPl u.srt.least) (pv_call (w__law_plain T) hr (by decide) rfl (pvs_cons (pv_n (n_listT T (v_prop (P := Is (.tup ((linesOf u.srt.least.sq u.srt.least.ax u.srt.least.rs).map D.txt))) (pvv 2) T.c_Scheme.1 T.p_Scheme_lines (w_Scheme_lines T) hr (by decide) ⟨u.srt.least, rfl, rfl⟩))) pvs_nil) ⟨u.srt.least, rfl, W3.txok, rfl⟩)) (fun c' y1 y2 ⟨c2, s1, s2⟩ => ?_) nd
    obtain ⟨rfl, d1, rfl, e1⟩ := s1
    cases (show d1 = _ from e1)
    obtain ⟨rfl, d2, rfl, e2⟩ := s2
    cases (show d2 = _ from e2)
    have subL := least_keys_sub Ws
    generalize u.srt.least = L at *
    -- two letters draw unlike rows
    refine pb_for (t := .pr 6 7) (emb := fun i : Nat => .tup [.int (i : Nat), (L.keys.map dLet).getD i .non]) (xs := List.range (L.keys.map dLet).length) (fun i δ' => ∃ x6 x7 x8 x9 x10 : Cell, δ' = [.d (dPl u), .d (dSch K u.srt), .d (dSch K L), x3, .d (.lst (L.keys.map dLet)), .d (dPl L), x6, x7, x8, x9, x10]) PassesOwn.never rfl (pix_enum T.n_enumerate (pvv 4)) (pgx_pr rfl nd rfl rfl (.inl rfl) (.inl rfl)) ⟨_, _, _, _, _, rfl⟩ ?_ ?_
    · rintro i k δ' hk ⟨x6, x7, x8, x9, x10, rfl⟩
      have hkl : k < L.keys.length := by
        have := List.mem_of_getElem? hk
        rwa [List.mem_range, List.length_map] at this
      have hkn : L.keys[k]? = some L.keys[k] := List.getElem?_eq_getElem hkl
      have ga : (L.keys.map dLet).getD k .non = dLet L.keys[k] := by
        rw [List.getD_eq_getElem?_getD, List.getElem?_map, hkn]
        rfl
      have hak : L.keys[k] ∈ L.keys := List.getElem_mem hkl
      generalize L.keys[k] = a at ga hak hkn
      refine ⟨_, rfl, ?_⟩
      rw [ga]
      refine pb_for (t := .nm 8) (emb := dLet) (xs := L.keys.take k) (fun i δ' => ∃ x8 x9 x10 : Cell, δ' = [.d (dPl u), .d (dSch K u.srt), .d (dSch K L), x3, .d (.lst (L.keys.map dLet)), .d (dPl L), .d (.int (k : Nat)), .d (dLet a), x8, x9, x10]) PassesOwn.never rfl (pix_lstv (pv_eq (pv_n (PN.mono (pn_slice (i := none) (j := some ((k : Nat) : Int)) (pvv 4) io_none (io_some (pvv 6))) fun l e => e)) (by rw [cut_to, List.map_take]))) (pgx_nm nd rfl (.inl rfl)) ⟨_, _, _, rfl⟩ ?_ ?_
      · rintro j b δ' hb ⟨x8, x9, x10, rfl⟩
        have hbm := List.mem_of_getElem? hb
        have hbk : b ∈ L.keys := List.mem_of_mem_take hbm
        have ne : a ≠ b := fun e => by
          have h1 := W3.nd
          rw [← List.take_append_drop (k + 1) L.keys, List.take_succ, hkn] at h1
          exact (List.nodup_append.mp (List.nodup_append.mp h1).1).2.2 b hbm a (by simp) e.symm
        have gs : ∀ {x : Nat}, x ∈ L.keys → ∀ j, j ≤ 3 → (growN L [(x, 0)] j).length ≤ 125 := fun hx j hj => grow_small W3 five hL hx hj
        have ks : ∀ {x : Nat}, x ∈ L.keys → ∀ p ∈ ([(x, 0)] : Row), p.1 ∈ L.keys := fun hx p hp => by rw [List.mem_singleton.mp hp]; exact hx
        refine ⟨_, rfl, ?_⟩
        refine pv_set 9 (d := .lst [dRowL (growN L [(a, 0)] 0), dRowL (growN L [(b, 0)] 0)]) nd rfl (.inl rfl) (pv_n (pvn_lst (pvs_cons (pv_n (pvn_lst (l := [dIt (a, 0)]) (pvs_cons (pv_tup (pvs_cons (pvv 7) (pvs_cons pv_int pvs_nil))) pvs_nil))) (pvs_cons (pv_n (pvn_lst (l := [dIt (b, 0)]) (pvs_cons (pv_tup (pvs_cons (pvv 8) (pvs_cons pv_int pvs_nil))) pvs_nil))) pvs_nil)))) ?_
        refine pb_for (t := .nm 10) (emb := fun i : Nat => .int (i : Nat)) (xs := List.range (L.keys.map dLet).length) (fun j δ' => j ≤ L.keys.length ∧ (∀ j', 1 ≤ j' → j' ≤ j → dirs (growN L [(a, 0)] j') = dirs (growN L [(b, 0)] j')) ∧ ∃ x10 : Cell, δ' = [.d (dPl u), .d (dSch K u.srt), .d (dSch K L), x3, .d (.lst (L.keys.map dLet)), .d (dPl L), .d (.int (k : Nat)), .d (dLet a), .d (dLet b), .d (.lst [dRowL (growN L [(a, 0)] j), dRowL (growN L [(b, 0)] j)]), x10]) PassesOwn.never rfl (pix_range T.n_range (v_lenL T (pvv 4)) (by rw [List.length_map]; omega)) (pgx_nm nd rfl (.inl rfl)) ⟨Nat.zero_le _, fun j' h1 h2 => by omega, _, rfl⟩ ?_ ?_
        · rintro j t δ' ht ⟨_, same, x10, rfl⟩
          have hj : j < L.keys.length := by
            have := (List.getElem?_eq_some_iff.mp ht).1
            rwa [List.length_range, List.length_map] at this
          refine ⟨_, rfl, ?_⟩
          have g1 := gs hak (j + 1) (by omega)
          have g2 := gs hbk (j + 1) (by omega)
          have cut : ∀ {r : Row}, r.length ≤ 125 → D.lst (cutD (r.map dIt) none (some ((400 : Nat) : Int))) = dRowL r := fun h => by
            rw [cut_to, List.take_of_length_le (by rw [List.length_map]; omega)]
          refine pv_set 9 (d := .lst [dRowL (growN L [(a, 0)] (j + 1)), dRowL (growN L [(b, 0)] (j + 1))]) nd rfl (.inl rfl) (pv_n (pvn_lst (pvs_cons (pv_eq (pv_n (PN.mono (pn_slice (i := none) (j := some ((400 : Nat) : Int)) (l := (growN L [(a, 0)] (j + 1)).map dIt) (pv_call (w__law_more T) hr (by decide) rfl (pvs_cons (pvv 5) (pvs_cons (pv_ix ix_list (pvv 9) pv_int (l_ixL (d := dRowL (growN L [(a, 0)] j)) (atI_nat (i := 0) rfl))) pvs_nil)) ⟨L, growN L [(a, 0)] j, rfl, W3.nd, grow_keys W3 (ks hak) j, by show (growN L [(a, 0)] (j + 1)).length ≤ _; omega, rfl⟩) io_none (io_some pv_int)) fun l e => e)) (cut g1)) (pvs_cons (pv_eq (pv_n (PN.mono (pn_slice (i := none) (j := some ((400 : Nat) : Int)) (l := (growN L [(b, 0)] (j + 1)).map dIt) (pv_call (w__law_more T) hr (by decide) rfl (pvs_cons (pvv 5) (pvs_cons (pv_ix ix_list (pvv 9) pv_int (l_ixL (d := dRowL (growN L [(b, 0)] j)) (atI_nat (i := 1) rfl))) pvs_nil)) ⟨L, growN L [(b, 0)] j, rfl, W3.nd, grow_keys W3 (ks hbk) j, by show (growN L [(b, 0)] (j + 1)).length ≤ _; omega, rfl⟩) io_none (io_some pv_int)) fun l e => e)) (cut g2)) pvs_nil)))) ?_
          by_cases hd : dirs (growN L [(a, 0)] (j + 1)) = dirs (growN L [(b, 0)] (j + 1))
          · refine pb_ifRet (B := (· = false)) (pt_neD (n := 1) (k := false) (d := dDirs (growN L [(a, 0)] (j + 1))) (d' := dDirs (growN L [(b, 0)] (j + 1))) hr (pv_call (w__law_directions T) hr (by decide) rfl (pvs_cons (pv_ix ix_list (pvv 9) pv_int (l_ixL (d := dRowL (growN L [(a, 0)] (j + 1))) (atI_nat (i := 0) rfl))) pvs_nil) ⟨_, .inl rfl, rfl⟩) (pv_call (w__law_directions T) hr (by decide) rfl (pvs_cons (pv_ix ix_list (pvv 9) pv_int (l_ixL (d := dRowL (growN L [(b, 0)] (j + 1))) (atI_nat (i := 1) rfl))) pvs_nil) ⟨_, .inl rfl, rfl⟩) dq_dirs dq_dirs (by decide) (.inl ⟨dDirs_eq.mpr hd, rfl⟩)) (fun h => by cases h) (fun _ => pb_end ⟨hj, fun j' h1 h2 => ?_, _, rfl⟩) (.inl rfl)
            rcases (show j' ≤ j ∨ j' = j + 1 by omega) with h | h
            · exact same j' h1 h
            · rw [h]; exact hd
          · refine pb_ifRet (B := (· = true)) (pt_neD (n := 1) (k := true) (d := dDirs (growN L [(a, 0)] (j + 1))) (d' := dDirs (growN L [(b, 0)] (j + 1))) hr (pv_call (w__law_directions T) hr (by decide) rfl (pvs_cons (pv_ix ix_list (pvv 9) pv_int (l_ixL (d := dRowL (growN L [(a, 0)] (j + 1))) (atI_nat (i := 0) rfl))) pvs_nil) ⟨_, .inl rfl, rfl⟩) (pv_call (w__law_directions T) hr (by decide) rfl (pvs_cons (pv_ix ix_list (pvv 9) pv_int (l_ixL (d := dRowL (growN L [(b, 0)] (j + 1))) (atI_nat (i := 1) rfl))) pvs_nil) ⟨_, .inl rfl, rfl⟩) dq_dirs dq_dirs (by decide) (.inr ⟨fun e => hd (dDirs_eq.mp e), rfl⟩)) (fun _ => ?_) (fun h => by cases h) (.inl rfl)
            refine pb_break rfl ?_
            exact pb_ifRet (B := (· = false)) (pt_eqD (n := 1) (k := false) (d := dDirs (growN L [(a, 0)] (j + 1))) (d' := dDirs (growN L [(b, 0)] (j + 1))) hr (pv_call (w__law_directions T) hr (by decide) rfl (pvs_cons (pv_ix ix_list (pvv 9) pv_int (l_ixL (d := dRowL (growN L [(a, 0)] (j + 1))) (atI_nat (i := 0) rfl))) pvs_nil) ⟨_, .inl rfl, rfl⟩) (pv_call (w__law_directions T) hr (by decide) rfl (pvs_cons (pv_ix ix_list (pvv 9) pv_int (l_ixL (d := dRowL (growN L [(b, 0)] (j + 1))) (atI_nat (i := 1) rfl))) pvs_nil) ⟨_, .inl rfl, rfl⟩) dq_dirs dq_dirs (by decide) (.inr ⟨fun e => hd (dDirs_eq.mp e), rfl⟩)) (fun h => by cases h) (fun _ => pb_end ⟨_, _, _, rfl⟩) (.inl rfl)
        · rintro δ' ⟨_, same, x10, rfl⟩
          rw [List.length_range, List.length_map] at same
          obtain ⟨j, h1, h2, h3⟩ := unlike W3 evL redL hak hbk ne
          exact absurd (same j h1 h2) h3
      · rintro δ' ⟨x8, x9, x10, rfl⟩
        exact pb_end ⟨_, _, _, _, _, rfl⟩
    · rintro δ' ⟨x6, x7, x8, x9, x10, rfl⟩
      have u1 : rnds L 7 = L.keys := by rw [rnds_used W3, WL.srt_id, fullL.used]
      have u2 : ∀ l ∈ L.keys, l ∈ rnds u 7 := fun l hl => by rw [rnds_used W]; exact subL l hl
      refine pb_ret (P := Is (.bl true)) .refl (pv_and (k := true) (l := true) (pv_eqSame (n := 1) (d := .lst (L.keys.map dLet)) hr (pvv 4) (pv_eq (pv_call (w__law_used T) hr (by decide) rfl (pvs_cons (pvv 5) pvs_nil) ⟨L, rfl, W3, five, rfl⟩) (by rw [u1])) (dq_lets k123) (by decide)) fun _ => pv_one (pv_eqSame (n := 1) (d := .lst []) hr (pv_eq (pv_n (pvn_lcf (xs := L.keys) (emb := dLet) (f := dLet) (q := fun _ => false) (.nm 7) [("_law_name", 7)] (pix_lstv (pvv 4)) (fun _ _ => rfl) (blkOk_by (by rfl)) (by intros; exact pgx_nm (by assumption) rfl (by first | exact Or.inl rfl | exact Or.inr rfl)) (fun _ _ _ _ _ a _ ha => ptx_eq (ptv_cmp op_notIn_seq (pvv 7) (pv_eq (pv_call (w__law_used T) hr (by decide) rfl (pvs_cons (pvv 0) pvs_nil) ⟨u, rfl, W, U.five, rfl⟩) (d' := .lst (((rnds u 7).map lt).map D.txt)) (by rw [List.map_map]; rfl)) (l_inTs (neg := true) (.inr rfl))) ?_) (fun _ _ _ _ _ a _ ha => pvv 7) nd)) (by simp)) (pv_n (pvn_lst pvs_nil)) dq_nil (by decide))) fun _ h => h
      rw [if_pos rfl, decide_eq_true (List.mem_map.mpr ⟨a, u2 a ha, rfl⟩)]
      rfl
end G81
set_option maxRecDepth 100000
set_option maxHeartbeats 2000000
/-! list(zip(a, b)) of two lists, the first of texts -/
namespace G81Z
open PySem PySem.Spec PyProof.Rows L2
theorem zip_no_len : typeLookup (.type "zip") "__len__" = pure none := by rw [typeLookup_type, builtinLookup_eq_fast]; kernel_rfl
theorem zip_no_hint : typeLookup (.type "zip") "__length_hint__" = pure none := by rw [typeLookup_type, builtinLookup_eq_fast]; kernel_rfl
/-- the zip within the loop: i pairs are out -/
structure ZSt (h : Heap) (z TI TO i1 i2 l1 l2 S : Addr) (xs ys : Array Value) (i : Nat) : Prop where
  ti : IsPair h TI (.ref i1) (.ref i2)
  h1 : h.IsListIter i1 l1 i
  h2 : h.IsListIter i2 l2 i
  k1 : h.IsList l1 xs
  k2 : h.IsList l2 ys
  st : (i = 0 ∧ IsZip h z TI TO .none ∧ ∃ a b, IsPair h TO a b) ∨ ∃ (T : Addr) (f : Bool) (oT : Obj), IsZipHeld h z TI TO T f ∧ h.get? T = some oT ∧ T ≠ z ∧ T ≠ i1 ∧ T ≠ i2 ∧ T ≠ S
structure ZNe (z TI TO i1 i2 l1 l2 S : Addr) : Prop extends ZipApart z TI TO i1 i2 l1 l2 where
  Sz : S ≠ z
  STI : S ≠ TI
  STO : S ≠ TO
  Si1 : S ≠ i1
  Si2 : S ≠ i2
  Sl1 : S ≠ l1
  Sl2 : S ≠ l2
theorem ZSt.keep {h h' : Heap} {z TI TO i1 i2 l1 l2 S : Addr} {xs ys : Array Value} {i : Nat} (D : ZNe z TI TO i1 i2 l1 l2 S) (x : ZSt h z TI TO i1 i2 l1 l2 S xs ys i) (hk : ∀ b o, b ≠ S → h.get? b = some o → h'.get? b = some o) : ZSt h' z TI TO i1 i2 l1 l2 S xs ys i where
  ti := hk _ _ D.STI.symm x.ti
  h1 := x.h1.at fun o e => hk _ o D.Si1.symm e
  h2 := x.h2.at fun o e => hk _ o D.Si2.symm e
  k1 := x.k1.at fun o e => hk _ o D.Sl1.symm e
  k2 := x.k2.at fun o e => hk _ o D.Sl2.symm e
  st := by
    rcases x.st with ⟨e, a, u, v, b⟩ | ⟨T, f, oT, a, b, n1, n2, n3, n4⟩
    · exact .inl ⟨e, hk _ _ D.Sz.symm a, u, v, hk _ _ D.STO.symm b⟩
    · exact .inr ⟨T, f, oT, hk _ _ D.Sz.symm a, hk _ _ n4 b, n1, n2, n3, n4⟩
section
variable {prog : Program} {w : World} {A : Around} {E : Value → Shared → Prop} {s : Shared} {z TI TO i1 i2 l1 l2 S : Addr} {xs ys : Array Value} {i : Nat}
theorem z_item {x y : Value} {Q : Option Value → Shared → Prop} (D : ZNe z TI TO i1 i2 l1 l2 S) (hst : ZSt s.heap z TI TO i1 i2 l1 l2 S xs ys i) (hS : S < s.heap.objs.size) (hx : xs[i]? = some x) (hy : ys[i]? = some y)
    (hQ : ∀ h', ZSt h' z TI TO i1 i2 l1 l2 S xs ys (i + 1) → IsPair h' s.heap.objs.size x y → h'.objs.size = s.heap.objs.size + 1 →
      (∀ c o, c ≠ z → c ≠ TO → c ≠ i1 → c ≠ i2 → s.heap.get? c = some o → h'.get? c = some o) → Q (some (.ref s.heap.objs.size)) { s with heap := h' }) :
    wpAny (model prog w) A (pyNext (.ref z)) Q E s := by
  obtain ⟨ti, h1, h2, k1, k2, st⟩ := hst
  have iz : i1 < s.heap.objs.size := by obtain ⟨_, e, _⟩ := h1; exact Heap.lt_size e
  have jz : i2 < s.heap.objs.size := by obtain ⟨_, e, _⟩ := h2; exact Heap.lt_size e
  rcases st with ⟨e, hz, u, v, hTO⟩ | ⟨T, f, oT, hz, hT, n1, n2, n3, n4⟩
  · subst e
    have zz : z < s.heap.objs.size := Heap.lt_size hz
    refine wpAny_pyNext_zip_item D.toZipApart hz ti hTO h1 h2 k1 k2 hx hy fun h' a1 a2 a3 a4 a5 a6 a7 => ?_
    exact hQ h' ⟨a7 _ _ D.TIz D.TITO D.TIi1 D.TIi2 ti, a3, a4, k1.at fun o e => a7 _ o D.l1z D.l1TO D.l1i1 D.l1i2 e, k2.at fun o e => a7 _ o D.l2z D.l2TO D.l2i1 D.l2i2 e, .inr ⟨_, false, _, a1, a5, Nat.ne_of_gt zz, Nat.ne_of_gt iz, Nat.ne_of_gt jz, Nat.ne_of_gt hS⟩⟩ a5 a6 a7
  · have zz : z < s.heap.objs.size := Heap.lt_size hz
    refine wpAny_pyNext_zip_item_held D.toZipApart hz hT ti h1 h2 k1 k2 hx hy fun h' a1 a3 a4 a5 a6 a7 => ?_
    exact hQ h' ⟨a7 _ _ D.TIz D.TIi1 D.TIi2 ti, a3, a4, k1.at fun o e => a7 _ o D.l1z D.l1i1 D.l1i2 e, k2.at fun o e => a7 _ o D.l2z D.l2i1 D.l2i2 e, .inr ⟨T, true, oT, a1, a7 _ _ n1 n2 n3 hT, n1, n2, n3, n4⟩⟩ a5 a6 fun c o c1 _ c3 c4 e => a7 c o c1 c3 c4 e
theorem z_done {Q : Option Value → Shared → Prop} (hh : A.handled = none) (D : ZNe z TI TO i1 i2 l1 l2 S) (hst : ZSt s.heap z TI TO i1 i2 l1 l2 S xs ys i) (hend : xs[i]? = none ∨ ys[i]? = none)
    (hQ : ∀ h', (∀ c o, c ≠ z → c ≠ TO → c ≠ i1 → c ≠ i2 → s.heap.get? c = some o → h'.get? c = some o) → Q none { s with heap := h' }) : wpAny (model prog w) A (pyNext (.ref z)) Q E s := by
  obtain ⟨ti, h1, h2, k1, k2, st⟩ := hst
  rcases st with ⟨e, hz, u, v, hTO⟩ | ⟨T, f, oT, hz, hT, n1, n2, n3, n4⟩
  · subst e
    exact wpAny_pyNext_zip_end hh D.toZipApart hz ti hTO h1 h2 k1 k2 hend fun h' a => hQ h' a
  · exact wpAny_pyNext_zip_end_held hh D.toZipApart hz hT ti h1 h2 k1 k2 hend fun h' a => hQ h' fun c o c1 _ c3 c4 e => a c o c1 c3 c4 e
end
/-- the pairs that are out -/
structure ZG (xs ys : Array Value) (lo : Addr) (h : Heap) (as : List Addr) : Prop where
  rise : as.Pairwise (· < ·)
  above : ∀ a ∈ as, lo < a
  pairs : ∀ (j : Nat) (a : Addr), as[j]? = some a → ∃ x y, xs[j]? = some x ∧ ys[j]? = some y ∧ IsPair h a x y
theorem ZG.there {xs ys : Array Value} {lo : Addr} {h : Heap} {as : List Addr} (g : ZG xs ys lo h as) {a : Addr} (ha : a ∈ as) : a < h.objs.size := by
  obtain ⟨j, hj⟩ := List.mem_iff_getElem?.mp ha
  obtain ⟨_, _, _, _, e⟩ := g.pairs j a hj
  exact Heap.lt_size e
theorem ZG.low {xs ys : Array Value} {lo lo' : Addr} {h : Heap} {as : List Addr} (g : ZG xs ys lo h as) (hl : lo' ≤ lo) : ZG xs ys lo' h as := ⟨g.rise, fun a ha => Nat.lt_of_le_of_lt hl (g.above a ha), g.pairs⟩
section
variable {prog : Program} {w : World} {A : Around} {s : Shared} {R : Result → Shared → Prop} {z TI TO i1 i2 l1 l2 S lo : Addr} {xs ys : Array Value} {n : Nat}
theorem z_loop (hh : A.handled = none) (D : ZNe z TI TO i1 i2 l1 l2 S) (lS : S ≤ lo) (lz : z ≤ lo) (lT : TO ≤ lo) (li : i1 ≤ lo) (lj : i2 ≤ lo) (hn : n ≤ sizeLine) (hnx : n ≤ xs.size) (hny : n ≤ ys.size) (hnn : xs.size = n ∨ ys.size = n) (res : Value) {h₁ : Heap}
    (hR : ∀ h' tk acc c as, (∀ b o, b ≠ S → b ≠ z → b ≠ TO → b ≠ i1 → b ≠ i2 → h₁.get? b = some o → h'.get? b = some o) → h'.get? S = some { cls := .type "list", dict := none, data := .seq acc c, slots := #[] } → as.length = n → ZG xs ys lo h' as →
      acc.toList = as.map Value.ref → R (.ok (.ret res)) { s with heap := h', toks := tk }) :
    ∀ (k i : Nat) (h : Heap) (tk c : Nat) (acc : Array Value) (as : List Addr), n - i = k → i ≤ n → ZSt h z TI TO i1 i2 l1 l2 S xs ys i → (∀ b o, b ≠ S → b ≠ z → b ≠ TO → b ≠ i1 → b ≠ i2 → h₁.get? b = some o → h.get? b = some o) →
      h.get? S = some { cls := .type "list", dict := none, data := .seq acc c, slots := #[] } → acc.toList = as.map Value.ref → as.length = i → ZG xs ys lo h as → lo < h.objs.size →
      codeAny (model prog w) A (.builtin "list.extend.loop" ⟨[.ref S, .ref z, res], []⟩) R { s with heap := h, toks := tk } := by
  intro k
  induction k with
  | zero =>
    intro i h tk c acc as hk hi hst hkeep hS hacc hal hG hIs
    have hin : i = n := by omega
    refine codeAny_builtin PySem.F.entry_extend_loop ?_
    rw [Around.under_plainId PySem.F.plain_extend_loop _]
    show wpAny _ A.in1 (pyNext (.ref z) >>= _) _ _ _
    refine wpAny_bind (z_done (s := { s with heap := h, toks := tk }) (A := A.in1) hh D hst (hnn.elim (fun e => .inl (Array.getElem?_eq_none (by omega))) fun e => .inr (Array.getElem?_eq_none (by omega))) fun h' he => ?_)
    refine wpAny_pure (hR h' tk acc c as (fun b o h1 h2 h3 h4 h5 e => he b o h2 h3 h4 h5 (hkeep b o h1 h2 h3 h4 h5 e)) (he S _ D.Sz D.STO D.Si1 D.Si2 hS) (by omega) ⟨hG.rise, hG.above, fun j a hj => ?_⟩ hacc)
    obtain ⟨x, y, e1, e2, e3⟩ := hG.pairs j a hj
    have hb := hG.above a (List.mem_of_getElem? hj)
    exact ⟨x, y, e1, e2, he a _ (Nat.ne_of_gt (Nat.lt_of_le_of_lt lz hb)) (Nat.ne_of_gt (Nat.lt_of_le_of_lt lT hb)) (Nat.ne_of_gt (Nat.lt_of_le_of_lt li hb)) (Nat.ne_of_gt (Nat.lt_of_le_of_lt lj hb)) e3⟩
  | succ k ih =>
    intro i h tk c acc as hk hi hst hkeep hS hacc hal hG hIs
    have hlt : i < n := by omega
    have hx : xs[i]? = some xs[i] := Array.getElem?_eq_getElem (by omega)
    have hy : ys[i]? = some ys[i] := Array.getElem?_eq_getElem (by omega)
    have hsz : acc.size = i := by rw [← Array.length_toList, hacc, List.length_map, hal]
    refine codeAny_builtin PySem.F.entry_extend_loop ?_
    rw [Around.under_plainId PySem.F.plain_extend_loop _]
    show wpAny _ A.in1 (pyNext (.ref z) >>= _) _ _ _
    refine wpAny_bind (z_item (s := { s with heap := h, toks := tk }) (S := S) D hst (Heap.lt_size hS) hx hy fun h' hst' ht hz hkp => ?_)
    dsimp only at ht hz hkp ⊢
    have hS' := hkp S _ D.Sz D.STO D.Si1 D.Si2 hS
    have up : ∀ b o, b ≠ S → h'.get? b = some o → (h'.update S (Obj.mapSeq (·.push (Value.ref h.objs.size)))).get? b = some o := fun b o hb e => (Heap.get?_update_other _ _ (Ne.symm hb)).trans e
    have hSl : S < h.objs.size := Heap.lt_size hS
    show wpAny _ A.in1 (updateSeq S (·.push (Value.ref h.objs.size)) >>= _) _ _ _
    refine wpAny_bind ?_
    refine wpAny_updateSeq hS' rfl (wpAny_pure ⟨plainId_quiet PySem.F.plain_extend_loop _, ih (i + 1) _ tk _ (acc.push (Value.ref h.objs.size)) (as ++ [h.objs.size]) (by omega) hlt (hst'.keep D up)
      (fun b o h1 h2 h3 h4 h5 e => up b o h1 (hkp b o h2 h3 h4 h5 (hkeep b o h1 h2 h3 h4 h5 e))) (Heap.get?_update_self _ hS' rfl) (by rw [Array.toList_push, hacc, List.map_append]; rfl) (by rw [List.length_append, hal]; rfl) ⟨?_, ?_, ?_⟩ ?_⟩) (by rw [hsz]; omega) (by show (acc.push (Value.ref h.objs.size)).size ≤ sizeLine + 1; rw [Array.size_push, hsz]; omega)
    · refine List.pairwise_append.mpr ⟨hG.rise, List.pairwise_singleton _ _, fun a ha b hb => ?_⟩
      rw [List.mem_singleton.mp hb]
      exact hG.there ha
    · intro a ha
      rcases List.mem_append.mp ha with ha | ha
      · exact hG.above a ha
      · rw [List.mem_singleton.mp ha]; exact hIs
    · intro j b hj
      rcases Nat.lt_trichotomy j as.length with h1 | h1 | h1
      · rw [List.getElem?_append_left h1] at hj
        obtain ⟨x', y', e1, e2, e3⟩ := hG.pairs j b hj
        have hb := hG.above b (List.mem_of_getElem? hj)
        exact ⟨x', y', e1, e2, up b _ (Nat.ne_of_gt (Nat.lt_of_le_of_lt lS hb)) (hkp b _ (Nat.ne_of_gt (Nat.lt_of_le_of_lt lz hb)) (Nat.ne_of_gt (Nat.lt_of_le_of_lt lT hb)) (Nat.ne_of_gt (Nat.lt_of_le_of_lt li hb)) (Nat.ne_of_gt (Nat.lt_of_le_of_lt lj hb)) e3)⟩
      · subst h1
        have hb : h.objs.size = b := by simpa using hj
        subst hb
        exact ⟨_, _, by rw [hal]; exact hx, by rw [hal]; exact hy, up _ _ (Nat.ne_of_gt hSl) ht⟩
      · have hnone : (as ++ [h.objs.size])[j]? = none := List.getElem?_eq_none (by rw [List.length_append, List.length_singleton]; omega)
        rw [hnone] at hj; cases hj
    · have e : (h'.update S (Obj.mapSeq (·.push (Value.ref h.objs.size)))).get? h.objs.size = _ := up _ _ (Nat.ne_of_gt hSl) ht
      exact Nat.lt_trans hIs (Heap.lt_size e)
theorem z_extend (hh : A.handled = none) (D : ZNe z TI TO i1 i2 l1 l2 S) (lS : S ≤ lo) (lz : z ≤ lo) (lT : TO ≤ lo) (li : i1 ≤ lo) (lj : i2 ≤ lo) (hn : n ≤ sizeLine) (hnx : n ≤ xs.size) (hny : n ≤ ys.size) (hnn : xs.size = n ∨ ys.size = n) (res : Value) (c₀ : Nat) (hst : ZSt s.heap z TI TO i1 i2 l1 l2 S xs ys 0) (hz : IsZip s.heap z TI TO .none) (hlo : lo < s.heap.objs.size)
    (hS : s.heap.get? S = some { cls := .type "list", data := .seq #[] c₀ })
    (hR : ∀ h' tk acc c as, (∀ b o, b ≠ S → b ≠ z → b ≠ TO → b ≠ i1 → b ≠ i2 → s.heap.get? b = some o → h'.get? b = some o) → h'.get? S = some { cls := .type "list", dict := none, data := .seq acc c, slots := #[] } → as.length = n → ZG xs ys lo h' as →
      acc.toList = as.map Value.ref → R (.ok (.ret res)) { s with heap := h', toks := tk }) :
    wpAny (model prog w) A.in1 (Builtin.List.listExtendWith (.ref S) (.ref z) res)
      (fun fin s' => match fin with | .done f => R (.ok f) s' | .again c' => c'.quiet = true ∧ codeAny (model prog w) A c' R s') (fun e s' => R (.error e) s') s := by
  have hT : s.TypeIs (.ref z) "zip" := ⟨_, hz, rfl⟩
  unfold Builtin.List.listExtendWith
  refine wpAny_bind (wpAny_typeOf hT ?_)
  have h1 : Builtin.List.listSameRef (.ref S) (.ref z) = false := by simp [Builtin.List.listSameRef, D.Sz]
  have h2 : (Value.type "zip" == Value.type "list") = false := by decide
  have h3 : (Value.type "zip" == Value.type "tuple") = false := by decide
  simp only [h1, h2, h3, Bool.or_false, Bool.false_eq_true, if_false]
  refine wpAny_bind (wpAny_pyIter_zip hz ?_)
  refine wpAny_bind (wpAny_holding ?_)
  unfold Builtin.List.listLengthHint
  refine wpAny_bind (wpAny_specialOf hT zip_no_len ?_)
  show wpAny _ A.in1 (specialOf (Value.ref z) (Str.ofString "__length_hint__") >>= _) _ _ _
  refine wpAny_bind (wpAny_specialOf hT zip_no_hint ?_)
  refine wpAny_pure ?_
  show wpAny _ A.in1 (rule "list.extend.makes-room" >>= fun _ => Builtin.List.listTouch (.ref S) >>= fun _ =>
    again (.builtin "list.extend.loop" ⟨[.ref S, .ref z, res], []⟩)) _ _ _
  refine wpAny_bind (wpAny_rule ?_)
  refine wpAny_bind ?_
  show wpAny _ A.in1 (updateSeq S (·.push .none) >>= fun _ => updateSeq S (·.pop)) _ _ _
  refine wpAny_bind (wpAny_updateSeq hS rfl ?_)
  have hS₂ := Heap.get?_update_self (Obj.mapSeq (·.push Value.none)) hS rfl
  refine wpAny_updateSeq (hz := by seq_fits) hS₂ rfl ?_
  have hS₃ := Heap.get?_update_self (Obj.mapSeq (·.pop)) hS₂ rfl
  have oth : ∀ b o, b ≠ S → s.heap.get? b = some o → ((s.heap.update S (Obj.mapSeq (·.push Value.none))).update S (Obj.mapSeq (·.pop))).get? b = some o :=
    fun b o hb e => (Heap.get?_update_other _ _ (Ne.symm hb)).trans ((Heap.get?_update_other _ _ (Ne.symm hb)).trans e)
  have sz : ((s.heap.update S (Obj.mapSeq (·.push Value.none))).update S (Obj.mapSeq (·.pop))).objs.size = s.heap.objs.size := by simp
  refine wpAny_pure ⟨plainId_quiet PySem.F.plain_extend_loop _, z_loop (h₁ := s.heap) (s := s) hh D lS lz lT li lj hn hnx hny hnn res hR n 0 _ s.toks _ _ [] (Nat.sub_zero _) (Nat.zero_le _) (hst.keep D oth) (fun b o h1 _ _ _ _ e => oth b o h1 e) hS₃ rfl rfl ⟨List.Pairwise.nil, (fun _ h => nomatch h), fun j a h => by simp at h⟩ (by rw [sz]; exact hlo)⟩
theorem z_init (hh : A.handled = none) (D : ZNe z TI TO i1 i2 l1 l2 S) (lS : S ≤ lo) (lz : z ≤ lo) (lT : TO ≤ lo) (li : i1 ≤ lo) (lj : i2 ≤ lo) (hn : n ≤ sizeLine) (hnx : n ≤ xs.size) (hny : n ≤ ys.size) (hnn : xs.size = n ∨ ys.size = n) (hst : ZSt s.heap z TI TO i1 i2 l1 l2 S xs ys 0) (hz : IsZip s.heap z TI TO .none) (hlo : lo < s.heap.objs.size)
    (hS : s.heap.get? S = some { cls := .type "list", data := .seq #[] })
    (hR : ∀ h' tk acc c as, (∀ b o, b ≠ S → b ≠ z → b ≠ TO → b ≠ i1 → b ≠ i2 → s.heap.get? b = some o → h'.get? b = some o) → h'.get? S = some { cls := .type "list", dict := none, data := .seq acc c, slots := #[] } → as.length = n → ZG xs ys lo h' as →
      acc.toList = as.map Value.ref → R (.ok (.ret .none)) { s with heap := h', toks := tk }) :
    wpAny (model prog w) A.in1 (Builtin.«list.__init__» ⟨[.ref S, .ref z], []⟩)
      (fun fin s' => match fin with | .done f => R (.ok f) s' | .again c' => c'.quiet = true ∧ codeAny (model prog w) A c' R s') (fun e s' => R (.error e) s') s := by
  show wpAny _ _ (do let old ← Builtin.List.listItems (.ref S); Builtin.List.listUpdate (.ref S) (fun _ => #[]); letGo old.toList.reverse; Builtin.List.listExtendWith (.ref S) (.ref z) .none) _ _ s
  refine wpAny_bind ?_
  unfold Builtin.List.listItems
  refine wpAny_bind (wpAny_seqItems hS rfl (wpAny_pure ?_))
  show wpAny _ _ (updateSeq S (fun _ => #[]) >>= fun _ => letGo (#[] : Array Value).toList.reverse >>= fun _ => Builtin.List.listExtendWith (.ref S) (.ref z) .none) _ _ s
  refine wpAny_bind (wpAny_updateSeq hS rfl ?_)
  have hS₂ := Heap.get?_update_self (Obj.mapSeq (fun _ => (#[] : Array Value))) hS rfl
  have oth : ∀ b o, b ≠ S → s.heap.get? b = some o → (s.heap.update S (Obj.mapSeq (fun _ => (#[] : Array Value)))).get? b = some o :=
    fun b o hb e => (Heap.get?_update_other _ _ (Ne.symm hb)).trans e
  refine wpAny_bind (wpAny_letGo ?_)
  refine z_extend hh D lS lz lT li lj hn hnx hny hnn .none _ (hst.keep D oth) (oth _ _ D.Sz.symm hz) (by simpa using hlo) hS₂ fun h' tk acc c as hk hS' hl hG hacc => ?_
  exact hR h' tk acc c as (fun b o h1 h2 h3 h4 h5 e => hk b o h1 h2 h3 h4 h5 (oth b o h1 e)) hS' hl hG hacc
end
section
variable {prog : Program} {w : World} {A : Around} {E : Value → Shared → Prop} {s : Shared} {z TI TO i1 i2 l1 l2 : Addr} {xs ys : Array Value} {n : Nat}
theorem z_call {Q : Value → Shared → Prop} (hh : A.handled = none) (D : ZipApart z TI TO i1 i2 l1 l2) (hz : IsZip s.heap z TI TO .none) (ti : IsPair s.heap TI (.ref i1) (.ref i2)) (hTO : IsPair s.heap TO .none .none) (h1 : s.heap.IsListIter i1 l1 0) (h2 : s.heap.IsListIter i2 l2 0) (k1 : s.heap.IsList l1 xs) (k2 : s.heap.IsList l2 ys)
    (hn : n ≤ sizeLine) (hnx : n ≤ xs.size) (hny : n ≤ ys.size) (hnn : xs.size = n ∨ ys.size = n)
    (hQ : ∀ h' tk acc c as, (∀ b o, b ≠ z → b ≠ TO → b ≠ i1 → b ≠ i2 → s.heap.get? b = some o → h'.get? b = some o) → h'.get? s.heap.objs.size = some { cls := .type "list", dict := none, data := .seq acc c, slots := #[] } → as.length = n → ZG xs ys s.heap.objs.size h' as →
      acc.toList = as.map Value.ref → Q (.ref s.heap.objs.size) { s with heap := h', toks := tk }) :
    wpAny (model prog w) A (call (.type "list") [.ref z]) Q E s := by
  refine callType_codes (Q₁ := fun obj s₁ => obj = .ref s.heap.objs.size ∧ s₁ = { s with heap := s.heap.push { cls := .type "list", data := .seq #[] } }) PySem.F.called_list (PySem.F.typeCall_list_1 _) PySem.F.entry_list_init
    (code_list_new _ ⟨rfl, rfl⟩) fun obj s₁ h₁ => ?_
  obtain ⟨rfl, rfl⟩ := h₁
  have hS : (s.heap.push { cls := .type "list", data := .seq #[] }).get? s.heap.objs.size = some { cls := .type "list", data := .seq #[] } := Heap.get?_push_size _ rfl
  have lz : z < s.heap.objs.size := Heap.lt_size hz
  have lT : TO < s.heap.objs.size := Heap.lt_size hTO
  have lI : TI < s.heap.objs.size := Heap.lt_size ti
  have li : i1 < s.heap.objs.size := by obtain ⟨_, e, _⟩ := h1; exact Heap.lt_size e
  have lj : i2 < s.heap.objs.size := by obtain ⟨_, e, _⟩ := h2; exact Heap.lt_size e
  have ll : l1 < s.heap.objs.size := by obtain ⟨_, e, _⟩ := k1; exact Heap.lt_size e
  have lm : l2 < s.heap.objs.size := by obtain ⟨_, e, _⟩ := k2; exact Heap.lt_size e
  have D' : ZNe z TI TO i1 i2 l1 l2 s.heap.objs.size := ⟨D, Nat.ne_of_gt lz, Nat.ne_of_gt lI, Nat.ne_of_gt lT, Nat.ne_of_gt li, Nat.ne_of_gt lj, Nat.ne_of_gt ll, Nat.ne_of_gt lm⟩
  have up : ∀ b o, s.heap.get? b = some o → (s.heap.push { cls := .type "list", data := .seq #[] }).get? b = some o := fun b o e => Heap.get?_push_of_some _ e
  refine ⟨⟨_, hS, rfl⟩, PySem.F.args_list_init_2 _ _, z_init (lo := s.heap.objs.size) (A := A.in1) hh D' (Nat.le_refl _) (Nat.le_of_lt lz) (Nat.le_of_lt lT) (Nat.le_of_lt li) (Nat.le_of_lt lj) hn hnx hny hnn ⟨up _ _ ti, h1.at fun o e => up _ o e, h2.at fun o e => up _ o e, k1.at fun o e => up _ o e, k2.at fun o e => up _ o e, .inl ⟨rfl, up _ _ hz, _, _, up _ _ hTO⟩⟩ (up _ _ hz) (by rw [Heap.size_push]; exact Nat.lt_succ_self _) hS (fun h' tk acc c as hk hS' hl hG hacc => ?_)⟩
  exact ⟨rfl, hQ h' tk acc c as (fun b o g1 g2 g3 g4 e => hk b o (Nat.ne_of_lt (Heap.lt_size e)) g1 g2 g3 g4 (up b o e)) hS' hl hG hacc⟩
end
end G81Z
set_option maxRecDepth 100000
set_option maxHeartbeats 2000000
/-! list(zip(a, b)) as a rule of expressions -/
namespace G81Z
open PySem PySem.Spec PyProof.Rows L2 LiI
def zv {α : Type} (ks : List Str) (ys : List α) : List (Key × α) := List.zipWith (fun k y => ((Sum.inr k : Key), y)) ks ys
theorem zv_len {α : Type} {ks : List Str} {ys : List α} : (zv ks ys).length = min ks.length ys.length := List.length_zipWith
theorem zv_kv : ∀ {ks : List Str} {ys : List V} {us : List Value}, Vals ys us → KV (zv ks ys) (zv ks us)
  | [], _, _, _ => .nil
  | _ :: _, [], _, r => by cases r; exact .nil
  | k :: ks, y :: ys, _, r => by
    cases r with
    | cons h t => exact .cons ⟨rfl, h⟩ (zv_kv t)
theorem zv_get {ks : List Str} {us : List Value} {j : Nat} {k : Str} {y : Value} (h1 : ks[j]? = some k) (h2 : us[j]? = some y) : (zv ks us)[j]? = some (Sum.inr k, y) := by
  unfold zv
  rw [List.getElem?_zipWith, h1, h2]
/-- the pairs and the list tracked -/
theorem laid {X : Cx} {pins : List (Addr × Obj)} {σ : L2.St} {H : Hp} {s : Shared} {h' : Heap} {tk : Nat} {kvs : List (Key × V)} {vs : List (Key × Value)} {acc : Array Value} {c : Nat} {as : List Addr} {S : Addr} (I : Inv X pins σ H s) (hz : kvs.length ≤ sizeLine) (kv : KV kvs vs) (le : s.heap.objs.size ≤ S)
    (hk : ∀ b o, s.heap.get? b = some o → h'.get? b = some o) (hS : h'.get? S = some { cls := .type "list", dict := none, data := .seq acc c, slots := #[] }) (hl : as.length = vs.length) (hG : PySem.W.KdxG (mixKind X.prog X.w) vs S h' as) (hacc : acc.toList = as.map Value.ref) :
    ∃ H' : Hp, (∀ b o, H b = some o → H' b = some o) ∧ H S = none ∧ (∀ t ∈ as, H t = none) ∧ S ∉ as ∧ H' S = some (.lst (as.map V.ref)) ∧ Paired (fun (t : Addr) (q : Key × V) => H' t = some (.tup [kV q.1, q.2])) as kvs ∧ Inv X pins σ H' { s with heap := h', toks := tk } := by
  have lk : kvs.length = vs.length := Paired.length kv
  have hSn : S ∉ as := fun z => Nat.lt_irrefl _ (hG.above _ z)
  have nd : as.Nodup := List.Pairwise.imp (fun {a b} (h : a < b) => Nat.ne_of_lt h) hG.rise
  have up : ∀ t ∈ as, s.heap.objs.size ≤ t := fun t ht => Nat.le_trans le (Nat.le_of_lt (hG.above t ht))
  have new : ∀ t ∈ as, H t = none := fun t ht => I.hok.fresh (up t ht)
  have newS : H S = none := I.hok.fresh le
  have atP := putT_at as kvs (upd H S (.lst (as.map V.ref))) (by omega) nd
  have off : ∀ b, b ∉ as → b ≠ S → putT (upd H S (.lst (as.map V.ref))) as kvs b = H b := fun b h1 h2 => by rw [putT_off as kvs _ h1, upd_ne h2]
  have low : ∀ b o, s.heap.get? b = some o → b ∉ as ∧ b ≠ S := fun b o e => ⟨fun z => absurd (Heap.lt_size e) (Nat.not_lt.mpr (up b z)), Nat.ne_of_lt (Nat.lt_of_lt_of_le (Heap.lt_size e) le)⟩
  have kp : ∀ b u, H b = some u → (putT (upd H S (.lst (as.map V.ref))) as kvs) b = some u := fun b u e => by
    rw [off b (fun z => by rw [new b z] at e; cases e) (fun z => by rw [z, newS] at e; cases e)]
    exact e
  have eS : putT (upd H S (.lst (as.map V.ref))) as kvs S = some (.lst (as.map V.ref)) := by rw [putT_off as kvs _ hSn, upd_same]
  refine ⟨putT (upd H S (.lst (as.map V.ref))) as kvs, kp, newS, new, hSn, eS, atP, ?_⟩
  refine I.call' (ch := []) rfl ⟨fun b o q _ _ _ => hk b o q, fun b o q _ _ _ => ⟨o.slots, hk b o q⟩, fun b o q n _ => ?_, fun b o q _ => ⟨o, hk b o q⟩, fun b xs q => kp b _ q, fun b o u q => kp b _ q, fun b ps q => ⟨#[], by rw [kp b _ q]; simp⟩⟩ (fun b u q => ?_) I.bare fun b z => by simp at z
  · obtain ⟨z1, z2⟩ := low b o q
    rw [off b z1 z2]
    exact n
  · by_cases hb : b ∈ as
    · obtain ⟨j, pk, e1, e2, e3⟩ := paired_ix atP hb
      rw [e3] at q
      cases q
      obtain ⟨key, k, x, f1, f2, f3⟩ := hG.pairs j b e1
      obtain ⟨qv, g1, g2, g3⟩ := LiI.paired_get kv e2
      rw [f1] at g1
      cases g1
      have rk : RelV (kV pk.1) key := by
        rw [g2]
        exact relV_key (show keyIs k key = true from f2)
      exact ⟨by show 2 ≤ sizeLine; decide, [key, x], .cons rk (.cons g3 .nil), ⟨_, f3, rfl, _, rfl⟩⟩
    · by_cases hb2 : b = S
      · rw [hb2] at q ⊢
        rw [eS] at q
        cases q
        refine ⟨by rw [List.length_map]; omega, acc.toList, c, by rw [hacc]; exact vals_refs as, ?_⟩
        rw [Array.toArray_toList]
        exact hS
      · rw [off b hb hb2] at q
        exact (I.hok b u q).stay (fun d v _ y => hk d v y) (fun d y => kp d _ y) fun d xs y => kp d _ y
def tListZip (K : PySem.W.Frag) (ta : TA) : TE := fun σ H Q => ta σ H fun vs H1 => ∃ (a b : Addr) (ks : List Str) (ys : List V), vs = [.ref a, .ref b] ∧ SqL K H1 a (ks.map V.str) ∧ SqL K H1 b ys ∧
  ∀ (H' : Hp) (p : Addr) (ts : List Addr), (∀ b o, H1 b = some o → H' b = some o) → H1 p = none → (∀ t ∈ ts, H1 t = none) → p ∉ ts → H' p = some (.lst (ts.map V.ref)) → Paired (fun (t : Addr) (q : Key × V) => H' t = some (.tup [kV q.1, q.2])) ts (zv ks ys) → Q (.ref p) H'
section
variable {X : Cx} {e1 e2 : Expr} {ta : TA} {p p2 cpos pos : Pos}
theorem pe_listZip (hc : X.calm = true) (ha : PA X [e1, e2] ta) (hgl : Gl X "list") (hml : X.mg "list" = none) (hgz : Gl X "zip") (hmz : X.mg "zip" = none) (hv : bootBuiltins "list" = some (.type "list"))
    (hs : starEach [.Call (.Name "zip" p2) [e1, e2] [] cpos] X.env = (false, eval (.Call (.Name "zip" p2) [e1, e2] [] cpos) X.env) :: starEach [] X.env := by rfl)
    (hs2 : starEach [e1, e2] X.env = (false, eval e1 X.env) :: starEach [e2] X.env := by rfl) (hpl : (backTo cpos (starEach [e2] X.env)).any (·.1) = false := by rfl) :
    PE X (.Call (.Name "list" p) [.Call (.Name "zip" p2) [e1, e2] [] cpos] [] pos) (tListZip X.K ta) := by
  refine ⟨fun pins s σ H Q I hq => ?_⟩
  refine wpAny_Call_Name_kw (ld_blt I hgl hml hv ?_)
  refine PyProof.Rows.callWith_type1 ?_ hs rfl
  rw [hs]
  show wpAny _ _ (spliced ((false, eval (.Call (.Name "zip" p2) [e1, e2] [] cpos) X.env) :: backTo pos (starEach [] X.env))) _ _ s
  refine Calls.spliced_cons ?_
  refine Call_ (ld_blt I hgz hmz PyProof.Rows.boot_zip (PyProof.Rows.callWith_type1 (thn (ha.run cpos pins s σ H _ I hq) fun us s1 ⟨vs, H1, I1, r1, q1⟩ => ?_) hs2 hpl))
  obtain ⟨a, b, ks, ys, ex, ha1, hb1, q⟩ := q1
  subst ex
  cases r1 with
  | cons r rr =>
    cases rr with
    | cons r' rr =>
      cases rr
      cases r
      cases r'
      obtain ⟨its, rv, p1, z1⟩ := I1.list ha1
      obtain ⟨its2, rv2, p2, z2⟩ := I1.list hb1
      have l1 := rv.length
      have l2 := rv2.length
      rw [List.length_map] at l1
      refine call_zip_2 p1.isList p2.isList fun h' hz hTI hTO h1 h2 hsz hk => ?_
      refine Calls.spliced_nil ?_
      have la : a < s1.heap.objs.size := by obtain ⟨_, e, _⟩ := p1.isList; exact Heap.lt_size e
      have lb : b < s1.heap.objs.size := by obtain ⟨_, e, _⟩ := p2.isList; exact Heap.lt_size e
      have D : ZipApart (s1.heap.objs.size + 4) (s1.heap.objs.size + 2) (s1.heap.objs.size + 3) s1.heap.objs.size (s1.heap.objs.size + 1) a b := by
        have key : ∀ {x y : Nat}, x ≠ y → @Ne Addr x y := fun h => h
        have la' : LT.lt (α := Nat) a s1.heap.objs.size := la
        have lb' : LT.lt (α := Nat) b s1.heap.objs.size := lb
        constructor <;> (refine key ?_) <;> omega
      have I2 : Inv X pins σ H1 { s1 with heap := h' } := I1.kept (t' := s1.toks) hk
      refine z_call (n := min ks.length ys.length) (I1.ok.hd hc) D hz hTI hTO h1 h2 (p1.isList.at fun o e => hk _ o e) (p2.isList.at fun o e => hk _ o e) ?_ ?_ ?_ ?_ fun h'' tk acc c as hk2 hS hl hG hacc => ?_
      · rw [List.length_map] at z1; omega
      · simp; omega
      · simp; omega
      · simp; omega
      · have lk : (zv ks ys).length = min ks.length ys.length := zv_len
        have kp : ∀ c o, s1.heap.get? c = some o → h''.get? c = some o := fun c o e => by
          have := Heap.lt_size e
          exact hk2 c o (Nat.ne_of_lt (Nat.lt_add_right 4 this)) (Nat.ne_of_lt (Nat.lt_add_right 3 this)) (Nat.ne_of_lt this) (Nat.ne_of_lt (Nat.lt_add_right 1 this)) (hk c o e)
        have hi1 : ∀ (j : Nat) (v : Value), its.toArray[j]? = some v → ∃ k, ks[j]? = some k ∧ RelV (V.str k) v := fun j v e => by
          have e' : its[j]? = some v := by simpa using e
          have hj : j < ks.length := by have := (List.getElem?_eq_some_iff.mp e').1; omega
          obtain ⟨u, h1, h2⟩ := rv.get (i := j) (x := V.str ks[j]) (by rw [List.getElem?_map, List.getElem?_eq_getElem hj]; rfl)
          rw [e'] at h1
          cases h1
          exact ⟨_, List.getElem?_eq_getElem hj, h2⟩
        have kG : PySem.W.KdxG (mixKind X.prog X.w) (zv ks its2) h'.objs.size h'' as := ⟨hG.rise, hG.above, fun j t ht => by
          obtain ⟨x, y, e1, e2, e3⟩ := hG.pairs j t ht
          obtain ⟨k, g1, g2⟩ := hi1 j x e1
          obtain ⟨tk, rfl⟩ := g2
          have hy : keyIs (Sum.inr k) (Value.str k tk) = true := by simp [keyIs, Value.isStrOf]
          exact ⟨Value.str k tk, Sum.inr k, y, zv_get g1 (by simpa using e2), hy, e3⟩⟩
        have lz : (zv ks its2).length = min ks.length its2.length := zv_len
        obtain ⟨H', k1, k2, k3, k4, k5, k6, J⟩ := laid (tk := tk) I1 (by rw [lk]; rw [List.length_map] at z1; omega) (zv_kv rv2) (by rw [hsz]; exact Nat.le_add_right _ _) kp hS (by rw [hl, lz, l2]) kG hacc
        exact ⟨.ref _, H', J, rfl, q H' _ as k1 k2 k3 k4 k5 k6⟩
end
end G81Z
set_option maxRecDepth 100000
set_option maxHeartbeats 2000000
/-! list(zip(a, b)), dict(pairs) by data -/
namespace G81
open PySem PySem.Spec PyProof.Rows L2 SlX
def pairD (x : Str) (d : D) : D := .tup [.txt x, d]
section
variable {k : KW} {c : Fm} {H : Hp}
theorem zips_at : ∀ {ks : List Str} {m : List D} {ys : List V} {ts : List Addr}, Ats k c H m ys → Paired (fun (t : Addr) (q : Key × V) => H t = some (.tup [kV q.1, q.2])) ts (G81Z.zv ks ys) → Ats k c H (List.zipWith pairD ks m) (ts.map V.ref)
  | [], m, ys, ts, _, p => by
    have e : G81Z.zv ([] : List Str) ys = [] := rfl
    rw [e] at p
    cases p
    exact rfl
  | x :: ks, [], ys, ts, a, p => by
    obtain rfl : ys = [] := a
    have e : G81Z.zv (x :: ks) ([] : List V) = [] := rfl
    rw [e] at p
    cases p
    exact rfl
  | x :: ks, d :: m, ys, ts, a, p => by
    obtain ⟨y, r, rfl, a1, a2⟩ := a
    have e : G81Z.zv (x :: ks) (y :: r) = (Sum.inr x, y) :: G81Z.zv ks r := rfl
    rw [e] at p
    cases p with
    | cons h t => exact ⟨_, _, rfl, ⟨_, _, rfl, SqT.of h, Ats.cons rfl (Ats.one a1)⟩, zips_at a2 t⟩
theorem pairs_at : ∀ {ks : List Str} {m : List D} {vs : List V}, ks.length = m.length → Ats k c H (List.zipWith pairD ks m) vs → ∃ (ps : List Addr) (ys : List V), vs = ps.map V.ref ∧ Paired (fun (p : Addr) (q : Key × V) => SqT k.K H p [kV q.1, q.2]) ps (kvz ks ys) ∧ ks.length = ys.length ∧ Ats k c H m ys
  | [], [], vs, _, a => by
    obtain rfl : vs = [] := a
    exact ⟨[], [], rfl, .nil, rfl, rfl⟩
  | [], _ :: _, _, h, _ => nomatch h
  | _ :: _, [], _, h, _ => nomatch h
  | x :: ks, d :: m, vs, h, a => by
    obtain ⟨v, r, rfl, a1, a2⟩ := a
    obtain ⟨t, xs, rfl, q, z⟩ := a1
    obtain ⟨u1, r1, rfl, e1, z1⟩ := z
    obtain ⟨u2, r2, rfl, e2, z2⟩ := z1
    obtain rfl : r2 = [] := z2
    obtain rfl : u1 = V.str x := e1
    obtain ⟨ps, ys, rfl, p1, p2, p3⟩ := pairs_at (by simpa using h) a2
    exact ⟨t :: ps, u2 :: ys, rfl, .cons q p1, by rw [List.length_cons, List.length_cons, p2], Ats.cons e2 p3⟩
end
section
variable {X : Cx} {c : Fm} {δ : List Cell} {e e1 e2 a : Expr} {p p2 cpos pos : Pos}
/-- list(zip(a, b)), a of texts -/
theorem pn_listZip {As : List D → Prop} {P : List D → Prop} (T : Tx X.K X.mg) (ha : PXs X c δ [e1, e2] As) (h : ∀ ds, As ds → ∃ (ks : List Str) (m : List D), ds = [.lst (ks.map D.txt), .lst m] ∧ P (List.zipWith pairD ks m)) (hc : X.calm = true := by rfl) (hgl : Gl X "list" := by rfl) (hgz : Gl X "zip" := by rfl)
    (hs : starEach [.Call (.Name "zip" p2) [e1, e2] [] cpos] X.env = (false, eval (.Call (.Name "zip" p2) [e1, e2] [] cpos) X.env) :: starEach [] X.env := by rfl)
    (hs2 : starEach [e1, e2] X.env = (false, eval e1 X.env) :: starEach [e2] X.env := by rfl) (hpl : (backTo cpos (starEach [e2] X.env)).any (·.1) = false := by rfl) :
    PN X c δ (.Call (.Name "list" p) [.Call (.Name "zip" p2) [e1, e2] [] cpos] [] pos) P := by
  refine PE.mono (G81Z.pe_listZip hc ha hgl T.n_list hgz T.n_zip bb_list hs hs2 hpl) fun σ H Q ⟨z, w⟩ => ⟨z, fun vs H1 ds q r a => ?_⟩
  obtain ⟨ks, m, rfl, hP⟩ := h ds q
  obtain ⟨v1, r1, rfl, a1, a2⟩ := a
  obtain ⟨v2, r2, rfl, a2, a3⟩ := a2
  obtain rfl : r2 = [] := a3
  obtain ⟨b1, xs, rfl, m1, g1, x1⟩ := a1
  obtain ⟨b2, ys, rfl, m2, g2, x2⟩ := a2
  have hx := x1.txts
  subst hx
  refine ⟨b1, b2, ks, ys, rfl, SqL.of g1, SqL.of g2, fun H' p ts k1 k2 k3 k4 k5 k6 => ?_⟩
  have ev := z.rl r
  have up := Up.add ev.bs k2
  exact w p H' _ _ hP (r.trans0 (.of_same k1)) (r.none k2) k5 (zips_at ((x2.up up).rl up.b (.of_same k1)) k6) (ev.bs.free k2)
/-- an expression whose value is a new dict, known in part -/
def tKx (k : KW) (c : Fm) (δ : List Cell) (P : List Str → List D → Prop) : TE := fun σ H Q => Ev k c H σ δ ∧ ∀ a H' xs ks ds, P ks ds → Rl c.E [] H H' → H a = none → H' a = some (.dK (kvz ks xs)) → ks.length = xs.length → Ats k (c.add a) H' ds xs → a ∉ c.M → Q (.ref a) H'
def PKx (X : Cx) (c : Fm) (δ : List Cell) (e : Expr) (P : List Str → List D → Prop) : Prop := PE X e (tKx (kw X) c δ P)
theorem px_kx {P : List Str → List D → Prop} (h : PKx X c δ e P) : PX X c δ e (fun d => ∃ ks ds, P ks ds ∧ d = .dct ks ds) :=
  PE.mono (pe_frz h) fun σ H Q ⟨z, w⟩ => ⟨z, fun a H' xs ks ds hP r h1 h2 h3 h4 h5 => ⟨a, _, rfl, h2, fun o es ep hdt =>
    let g := frz_go z.bs.em (add_bw z.bs r h1) hdt r h1 h2 h3 h4
    w _ _ _ ⟨ks, ds, hP, rfl⟩ g.1 g.2⟩⟩
/-- dict(pairs) -/
theorem pkx_dict {Q : List D → Prop} {P : List Str → List D → Prop} (T : Tx X.K X.mg) (h : PN X c δ a Q) (hQ : ∀ l, Q l → ∃ ks m, l = List.zipWith pairD ks m ∧ ks.length = m.length ∧ ks.Nodup ∧ P ks m) (hc : X.calm = true := by rfl) (hg : Gl X "dict" := by rfl)
    (hs : starEach [a] X.env = (false, eval a X.env) :: starEach [] X.env := by rfl) (hpl : (backTo pos (starEach [] X.env)).any (·.1) = false := by rfl) : PKx X c δ (.Call (.Name "dict" p) [a] [] pos) P := by
  refine PE.mono (pe_callTy (call_dictP hc) hg T.n_dict bb_dict (pxs_one (px_n (P' := fun d => ∃ l, Q l ∧ d = .lst l) h fun l q => ⟨l, q, rfl⟩) hs) (by decide) (by decide) hs hpl) fun σ H Q ⟨z, w⟩ => ⟨z, fun vs H1 ds q r a => ?_⟩
  obtain ⟨d, ⟨l, hl, rfl⟩, rfl⟩ := q
  obtain ⟨ks, m, rfl, hlen, nd, hP⟩ := hQ l hl
  obtain ⟨v, r0, rfl, a1, a2⟩ := a
  obtain rfl : r0 = [] := a2
  obtain ⟨b, xs, rfl, mb, g1, x1⟩ := a1
  obtain ⟨ps, ys, rfl, p1, p2, p3⟩ := pairs_at hlen x1
  have ev := z.rl r
  refine ⟨b, ps, kvz ks ys, rfl, SqL.of g1, p1, fun q hq => ?_⟩
  have up := Up.add ev.bs hq
  have em : mergeK [] (kvz ks ys) = kvz ks ys := merge_kvz (ks0 := []) (xs0 := []) p2 rfl nd
  rw [em]
  exact w q _ ys ks m hP (r.trans0 (Rl.new hq)) (r.none hq) upd_same p2 ((p3.up up).rl up.b (Rl.new hq)) (ev.bs.free hq)
end
end G81
set_option maxRecDepth 100000
set_option maxHeartbeats 4000000
/-! the dice of a turn -/
namespace G81
open PySem PySem.Spec PyProof.Rows L2 SlX
open SX (S)
variable {P : Program} {w : World} {K : PySem.W.Frag} {mg : Str → Option Value} {base : Heap}
theorem sc61 : FnScope ["_law_script", "_law_spot", "_law_cell", "_law_left"] ["_law_script", "_law_spot"] (defScope (topS 61)) := ⟨rfl, rfl, rfl, by decide +kernel, rfl, by decide +kernel, by decide +kernel⟩
/-- what the dice are, as they are made -/
def Dice3 : D → Prop := fun d => ∃ x y z : Int, d = .lst [.int x, .int y, .int z] ∧ 0 ≤ x
section
variable {k : KW} {c : Fm}
theorem l_ixF {l : List D} {i : Int} {d : D} (h : atI l i = some d) : R2L k c (rIxL k.K) (.flst l) (.int i) (Is d) := fun v w H Q bs ⟨a, xs, e1, h1, x1⟩ e2 q => by
  obtain ⟨x, e3, e4⟩ := ats_atI x1 h
  exact ⟨a, xs, i, x, e1, e2, h1.sq, e3, q _ H _ rfl .refl e4⟩
theorem l_lenF {l : List D} : CRL k c (fun xs H Q => ∃ p ys, xs = [.ref p] ∧ (SqL k.K H p ys ∨ SqT k.K H p ys) ∧ Q (.int ys.length) H) [.flst l] (Is (.int l.length)) := fun vs H Q bs ⟨v, r, e, ⟨a, xs, e1, h1, x1⟩, e2⟩ q => by
  subst e1
  cases (show r = [] from e2)
  exact ⟨a, xs, e, .inl h1.sq, by rw [x1.length]; exact q _ H _ rfl .refl rfl⟩
end
def r__law_dice : RD := fun ds P => ∃ (ns : List Int) (k : Nat), ds = [.flst (ns.map .int), .int (k : Nat)] ∧ P = Dice3
theorem w__law_dice (T : Tx K mg) : Cal P w K mg base 1 "_law_dice" r__law_dice :=
  calD T.d__law_dice sc61 (by rintro ds P ⟨ns, n, rfl, _⟩; rfl) fun cdv A outer s' H E hr c ds Pd hR => by
    have nd := sc61.nd
    obtain ⟨ns, n, rfl, rfl⟩ := hR
    have cst : ∀ {X : Cx} {c : Fm} {δ : List Cell} {i : Int} {j pos}, PX X c δ (.Constant (.int i) j pos) (In (· = i)) := fun {_ _ _ i _ _} => in_of pv_int rfl
    have spt : ∀ {X : Cx} {c : Fm} {δ : List Cell} {e : Expr}, PV X c δ e (.int (n : Nat)) → PX X c δ e (In (· = (n : Int))) := fun h => in_of h rfl
    refine pb_set 2 (P := In fun _ => True) nd rfl (.inl rfl) (px_if (T := fun b => b = decide ((n : Int) < ((ns.map D.int).length : Nat))) (ptv_cmp op_lt (pvv 1) (pv_cB call_len_seq T.n_len bb_len (pvs_cons (pvv 0) pvs_nil) l_lenF) l_bl) (fun h => ?_) fun h => ?_) fun d ⟨cell, e1, _⟩ => ?_
    · have hn : n < ns.length := by
        have := of_decide_eq_true h.symm
        rw [List.length_map] at this
        omega
      exact x_intI T (in_of (i := ns[n]) (p := fun _ => True) (px_ix (A := Is (.flst (ns.map D.int))) (B := Is (.int (n : Nat))) ix_list (pvv 0) (pvv 1) fun x y e1 e2 => by
        cases (show x = _ from e1)
        cases (show y = _ from e2)
        exact l_ixF (atI_nat (by rw [List.getElem?_map, List.getElem?_eq_getElem hn]; rfl))) trivial)
    · exact px_opI0 op_add (px_opI (r := fun _ => True) op_mul cst (spt (pvv 1)) fun i j hi _ => ⟨.inl (by rw [hi]; decide), trivial⟩) cst fun _ _ _ _ => trivial
    subst e1
    have ab : ∀ {X : Cx} {c : Fm} {δ : List Cell} {a : Expr} {p pos : Pos} (T : Tx X.K X.mg) (h : PV X c δ a (.int cell)) (hs : starEach [a] X.env = (false, eval a X.env) :: starEach [] X.env) (hg : Gl X "abs") (hpl : (backTo pos (starEach [] X.env)).any (·.1) = false), PX X c δ (.Call (.Name "abs" p) [a] [] pos) (In fun _ => True) := fun T h hs hg hpl => px_of (v_abs T h hs hg hpl) ⟨_, rfl, trivial⟩
    have ab2 : ∀ {X : Cx} {c : Fm} {δ : List Cell} {a : Expr} {p pos : Pos} (T : Tx X.K X.mg) (h : PV X c δ a (.int cell)) (hs : starEach [a] X.env = (false, eval a X.env) :: starEach [] X.env) (hg : Gl X "abs") (hpl : (backTo pos (starEach [] X.env)).any (·.1) = false), PV X c δ (.Call (.Name "abs" p) [a] [] pos) (.int (if cell < 0 then -cell else cell)) := fun T h hs hg hpl => v_abs T h hs hg hpl
    have pw : ∀ {X : Cx} {c : Fm} {δ : List Cell} {m : Nat} (_ : m ≤ 1000000) {j1 j2 p1 p2 p3}, PV X c δ (.BinOp (.Constant (.int 10) j1 p1) .Pow (.Constant (.int (m : Nat)) j2 p2) p3) (.int (10 ^ m)) := fun hm => pv_eq (pv_op op_pow pv_int pv_int (l_intC ⟨by omega, by omega, by decide⟩)) (by rw [Int.toNat_natCast])
    refine pb_set 3 (P := In fun x => 0 ≤ x) nd rfl (.inl rfl) (px_opI (p := fun _ => True) (q := fun j => j = 10 ^ 60 * 10 ^ 60) op_mod (in_of (v_max T pv_int (pv_op op_sub (ab2 T (pvv 2) rfl rfl rfl) (pw (m := 16) (by decide)) l_int)) trivial) (in_of (pv_op op_mulW (pw (m := 60) (by decide)) (pw (m := 60) (by decide)) (l_intC ?_)) rfl) fun i j _ hj => ?_) fun d ⟨left, e1, hl⟩ => ?_
    · exact wide_mul (a := 256) (b := 256) (by decide) (by decide) (by decide) (by decide) (by decide)
    · have hp : (0 : Int) < j := by rw [hj]; decide
      exact ⟨hp, Int.emod_nonneg _ (by omega)⟩
    subst e1
    refine pb_ret .refl (P := Dice3) (px_n (P := fun l => ∃ y : Int, l = [.int left, .int y, .int 0]) (pn_lst (PXs.mono (pxs_cons (A := Is (.int left)) (pvv 3) (pxs_cons (A := In fun _ => True) ?_ (pvs_cons pv_int pvs_nil))) ?_) ?_) fun l ⟨y, e⟩ => ?_) fun _ h => h
    · exact px_opI0 op_add (px_opI0 (r := fun _ => True) op_add (px_opI0 (r := fun _ => True) op_add (px_opI (r := fun _ => True) op_mul (px_opI (r := fun _ => True) op_mod (ab T (pvv 2) rfl rfl rfl) cst fun i j _ hj => ⟨by rw [hj]; decide, trivial⟩) cst fun i j _ hj => ⟨.inr (by rw [hj]; decide), trivial⟩) (px_opI (r := fun _ => True) op_mul cst (spt (pvv 1)) fun i j hi _ => ⟨.inl (by rw [hi]; decide), trivial⟩) fun _ _ _ _ => trivial) (px_opI (r := fun _ => True) op_mul cst (in_of (p := fun _ => True) (v_intB T (pv_cmp op_lt (pvv 2) pv_int l_bl)) trivial) fun i j hi _ => ⟨.inl (by rw [hi]; decide), trivial⟩) fun _ _ _ _ => trivial) cst fun _ _ _ _ => trivial
    · rintro l ⟨d, r, rfl, rfl, d2, r2, rfl, ⟨y, rfl, _⟩, rfl⟩
      exact ⟨y, rfl⟩
    · rintro l ⟨y, rfl⟩
      exact Nat.le_trans (show 3 ≤ 1000 by decide) (by decide)
    · rw [e]
      exact ⟨left, y, 0, rfl, hl⟩
end G81
set_option maxRecDepth 100000
set_option maxHeartbeats 2000000
/-! calls with arguments known in part; a turn with dice of its own -/
namespace G81
open PySem PySem.Spec PyProof.Rows L2 SlX
section
variable {X : Cx} {c : Fm} {δ : List Cell} {e : Expr} {es : List Expr} {pos p : Pos} {P : D → Prop} {As : List D → Prop} {R : RD} {j k : Nat} {x : Str}
/-- f(e, ..), what is promised by what the arguments are -/
theorem px_callQ (cl : Cal X.prog X.w X.K X.mg X.base k x R) (hr : Room j X.A) (hk : k ≤ j) (hg : Gl X x) (ha : PXs X c δ (e :: es) As) (h : ∀ ds, As ds → ∃ P', R ds P' ∧ ∀ d, P' d → P d)
    (hdb : (x == ("__debug__" : Str)) = false := by decide) (he : starEach (e :: es) X.env = (false, eval e X.env) :: starEach es X.env := by rfl) (hpl : (backTo pos (starEach es X.env)).any (·.1) = false := by rfl) :
    PX X c δ (.Call (.Name x p) (e :: es) [] pos) P := by
  obtain ⟨f, F, hm, kp⟩ := cl.ex
  refine ⟨fun pins s σ H Q I ⟨z, w⟩ => ?_⟩
  refine wpAny_Call_Name_kw (ld_glob I hg hm ?_ hdb)
  refine PySem.W.callWith_K (h₀ := X.base) I.ok.mod.kin kp (thn (ha.run pos pins s σ H (fun vs H1 => spD (kw X) R vs H1 Q E0) I ⟨z, fun vs H1 ds q r a => ?_⟩) fun us s1 ⟨vs, H1, I1, r, q⟩ => ⟨I1.kIn, ?_⟩) he hpl
  · obtain ⟨P', hR, hP⟩ := h ds q
    exact spd_go (P := P') z r a hR fun v H' d p r a => w v H' d (hP d p) r a
  · exact wpAny_call (run_fnR F (hr.mono hk) pass0 I1 r q)
end
def c0 : Fm := ⟨[], [], []⟩
def cD (a : Addr) : Fm := ⟨[a], [a], []⟩
/-- what holds in any frame -/
inductive Firm : Cell → Prop where
  | no : Firm .no
  | int (i : Int) : Firm (.d (.int i))
  | flst (ns : List Int) : Firm (.d (.flst (ns.map D.int)))
theorem Firm.at_ {k : KW} {c c' : Fm} {H H' : Hp} {x : Cell} {y : Option V} (f : Firm x) (h : CellAt k c H x y) (r : ∀ b o, H b = some o → ¬ OwnK o → H' b = some o) : CellAt k c' H' x y := by
  cases f with
  | no => trivial
  | int i => exact h
  | flst ns =>
    obtain ⟨u, e, a, xs, e1, q, z⟩ := h
    have hx := z.ints
    subst hx
    refine ⟨u, e, a, _, e1, ?_, Ats.of_ints ns⟩
    rcases q with ⟨o, q⟩ | q
    · exact .inl ⟨o, r _ _ q not_frz⟩
    · exact .inr q
/-- what is left of the cells when the dice go: firm ones, others forgotten -/
def Thin (δ' δ'' : List Cell) : Prop := ∀ (i : Nat) (y : Cell), δ''[i]? = some y → Firm y ∧ ((y = .no ∧ ∃ z, δ'[i]? = some z) ∨ δ'[i]? = some y)
section
variable {X : Cx} {δ : List Cell} {e : Expr} {pos : Pos} {rest : List Stmt} {w : Wi}
theorem pb_dice0 (i : Nat) {x : Str} {pos' : Pos} (hN : X.N.Nodup) (hi : X.N[i]? = some x) (hx : Loc X.env.scope x) (hf : ∀ y ∈ δ, Firm y) (hc : w.c = c0) (he : ∀ M, PX X ⟨[], M, []⟩ δ e Dice3)
    (q : ∀ a, PB X (cD a) (δ.set i (.d .dice)) rest { c := cD a, N := fun δ' => ∃ δ'', Thin δ' δ'' ∧ w.N δ'', R := fun d => (∃ b, d = .bl b) ∧ w.R d, B := fun _ => False, rc := cD a })
    (hs : swapsWith e (some (.Name x pos')) pos.line X.env = pure false := by rfl) (hf2 : X.fn x = true ∨ X.env.scope.names.lookup x = some .local := by first | exact .inl rfl | exact .inr rfl | assumption) : PB X c0 δ (.Assign [.Name x pos'] e pos :: rest) w := by
  classical
  refine ⟨fun pins s σ H D0 I ⟨ev, n, rt, bk⟩ => ?_⟩
  have hM : ∃ M : List Addr, ∀ a, a ∈ M ↔ ∃ o, H a = some o := by
    refine ⟨(List.range s.heap.objs.size).filter fun a => (H a).isSome, fun a => ?_⟩
    rw [List.mem_filter, List.mem_range, Option.isSome_iff_exists]
    refine ⟨fun h => h.2, fun ⟨o, h⟩ => ⟨?_, o, h⟩⟩
    refine Nat.lt_of_not_le fun z => ?_
    rw [I.hok.fresh z] at h
    cases h
  obtain ⟨M, hM⟩ := hM
  have key : PSs X rest (fun D1 σ H => ∃ a, tB (kw X) (cD a) (δ.set i (.d .dice)) { c := cD a, N := fun δ' => ∃ δ'', Thin δ' δ'' ∧ w.N δ'', R := fun d => (∃ b, d = .bl b) ∧ w.R d, B := fun _ => False, rc := cD a } D1 σ H) := ⟨fun pins s σ H D I ⟨a, z⟩ => (q a).run pins s σ H D I z⟩
  have ev' : Ev (kw X) ⟨[], M, []⟩ H σ δ := ⟨⟨⟨(fun _ h => nomatch h), (fun _ h => nomatch h), (fun _ h => nomatch h), (fun _ h => nomatch h)⟩, fun a h => (hM a).mp h⟩, fun j y hy => by
    obtain ⟨z, h1, h2⟩ := ev.at_ j y hy
    exact ⟨z, h1, (hf y (List.mem_of_getElem? hy)).at_ h2 fun _ _ e _ => e⟩⟩
  refine (pss_cons (ps_set hN hi hx (he M) hs hf2) key).run pins s σ H D0 I ⟨ev', fun v H' d p r a => ?_⟩
  obtain ⟨x1, y1, z1, rfl, hx1⟩ := p
  obtain ⟨b, xs, rfl, hm, hb, hxs⟩ := a
  have hn : H b = none := by
    cases e : H b with
    | none => rfl
    | some o => exact absurd ((hM b).mpr ⟨o, e⟩) hm
  have hxs' : xs = [V.int x1, V.int y1, V.int z1] := Ats.ints (ns := [x1, y1, z1]) hxs
  subst hxs'
  have same : ∀ c o, H c = some o → H' c = some o := fun c o e => by
    rcases r c o e with z | ⟨z, _⟩ | ⟨z, _⟩
    · exact z
    · nomatch z
    · nomatch z
  have evb : Ev (kw X) (cD b) H' σ δ := by
    refine ⟨⟨⟨fun _ h => h, fun a h => ?_, (fun _ h => nomatch h), (fun _ h => nomatch h)⟩, fun a h => ?_⟩, fun j y hy => ?_⟩
    · cases List.mem_singleton.mp h
      exact ⟨_, hb, x1, y1, z1, rfl, hx1⟩
    · cases List.mem_singleton.mp h
      exact ⟨_, hb⟩
    · obtain ⟨z, h1, h2⟩ := ev.at_ j y hy
      exact ⟨z, h1, (hf y (List.mem_of_getElem? hy)).at_ h2 fun c o e _ => same c o e⟩
  have back : ∀ {H2}, Rl [b] [] H' H2 → Rl [] [] H H2 := fun {H2} r2 c o e => by
    have ne : c ≠ b := ne_of_none e hn
    rcases r2 c o (same c o e) with z | ⟨z, _⟩ | ⟨z, _⟩
    · exact .inl z
    · exact absurd (List.mem_singleton.mp z) ne
    · nomatch z
  refine ⟨b, evb.set i (x := .d .dice) ⟨_, rfl, b, _, rfl, List.mem_singleton.mpr rfl, hb, x1, y1, z1, rfl, hx1⟩, fun σ' H2 δ' ⟨δ'', th, hn2⟩ r2 e2 => ?_, fun v H2 d ⟨⟨b', e1⟩, hr⟩ r2 a2 => ?_, fun _ _ _ h => h.elim⟩
  · refine n σ' H2 δ'' hn2 (back r2) ?_
    rw [hc]
    refine ⟨⟨⟨(fun _ h => nomatch h), (fun _ h => nomatch h), (fun _ h => nomatch h), (fun _ h => nomatch h)⟩, (fun _ h => nomatch h)⟩, fun j y hy => ?_⟩
    obtain ⟨f, t⟩ := th j y hy
    rcases t with ⟨rfl, z, hz⟩ | t
    · obtain ⟨u, h1, _⟩ := e2.at_ j z hz
      exact ⟨u, h1, trivial⟩
    · obtain ⟨u, h1, h2⟩ := e2.at_ j y t
      exact ⟨u, h1, f.at_ h2 fun _ _ e _ => e⟩
  · subst e1
    exact rt v H2 _ hr (back r2) a2
end
end G81
set_option maxRecDepth 100000
set_option maxHeartbeats 4000000
/-! the law -/
namespace G81
open PySem PySem.Spec PyProof.Rows L2 SlX
open SX (S)
variable {P : Program} {w : World} {K : PySem.W.Frag} {mg : Str → Option Value} {base : Heap}
def lawN : List Str := ["_law_script", "_law_spot", "_law_dice_here", "_law_own", "_law_scheme", "_law_names", "_law_letters"]
theorem sc84 : FnScope lawN ["_law_script"] (defScope (topS 84)) := ⟨rfl, rfl, rfl, by decide +kernel, rfl, by decide +kernel, by decide +kernel⟩
theorem zip_take {α β γ : Type} {f : α → β → γ} : ∀ (ks : List α) (m : List β), List.zipWith f ks m = List.zipWith f ks (m.take ks.length)
  | [], m => by simp
  | _ :: _, [] => rfl
  | k :: ks, d :: m => by
    rw [List.length_cons, List.take_succ_cons, List.zipWith_cons_cons, List.zipWith_cons_cons, zip_take ks m]
/-- names given in order are names given by a function -/
theorem by_fun : ∀ {ks vs : List Nat}, ks.length = vs.length → ks.Nodup → vs.Nodup → ∃ f : Nat → Nat, ks.map f = vs ∧ ∀ a ∈ ks, ∀ b ∈ ks, f a = f b → a = b
  | [], [], _, _, _ => ⟨id, rfl, fun _ h => nomatch h⟩
  | [], _ :: _, h, _, _ => nomatch h
  | _ :: _, [], h, _, _ => nomatch h
  | k :: ks, v :: vs, h, nk, nv => by
    obtain ⟨nk1, nk2⟩ := List.nodup_cons.mp nk
    obtain ⟨nv1, nv2⟩ := List.nodup_cons.mp nv
    obtain ⟨f, e, inj⟩ := by_fun (by simpa using h) nk2 nv2
    have hf : ∀ a ∈ ks, (if a = k then v else f a) = f a := fun a ha => if_neg fun z : a = k => nk1 (z ▸ ha)
    have mem : ∀ a ∈ ks, f a ∈ vs := fun a ha => by rw [← e]; exact List.mem_map.mpr ⟨a, ha, rfl⟩
    refine ⟨fun l => if l = k then v else f l, ?_, fun a ha b hb q => ?_⟩
    · rw [List.map_cons, if_pos rfl]
      congr 1
      rw [← e]
      exact List.map_congr_left hf
    · have q : (if a = k then v else f a) = (if b = k then v else f b) := q
      rcases List.mem_cons.mp ha with ha | ha
      · rcases List.mem_cons.mp hb with hb | hb
        · rw [ha, hb]
        · rw [ha, if_pos rfl, hf b hb] at q
          exact absurd (q ▸ mem b hb) nv1
      · rcases List.mem_cons.mp hb with hb | hb
        · rw [hb, if_pos rfl, hf a ha] at q
          exact absurd (q ▸ mem a ha) nv1
        · rw [hf a ha, hf b hb] at q
          exact inj a ha b hb q
def six : List Nat := [97, 98, 99, 102, 103, 120]
/-- the drawn names make a renaming -/
theorem ren_of {s : Sc} (W : Wf s) {m : List Nat} (pm : m.Perm six) : ∃ f : Nat → Nat, Ren s f ∧ (m.take s.keys.length).map dLet = s.keys.map fun l => dLet (f l) := by
  have k6 : s.keys.length ≤ 6 := by unfold Sc.keys; rw [List.length_map]; exact W.len.2
  have ml : m.length = 6 := pm.length_eq
  have nm : m.Nodup := pm.nodup_iff.mpr (by decide)
  obtain ⟨f, e, inj⟩ := by_fun (ks := s.keys) (vs := m.take s.keys.length) (by rw [List.length_take]; omega) W.nd ((List.take_sublist _ _).nodup nm)
  refine ⟨f, ⟨inj, fun l hl => ?_⟩, ?_⟩
  · have h1 : f l ∈ m := List.mem_of_mem_take (by rw [← e]; exact List.mem_map.mpr ⟨l, hl, rfl⟩)
    have h2 : f l ∈ six := pm.mem_iff.mp h1
    have : ∀ x ∈ six, 97 ≤ x ∧ x ≤ 122 := by decide
    exact this _ h2
  · rw [← e, List.map_map]
    rfl
theorem b_law (T : Tx K mg) (ns : List Int) {f : Addr} {cdv : Value} {A : Around} {outer : List Env} {s' : Shared} {H : Hp} {E : XK} (hr : Room 16 (A.deeper (envOfC "law" (defScope (topS 84)) s'.heap.objs.size f cdv))) :
    PB (cxOf CX0 P w K mg base lawN "law" (defScope (topS 84)) f cdv A outer s' H E).nox c0 (startD lawN [.flst (ns.map D.int)]) (defBody (topS 84)) (wD c0 (Is (.bl true))) := by
  have nd := sc84.nd
  refine pb_for (t := .nm 1) (emb := fun i : Nat => .int (i : Nat)) (xs := List.range (max 1 (min 3 ns.length))) (fun _ δ' => ∃ x, Firm x ∧ δ' = [.d (.flst (ns.map D.int)), x, .no, .no, .no, .no, .no]) PassesOwn.never rfl (pix_range T.n_range (pv_eq (v_max T pv_int (v_min T pv_int (pv_cB call_len_seq T.n_len bb_len (pvs_cons (pvv 0) pvs_nil) l_lenF))) ?_) (by omega)) (pgx_nm nd rfl (.inl rfl)) ⟨.no, .no, rfl⟩ ?_ ?_
  · congr 1
    rw [List.length_map]
    split <;> split at * <;> omega
  · rintro i y0 δ' hi ⟨x, _, rfl⟩
    refine ⟨_, rfl, ?_⟩
    refine pb_dice0 2 nd rfl (.inl rfl) (fun y hy => ?_) rfl (fun M => px_call (w__law_dice T) hr (by decide) rfl (pvs_cons (pvv 0) (pvs_cons (pvv 1) pvs_nil)) fun ds e => ⟨ns, y0, e, rfl⟩) fun a => ?_
    · simp only [List.set_cons_zero, List.set_cons_succ, List.mem_cons, List.not_mem_nil, or_false] at hy
      rcases hy with rfl | rfl | rfl | rfl | rfl | rfl | rfl
      · exact .flst ns
      · exact .int _
      all_goals exact .no
    refine pb_set 3 (P := fun d => ∃ u, d = dPl u ∧ Copd u) nd rfl (.inl rfl) (px_call (As := fun ds => ∃ s, ds = [.dice, dPl s] ∧ Bas s) (w__law_with_copies T) hr (by decide) rfl (PXs.mono (pxs_cons (A := Is .dice) (pvv 2) (pxs_one (A := fun d => ∃ s, d = dPl s ∧ Bas s) (px_callQ (As := fun ds => ∃ s, ds = [.lst (dLines s)] ∧ Bas s) (w__law_plain T) hr (by decide) rfl (PXs.mono (pxs_one (A := fun d => ∃ s, d = .lst (dLines s) ∧ Bas s) (px_call (w__law_wild_lines T) hr (by decide) rfl (pvs_cons (pvv 2) pvs_nil) fun ds e => ⟨e, rfl⟩)) fun ds ⟨d, ⟨s, e, B⟩, e2⟩ => ⟨s, by rw [e2, e], B⟩) fun ds ⟨s, e, B⟩ => ⟨_, ⟨s, e, B.toWf.txok, rfl⟩, fun d e => ⟨s, e, B⟩⟩))) fun ds ⟨d, r, e, e1, d2, ⟨s, e3, B⟩, e4⟩ => ⟨s, by rw [e, show d = _ from e1, e4, e3], B⟩) fun ds ⟨s, e, B⟩ => ⟨s, e, B, rfl⟩) fun d hd => ?_
    obtain ⟨u, rfl, U⟩ := hd
    have W := U.toWf
    have Wu := W.srt
    have Wv := Wu.toWf
    refine pv_set 4 (d := dSch K u.srt) nd rfl (.inl rfl) (pv_call (w__law_made T) hr (by decide) rfl (pvs_cons (pvv 3) pvs_nil) ⟨u, rfl, W, rfl⟩) ?_
    refine pb_ifRet (B := (· = false)) (ptx_eq (ptv_not (ptv_val (pv_call (P := Is (.bl true)) (w__law_spared_right T) hr (by decide) rfl (pvs_cons (pvv 3) (pvs_cons (pvv 4) pvs_nil)) ⟨u, rfl, U, rfl⟩))) (k' := false) rfl) (fun h => nomatch h) fun _ => ?_
    refine pb_ifRet (B := (· = false)) (ptx_bo (pwx_and (T := (· = u.srt.even)) (U := (· = false)) (ptv_val (v_prop (P := Is (.bl u.srt.even)) (pvv 4) T.c_Scheme.1 T.p_Scheme_is_even (w_Scheme_is_even T) hr (by decide) ⟨u.srt, rfl, Wv, rfl⟩)) (fun h => pwx_and1 (ptx_eq (ptv_not (ptv_val (pv_call (P := Is (.bl true)) (w__law_least_right T) hr (by decide) rfl (pvs_cons (pvv 3) (pvs_cons (pvv 4) pvs_nil)) ⟨u, rfl, U, h.symm, rfl⟩))) (k' := false) rfl)) fun _ => rfl)) (fun h => nomatch h) fun _ => ?_
    refine pb_if (B := (· = u.srt.even)) (M := fun δ' => ∃ x y, δ' = [.d (.flst (ns.map D.int)), .d (.int (y0 : Nat)), .d .dice, .d (dPl u), .d (dSch K u.srt), x, y]) (ptv_val (v_prop (P := Is (.bl u.srt.even)) (pvv 4) T.c_Scheme.1 T.p_Scheme_is_even (w_Scheme_is_even T) hr (by decide) ⟨u.srt, rfl, Wv, rfl⟩)) (fun ev => ?_) (fun _ => pb_end ⟨_, _, rfl⟩) (.inl rfl) ?_
    · have ev := ev.symm
      refine pv_set 5 (d := .lst ((u.srt.keys.map lt).map D.txt)) nd rfl (.inl rfl) (pv_eq (pv_n (n_listT T (v_prop (P := Is (.tup (u.srt.keys.map dLet))) (pvv 4) T.c_Scheme.1 T.p_Scheme_letters (w_Scheme_letters T) hr (by decide) ⟨u.srt, rfl, rfl⟩))) (by rw [List.map_map]; rfl)) ?_
      refine pb_set 6 (P := fun d => ∃ f, Ren u.srt f ∧ d = dMap u.srt.keys f) nd rfl (.inl rfl) (PX.mono (px_kx (P := fun ks ds => ∃ f, Ren u.srt f ∧ ks = u.srt.keys.map lt ∧ ds = u.srt.keys.map fun l => dLet (f l)) (pkx_dict T (pn_listZip (P := fun l => ∃ m : List Nat, m.Perm six ∧ l = List.zipWith pairD (u.srt.keys.map lt) (m.map dLet)) T (pxs_cons (A := Is (.lst ((u.srt.keys.map lt).map D.txt))) (pvv 5) (pxs_one (A := fun d => ∃ m, d = .lst m ∧ m.Perm (six.map dLet)) (px_call (w__law_mixed T) hr (by decide) rfl (pvs_cons (pvv 2) (pvs_cons (pv_n (pvn_lst (l := six.map dLet) (pvs_cons pv_str (pvs_cons pv_str (pvs_cons pv_str (pvs_cons pv_str (pvs_cons pv_str (pvs_cons pv_str pvs_nil)))))))) pvs_nil)) fun ds e => ⟨six.map dLet, _, e, .inl rfl, by decide, rfl⟩))) fun ds h => ?_) fun l h => ?_)) fun d h => ?_) fun d h => ?_
      · obtain ⟨d, r, rfl, e1, d2, ⟨m, rfl, pm⟩, rfl⟩ := h
        obtain ⟨m', pm', rfl⟩ := perm_lift pm rfl
        exact ⟨u.srt.keys.map lt, m'.map dLet, by rw [show d = _ from e1], m', pm', rfl⟩
      · obtain ⟨m, pm, rfl⟩ := h
        obtain ⟨f, R, e⟩ := ren_of Wv pm
        refine ⟨u.srt.keys.map lt, (m.take u.srt.keys.length).map dLet, ?_, ?_, map_nd Wv.nd fun a _ b _ q => lt_inj q, f, R, rfl, e⟩
        · rw [zip_take, List.length_map, List.map_take]
        · have k6 := keys_len Wv
          have ml : m.length = 6 := pm.length_eq
          rw [List.length_map, List.length_map, List.length_take]
          omega
      · obtain ⟨ks, ds, ⟨f, R, rfl, rfl⟩, rfl⟩ := h
        exact ⟨f, R, rfl⟩
      · obtain ⟨f, R, rfl⟩ := h
        have V := (ren_wf Wv R.1 R.2).srt
        have evV := srt_even (ren_wf Wv R.1 R.2) (ren_even ev)
        have L1 := keys_len V.least.toWf
        have L2 := keys_len Wu.least.toWf
        refine pb_ifRet (B := (· = false)) (ptx_eq (ptv_cmp op_ne (v_lenO T T.m_Scheme_len (w_Scheme_len T) hr (by decide) (pv_call (P := Is (dSch K (u.srt.ren f).srt.least)) (w_least_scheme T) hr (by decide) rfl (pvs_cons (pv_call (P := Is (dSch K (u.srt.ren f).srt)) (w_renamed_scheme T) hr (by decide) rfl (pvs_cons (pvv 4) (pvs_cons (pvv 6) pvs_nil)) ⟨u.srt, f, rfl, Wv, R, rfl⟩) pvs_nil) ⟨_, rfl, V, evV, rfl⟩) ⟨_, rfl, rfl⟩ (by omega) (by omega)) (v_lenO T T.m_Scheme_len (w_Scheme_len T) hr (by decide) (pv_call (P := Is (dSch K u.srt.least)) (w_least_scheme T) hr (by decide) rfl (pvs_cons (pvv 4) pvs_nil) ⟨_, rfl, Wu, ev, rfl⟩) ⟨_, rfl, rfl⟩ (by omega) (by omega)) l_neI) (k' := false) ?_) (fun h => nomatch h) fun _ => pb_end ⟨_, _, rfl⟩
        rw [ren_least Wu R.1 R.2]
        simp
    · rintro δ' ⟨x, y, rfl⟩
      refine pb_end ⟨[.d (.flst (ns.map D.int)), .d (.int (y0 : Nat)), .no, .no, .no, .no, .no], fun i y hy => ?_, .d (.int (y0 : Nat)), .int _, rfl⟩
      match i, hy with
      | 0, hy => cases hy; exact ⟨.flst ns, .inr rfl⟩
      | 1, hy => cases hy; exact ⟨.int _, .inr rfl⟩
      | 2, hy => cases hy; exact ⟨.no, .inl ⟨rfl, _, rfl⟩⟩
      | 3, hy => cases hy; exact ⟨.no, .inl ⟨rfl, _, rfl⟩⟩
      | 4, hy => cases hy; exact ⟨.no, .inl ⟨rfl, _, rfl⟩⟩
      | 5, hy => cases hy; exact ⟨.no, .inl ⟨rfl, _, rfl⟩⟩
      | 6, hy => cases hy; exact ⟨.no, .inl ⟨rfl, _, rfl⟩⟩
      | n + 7, hy => cases hy
  · rintro δ' ⟨x, _, rfl⟩
    exact pb_ret (P := Is (.bl true)) .refl pv_bl fun _ h => h
end G81
set_option maxRecDepth 100000
set_option maxHeartbeats 0
/-! the law's def keeps its promise; the end -/
namespace G81
open PySem PySem.Spec PyProof.Rows L2 SlX
section
variable {P : Program} {w : World} {K : PySem.W.Frag} {mg : Str → Option Value} {base : Heap}
def spLaw (K : PySem.W.Frag) : Sp := fun vs H Q _ => ∃ (a : Addr) (ns : List Int), vs = [V.ref a] ∧ SqF K H a (ns.map V.int) ∧ ∀ H', Q (.bl true) H'
theorem fn_law (T : Tx K mg) {f : Addr} {fd : FuncData} (F : Fun K "law" "law" (topS 84) f fd) : FnOk P w K mg base CX0 17 f fd ["_law_script"] (spLaw K) :=
  F.ok sc84 (fun vs H Q E h => by obtain ⟨a, ns, rfl, _⟩ := h; rfl) fun cdv A outer s H vs Q E hr h => by
    obtain ⟨a, ns, rfl, hq, q⟩ := h
    have b : Bs c0 H := ⟨⟨(fun _ h => nomatch h), (fun _ h => nomatch h), (fun _ h => nomatch h), (fun _ h => nomatch h)⟩, (fun _ h => nomatch h)⟩
    have a1 : Ats ⟨K, w⟩ c0 H [.flst (ns.map D.int)] [V.ref a] := ⟨_, _, rfl, ⟨a, _, rfl, hq, Ats.of_ints ns⟩, rfl⟩
    refine ⟨_, b_law T ns hr, ev_start b a1, fun σ' H' δ' n r _ => ?_, fun v H' d p r a' => ?_, fun _ _ _ n => n.elim⟩
    · cases (show D.non = D.bl true from n)
    · cases (show d = D.bl true from p)
      cases (show v = V.bl true from a')
      exact q H'
end
end G81
open PySem PySem.W PySem.Calls PyProof.Rows
theorem PySem.Challenge.cw_grownlines_k81_whole_spared_and_least_holds : PySem.Challenge.rw_grownlines_k81_whole_spared_and_least.Holds := by
  w_on; o_law
  refine HandSHeadRun.head_any (r := G81.ROp) (q := G81.qv) (H := G81.hookW) (ob := G81.obW) (M := 20000) (loose := G81.namesQ) (d := HandSHeadRun.topDef G81.ROp.prog 84) (kwd := []) G81.obW_eq
    (by kernel_rfl) (fun s => by kernel_rfl) G81.runW (by kernel_rfl) (by kernel_rfl) (by kernel_rfl) (by rfl) (by first | assumption | decide +kernel) (by decide +kernel) ⟨rfl, rfl, rfl, rfl, rfl, by decide +kernel⟩ ?hw ?hc
  case hw => w_witness2
  case hc =>
    refine L2.walk_ofE (l := PySem.Challenge.rw_grownlines_k81_whole_spared_and_least) (n := 63) (k := 17) (x := "_law_script") (CX := L2.CX0) rfl (by decide) (by kernel_rfl) ⟨rfl, by decide, by decide⟩ ?F (fun _ _ _ _ z => z)
    intro w mg fa h Y G hmg0
    obtain ⟨K, KX, c⟩ := Y
    have T : G81.Tx K mg := G81.tx_of KX G c
    have hmg : mg ("law" : PySem.Str) = some (.ref fa) := by
      have e : (HandSHeadRun.topDef G81.ROp.prog 84).name = ("law" : PySem.Str) := by kernel_rfl
      rw [← e]
      exact hmg0
    have e := hmg.symm.trans T.g_law
    cases e
    obtain ⟨fd, F⟩ := T.df 78 _ rfl
    refine ⟨K, fd, G81.spLaw K, KX, ?_, fun H a ns hl hO hS => ⟨a, ns, rfl, ?_, fun _ => rfl⟩, fun base _ _ => G81.fn_law T F⟩
    · obtain ⟨oc, od, kV, doc, pm, an, cdv, ct, osl, rfl, lk, hcd⟩ := F.ex
      intro s u
      exact .of_eq (by rfl)
    · rcases hS with (h | ⟨o, h⟩) | h
      · rcases hO a with z | ⟨o, xs, z⟩ <;> rw [z] at h <;> cases h
      · exact .inl ⟨o, h⟩
      · exact .inr h
