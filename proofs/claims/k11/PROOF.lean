import PyProof.Rows.All
import Wide.All
import OpenK.AllK
import Wide.FinOn
import HandS.ForMost
import HandS.Deep
import HandS.Wide
import HandS.Gcd
import HandS.Flow
import HandS.TupMul
import HandS.TupAny
import HandS.TupLe
import HandS.Conv
import PyProof.ReprNest
import HandS.IsInst
import PyProof.ReprRoads
import HandS.Style
import KE.SortData
import PyProof.TupleOfSeq
import PyProof.Rows.SortWalk
import HandS.ExcValue
import PySem.Challenge.RW_pinchedround_k11_ways_back_and_halves
set_option Elab.async false
set_option linter.all false
set_option maxRecDepth 100000
set_option maxHeartbeats 1000000
/-! # Dv: a plain evaluator over data, shown over the hand layer once. Part 1: defs that run where no repr is under way (guards known). -/
namespace Dv
open PySem PySem.Spec PyProof.Rows L2

/-- a def's promise where nothing is being written out (no guards are up) -/
structure FG (P : Program) (w : World) (K : PySem.W.Frag) (mg : Str → Option Value) (base : Heap) (CX : CXT) (k : Nat) (f : Addr) (fd : FuncData) (ps : List Str) (sp : Sp) : Prop where
  len : ∀ vs H Q E, sp vs H Q E → vs.length = ps.length
  run : ∀ (A : Around) (out : List Env) (s : Shared) (H : Hp) (args : Args) (us : List Value) (vs : List V) (Q : VK) (E : XK),
    Room k A → A.guards = some [] → Env0 P w K mg base A out s H →
    BindsTo s fd args (ps.zip us) → Vals vs us → sp vs H Q E →
    codeAny (model P w) A (.call (.ref f) args) (CR CX out P w H s Q E) s

section
variable {P : Program} {w : World} {K : PySem.W.Frag} {mg : Str → Option Value} {base : Heap} {CX : CXT} {k : Nat} {f : Addr} {fd : FuncData} {ps N : List Str} {sp : Sp}
theorem FG.mono {j : Nat} (F : FG P w K mg base CX j f fd ps sp) (h : j ≤ k) : FG P w K mg base CX k f fd ps sp :=
  ⟨F.len, fun A o s H ar us vs Q E hr => F.run A o s H ar us vs Q E (hr.mono h)⟩
theorem FG.imp {sp' : Sp} (F : FG P w K mg base CX k f fd ps sp) (h : ∀ vs H Q E, sp' vs H Q E → sp vs H Q E) : FG P w K mg base CX k f fd ps sp' :=
  ⟨fun vs H Q E q => F.len vs H Q E (h _ _ _ _ q),
   fun A o s H ar us vs Q E hr hg e0 hb hv q => F.run A o s H ar us vs Q E hr hg e0 hb hv (h _ _ _ _ q)⟩

/-- a def by its body -/
theorem FG.of {x qual : Str} {st : Stmt} (F : Fun K x qual st f fd) (S : FnScope N ps (defScope st)) (len : ∀ vs H Q E, sp vs H Q E → vs.length = ps.length)
    (body : ∀ (cdv : Value) (A : Around) (out : List Env) (s : Shared) (H : Hp) (vs : List V) (Q : VK) (E : XK),
      Room k (A.deeper (envOfC qual (defScope st) s.heap.objs.size f cdv)) → A.guards = some [] → sp vs H Q E →
      ∃ t, PSs (cxOf CX P w K mg base N qual (defScope st) f cdv A out s H E) (defBody st) t ∧
        t { nx := fun _ H' => Q .non H', rt := Q } (start N vs) H) :
    FG P w K mg base CX (k + 1) f fd ps sp := by
  obtain ⟨oc, od, kV, doc, pm, an, cdv, ct, osl, rfl, lk, hcd⟩ := F.ex
  refine ⟨len, fun A out s H args us vs Q E hr hgd e0 hb rv hsp => ?_⟩
  have hin : K.In s.heap := e0.mod.kin.keeps fun b o e => (e0.bs b o e).1
  have hlm : s.heap.NoLimit := e0.mod.nolimit.keeps fun b o e => (e0.bs b o e).1
  have hln := len _ _ _ _ hsp
  have hkd : ∀ y ∈ ps.zip us, (defScope st).names.lookup y.1 = some .local ∨
      ((defScope st).names.lookup y.1 = some .cell ∧ ((cellsFrom (s.heap.objs.size + 1) (defScope st).names []).lookup y.1).isSome = true) := by
    intro y hy
    rcases S.par y.1 (List.of_mem_zip (a := y.1) (b := y.2) hy).1 with q | q
    · exact Or.inl q
    · exact Or.inr ⟨q, PySem.W.cellsFrom_some _ _ _ (Or.inl q)⟩
  refine codeAny_call_function hr.depth (hin _ _ lk) rfl S.co S.gen rfl (PySem.W.codeRec_of hin hcd) (hb _ _ _ _ ?_)
  refine wpAny_newFunctionEnv_cells S.kind hkd fun env henv s1 ic => ?_
  subst henv
  refine ⟨hlm.keeps ic.toInCall.keep, codeAny_func ?_⟩
  obtain ⟨t, ht, hq⟩ := body cdv A out s H vs Q E (hr.deeper _) hgd hsp
  have I0 := inv_start (CX := CX) (N := N) (E := E) (outer := out) S hr.hd e0 hln rv ic
  refine wpAny_mono (ht.run [] s1 (start N vs) H _ I0 hq) (fun fl s' hs => ?_) fun e s' hs => hs
  cases fl with
  | ret u =>
    obtain ⟨v, σ', H', J, r', q⟩ := hs
    exact ⟨v, H', J.os, J.bare, J.base, J.hok, r', q⟩
  | next =>
    obtain ⟨σ', H', J, q⟩ := hs
    exact ⟨V.non, H', J.os, J.bare, J.base, J.hok, rfl, q⟩
  | brk => obtain ⟨_, _, _, q⟩ := hs; exact q.elim
  | cont => obtain ⟨_, _, _, q⟩ := hs; exact q.elim
end

section
variable {X : Cx} {CX : CXT} {k : Nat} {f : Addr} {fd : FuncData} {ps : List Str} {sp : Sp} {E : XK} {x : Str} {p pos : Pos} {e : Expr} {es : List Expr} {t : TA}
theorem run_fg {pins : List (Addr × Obj)} {σ : L2.St} {H : Hp} {s : Shared} {Q : VK} {us : List Value} {vs : List V} (F : FG X.prog X.w X.K X.mg X.base CX k f fd ps sp) (hr : Room k X.A) (hg : X.A.guards = some []) (hb : Binds X.K fd ps []) (hx : Passes CX X E)
    (I : Inv X pins σ H s) (r : Vals vs us) (h : sp vs H Q E) : wpAny (model X.prog X.w) X.A (call (.ref f) us) (EP X pins σ Q) X.xe s := by
  have hl : us.length = ps.length := by rw [← r.length]; exact F.len _ _ _ _ h
  have hb' := hb s us I.kIn (by simpa using hl)
  rw [List.append_nil] at hb'
  refine wpAny_call (codeAny_mono (F.run X.A X.stack s H ⟨us, []⟩ us vs Q E hr hg I.env0 hb' r h) fun r s' hq => ?_)
  match r, hq with
  | .error e, hq => exact hx pins σ H s e s' I hq
  | .ok (.ret u), hq => exact I.after hq
/-- f(a, ..) -/
theorem pe_fg (F : FG X.prog X.w X.K X.mg X.base CX k f fd ps sp) (hr : Room k X.A) (hgd : X.A.guards = some []) (hg : Gl X x) (hm : X.mg x = some (.ref f)) (hk : PySem.W.keepIn X.K (.ref f) = true) (hb : Binds X.K fd ps []) (hx : Passes CX X E)
    (ha : PA X (e :: es) t) (hdb : (x == ("__debug__" : Str)) = false) (he : starEach (e :: es) X.env = (false, eval e X.env) :: starEach es X.env) (hpl : (backTo pos (starEach es X.env)).any (·.1) = false) :
    PE X (.Call (.Name x p) (e :: es) [] pos) (fun σ H Q => t σ H fun vs H1 => sp vs H1 Q E) := by
  refine ⟨fun pins s σ H Q I h => ?_⟩
  refine wpAny_Call_Name_kw (ld_glob I hg hm ?_ hdb)
  refine PySem.W.callWith_K (h₀ := X.base) I.ok.mod.kin hk (thn (ha.run pos pins s σ H _ I h) fun us s1 hh => ?_) he hpl
  obtain ⟨vs, H1, I1, r, q⟩ := hh
  exact ⟨I1.kIn, run_fg F hr hgd hb hx I1 r q⟩
/-- f() -/
theorem pe_fg0 (F : FG X.prog X.w X.K X.mg X.base CX k f fd ps sp) (hr : Room k X.A) (hgd : X.A.guards = some []) (hg : Gl X x) (hm : X.mg x = some (.ref f)) (hk : PySem.W.keepIn X.K (.ref f) = true) (hb : Binds X.K fd ps []) (hx : Passes CX X E)
    (hdb : (x == ("__debug__" : Str)) = false) : PE X (.Call (.Name x p) [] [] pos) (fun σ H Q => sp [] H Q E) := by
  refine ⟨fun pins s σ H Q I h => ?_⟩
  refine wpAny_Call_Name_kw (ld_glob I hg hm ?_ hdb)
  exact PySem.W.callWith_K0 I.kIn hk (run_fg (us := []) F hr hgd hb hx I .nil h)
end

/-! ### the law's own head -/
section
open PySem.W PySem.Calls
theorem law_head {P : Program} {w : World} {K : PySem.W.Frag} {mg mb : Str → Option Value} {CX : CXT} {k : Nat} {fa a : Addr} {fd : FuncData} {x : Str} {sp : Sp} {s1 : Shared} {vs : List Value} {ns : List Int}
    (KX : K.In s1.heap) (hns : s1.heap.Ns mainGlobals mg) (hb : s1.heap.Ns builtinsNs mb) (hbb : ∀ x : Str, x ≠ "__name__" → mb x = bootBuiltins x) (hlim : s1.heap.NoLimit) (hg : s1.gens = #[])
    (ha : s1.heap.get? a = some { cls := .type "list", data := .seq vs.toArray }) (hi : IntsAre vs ns) (hl : ns.length ≤ sizeLine) (hr : Room k callerA)
    (F : ∀ base : Heap, K.In base → base.Ns mainGlobals mg → FG P w K mg base CX k fa fd [x] sp) (hbind : ∀ (s : Shared) (u : Value), BindsTo s fd ⟨[u], []⟩ [(x, u)])
    (hsp : ∀ H : Hp, L2.Only H → SqL K H a (ns.map V.int) → sp [.ref a] H (fun v _ => v = .bl true) fun _ _ _ => False)
    (hCX : ∀ H e s', CX [] H s1 (fun _ _ _ => False) e s' → False) :
    codeAny (model P w) callerA (.call (.ref fa) ⟨[.ref a], []⟩) (fun r s' => r = .ok (.ret (.bool true)) ∧ OldK s1.heap s'.heap ∧ s'.os = s1.os ∧ AllBare s'.gens) s1 := by
  have rv := vals_ints hi
  have lenV := hi.length
  have core : ∀ H : Hp, L2.Only H → SqL K H a (ns.map V.int) → HOk P w H s1.heap → (∀ b, H b ≠ none → b = a ∧ K.lookup a = none) →
      codeAny (model P w) callerA (.call (.ref fa) ⟨[.ref a], []⟩) (fun r s' => r = .ok (.ret (.bool true)) ∧ OldK s1.heap s'.heap ∧ s'.os = s1.os ∧ AllBare s'.gens) s1 := by
    intro H hO hS hok hA
    have noA : ∀ {b : Addr} {o : Obj} {es : Array DictEntry} {ep : Nat}, s1.heap.get? b = some o → o.data = .dict es ep → H b = none := by
      intro b o es ep e d
      apply Classical.byContradiction
      intro q
      have e' := (hA b q).1
      rw [e', ha] at e
      have e2 := Option.some.inj e
      rw [← e2] at d
      cases d
    have nsK : ∀ {b : Addr} {m : Str → Option Value}, s1.heap.Ns b m → (hidT s1.heap H).Ns b m := by
      rintro b m ⟨o, es, ep, e, d, r⟩
      exact ⟨o, es, ep, hidT_get e (noA e d), d, r⟩
    have hKb : K.In (hidT s1.heap H) := by
      intro b o e
      refine hidT_get (KX b o e) ?_
      apply Classical.byContradiction
      intro q
      obtain ⟨e1, e2⟩ := hA b q
      rw [e1, e2] at e
      cases e
    have hM : Mod K mg (hidT s1.heap H) := ⟨hKb, nsK hns, ⟨mb, nsK hb, hbb⟩, let ⟨mc, h1, h2⟩ := hlim; ⟨mc, nsK h1, h2⟩⟩
    have e0 : Env0 P w K mg (hidT s1.heap H) callerA [] s1 H := ⟨rfl, hM, fun b o e => of_hidT e, Nat.le_of_eq (hidT_size _ _), trivial, fun b hb => (by cases hb), hok, .of_eq hg⟩
    have run := (F _ hKb (nsK hns)).run callerA [] s1 H ⟨[.ref a], []⟩ [.ref a] [.ref a] _ _ hr rfl e0 (hbind s1 (.ref a)) (.cons rfl .nil) (hsp H hO hS)
    refine codeAny_mono run fun r s' h => ?_
    match r, h with
    | .error e, h => exact (hCX H e s' h).elim
    | .ok (.ret u), h =>
      obtain ⟨v, H', os, bare, un, hok', r', q⟩ := h
      have qv : v = .bl true := q
      rw [qv] at r'
      have qu : u = Value.bool true := r'
      rw [qu]
      refine ⟨rfl, OldK.of_keep fun b o e => ?_, os, bare⟩
      cases q : H b with
      | none => exact un.keep b o e q (fun z => by cases z) (by simp)
      | some u =>
        rcases hO b with z | ⟨ob, xs, z⟩
        · rw [q] at z; cases z
        · obtain ⟨e1, _⟩ := hok b _ z
          obtain ⟨e2, _⟩ := hok' b _ (un.frzs b ob _ z)
          rw [e] at e1
          rw [e2, ← e1]
  cases hk : K.lookup a with
  | some o =>
    have e := KX a o hk
    rw [ha] at e
    have e2 := Option.some.inj e
    rw [← e2] at hk
    exact core (fun _ => none) (fun _ => .inl rfl) (.inr ⟨_, vs.toArray, _, hk, rfl, rfl, rfl, (by rw [List.size_toArray, lenV]; exact hl), (by simpa using rv)⟩) (fun b u z => by cases z) fun b z => absurd rfl z
  | none =>
    let ob : Obj := { cls := .type "list", data := .seq vs.toArray }
    refine core (fun b => if b = a then some (.frz ob (.lst (ns.map V.int))) else none) (fun b => ?_) (.inl (.inr ⟨ob, if_pos rfl⟩)) (fun b u z => ?_) fun b z => ?_
    · by_cases hb : b = a
      · exact .inr ⟨_, _, if_pos hb⟩
      · exact .inl (if_neg hb)
    · by_cases hb : b = a
      · have z' := (if_pos hb).symm.trans z
        have z2 := Option.some.inj z'
        subst hb
        rw [← z2]
        exact ⟨ha, by rw [List.length_map]; exact hl, vs, _, rv, ha⟩
      · have z' := (if_neg hb).symm.trans z
        cases z'
    · by_cases hb : b = a
      · exact ⟨hb, hk⟩
      · exact absurd (if_neg hb) z
theorem walk_g {l : PySem.W.OpenLaw} {n k : Nat} {q : Program} {loose : List Str} {XP : (Str → Option Value) → Heap → Prop} {YP : World → Heap → Prop} {d : DefRec} {K : Params → PySem.W.Frag} {CX : World → CXT} {sp : World → Sp} {x : Str}
    (hn : l.most = some n) (hn2 : n ≤ sizeLine) (hdf : d.params.defaults = []) (hr : Room k callerA)
    (hY : ∀ (w : World) (h : Heap), YP w h → (K w.params).In h)
    (F : ∀ (w : World) (mg : Str → Option Value) (fa : Addr) (h : Heap), (K w.params).In h → h.Ns mainGlobals mg → mg d.name = some (.ref fa) →
      ∃ fd : FuncData, (∀ (s : Shared) (u : Value), BindsTo s fd ⟨[u], []⟩ [(x, u)]) ∧
        ∀ base : Heap, (K w.params).In base → base.Ns mainGlobals mg → FG l.prog w (K w.params) mg base (CX w) k fa fd [x] (sp w))
    (hsp : ∀ (w : World) (H : Hp) (a : Addr) (ns : List Int), ns.length ≤ n → L2.Only H → SqL (K w.params) H a (ns.map V.int) → sp w [.ref a] H (fun v _ => v = .bl true) fun _ _ _ => False)
    (hCX : ∀ (w : World) (H : Hp) (s : Shared) (e : Value) (s' : Shared), CX w [] H s (fun _ _ _ => False) e s' → False) :
    PySem.W.WalkO q loose XP YP l.row.toRowW d [] (fun f vs => PySem.call f vs) := by
  refine Att.attach_call hn hdf fun w s0 s1 mg mb fa o pm cd doc a vs ns G Y ho hd hcd hmg hobj hints hlen hg => ?_
  have KX := hY w _ Y
  obtain ⟨fd, hb, hF⟩ := F w mg fa _ KX G.T.g hmg
  exact law_head KX G.T.g G.T.b G.T.builtins G.T.nolimit hg hobj hints (Nat.le_trans hlen hn2) hr hF hb (fun H hO hS => hsp w H a ns hlen hO hS) fun H e s' => hCX w H s1 e s'
end
end Dv
set_option Elab.async false
set_option linter.all false
set_option maxRecDepth 100000
set_option maxHeartbeats 1000000
/-! Part 2: data in the heap, slots, what a reading is of a plain function. -/
namespace Dv
open PySem PySem.Spec PyProof.Rows L2

/-! ### data stands as the heap grows -/
theorem sqt_same {K : PySem.W.Frag} {H H' : Hp} {a : Addr} {xs : List V} (e : Same H H') (h : SqT K H a xs) : SqT K H' a xs := by
  rcases h with (h | ⟨o, h⟩) | h
  · exact .inl (.inl (e _ _ h))
  · exact .inl (.inr ⟨o, e _ _ h⟩)
  · exact .inr h
mutual
/-- data as it lies in the heap: lists are plain tracked ones -/
inductive Dq (K : PySem.W.Frag) (H : Hp) : V → PyData → Prop
  | non : Dq K H .non .none
  | bl (b : Bool) : Dq K H (.bl b) (.bool b)
  | int (i : Int) : Dq K H (.int i) (.int i)
  | str (x : Str) : Dq K H (.str x) (.str x)
  | lst {a : Addr} {xs : List V} {ds : List PyData} : H a = some (.lst xs) → DqAll K H xs ds → Dq K H (.ref a) (.list ds)
  | tup {a : Addr} {xs : List V} {ds : List PyData} : SqT K H a xs → DqAll K H xs ds → Dq K H (.ref a) (.tuple ds)
inductive DqAll (K : PySem.W.Frag) (H : Hp) : List V → List PyData → Prop
  | nil : DqAll K H [] []
  | cons {v : V} {vs : List V} {d : PyData} {ds : List PyData} : Dq K H v d → DqAll K H vs ds → DqAll K H (v :: vs) (d :: ds)
end
mutual
theorem dq_dp {K : PySem.W.Frag} {H : Hp} : ∀ {v : V} {d : PyData}, Dq K H v d → Dp K H v d
  | _, _, .non => .non
  | _, _, .bl b => .bl b
  | _, _, .int i => .int i
  | _, _, .str z => .str z
  | _, _, .lst h r => .lst (SqL.of h) (dqa_dpa r)
  | _, _, .tup h r => .tup h (dqa_dpa r)
theorem dqa_dpa {K : PySem.W.Frag} {H : Hp} : ∀ {vs : List V} {ds : List PyData}, DqAll K H vs ds → DpAll K H vs ds
  | _, _, .nil => .nil
  | _, _, .cons a r => .cons (dq_dp a) (dqa_dpa r)
end
mutual
theorem dp_same {K : PySem.W.Frag} {H H' : Hp} (e : Same H H') : ∀ {v : V} {d : PyData}, Dq K H v d → Dq K H' v d
  | _, _, .non => .non
  | _, _, .bl b => .bl b
  | _, _, .int i => .int i
  | _, _, .str z => .str z
  | _, _, .lst h r => .lst (e _ _ h) (dpa_same e r)
  | _, _, .tup h r => .tup (sqt_same e h) (dpa_same e r)
theorem dpa_same {K : PySem.W.Frag} {H H' : Hp} (e : Same H H') : ∀ {vs : List V} {ds : List PyData}, DqAll K H vs ds → DqAll K H' vs ds
  | _, _, .nil => .nil
  | _, _, .cons a r => .cons (dp_same e a) (dpa_same e r)
end
theorem dpa_len {K : PySem.W.Frag} {H : Hp} : ∀ {vs : List V} {ds : List PyData}, DqAll K H vs ds → vs.length = ds.length
  | _, _, .nil => rfl
  | _, _, .cons _ r => by simp [dpa_len r]
theorem dpa_get {K : PySem.W.Frag} {H : Hp} : ∀ {vs : List V} {ds : List PyData} {i : Nat} {v : V}, DqAll K H vs ds → vs[i]? = some v → ∃ d, ds[i]? = some d ∧ Dq K H v d
  | _, _, _, _, .nil, e => by simp at e
  | _, _, 0, v, .cons a r, e => by simp at e; subst e; exact ⟨_, rfl, a⟩
  | _, _, i + 1, v, .cons a r, e => by
    obtain ⟨d, h1, h2⟩ := dpa_get (i := i) (v := v) r (by simpa using e)
    exact ⟨d, by simpa using h1, h2⟩
theorem dpa_get' {K : PySem.W.Frag} {H : Hp} : ∀ {vs : List V} {ds : List PyData} {i : Nat} {d : PyData}, DqAll K H vs ds → ds[i]? = some d → ∃ v, vs[i]? = some v ∧ Dq K H v d
  | _, _, _, _, .nil, e => by simp at e
  | _, _, 0, d, .cons a r, e => by simp at e; subst e; exact ⟨_, rfl, a⟩
  | _, _, i + 1, d, .cons a r, e => by
    obtain ⟨v, h1, h2⟩ := dpa_get' (i := i) (d := d) r (by simpa using e)
    exact ⟨v, by simpa using h1, h2⟩
theorem dpa_append {K : PySem.W.Frag} {H : Hp} : ∀ {vs us : List V} {ds es : List PyData}, DqAll K H vs ds → DqAll K H us es → DqAll K H (vs ++ us) (ds ++ es)
  | _, _, _, _, .nil, s => s
  | _, _, _, _, .cons a r, s => .cons a (dpa_append r s)
theorem dpa_take {K : PySem.W.Frag} {H : Hp} : ∀ {vs : List V} {ds : List PyData} (n : Nat), DqAll K H vs ds → DqAll K H (vs.take n) (ds.take n)
  | _, _, 0, _ => .nil
  | _, _, _ + 1, .nil => .nil
  | _, _, n + 1, .cons a r => .cons a (dpa_take n r)
theorem dpa_drop {K : PySem.W.Frag} {H : Hp} : ∀ {vs : List V} {ds : List PyData} (n : Nat), DqAll K H vs ds → DqAll K H (vs.drop n) (ds.drop n)
  | _, _, 0, r => r
  | _, _, _ + 1, .nil => .nil
  | _, _, n + 1, .cons _ r => dpa_drop n r
theorem dpa_set {K : PySem.W.Frag} {H : Hp} {v : V} {d : PyData} (h : Dq K H v d) : ∀ {vs : List V} {ds : List PyData} (n : Nat), DqAll K H vs ds → DqAll K H (vs.set n v) (ds.set n d)
  | _, _, _, .nil => .nil
  | _, _, 0, .cons _ r => .cons h r
  | _, _, n + 1, .cons a r => .cons a (dpa_set h n r)
theorem dpa_rev {K : PySem.W.Frag} {H : Hp} : ∀ {vs : List V} {ds : List PyData}, DqAll K H vs ds → DqAll K H vs.reverse ds.reverse
  | _, _, .nil => .nil
  | _, _, .cons a r => by
    rw [List.reverse_cons, List.reverse_cons]
    exact dpa_append (dpa_rev r) (.cons a .nil)
theorem dpa_ints {K : PySem.W.Frag} {H : Hp} : ∀ (ns : List Int), DqAll K H (ns.map V.int) (ns.map PyData.int)
  | [] => .nil
  | i :: r => .cons (.int i) (dpa_ints r)

/-! ### the source of draws -/
structure Src where
  cells : List Int
  left : Int
  mixed : Int
  turn : Int
abbrev Zn := Option (Addr × Addr)
def Zm (Z : Zn) (a : Addr) : Prop := ∃ p, Z = some p ∧ (a = p.1 ∨ a = p.2)
def srcDict (y : Addr) (W : Src) : List (Key × V) := [(.inr "cells", .ref y), (.inr "left", .int W.left), (.inr "mixed", .int W.mixed), (.inr "turn", .int W.turn)]
def SrcAt (Z : Zn) (W : Src) (H : Hp) : Prop := ∀ p, Z = some p → p.1 ≠ p.2 ∧ H p.1 = some (.dK (srcDict p.2 W)) ∧ H p.2 = some (.lst (W.cells.map V.int))

/-! ### slots -/
inductive Sl where
  | no | d (x : PyData) | own (xs : List PyData) | src
abbrev Rho := List Sl
/-- where a def runs: the written part, the source, the frozen and the whole heap at its entry -/
structure Ct where
  K : PySem.W.Frag
  Z : Zn
  F0 : Hp
  H0 : Hp
inductive SlotOk (C : Ct) (F G : Hp) : Sl → Option V → Prop
  | no {o} : SlotOk C F G .no o
  | d {v x} : Dq C.K F v x → SlotOk C F G (.d x) (some v)
  | own {a vs xs} : G a = some (.lst vs) → F a = none → C.H0 a = none → DqAll C.K F vs xs → SlotOk C F G (.own xs) (some (.ref a))
  | src {p} : C.Z = some p → SlotOk C F G .src (some (.ref p.1))
structure Rel (C : Ct) (ρ : Rho) (W : Src) (F G : Hp) (σ : L2.St) (H : Hp) : Prop where
  fg : Same F G
  gh : Same G H
  src : SrcAt C.Z W H
  gz : ∀ a, Zm C.Z a → G a = none
  b1 : Same C.F0 F
  b2 : ∀ a o, C.H0 a = some o → ¬ Zm C.Z a → H a = some o
  b3 : ∀ a o, C.H0 a = some o → C.F0 a = none → F a = none
  len : ρ.length = σ.length
  sl : ∀ (i : Nat) (s : Sl), ρ[i]? = some s → ∃ o, σ[i]? = some o ∧ SlotOk C F G s o
  ap : ∀ (i j : Nat) (a : Addr) (xs ys : List PyData), ρ[i]? = some (.own xs) → ρ[j]? = some (.own ys) → σ[i]? = some (some (.ref a)) → σ[j]? = some (some (.ref a)) → i = j
/-- growth within an expression: what stood stands, but the source; what is new is new -/
structure Ext (Z : Zn) (F G H F' G' H' : Hp) : Prop where
  f : Same F F'
  g : Same G G'
  fn : ∀ a o, H a = some o → F a = none → F' a = none
  gn : ∀ a o, H a = some o → G a = none → G' a = none
  h : ∀ a o, H a = some o → ¬ Zm Z a → H' a = some o
  z : ∀ a, Zm Z a → H a ≠ none → H' a ≠ none
theorem Ext.refl (Z : Zn) (F G H : Hp) : Ext Z F G H F G H := ⟨Same.refl _, Same.refl _, fun _ _ _ h => h, fun _ _ _ h => h, fun _ _ h _ => h, fun _ _ h => h⟩
theorem Ext.there {Z : Zn} {F G H F' G' H' : Hp} (e : Ext Z F G H F' G' H') {a : Addr} {o : HO} (h : H a = some o) : ∃ o', H' a = some o' := by
  by_cases hz : Zm Z a
  · have q := e.z a hz (by rw [h]; simp)
    cases r : H' a with
    | none => exact absurd r q
    | some o' => exact ⟨o', rfl⟩
  · exact ⟨o, e.h a o h hz⟩
theorem Ext.trans {Z : Zn} {F G H F1 G1 H1 F2 G2 H2 : Hp} (a : Ext Z F G H F1 G1 H1) (b : Ext Z F1 G1 H1 F2 G2 H2) : Ext Z F G H F2 G2 H2 :=
  ⟨a.f.trans b.f, a.g.trans b.g,
   fun c o h n => let ⟨o', h'⟩ := a.there h; b.fn c o' h' (a.fn c o h n),
   fun c o h n => let ⟨o', h'⟩ := a.there h; b.gn c o' h' (a.gn c o h n),
   fun c o h n => b.h c o (a.h c o h n) n, fun c hz h => b.z c hz (a.z c hz h)⟩

section
variable {C : Ct} {ρ : Rho} {W : Src} {F G H F' G' H' : Hp} {σ : L2.St}
theorem Rel.fh (R : Rel C ρ W F G σ H) : Same F H := R.fg.trans R.gh
theorem Rel.zh (R : Rel C ρ W F G σ H) {a : Addr} (hz : Zm C.Z a) : ∃ o, H a = some o := by
  obtain ⟨p, hp, e | e⟩ := hz
  · subst e; exact ⟨_, (R.src p hp).2.1⟩
  · subst e; exact ⟨_, (R.src p hp).2.2⟩
theorem SlotOk.ext {s : Sl} {o : Option V} (h : SlotOk C F G s o) (gh : Same G H) (e : Ext C.Z F G H F' G' H') : SlotOk C F' G' s o := by
  cases h with
  | no => exact .no
  | d h => exact .d (dp_same e.f h)
  | own h1 h2 h3 h4 => exact .own (e.g _ _ h1) (e.fn _ _ (gh _ _ h1) h2) h3 (dpa_same e.f h4)
  | src h => exact .src h
theorem Rel.ext {W' : Src} (R : Rel C ρ W F G σ H) (e : Ext C.Z F G H F' G' H') (fg : Same F' G') (gh : Same G' H') (src : SrcAt C.Z W' H') : Rel C ρ W' F' G' σ H' where
  fg := fg
  gh := gh
  src := src
  gz := fun a hz => let ⟨o, h⟩ := R.zh hz; e.gn a o h (R.gz a hz)
  b1 := R.b1.trans e.f
  b2 := fun a o h hz => e.h a o (R.b2 a o h hz) hz
  b3 := fun a o h n => by
    by_cases hz : Zm C.Z a
    · obtain ⟨o', h'⟩ := R.zh hz
      exact e.fn a o' h' (R.b3 a o h n)
    · exact e.fn a o (R.b2 a o h hz) (R.b3 a o h n)
  len := R.len
  sl := fun i s h => let ⟨o, h1, h2⟩ := R.sl i s h; ⟨o, h1, h2.ext R.gh e⟩
  ap := R.ap
theorem same_none {H : Hp} {p : Addr} {o : HO} (n : H p = none) : Same H (upd H p o) := fun b x e => by
  rw [upd_ne (ne_of_none e n)]
  exact e
theorem srcAt_upd {Z : Zn} {p : Addr} {o : HO} (h : SrcAt Z W H) (n : H p = none) : SrcAt Z W (upd H p o) := fun q hq => by
  obtain ⟨a, b, c⟩ := h q hq
  exact ⟨a, same_none n _ _ b, same_none n _ _ c⟩
/-- a new object that is frozen at once -/
theorem Rel.newF (R : Rel C ρ W F G σ H) {p : Addr} (o : HO) (n : H p = none) : Ext C.Z F G H (upd F p o) (upd G p o) (upd H p o) ∧ Rel C ρ W (upd F p o) (upd G p o) σ (upd H p o) := by
  have gn : G p = none := R.gh.free n
  have fn : F p = none := R.fg.free gn
  have e : Ext C.Z F G H (upd F p o) (upd G p o) (upd H p o) :=
    ⟨same_none fn, same_none gn, fun a x h q => by rw [upd_ne (ne_of_none h n)]; exact q, fun a x h q => by rw [upd_ne (ne_of_none h n)]; exact q, fun a x h _ => same_none n a x h, fun a _ h => by
      cases q : H a with
      | none => exact absurd q h
      | some x => rw [same_none n a x q]; simp⟩
  refine ⟨e, R.ext e (fun b x h => ?_) (fun b x h => ?_) (srcAt_upd R.src n)⟩
  · by_cases hb : b = p
    · subst hb; rw [upd_same] at h ⊢; exact h
    · rw [upd_ne hb] at h ⊢; exact R.fg b x h
  · by_cases hb : b = p
    · subst hb; rw [upd_same] at h ⊢; exact h
    · rw [upd_ne hb] at h ⊢; exact R.gh b x h
/-- a new object that may yet change -/
theorem Rel.newG (R : Rel C ρ W F G σ H) {p : Addr} (o : HO) (n : H p = none) : Ext C.Z F G H F (upd G p o) (upd H p o) ∧ Rel C ρ W F (upd G p o) σ (upd H p o) := by
  have gn : G p = none := R.gh.free n
  have e : Ext C.Z F G H F (upd G p o) (upd H p o) :=
    ⟨Same.refl _, same_none gn, fun a x h q => q, fun a x h q => by rw [upd_ne (ne_of_none h n)]; exact q, fun a x h _ => same_none n a x h, fun a _ h => by
      cases q : H a with
      | none => exact absurd q h
      | some x => rw [same_none n a x q]; simp⟩
  refine ⟨e, R.ext e (R.fg.trans (same_none gn)) (fun b x h => ?_) (srcAt_upd R.src n)⟩
  by_cases hb : b = p
  · subst hb; rw [upd_same] at h ⊢; exact h
  · rw [upd_ne hb] at h ⊢; exact R.gh b x h
/-- an object of the heap that is not in G (a comprehension's list) changes -/
theorem Rel.side (R : Rel C ρ W F G σ H) {p : Addr} (o : HO) (gp : G p = none) (zp : ¬ Zm C.Z p) (h0 : C.H0 p = none) : Rel C ρ W F G σ (upd H p o) where
  fg := R.fg
  gh := fun b x h => by rw [upd_ne (ne_of_none h gp)]; exact R.gh b x h
  src := fun q hq => by
    obtain ⟨a, b, c⟩ := R.src q hq
    refine ⟨a, ?_, ?_⟩
    · rw [upd_ne (fun z => zp ⟨q, hq, .inl z.symm⟩)]; exact b
    · rw [upd_ne (fun z => zp ⟨q, hq, .inr z.symm⟩)]; exact c
  gz := R.gz
  b1 := R.b1
  b2 := fun a x h hz => by rw [upd_ne (ne_of_none h h0)]; exact R.b2 a x h hz
  b3 := R.b3
  len := R.len
  sl := R.sl
  ap := R.ap
/-- a slot is set to frozen data -/
theorem Rel.set (R : Rel C ρ W F G σ H) {v : V} {x : PyData} (i : Nat) (h : Dq C.K F v x) : Rel C (ρ.set i (.d x)) W F G (σ.set i (some v)) H where
  fg := R.fg
  gh := R.gh
  src := R.src
  gz := R.gz
  b1 := R.b1
  b2 := R.b2
  b3 := R.b3
  len := by rw [List.length_set, List.length_set]; exact R.len
  sl := fun j s e => by
    by_cases hj : i = j
    · subst hj
      have hl : i < ρ.length := by
        have := (List.getElem?_eq_some_iff.mp e).1
        simpa using this
      rw [List.getElem?_set_self hl] at e
      have e' := Option.some.inj e
      subst e'
      exact ⟨some v, List.getElem?_set_self (R.len ▸ hl), .d h⟩
    · rw [List.getElem?_set_ne hj] at e ⊢
      exact R.sl j s e
  ap := fun j k a xs ys e1 e2 e3 e4 => by
    have hj : i ≠ j := fun z => by
      subst z
      have hl : i < ρ.length := by simpa using (List.getElem?_eq_some_iff.mp e1).1
      rw [List.getElem?_set_self hl] at e1
      cases e1
    have hk : i ≠ k := fun z => by
      subst z
      have hl : i < ρ.length := by simpa using (List.getElem?_eq_some_iff.mp e2).1
      rw [List.getElem?_set_self hl] at e2
      cases e2
    rw [List.getElem?_set_ne hj] at e1 e3
    rw [List.getElem?_set_ne hk] at e2 e4
    exact R.ap j k a xs ys e1 e2 e3 e4
/-- a slot is set to a list of its own -/
theorem Rel.setOwn (R : Rel C ρ W F G σ H) {a : Addr} {vs : List V} {xs : List PyData} (i : Nat) (h1 : G a = some (.lst vs)) (h2 : F a = none) (h3 : C.H0 a = none) (h4 : DqAll C.K F vs xs)
    (no : ∀ (j : Nat) (ys : List PyData), ρ[j]? = some (.own ys) → σ[j]? = some (some (.ref a)) → j = i) : Rel C (ρ.set i (.own xs)) W F G (σ.set i (some (.ref a))) H where
  fg := R.fg
  gh := R.gh
  src := R.src
  gz := R.gz
  b1 := R.b1
  b2 := R.b2
  b3 := R.b3
  len := by rw [List.length_set, List.length_set]; exact R.len
  sl := fun j s e => by
    by_cases hj : i = j
    · subst hj
      have hl : i < ρ.length := by
        have := (List.getElem?_eq_some_iff.mp e).1
        simpa using this
      rw [List.getElem?_set_self hl] at e
      have e' := Option.some.inj e
      subst e'
      exact ⟨some (.ref a), List.getElem?_set_self (R.len ▸ hl), .own h1 h2 h3 h4⟩
    · rw [List.getElem?_set_ne hj] at e ⊢
      exact R.sl j s e
  ap := fun j k b ys zs e1 e2 e3 e4 => by
    have hlj : j < ρ.length := by simpa using (List.getElem?_eq_some_iff.mp e1).1
    have hlk : k < ρ.length := by simpa using (List.getElem?_eq_some_iff.mp e2).1
    by_cases hj : i = j
    · by_cases hk : i = k
      · omega
      · subst hj
        rw [List.getElem?_set_self (R.len ▸ hlj)] at e3
        have e3' : a = b := by
          have := Option.some.inj (Option.some.inj e3)
          exact V.ref.inj this
        rw [List.getElem?_set_ne hk] at e2 e4
        exact (no k zs e2 (e3' ▸ e4)).symm
    · by_cases hk : i = k
      · subst hk
        rw [List.getElem?_set_self (R.len ▸ hlk)] at e4
        have e4' : a = b := by
          have := Option.some.inj (Option.some.inj e4)
          exact V.ref.inj this
        rw [List.getElem?_set_ne hj] at e1 e3
        exact no j ys e1 (e4' ▸ e3)
      · rw [List.getElem?_set_ne hj] at e1 e3
        rw [List.getElem?_set_ne hk] at e2 e4
        exact R.ap j k b ys zs e1 e2 e3 e4
end

/-! ### modes, readings of plain functions -/
inductive Mode | va | vw | nw
def Ow (C : Ct) (F G : Hp) (v : V) (d : PyData) : Prop := ∃ a vs xs, v = .ref a ∧ d = .list xs ∧ G a = some (.lst vs) ∧ DqAll C.K F vs xs
def isL : PyData → Bool
  | .list _ => true
  | _ => false
def Res (m : Mode) (C : Ct) (F G H0 : Hp) (v : V) (d : PyData) : Prop := match m with
  | .va => Dq C.K F v d
  | .vw => Dq C.K F v d ∨ Ow C F G v d
  | .nw => (isL d = false ∧ Dq C.K F v d) ∨ ∃ a vs xs, v = .ref a ∧ d = .list xs ∧ G a = some (.lst vs) ∧ F a = none ∧ H0 a = none ∧ DqAll C.K F vs xs
abbrev Ex := Rho → Src → Option (PyData × Src)
abbrev Tx := Rho → Src → Option (Bool × Src)
abbrev Lx := Rho → Src → Option (List PyData × Src)
def TX (C : Ct) (m : Mode) (f : Ex) : TE := fun σ H Q => ∃ ρ W F G d W', Rel C ρ W F G σ H ∧ f ρ W = some (d, W') ∧
  ∀ v F' G' H', Ext C.Z F G H F' G' H' → Rel C ρ W' F' G' σ H' → Res m C F' G' H v d → Q v H'
def TB (C : Ct) (f : Tx) : TT := fun σ H Q => ∃ ρ W F G b W', Rel C ρ W F G σ H ∧ f ρ W = some (b, W') ∧
  ∀ F' G' H', Ext C.Z F G H F' G' H' → Rel C ρ W' F' G' σ H' → Q b H'
/-- a list of values, all frozen -/
def TL (C : Ct) (f : Lx) : TA := fun σ H Q => ∃ ρ W F G ds W', Rel C ρ W F G σ H ∧ f ρ W = some (ds, W') ∧
  ∀ vs F' G' H', Ext C.Z F G H F' G' H' → Rel C ρ W' F' G' σ H' → DqAll C.K F' vs ds → Q vs H'
theorem pe_weak {X : Cx} {e : Expr} {t t' : TE} (h : PE X e t) (w : ∀ σ H Q, t' σ H Q → t σ H Q) : PE X e t' := ⟨fun p s σ H Q I q => h.run p s σ H Q I (w σ H Q q)⟩
theorem pt_weak {X : Cx} {e : Expr} {t t' : TT} (h : PT X e t) (w : ∀ σ H Q, t' σ H Q → t σ H Q) : PT X e t' := ⟨fun p s σ H Q I q => h.run p s σ H Q I (w σ H Q q)⟩
theorem pa_weak {X : Cx} {es : List Expr} {t t' : TA} (h : PA X es t) (w : ∀ σ H Q, t' σ H Q → t σ H Q) : PA X es t' := ⟨fun o p s σ H Q I q => h.run o p s σ H Q I (w σ H Q q)⟩
theorem ps_weak {X : Cx} {e : Stmt} {t t' : TS} (h : PS X e t) (w : ∀ D σ H, t' D σ H → t D σ H) : PS X e t' := ⟨fun p s σ H D I q => h.run p s σ H D I (w D σ H q)⟩
theorem pss_weak {X : Cx} {e : List Stmt} {t t' : TS} (h : PSs X e t) (w : ∀ D σ H, t' D σ H → t D σ H) : PSs X e t' := ⟨fun p s σ H D I q => h.run p s σ H D I (w D σ H q)⟩
theorem res_va_vw {C : Ct} {F G H0 : Hp} {v : V} {d : PyData} (h : Res .va C F G H0 v d) : Res .vw C F G H0 v d := .inl h
theorem res_nw_vw {C : Ct} {F G H0 : Hp} {v : V} {d : PyData} (h : Res .nw C F G H0 v d) : Res .vw C F G H0 v d := by
  rcases h with ⟨_, h⟩ | ⟨a, vs, xs, e1, e2, h1, _, _, h2⟩
  · exact .inl h
  · exact .inr ⟨a, vs, xs, e1, e2, h1, h2⟩
theorem tx_vw {X : Cx} {C : Ct} {e : Expr} {f : Ex} {m : Mode} (h : PE X e (TX C m f)) : PE X e (TX C .vw f) := pe_weak h fun σ H Q ⟨ρ, W, F, G, d, W', R, ef, q⟩ =>
  ⟨ρ, W, F, G, d, W', R, ef, fun v F' G' H' x R' r => q v F' G' H' x R' (match m, r with
    | .va, r => .inl r
    | .vw, r => r
    | .nw, r => res_nw_vw r)⟩
/-- what is new is frozen -/
theorem tx_va {X : Cx} {C : Ct} {e : Expr} {f : Ex} (h : PE X e (TX C .nw f)) : PE X e (TX C .va f) := pe_weak h fun σ H Q ⟨ρ, W, F, G, d, W', R, ef, q⟩ => by
  refine ⟨ρ, W, F, G, d, W', R, ef, fun v F' G' H' x R' r => ?_⟩
  rcases r with ⟨_, r⟩ | ⟨a, vs, xs, rfl, rfl, h1, h2, h3, h4⟩
  · exact q v F' G' H' x R' r
  · have e2 : Ext C.Z F G H (upd F' a (.lst vs)) G' H' := ⟨x.f.trans (same_none h2), x.g, fun b o hb n => by
      rw [upd_ne (ne_of_none hb h3)]; exact x.fn b o hb n, x.gn, x.h, x.z⟩
    refine q _ _ G' H' e2 (R.ext e2 (fun b o hb => ?_) R'.gh R'.src) ?_
    · by_cases z : b = a
      · subst z; rw [upd_same] at hb; rw [h1]; exact hb
      · rw [upd_ne z] at hb; exact R'.fg b o hb
    · exact .lst upd_same (dpa_same (same_none h2) h4)
theorem Res.gdp {C : Ct} {m : Mode} {F G H0 : Hp} {v : V} {d : PyData} (h : Res m C F G H0 v d) (fg : Same F G) : Dq C.K G v d := by
  have ow : Ow C F G v d → Dq C.K G v d := fun ⟨a, vs, xs, e1, e2, h1, h2⟩ => by
    rw [e1, e2]
    exact .lst h1 (dpa_same fg h2)
  match m, h with
  | .va, h => exact dp_same fg h
  | .vw, .inl h => exact dp_same fg h
  | .vw, .inr h => exact ow h
  | .nw, .inl ⟨_, h⟩ => exact dp_same fg h
  | .nw, .inr ⟨a, vs, xs, e1, e2, h1, _, _, h2⟩ => exact ow ⟨a, vs, xs, e1, e2, h1, h2⟩
end Dv
set_option Elab.async false
set_option linter.all false
set_option maxRecDepth 100000
set_option maxHeartbeats 1000000
/-! Part 3: expressions: names, constants, operators, comparisons, displays, built-in calls, by what they do to data. -/
namespace Dv
open PySem PySem.Spec PyProof.Rows L2

/-- a heap grown by new objects -/
structure Gr (F G H F' G' H' : Hp) : Prop where
  f : Same F F'
  g : Same G G'
  h : Same H H'
  fn : ∀ a o, H a = some o → F a = none → F' a = none
  gn : ∀ a o, H a = some o → G a = none → G' a = none
  fg : Same F' G'
  gh : Same G' H'
theorem Gr.refl {F G H : Hp} (fg : Same F G) (gh : Same G H) : Gr F G H F G H := ⟨Same.refl _, Same.refl _, Same.refl _, fun _ _ _ h => h, fun _ _ _ h => h, fg, gh⟩
theorem Gr.ext {Z : Zn} {F G H F' G' H' : Hp} (g : Gr F G H F' G' H') : Ext Z F G H F' G' H' :=
  ⟨g.f, g.g, g.fn, g.gn, fun a o h _ => g.h a o h, fun a _ h => by
    cases q : H a with
    | none => exact absurd q h
    | some o => rw [g.h a o q]; simp⟩
theorem Rel.gr {C : Ct} {ρ : Rho} {W : Src} {F G H F' G' H' : Hp} {σ : L2.St} (R : Rel C ρ W F G σ H) (g : Gr F G H F' G' H') : Rel C ρ W F' G' σ H' :=
  R.ext g.ext g.fg g.gh fun p hp => let ⟨a, b, c⟩ := R.src p hp; ⟨a, g.h _ _ b, g.h _ _ c⟩
theorem Gr.newF {F G H : Hp} (fg : Same F G) (gh : Same G H) {p : Addr} (o : HO) (n : H p = none) : Gr F G H (upd F p o) (upd G p o) (upd H p o) := by
  have gn : G p = none := gh.free n
  have fn : F p = none := fg.free gn
  refine ⟨same_none fn, same_none gn, same_none n, fun a x h q => by rw [upd_ne (ne_of_none h n)]; exact q, fun a x h q => by rw [upd_ne (ne_of_none h n)]; exact q, fun b x h => ?_, fun b x h => ?_⟩
  · by_cases hb : b = p
    · subst hb; rw [upd_same] at h ⊢; exact h
    · rw [upd_ne hb] at h ⊢; exact fg b x h
  · by_cases hb : b = p
    · subst hb; rw [upd_same] at h ⊢; exact h
    · rw [upd_ne hb] at h ⊢; exact gh b x h
theorem Gr.newG {F G H : Hp} (fg : Same F G) (gh : Same G H) {p : Addr} (o : HO) (n : H p = none) : Gr F G H F (upd G p o) (upd H p o) := by
  have gn : G p = none := gh.free n
  refine ⟨Same.refl _, same_none gn, same_none n, fun a x h q => q, fun a x h q => by rw [upd_ne (ne_of_none h n)]; exact q, fg.trans (same_none gn), fun b x h => ?_⟩
  by_cases hb : b = p
  · subst hb; rw [upd_same] at h ⊢; exact h
  · rw [upd_ne hb] at h ⊢; exact gh b x h

/-- what a value shows -/
def Vw (C : Ct) (F G : Hp) (v : V) (d : PyData) : Prop := Dq C.K F v d ∨ Ow C F G v d
theorem Res.vw {C : Ct} {m : Mode} {F G H0 : Hp} {v : V} {d : PyData} (h : Res m C F G H0 v d) : Vw C F G v d := match m, h with
  | .va, h => .inl h
  | .vw, h => h
  | .nw, h => res_nw_vw h
theorem Vw.dp {C : Ct} {F G : Hp} {v : V} {d : PyData} (h : Vw C F G v d) (fg : Same F G) : Dq C.K G v d := Res.gdp (m := .vw) (H0 := F) h fg
theorem Vw.ext {C : Ct} {F G F' G' : Hp} {v : V} {d : PyData} (h : Vw C F G v d) (f : Same F F') (g : Same G G') : Vw C F' G' v d := by
  rcases h with h | ⟨a, vs, xs, e1, e2, h1, h2⟩
  · exact .inl (dp_same f h)
  · exact .inr ⟨a, vs, xs, e1, e2, g _ _ h1, dpa_same f h2⟩
inductive VwAll (C : Ct) (F G : Hp) : List V → List PyData → Prop
  | nil : VwAll C F G [] []
  | cons {v d vs ds} : Vw C F G v d → VwAll C F G vs ds → VwAll C F G (v :: vs) (d :: ds)
theorem VwAll.ext {C : Ct} {F G F' G' : Hp} : ∀ {vs : List V} {ds : List PyData}, VwAll C F G vs ds → Same F F' → Same G G' → VwAll C F' G' vs ds
  | _, _, .nil, _, _ => .nil
  | _, _, .cons a r, f, g => .cons (a.ext f g) (r.ext f g)
/-- a list or tuple that is shown: its items are frozen -/
theorem Vw.list {C : Ct} {F G H : Hp} {v : V} {xs : List PyData} (h : Vw C F G v (.list xs)) (fg : Same F G) (gh : Same G H) : ∃ a vs, v = .ref a ∧ H a = some (.lst vs) ∧ DqAll C.K F vs xs := by
  rcases h with h | ⟨a, vs, ys, e1, e2, h1, h2⟩
  · cases h with
    | lst h r => exact ⟨_, _, rfl, gh _ _ (fg _ _ h), r⟩
  · cases e2
    exact ⟨a, vs, e1, gh _ _ h1, h2⟩
theorem Vw.tuple {C : Ct} {F G H : Hp} {v : V} {xs : List PyData} (h : Vw C F G v (.tuple xs)) (fg : Same F G) (gh : Same G H) : ∃ a vs, v = .ref a ∧ SqT C.K H a vs ∧ DqAll C.K F vs xs := by
  rcases h with h | ⟨a, vs, ys, e1, e2, h1, h2⟩
  · cases h with
    | tup h r => exact ⟨_, _, rfl, sqt_same gh (sqt_same fg h), r⟩
  · cases e2
theorem Vw.int {C : Ct} {F G : Hp} {v : V} {i : Int} (h : Vw C F G v (.int i)) : v = .int i := by
  rcases h with h | ⟨a, vs, ys, e1, e2, h1, h2⟩
  · cases h; rfl
  · cases e2
theorem Vw.bool {C : Ct} {F G : Hp} {v : V} {i : Bool} (h : Vw C F G v (.bool i)) : v = .bl i := by
  rcases h with h | ⟨a, vs, ys, e1, e2, h1, h2⟩
  · cases h; rfl
  · cases e2
theorem Vw.str {C : Ct} {F G : Hp} {v : V} {i : Str} (h : Vw C F G v (.str i)) : v = .str i := by
  rcases h with h | ⟨a, vs, ys, e1, e2, h1, h2⟩
  · cases h; rfl
  · cases e2
theorem Vw.none {C : Ct} {F G : Hp} {v : V} (h : Vw C F G v .none) : v = .non := by
  rcases h with h | ⟨a, vs, ys, e1, e2, h1, h2⟩
  · cases h; rfl
  · cases e2

/-- what an operation on data asks of the heap and gives -/
def End1 (C : Ct) (m : Mode) (F G H : Hp) (r : PyData) (Q : VK) : Prop := ∀ v F' G' H', Gr F G H F' G' H' → Res m C F' G' H v r → Q v H'
def RD1 (C : Ct) (m : Mode) (op : PyData → Option PyData) : V → Hp → VK → Prop := fun x H Q => ∃ F G d r, Same F G ∧ Same G H ∧ Vw C F G x d ∧ op d = some r ∧ End1 C m F G H r Q
def RD2 (C : Ct) (m : Mode) (op : PyData → PyData → Option PyData) : R2 := fun x y H Q => ∃ F G d e r, Same F G ∧ Same G H ∧ Vw C F G x d ∧ Vw C F G y e ∧ op d e = some r ∧ End1 C m F G H r Q
def RDn (C : Ct) (m : Mode) (op : List PyData → Option PyData) : List V → Hp → VK → Prop := fun xs H Q => ∃ F G ds r, Same F G ∧ Same G H ∧ VwAll C F G xs ds ∧ op ds = some r ∧ End1 C m F G H r Q
/-- an end by a plain value -/
theorem End1.plain {C : Ct} {F G H : Hp} {r : PyData} {Q : VK} (h : End1 C .va F G H r Q) (fg : Same F G) (gh : Same G H) {v : V} (d : Dq C.K F v r) : Q v H :=
  h v F G H (Gr.refl fg gh) d
theorem End1.plainN {C : Ct} {F G H : Hp} {r : PyData} {Q : VK} (h : End1 C .nw F G H r Q) (fg : Same F G) (gh : Same G H) {v : V} (d : Dq C.K F v r) (hl : isL r = false := by rfl) : Q v H :=
  h v F G H (Gr.refl fg gh) (.inl ⟨hl, d⟩)
theorem End1.tup {C : Ct} {m : Mode} {F G H : Hp} {ds : List PyData} {Q : VK} (h : End1 C m F G H (.tuple ds) Q) (fg : Same F G) (gh : Same G H) {vs : List V} (d : DqAll C.K F vs ds) {p : Addr} (n : H p = none) : Q (.ref p) (upd H p (.tup vs)) := by
  have fn : F p = none := fg.free (gh.free n)
  have q : Dq C.K (upd F p (.tup vs)) (.ref p) (.tuple ds) := .tup (SqT.of upd_same) (dpa_same (same_none fn) d)
  exact h _ _ _ _ (Gr.newF fg gh (.tup vs) n) (match m with
    | .va => q
    | .vw => .inl q
    | .nw => .inl ⟨rfl, q⟩)
theorem End1.lst {C : Ct} {F G H : Hp} {ds : List PyData} {Q : VK} (h : End1 C .nw F G H (.list ds) Q) (fg : Same F G) (gh : Same G H) {vs : List V} (d : DqAll C.K F vs ds) {p : Addr} (n : H p = none) : Q (.ref p) (upd H p (.lst vs)) :=
  h _ _ _ _ (Gr.newG fg gh (.lst vs) n) (.inr ⟨p, vs, ds, rfl, rfl, upd_same, fg.free (gh.free n), n, d⟩)

theorem Res.back {C : Ct} {Z : Zn} {m : Mode} {F G H F1 G1 H1 F' G' : Hp} {v : V} {d : PyData} (h : Res m C F' G' H1 v d) (x : Ext Z F G H F1 G1 H1) : Res m C F' G' H v d := by
  match m, h with
  | .va, h => exact h
  | .vw, h => exact h
  | .nw, .inl h => exact .inl h
  | .nw, .inr ⟨a', vs, xs, q1, q2, q3, q4, q5, q6⟩ =>
    refine .inr ⟨a', vs, xs, q1, q2, q3, q4, ?_, q6⟩
    cases hh : H a' with
    | none => rfl
    | some o =>
      obtain ⟨o', h'⟩ := x.there hh
      rw [q5] at h'; cases h'

/-! ### expressions -/
def eC (d : PyData) : Ex := fun _ W => some (d, W)
def eVar (i : Nat) : Ex := fun ρ W => match ρ[i]? with
  | some (.d x) => some (x, W)
  | some (.own xs) => some (.list xs, W)
  | _ => none
def eVal (i : Nat) : Ex := fun ρ W => match ρ[i]? with
  | some (.d x) => some (x, W)
  | _ => none
def e1 (op : PyData → Option PyData) (a : Ex) : Ex := fun ρ W => match a ρ W with
  | some (x, W1) => (op x).map fun r => (r, W1)
  | none => none
def e2 (op : PyData → PyData → Option PyData) (a b : Ex) : Ex := fun ρ W => match a ρ W with
  | some (x, W1) => match b ρ W1 with
    | some (y, W2) => (op x y).map fun r => (r, W2)
    | none => none
  | none => none
def eN (op : List PyData → Option PyData) (a : Lx) : Ex := fun ρ W => match a ρ W with
  | some (xs, W1) => (op xs).map fun r => (r, W1)
  | none => none
def lNil : Lx := fun _ W => some ([], W)
def lCons (a : Ex) (r : Lx) : Lx := fun ρ W => match a ρ W with
  | some (x, W1) => match r ρ W1 with
    | some (xs, W2) => some (x :: xs, W2)
    | none => none
  | none => none
def eIf (t : Tx) (a b : Ex) : Ex := fun ρ W => match t ρ W with
  | some (true, W1) => a ρ W1
  | some (false, W1) => b ρ W1
  | none => none

theorem e2_some {f : PyData → PyData → Option PyData} {fa fb : Ex} {ρ : Rho} {W W' : Src} {d : PyData} (h : e2 f fa fb ρ W = some (d, W')) : ∃ x W1 y, fa ρ W = some (x, W1) ∧ fb ρ W1 = some (y, W') ∧ f x y = some d := by
  unfold e2 at h
  cases ha : fa ρ W with
  | none => rw [ha] at h; cases h
  | some p =>
    obtain ⟨x, W1⟩ := p
    rw [ha] at h
    cases hb : fb ρ W1 with
    | none => simp only [hb] at h; cases h
    | some p =>
      obtain ⟨y, W2⟩ := p
      simp only [hb] at h
      cases hop : f x y with
      | none => rw [hop] at h; cases h
      | some r =>
        rw [hop] at h
        cases h
        exact ⟨x, W1, y, rfl, hb, hop⟩
section
variable {X : Cx} {C : Ct} {m : Mode} {a b : Expr} {fa fb : Ex} {pos : Pos}
theorem x_var {i : Nat} {x : Str} (hN : X.N[i]? = some x) (hv : Vis X.env.scope x) (hd : (x == ("__debug__" : Str)) = false) (hcd : (x == ("__classdict__" : Str)) = false) : PE X (.Name x pos) (TX C .vw (eVar i)) := by
  refine pe_weak (pe_var hN hv hd hcd) fun σ H Q ⟨ρ, W, F, G, d, W', R, ef, q⟩ => ?_
  unfold eVar at ef
  cases hs : ρ[i]? with
  | none => rw [hs] at ef; cases ef
  | some s =>
    rw [hs] at ef
    obtain ⟨o, h1, h2⟩ := R.sl i s hs
    cases s with
    | no => cases ef
    | src => cases ef
    | d x =>
      cases ef
      cases h2 with
      | d h => exact ⟨_, h1, q _ F G H (Ext.refl ..) R (.inl h)⟩
    | own xs =>
      cases ef
      cases h2 with
      | own g1 g2 g3 g4 => exact ⟨_, h1, q _ F G H (Ext.refl ..) R (.inr ⟨_, _, _, rfl, rfl, g1, g4⟩)⟩
theorem x_val {i : Nat} {x : Str} (hN : X.N[i]? = some x) (hv : Vis X.env.scope x) (hd : (x == ("__debug__" : Str)) = false) (hcd : (x == ("__classdict__" : Str)) = false) : PE X (.Name x pos) (TX C .va (eVal i)) := by
  refine pe_weak (pe_var hN hv hd hcd) fun σ H Q ⟨ρ, W, F, G, d, W', R, ef, q⟩ => ?_
  unfold eVal at ef
  cases hs : ρ[i]? with
  | none => rw [hs] at ef; cases ef
  | some s =>
    rw [hs] at ef
    obtain ⟨o, h1, h2⟩ := R.sl i s hs
    cases s with
    | no => cases ef
    | src => cases ef
    | own xs => cases ef
    | d x =>
      cases ef
      cases h2 with
      | d h => exact ⟨_, h1, q _ F G H (Ext.refl ..) R h⟩
theorem x_const {e : Expr} {v : V} {d : PyData} (h : PE X e (tC v)) (hd : ∀ F, Dq C.K F v d) : PE X e (TX C .va (eC d)) :=
  pe_weak h fun σ H Q ⟨ρ, W, F, G, d', W', R, ef, q⟩ => by cases ef; exact q v F G H (Ext.refl ..) R (hd F)
theorem x_2 {op : Operator} {f : PyData → PyData → Option PyData} {m1 m2 : Mode} (ho : OpR X (binaryOp op) (RD2 C m f)) (ha : PE X a (TX C m1 fa)) (hb : PE X b (TX C m2 fb)) : PE X (.BinOp a op b pos) (TX C m (e2 f fa fb)) := by
  refine pe_weak (pe_op ho ha hb) fun σ H Q ⟨ρ, W, F, G, d, W', R, ef, q⟩ => ?_
  unfold e2 at ef
  cases ha : fa ρ W with
  | none => rw [ha] at ef; cases ef
  | some p =>
    obtain ⟨x, W1⟩ := p
    rw [ha] at ef
    cases hb : fb ρ W1 with
    | none => simp only [hb] at ef; cases ef
    | some p =>
      obtain ⟨y, W2⟩ := p
      simp only [hb] at ef
      cases hop : f x y with
      | none => rw [hop] at ef; cases ef
      | some r =>
        rw [hop] at ef
        cases ef
        refine ⟨ρ, W, F, G, x, W1, R, ha, fun v F1 G1 H1 x1 R1 r1 => ⟨ρ, W1, F1, G1, y, _, R1, hb, fun v2 F2 G2 H2 x2 R2 r2 => ?_⟩⟩
        refine ⟨F2, G2, x, y, _, R2.fg, R2.gh, r1.vw.ext x2.f x2.g, r2.vw, hop, fun v3 F3 G3 H3 g3 r3 => ?_⟩
        refine q v3 F3 G3 H3 ((x1.trans x2).trans g3.ext) (R2.gr g3) ?_
        exact r3.back (x1.trans x2)

theorem x_un {op : UnaryOp} {f : PyData → Option PyData} {m1 : Mode} (ho : UnR X (unaryOp op) (RD1 C m f)) (ha : PE X a (TX C m1 fa)) : PE X (.UnaryOp op a pos) (TX C m (e1 f fa)) := by
  refine pe_weak (pe_un ho ha) fun σ H Q ⟨ρ, W, F, G, d, W', R, ef, q⟩ => ?_
  unfold e1 at ef
  cases ha : fa ρ W with
  | none => rw [ha] at ef; cases ef
  | some p =>
    obtain ⟨x, W1⟩ := p
    rw [ha] at ef
    cases hop : f x with
    | none => simp only [hop] at ef; cases ef
    | some r =>
      simp only [hop] at ef
      cases ef
      refine ⟨ρ, W, F, G, x, _, R, ha, fun v F1 G1 H1 x1 R1 r1 => ⟨F1, G1, x, _, R1.fg, R1.gh, r1.vw, hop, fun v3 F3 G3 H3 g3 r3 => ?_⟩⟩
      exact q v3 F3 G3 H3 (x1.trans g3.ext) (R1.gr g3) (r3.back x1)
/-! argument lists -/
def TV (C : Ct) (f : Lx) : TA := fun σ H Q => ∃ ρ W F G ds W', Rel C ρ W F G σ H ∧ f ρ W = some (ds, W') ∧
  ∀ vs F' G' H', Ext C.Z F G H F' G' H' → Rel C ρ W' F' G' σ H' → VwAll C F' G' vs ds → Q vs H'
theorem l_nil : PA X [] (TL C lNil) := pa_weak pa_nil fun σ H Q ⟨ρ, W, F, G, ds, W', R, ef, q⟩ => by
  cases ef
  exact q [] F G H (Ext.refl ..) R .nil
theorem v_nil : PA X [] (TV C lNil) := pa_weak pa_nil fun σ H Q ⟨ρ, W, F, G, ds, W', R, ef, q⟩ => by
  cases ef
  exact q [] F G H (Ext.refl ..) R .nil
theorem lCons_some {fa : Ex} {fr : Lx} {ρ : Rho} {W W' : Src} {ds : List PyData} (h : lCons fa fr ρ W = some (ds, W')) : ∃ x W1 xs, fa ρ W = some (x, W1) ∧ fr ρ W1 = some (xs, W') ∧ ds = x :: xs := by
  unfold lCons at h
  cases ha : fa ρ W with
  | none => rw [ha] at h; cases h
  | some p =>
    obtain ⟨x, W1⟩ := p
    rw [ha] at h
    cases hb : fr ρ W1 with
    | none => simp only [hb] at h; cases h
    | some p =>
      obtain ⟨xs, W2⟩ := p
      simp only [hb] at h
      cases h
      exact ⟨x, W1, xs, rfl, hb, rfl⟩
theorem l_cons {es : List Expr} {fr : Lx} (ha : PE X a (TX C .va fa)) (hr : PA X es (TL C fr)) (hs : starEach (a :: es) X.env = (false, eval a X.env) :: starEach es X.env) : PA X (a :: es) (TL C (lCons fa fr)) := by
  refine pa_weak (pa_cons ha hr hs) fun σ H Q ⟨ρ, W, F, G, ds, W', R, ef, q⟩ => ?_
  obtain ⟨x, W1, xs, h1, h2, rfl⟩ := lCons_some ef
  exact ⟨ρ, W, F, G, x, W1, R, h1, fun v F1 G1 H1 x1 R1 r1 => ⟨ρ, W1, F1, G1, xs, W', R1, h2, fun vs F2 G2 H2 x2 R2 r2 => q _ F2 G2 H2 (x1.trans x2) R2 (.cons (dp_same x2.f r1) r2)⟩⟩
theorem v_cons {es : List Expr} {fr : Lx} {m1 : Mode} (ha : PE X a (TX C m1 fa)) (hr : PA X es (TV C fr)) (hs : starEach (a :: es) X.env = (false, eval a X.env) :: starEach es X.env) : PA X (a :: es) (TV C (lCons fa fr)) := by
  refine pa_weak (pa_cons ha hr hs) fun σ H Q ⟨ρ, W, F, G, ds, W', R, ef, q⟩ => ?_
  obtain ⟨x, W1, xs, h1, h2, rfl⟩ := lCons_some ef
  exact ⟨ρ, W, F, G, x, W1, R, h1, fun v F1 G1 H1 x1 R1 r1 => ⟨ρ, W1, F1, G1, xs, W', R1, h2, fun vs F2 G2 H2 x2 R2 r2 => q _ F2 G2 H2 (x1.trans x2) R2 (.cons (r1.vw.ext x2.f x2.g) r2)⟩⟩
theorem eN_some {f : List PyData → Option PyData} {fl : Lx} {ρ : Rho} {W W' : Src} {d : PyData} (h : eN f fl ρ W = some (d, W')) : ∃ xs, fl ρ W = some (xs, W') ∧ f xs = some d := by
  unfold eN at h
  cases ha : fl ρ W with
  | none => rw [ha] at h; cases h
  | some p =>
    obtain ⟨x, W1⟩ := p
    rw [ha] at h
    cases hop : f x with
    | none => simp only [hop] at h; cases h
    | some r =>
      simp only [hop] at h
      cases h
      exact ⟨x, rfl, hop⟩
/-- f(a, ..), f built-in: a function, a class -/
theorem x_callB {x : Str} {p : Pos} {id : String} {es : List Expr} {f : List PyData → Option PyData} {fl : Lx} (hc : CallR X (.builtin id) (RDn C m f)) (hg : Gl X x) (hm : X.mg x = none) (hv : bootBuiltins x = some (.builtin id)) (ha : PA X (a :: es) (TV C fl)) (hn : x ≠ "__name__") (hdb : (x == ("__debug__" : Str)) = false)
    (he : starEach (a :: es) X.env = (false, eval a X.env) :: starEach es X.env) (hpl : (backTo pos (starEach es X.env)).any (·.1) = false) : PE X (.Call (.Name x p) (a :: es) [] pos) (TX C m (eN f fl)) := by
  refine pe_weak (pe_callB hc hg hm hv ha hn hdb he hpl) fun σ H Q ⟨ρ, W, F, G, d, W', R, ef, q⟩ => ?_
  obtain ⟨xs, h1, h2⟩ := eN_some ef
  exact ⟨ρ, W, F, G, xs, W', R, h1, fun vs F1 G1 H1 x1 R1 r1 => ⟨F1, G1, xs, d, R1.fg, R1.gh, r1, h2, fun v3 F3 G3 H3 g3 r3 => q v3 F3 G3 H3 (x1.trans g3.ext) (R1.gr g3) (r3.back x1)⟩⟩
theorem x_callTy {x : Str} {p : Pos} {T : String} {es : List Expr} {f : List PyData → Option PyData} {fl : Lx} (hc : CallR X (.type T) (RDn C m f)) (hg : Gl X x) (hm : X.mg x = none) (hv : bootBuiltins x = some (.type T)) (ha : PA X (a :: es) (TV C fl)) (hn : x ≠ "__name__") (hdb : (x == ("__debug__" : Str)) = false)
    (he : starEach (a :: es) X.env = (false, eval a X.env) :: starEach es X.env) (hpl : (backTo pos (starEach es X.env)).any (·.1) = false) : PE X (.Call (.Name x p) (a :: es) [] pos) (TX C m (eN f fl)) := by
  refine pe_weak (pe_callTy hc hg hm hv ha hn hdb he hpl) fun σ H Q ⟨ρ, W, F, G, d, W', R, ef, q⟩ => ?_
  obtain ⟨xs, h1, h2⟩ := eN_some ef
  exact ⟨ρ, W, F, G, xs, W', R, h1, fun vs F1 G1 H1 x1 R1 r1 => ⟨F1, G1, xs, d, R1.fg, R1.gh, r1, h2, fun v3 F3 G3 H3 g3 r3 => q v3 F3 G3 H3 (x1.trans g3.ext) (R1.gr g3) (r3.back x1)⟩⟩
/-- displays -/
def oTup (ds : List PyData) : Option PyData := if ds.length ≤ sizeLine then some (.tuple ds) else none
def oLst (ds : List PyData) : Option PyData := if ds.length ≤ sizeLine then some (.list ds) else none
theorem x_tup {es : List Expr} {k : Nat} {fl : Lx} (h : PA X es (TL C fl)) : PE X (.Tuple es k pos) (TX C .va (eN oTup fl)) := by
  refine pe_weak (pe_tup h) fun σ H Q ⟨ρ, W, F, G, d, W', R, ef, q⟩ => ?_
  obtain ⟨xs, h1, h2⟩ := eN_some ef
  unfold oTup at h2
  split at h2
  · rename_i hz
    cases h2
    refine ⟨ρ, W, F, G, xs, W', R, h1, fun vs F1 G1 H1 x1 R1 r1 => ⟨by rw [dpa_len r1]; exact hz, fun p n => ?_⟩⟩
    exact End1.tup (m := .va) (C := C) (fun v3 F3 G3 H3 g3 r3 => q v3 F3 G3 H3 (x1.trans g3.ext) (R1.gr g3) r3) R1.fg R1.gh r1 n
  · cases h2
theorem x_lst {es : List Expr} {fl : Lx} (h : PA X es (TL C fl)) : PE X (.List es pos) (TX C .nw (eN oLst fl)) := by
  refine pe_weak (pe_lst h) fun σ H Q ⟨ρ, W, F, G, d, W', R, ef, q⟩ => ?_
  obtain ⟨xs, h1, h2⟩ := eN_some ef
  unfold oLst at h2
  split at h2
  · rename_i hz
    cases h2
    refine ⟨ρ, W, F, G, xs, W', R, h1, fun vs F1 G1 H1 x1 R1 r1 => ⟨by rw [dpa_len r1]; exact hz, fun p n => ?_⟩⟩
    exact End1.lst (C := C) (fun v3 F3 G3 H3 g3 r3 => q v3 F3 G3 H3 (x1.trans g3.ext) (R1.gr g3) (r3.back x1)) R1.fg R1.gh r1 n
  · cases h2
/-! comparisons, tests -/
theorem x_cmp {op : CmpOp} {f : PyData → PyData → Option PyData} {m1 m2 : Mode} (ho : OpR X (compareOp op) (RD2 C .va f)) (ha : PE X a (TX C m1 fa)) (hb : PE X b (TX C m2 fb)) (hm : behindInMarks op b = false) : PE X (.Compare a [op] [b] pos) (TX C .va (e2 f fa fb)) := by
  refine pe_weak (pe_cmpR ho ha hb hm) fun σ H Q ⟨ρ, W, F, G, d, W', R, ef, q⟩ => ?_
  obtain ⟨x, W1, y, ea, eb, hop⟩ := e2_some ef
  refine ⟨ρ, W, F, G, x, W1, R, ea, fun v F1 G1 H1 x1 R1 r1 => ⟨ρ, W1, F1, G1, y, _, R1, eb, fun v2 F2 G2 H2 x2 R2 r2 => ?_⟩⟩
  refine ⟨F2, G2, x, y, _, R2.fg, R2.gh, r1.vw.ext x2.f x2.g, r2.vw, hop, fun v3 F3 G3 H3 g3 r3 => ?_⟩
  exact q v3 F3 G3 H3 ((x1.trans x2).trans g3.ext) (R2.gr g3) r3
/-- a value of True or False as a test -/
def tOf (f : Ex) : Tx := fun ρ W => match f ρ W with
  | some (.bool b, W1) => some (b, W1)
  | _ => none
def tNeg (t : Tx) : Tx := fun ρ W => match t ρ W with
  | some (b, W1) => some (!b, W1)
  | none => none
def tAnd2 (t u : Tx) : Tx := fun ρ W => match t ρ W with
  | some (true, W1) => u ρ W1
  | some (false, W1) => some (false, W1)
  | none => none
def tOr2 (t u : Tx) : Tx := fun ρ W => match t ρ W with
  | some (true, W1) => some (true, W1)
  | some (false, W1) => u ρ W1
  | none => none
def eOf (t : Tx) : Ex := fun ρ W => match t ρ W with
  | some (b, W1) => some (.bool b, W1)
  | none => none
theorem tOf_some {f : Ex} {ρ : Rho} {W W' : Src} {b : Bool} (h : tOf f ρ W = some (b, W')) : f ρ W = some (.bool b, W') := by
  unfold tOf at h
  split at h <;> first | (cases h; assumption) | cases h
theorem t_cmp {op : CmpOp} {f : PyData → PyData → Option PyData} {m1 m2 : Mode} (ho : OpR X (compareOp op) (RD2 C .va f)) (ha : PE X a (TX C m1 fa)) (hb : PE X b (TX C m2 fb)) (hm : behindInMarks op b = false) : PT X (.Compare a [op] [b] pos) (TB C (tOf (e2 f fa fb))) := by
  refine pt_weak (pt_cmpR ho ha hb hm) fun σ H Q ⟨ρ, W, F, G, d, W', R, ef, q⟩ => ?_
  obtain ⟨x, W1, y, ea, eb, hop⟩ := e2_some (tOf_some ef)
  refine ⟨ρ, W, F, G, x, W1, R, ea, fun v F1 G1 H1 x1 R1 r1 => ⟨ρ, W1, F1, G1, y, _, R1, eb, fun v2 F2 G2 H2 x2 R2 r2 => ?_⟩⟩
  refine ⟨F2, G2, x, y, _, R2.fg, R2.gh, r1.vw.ext x2.f x2.g, r2.vw, hop, fun v3 F3 G3 H3 g3 r3 => ?_⟩
  cases r3
  exact ⟨_, rfl, q F3 G3 H3 ((x1.trans x2).trans g3.ext) (R2.gr g3)⟩
theorem t_val (h : PE X a (TX C .va fa)) (he : ∀ whole, isTrue a X.env whole = (do let v ← whole; standAt a.pos; holding [v] (truthy v))) : PT X a (TB C (tOf fa)) := by
  refine pt_weak (pt_val h he) fun σ H Q ⟨ρ, W, F, G, d, W', R, ef, q⟩ => ?_
  refine ⟨ρ, W, F, G, _, W', R, tOf_some ef, fun v F1 G1 H1 x1 R1 r1 => ?_⟩
  cases r1
  exact ⟨_, rfl, q F1 G1 H1 x1 R1⟩
theorem t_not {t : Tx} (h : PT X a (TB C t)) : PT X (.UnaryOp .Not a pos) (TB C (tNeg t)) := by
  refine pt_weak (pt_not h) fun σ H Q ⟨ρ, W, F, G, d, W', R, ef, q⟩ => ?_
  unfold tNeg at ef
  cases ht : t ρ W with
  | none => rw [ht] at ef; cases ef
  | some p =>
    obtain ⟨b, W1⟩ := p
    rw [ht] at ef
    cases ef
    exact ⟨ρ, W, F, G, b, _, R, ht, fun F1 G1 H1 x1 R1 => q F1 G1 H1 x1 R1⟩
theorem t_and1 {t : Tx} (h : PT X a (TB C t)) : PW X (.BoolOp .And [a] pos) (TB C t) := pw_and1 h
theorem t_or1 {t : Tx} (h : PT X a (TB C t)) : PW X (.BoolOp .Or [a] pos) (TB C t) := pw_or1 h
theorem pw_weak {e : Expr} {t t' : TT} (h : PW X e t) (w : ∀ σ H Q, t' σ H Q → t σ H Q) : PW X e t' := ⟨fun wh p s σ H Q I q => h.run wh p s σ H Q I (w σ H Q q)⟩
theorem t_and {t u : Tx} {rest : List Expr} (h : PT X a (TB C t)) (hr : PW X (.BoolOp .And (b :: rest) pos) (TB C u)) : PW X (.BoolOp .And (a :: b :: rest) pos) (TB C (tAnd2 t u)) := by
  refine pw_weak (pw_and h hr) fun σ H Q ⟨ρ, W, F, G, d, W', R, ef, q⟩ => ?_
  unfold tAnd2 at ef
  cases ht : t ρ W with
  | none => rw [ht] at ef; cases ef
  | some p =>
    obtain ⟨c, W1⟩ := p
    rw [ht] at ef
    refine ⟨ρ, W, F, G, c, W1, R, ht, fun F1 G1 H1 x1 R1 => ?_⟩
    cases c with
    | true =>
      rw [if_pos rfl]
      exact ⟨ρ, W1, F1, G1, d, W', R1, ef, fun F2 G2 H2 x2 R2 => q F2 G2 H2 (x1.trans x2) R2⟩
    | false =>
      cases ef
      rw [if_neg Bool.false_ne_true]
      exact q F1 G1 H1 x1 R1
theorem t_or {t u : Tx} {rest : List Expr} (h : PT X a (TB C t)) (hr : PW X (.BoolOp .Or (b :: rest) pos) (TB C u)) : PW X (.BoolOp .Or (a :: b :: rest) pos) (TB C (tOr2 t u)) := by
  refine pw_weak (pw_or h hr) fun σ H Q ⟨ρ, W, F, G, d, W', R, ef, q⟩ => ?_
  unfold tOr2 at ef
  cases ht : t ρ W with
  | none => rw [ht] at ef; cases ef
  | some p =>
    obtain ⟨c, W1⟩ := p
    rw [ht] at ef
    refine ⟨ρ, W, F, G, c, W1, R, ht, fun F1 G1 H1 x1 R1 => ?_⟩
    cases c with
    | false =>
      rw [if_neg Bool.false_ne_true]
      exact ⟨ρ, W1, F1, G1, d, W', R1, ef, fun F2 G2 H2 x2 R2 => q F2 G2 H2 (x1.trans x2) R2⟩
    | true =>
      cases ef
      rw [if_pos rfl]
      exact q F1 G1 H1 x1 R1
/-! as values, all but the last of True and False -/
def eAnd2 (f g : Ex) : Ex := fun ρ W => match f ρ W with
  | some (.bool true, W1) => g ρ W1
  | some (.bool false, W1) => some (.bool false, W1)
  | _ => none
def eOr2 (f g : Ex) : Ex := fun ρ W => match f ρ W with
  | some (.bool true, W1) => some (.bool true, W1)
  | some (.bool false, W1) => g ρ W1
  | _ => none
theorem x_and {rest : List Expr} (h : PE X a (TX C .va fa)) (hr : PE X (.BoolOp .And (b :: rest) pos) (TX C .va fb)) : PE X (.BoolOp .And (a :: b :: rest) pos) (TX C .va (eAnd2 fa fb)) := by
  refine pe_weak (pe_and h hr) fun σ H Q ⟨ρ, W, F, G, d, W', R, ef, q⟩ => ?_
  unfold eAnd2 at ef
  split at ef
  · rename_i W1 ht
    refine ⟨ρ, W, F, G, _, _, R, ht, fun v F1 G1 H1 x1 R1 r1 => ?_⟩
    cases r1
    refine ⟨true, rfl, ?_⟩
    rw [if_pos rfl]
    exact ⟨ρ, W1, F1, G1, d, W', R1, ef, fun v2 F2 G2 H2 x2 R2 r2 => q v2 F2 G2 H2 (x1.trans x2) R2 r2⟩
  · rename_i W1 ht
    cases ef
    refine ⟨ρ, W, F, G, _, _, R, ht, fun v F1 G1 H1 x1 R1 r1 => ?_⟩
    cases r1
    refine ⟨false, rfl, ?_⟩
    rw [if_neg Bool.false_ne_true]
    exact q _ F1 G1 H1 x1 R1 (.bl false)
  · cases ef
theorem x_or {rest : List Expr} (h : PE X a (TX C .va fa)) (hr : PE X (.BoolOp .Or (b :: rest) pos) (TX C .va fb)) : PE X (.BoolOp .Or (a :: b :: rest) pos) (TX C .va (eOr2 fa fb)) := by
  refine pe_weak (pe_or h hr) fun σ H Q ⟨ρ, W, F, G, d, W', R, ef, q⟩ => ?_
  unfold eOr2 at ef
  split at ef
  · rename_i W1 ht
    cases ef
    refine ⟨ρ, W, F, G, _, _, R, ht, fun v F1 G1 H1 x1 R1 r1 => ?_⟩
    cases r1
    refine ⟨true, rfl, ?_⟩
    rw [if_pos rfl]
    exact q _ F1 G1 H1 x1 R1 (.bl true)
  · rename_i W1 ht
    refine ⟨ρ, W, F, G, _, _, R, ht, fun v F1 G1 H1 x1 R1 r1 => ?_⟩
    cases r1
    refine ⟨false, rfl, ?_⟩
    rw [if_neg Bool.false_ne_true]
    exact ⟨ρ, W1, F1, G1, d, W', R1, ef, fun v2 F2 G2 H2 x2 R2 r2 => q v2 F2 G2 H2 (x1.trans x2) R2 r2⟩
  · cases ef
theorem x_one {op : BoolOp} (h : PE X a (TX C .va fa)) : PE X (.BoolOp op [a] pos) (TX C .va fa) := pe_one h
def eNot (f : Ex) : Ex := fun ρ W => match f ρ W with
  | some (.bool b, W1) => some (.bool (!b), W1)
  | _ => none
theorem x_not (h : PE X a (TX C .va fa)) : PE X (.UnaryOp .Not a pos) (TX C .va (eNot fa)) := by
  refine pe_weak (pe_not h) fun σ H Q ⟨ρ, W, F, G, d, W', R, ef, q⟩ => ?_
  unfold eNot at ef
  split at ef
  · rename_i b W1 ht
    cases ef
    refine ⟨ρ, W, F, G, _, _, R, ht, fun v F1 G1 H1 x1 R1 r1 => ?_⟩
    cases r1
    exact ⟨b, rfl, q _ F1 G1 H1 x1 R1 (.bl _)⟩
  · cases ef
theorem x_if {c : Expr} {t : Tx} (hc : PT X c (TB C t)) (ha : PE X a (TX C m fa)) (hb : PE X b (TX C m fb)) : PE X (.IfExp c a b pos) (TX C m (eIf t fa fb)) := by
  refine pe_weak (pe_ifExp hc ha hb) fun σ H Q ⟨ρ, W, F, G, d, W', R, ef, q⟩ => ?_
  unfold eIf at ef
  split at ef
  · rename_i W1 ht
    refine ⟨ρ, W, F, G, _, W1, R, ht, fun F1 G1 H1 x1 R1 => ?_⟩
    refine iteT ?_
    exact ⟨ρ, W1, F1, G1, d, W', R1, ef, fun v2 F2 G2 H2 x2 R2 r2 => q v2 F2 G2 H2 (x1.trans x2) R2 (r2.back x1)⟩
  · rename_i W1 ht
    refine ⟨ρ, W, F, G, _, W1, R, ht, fun F1 G1 H1 x1 R1 => ?_⟩
    refine iteF ?_
    exact ⟨ρ, W1, F1, G1, d, W', R1, ef, fun v2 F2 G2 H2 x2 R2 r2 => q v2 F2 G2 H2 (x1.trans x2) R2 (r2.back x1)⟩
  · cases ef
/-- a < b < c -/
def eChain (f g : PyData → PyData → Option PyData) (a b c : Ex) : Ex := fun ρ W => match a ρ W with
  | some (x, W1) => match b ρ W1 with
    | some (y, W2) => match f x y with
      | some (.bool true) => match c ρ W2 with
        | some (z, W3) => (g y z).map fun r => (r, W3)
        | none => none
      | some (.bool false) => some (.bool false, W2)
      | _ => none
    | none => none
  | none => none
theorem chain_read {f g : PyData → PyData → Option PyData} {fc : Ex} {m1 m2 m3 : Mode} {σ : L2.St} {H : Hp} {Q : VK} (h : TX C .va (eChain f g fa fb fc) σ H Q) : tChain (RD2 C .va f) (RD2 C .va g) (TX C m1 fa) (TX C m2 fb) (TX C m3 fc) σ H Q := by
  obtain ⟨ρ, W, F, G, d, W', R, ef, q⟩ := h
  unfold eChain at ef
  split at ef
  · rename_i x W1 ea
    split at ef
    · rename_i y W2 eb
      refine ⟨ρ, W, F, G, x, W1, R, ea, fun v F1 G1 H1 x1 R1 r1 => ⟨ρ, W1, F1, G1, y, _, R1, eb, fun v2 F2 G2 H2 x2 R2 r2 => ?_⟩⟩
      split at ef
      · rename_i hop
        refine ⟨F2, G2, x, y, _, R2.fg, R2.gh, r1.vw.ext x2.f x2.g, r2.vw, hop, fun v3 F3 G3 H3 g3 r3 => ?_⟩
        cases r3
        refine ⟨true, rfl, ?_⟩
        rw [if_pos rfl]
        split at ef
        · rename_i z W3 ec
          cases hop2 : g y z with
          | none => rw [hop2] at ef; cases ef
          | some r =>
            rw [hop2] at ef
            cases ef
            have R3 := R2.gr g3
            refine ⟨ρ, W2, F3, G3, z, _, R3, ec, fun v4 F4 G4 H4 x4 R4 r4 => ?_⟩
            refine ⟨F4, G4, y, z, _, R4.fg, R4.gh, (r2.vw.ext g3.f g3.g).ext x4.f x4.g, r4.vw, hop2, fun v5 F5 G5 H5 g5 r5 => ?_⟩
            exact q v5 F5 G5 H5 ((((x1.trans x2).trans g3.ext).trans x4).trans g5.ext) (R4.gr g5) r5
        · cases ef
      · rename_i hop
        cases ef
        refine ⟨F2, G2, x, y, _, R2.fg, R2.gh, r1.vw.ext x2.f x2.g, r2.vw, hop, fun v3 F3 G3 H3 g3 r3 => ?_⟩
        cases r3
        refine ⟨false, rfl, ?_⟩
        rw [if_neg Bool.false_ne_true]
        exact q _ F3 G3 H3 ((x1.trans x2).trans g3.ext) (R2.gr g3) (.bl false)
      · cases ef
    · cases ef
  · cases ef

theorem x_chain {c : Expr} {fc : Ex} {op op' : CmpOp} {f g : PyData → PyData → Option PyData} {m1 m2 m3 : Mode} (ho : OpR X (compareOp op) (RD2 C .va f)) (ho' : OpR X (compareOp op') (RD2 C .va g)) (ha : PE X a (TX C m1 fa)) (hb : PE X b (TX C m2 fb)) (hc : PE X c (TX C m3 fc)) (hm : lastMarks [op, op'] [b, c] = false) :
    PE X (.Compare a [op, op'] [b, c] pos) (TX C .va (eChain f g fa fb fc)) := pe_weak (pe_chain ho ho' ha hb hc hm) fun σ H Q h => chain_read h
theorem tOf_read {f : Ex} {σ : L2.St} {H : Hp} {Q : Bool → Hp → Prop} (h : TB C (tOf f) σ H Q) : TX C .va f σ H fun x H' => ∃ k, x = .bl k ∧ Q k H' := by
  obtain ⟨ρ, W, F, G, d, W', R, ef, q⟩ := h
  refine ⟨ρ, W, F, G, _, W', R, tOf_some ef, fun v F1 G1 H1 x1 R1 r1 => ?_⟩
  cases r1
  exact ⟨_, rfl, q F1 G1 H1 x1 R1⟩
theorem t_chain {c : Expr} {fc : Ex} {op op' : CmpOp} {f g : PyData → PyData → Option PyData} {m1 m2 m3 : Mode} (ho : OpR X (compareOp op) (RD2 C .va f)) (ho' : OpR X (compareOp op') (RD2 C .va g)) (ha : PE X a (TX C m1 fa)) (hb : PE X b (TX C m2 fb)) (hc : PE X c (TX C m3 fc)) (hm : lastMarks [op, op'] [b, c] = false) :
    PT X (.Compare a [op, op'] [b, c] pos) (TB C (tOf (eChain f g fa fb fc))) := pt_weak (pt_chain ho ho' ha hb hc hm) fun σ H Q h => chain_read (tOf_read h)
end
end Dv
set_option Elab.async false
set_option linter.all false
set_option maxRecDepth 100000
set_option maxHeartbeats 1000000
/-! Part 4: the operators on data. -/
namespace Dv
open PySem PySem.Spec PyProof.Rows L2

section
variable {X : Cx} {C : Ct} {f : Value → Value → Sem Value}
theorem op_imp {r r' : R2} (h : OpR X f r) (w : ∀ x y H Q, r' x y H Q → r x y H Q) : OpR X f r' := fun p s σ H x y v u Q I rx ry q => h p s σ H x y v u Q I rx ry (w x y H Q q)
theorem un_imp {g : Value → Sem Value} {r r' : V → Hp → VK → Prop} (h : UnR X g r) (w : ∀ x H Q, r' x H Q → r x H Q) : UnR X g r' := fun p s σ H x v Q I rx q => h p s σ H x v Q I rx (w x H Q q)
theorem call_imp {g : Value} {r r' : List V → Hp → VK → Prop} (h : CallR X g r) (w : ∀ x H Q, r' x H Q → r x H Q) : CallR X g r' := fun p s σ H x v Q I rx q => h p s σ H x v Q I rx (w x H Q q)
theorem call_or {g : Value} {r r' : List V → Hp → VK → Prop} (h : CallR X g r) (h' : CallR X g r') : CallR X g (fun x H Q => r x H Q ∨ r' x H Q) := fun p s σ H x v Q I rx q => q.elim (h p s σ H x v Q I rx) (h' p s σ H x v Q I rx)

/-! ### t * 1: the same -/
theorem tuple_mul1 (l : Addr) (items : Array Value) (n : Nat) (dd : Option Addr) (sl : Array (Option Value)) (x : Int) (u : Tok) (c0 : (decide (x < -(2 ^ 63)) || decide (x ≥ 2 ^ 63)) = false) (c1 : (items.isEmpty || x == 1) = true) :
    Meets (Builtin.«tuple.__mul__» ⟨[.ref l, .int x u], []⟩) (fun _ R s => s.heap.get? l = some { cls := .type "tuple", dict := dd, data := .seq items n, slots := sl } ∧ R (.ok (.ret (Value.ref l))) s) :=
  .of_wp fun prog w A R s h => by
    obtain ⟨hp, g, d, tk, os⟩ := s
    obtain ⟨hl, h⟩ := h
    have f1 := AutoSeq1.idx_int
    wp_walk using wpAny_loadPart' hl
    repeat (first
      | (refine wpAny_ite_false (decide_eq_false (by rw [c0]; exact Bool.false_ne_true)) ?_; wp_walk using wpAny_loadPart' hl)
      | (refine wpAny_ite_true (decide_eq_true c1) ?_; wp_walk using wpAny_loadPart' hl))
    exact ⟨_, rfl, h⟩
def rRep1 (K : PySem.W.Frag) : R2 := fun x y H Q => ∃ l k xs, x = .ref l ∧ y = .int k ∧ SqT K H l xs ∧ (xs = [] ∨ k = 1) ∧ -(2 ^ 63) ≤ k ∧ k < 2 ^ 63 ∧ Q (.ref l) H
theorem op_rep1 : OpR X (binaryOp .Mult) (rRep1 X.K) := by
  intro pins s σ H x y v u Q I rx ry h
  obtain ⟨l, k, xs, rfl, rfl, hT, hc1, h1, h2, q⟩ := h
  cases rx
  obtain ⟨t, rfl⟩ := ry
  obtain ⟨its, r, ⟨⟨cls, dd, data, sl⟩, ho, hc, n, hd⟩, hs⟩ := I.tuple hT
  simp only at hc hd
  subst hc hd
  have c0 : (decide (k < -(2 ^ 63)) || decide (k ≥ 2 ^ 63)) = false := by
    rw [decide_eq_false (by omega), decide_eq_false (by omega)] <;> rfl
  have c1 : (its.toArray.isEmpty || k == 1) = true := by
    rcases hc1 with e | e
    · subst e
      cases r
      rfl
    · subst e
      simp
  exact wpAny_binaryOp_repeat_ref (T := "tuple") (U := "int") (by decide) ⟨_, ho, rfl⟩ (fun s' => typeIs_int s' k t) noFill_tuple_mul F.fills_int_mul F.slot_int_rmul repeat_tuple F.slot_int_index.lookup
    (call_meets F.slot_int_rmul (typeIs_int s k t) F.entry_int_rmul (F.args_int_rmul_2 _ _) (int_rmul_tuple k t l its.toArray n dd sl)
      ⟨ho, rfl, ⟨_, ho, rfl⟩, call_meets F.slot_tuple_mul ⟨_, ho, rfl⟩ F.entry_tuple_mul (F.args_tuple_mul_2 _ _) (tuple_mul1 l its.toArray n dd sl k t c0 c1) ⟨ho, ⟨.ref l, H, I, rfl, q⟩⟩⟩)

/-! ### + - * // % on data -/
def bAdd : PyData → PyData → Option PyData
  | .int i, .int j => some (.int (i + j))
  | .str a, .str b => if a.length + b.length ≤ sizeLine then some (.str (a ++ b)) else none
  | .tuple xs, .tuple ys => if xs.length + ys.length ≤ sizeLine then some (.tuple (xs ++ ys)) else none
  | .list xs, .list ys => if xs.length + ys.length ≤ sizeLine then some (.list (xs ++ ys)) else none
  | _, _ => none
def bSub : PyData → PyData → Option PyData
  | .int i, .int j => some (.int (i - j))
  | _, _ => none
def mulOk (i j : Int) : Bool := i.natAbs.log2 + j.natAbs.log2 < 1000000
def rep (k : Nat) (xs : List PyData) : List PyData := (List.replicate k xs).flatten
def bMul : PyData → PyData → Option PyData
  | .int i, .int j => if mulOk i j then some (.int (i * j)) else none
  | .tuple xs, .int k => if xs = [] ∧ 0 ≤ k ∧ k ≤ 1000 then some (.tuple []) else if k = 1 then some (.tuple xs) else if 2 ≤ k ∧ k ≤ 1000 ∧ xs.length ≤ 1000 then some (.tuple (rep k.toNat xs)) else none
  | .list xs, .int k => if 0 ≤ k ∧ k < 2 ^ 40 ∧ xs.length * k.toNat ≤ sizeLine then some (.list (rep k.toNat xs)) else none
  | _, _ => none
/-- the divisor above 0, of any size that is met -/
def divOk (j : Int) : Bool := 0 < j && j.natAbs.log2 < 9000
def bDiv : PyData → PyData → Option PyData
  | .int i, .int j => if divOk j then some (.int (i / j)) else none
  | _, _ => none
def bMod : PyData → PyData → Option PyData
  | .int i, .int j => if 0 < j then some (.int (i % j)) else none
  | _, _ => none
def bPow : PyData → PyData → Option PyData
  | .int i, .int j => if 0 ≤ j ∧ j ≤ 1000000 ∧ i.natAbs < 2 ^ 64 then some (.int (i ^ j.toNat)) else none
  | _, _ => none

theorem bool_ite {c : Prop} [Decidable c] {α : Type} {x y : α} (h : (if c then some x else none) = some y) : c ∧ x = y := by
  split at h
  · cases h; exact ⟨by assumption, rfl⟩
  · cases h
theorem rep_dq {K : PySem.W.Frag} {F : Hp} {vs : List V} {xs : List PyData} (h : DqAll K F vs xs) : ∀ n : Nat, DqAll K F (List.replicate n vs).flatten (rep n xs)
  | 0 => .nil
  | n + 1 => by
    show DqAll K F (List.replicate (n + 1) vs).flatten (List.replicate (n + 1) xs).flatten
    rw [List.replicate_succ, List.flatten_cons, List.replicate_succ, List.flatten_cons]
    exact dpa_append h (rep_dq h n)
theorem str_append_len (a b : Str) : (a ++ b).length = a.length + b.length := by
  show (a.cps ++ b.cps).size = _
  rw [Array.size_append]
  rfl

theorem o_add (hK : X.K = C.K) : OpR X (binaryOp .Add) (RD2 C .nw bAdd) := by
  refine op_imp (op_add.or (op_catA.or (op_cat.or op_add_str))) fun x y H Q ⟨F, G, d, e, r, fg, gh, hx, hy, ho, q⟩ => ?_
  unfold bAdd at ho
  split at ho
  · cases ho
    exact .inl ⟨_, _, hx.int, hy.int, q.plainN fg gh (.int _)⟩
  · obtain ⟨hz, rfl⟩ := bool_ite ho
    refine .inr (.inr (.inr ?_))
    exact ⟨_, _, hx.str, hy.str, hz, q.plainN fg gh (.str _)⟩
  · obtain ⟨hz, rfl⟩ := bool_ite ho
    obtain ⟨a, vs, rfl, h1, h2⟩ := hx.tuple fg gh
    obtain ⟨b, us, rfl, h3, h4⟩ := hy.tuple fg gh
    refine .inr (.inl ⟨a, b, vs, us, rfl, rfl, hK ▸ h1, hK ▸ h3, by rw [dpa_len h2, dpa_len h4]; exact hz, fun e => ?_, fun _ e => ?_, fun _ _ p n => ?_⟩)
    · subst e
      cases h2
      refine q.plainN fg gh ?_
      rcases hy with hy | ⟨_, _, _, _, z, _⟩
      · exact hy
      · cases z
    · subst e
      cases h4
      rw [List.append_nil] at q
      refine q.plainN fg gh ?_
      rcases hx with hx | ⟨_, _, _, _, z, _⟩
      · exact hx
      · cases z
    · exact q.tup fg gh (dpa_append h2 h4) n
  · obtain ⟨hz, rfl⟩ := bool_ite ho
    obtain ⟨a, vs, rfl, h1, h2⟩ := hx.list fg gh
    obtain ⟨b, us, rfl, h3, h4⟩ := hy.list fg gh
    exact .inr (.inr (.inl ⟨a, b, vs, us, rfl, rfl, h1, h3, by rw [dpa_len h2, dpa_len h4]; exact hz, fun p n => q.lst fg gh (dpa_append h2 h4) n⟩))
  · cases ho
theorem o_sub : OpR X (binaryOp .Sub) (RD2 C .va bSub) := by
  refine op_imp op_sub fun x y H Q ⟨F, G, d, e, r, fg, gh, hx, hy, ho, q⟩ => ?_
  unfold bSub at ho
  split at ho
  · cases ho
    exact ⟨_, _, hx.int, hy.int, q.plain fg gh (.int _)⟩
  · cases ho
theorem o_mul (hK : X.K = C.K) : OpR X (binaryOp .Mult) (RD2 C .nw bMul) := by
  refine op_imp (op_mulW.or (op_repT.or (op_rep1.or op_rep))) fun x y H Q ⟨F, G, d, e, r, fg, gh, hx, hy, ho, q⟩ => ?_
  unfold bMul at ho
  split at ho
  · rename_i i j
    cases hm : mulOk i j with
    | false => rw [hm] at ho; cases ho
    | true =>
      rw [hm] at ho
      cases ho
      exact .inl ⟨i, j, hx.int, hy.int, show i.natAbs.log2 + j.natAbs.log2 < 1000000 from of_decide_eq_true hm, q.plainN fg gh (.int _)⟩
  · rename_i xs k
    obtain ⟨a, vs, rfl, h1, h2⟩ := hx.tuple fg gh
    have hxd : Dq C.K F (.ref a) (.tuple xs) := by
      rcases hx with hx | ⟨_, _, _, _, z, _⟩
      · exact hx
      · cases z
    have hk := hy.int
    subst hk
    split at ho
    · rename_i c
      obtain ⟨rfl, c1, c2⟩ := c
      cases ho
      cases h2
      refine .inr (.inr (.inl ⟨a, k, _, rfl, rfl, hK ▸ h1, .inl rfl, by omega, by omega, q.plainN fg gh hxd⟩))
    · split at ho
      · rename_i c
        subst c
        cases ho
        exact .inr (.inr (.inl ⟨a, 1, vs, rfl, rfl, hK ▸ h1, .inr rfl, by omega, by omega, q.plainN fg gh hxd⟩))
      · rename_i n1 n2
        obtain ⟨⟨c1, c2, c3⟩, rfl⟩ := bool_ite ho
        have hl := dpa_len h2
        refine .inr (.inl ⟨a, k, vs, rfl, rfl, hK ▸ h1, fun e => n1 ⟨?_, by omega, by omega⟩, c1, c2, by omega, fun p n => q.tup fg gh (rep_dq h2 _) n⟩)
        subst e
        cases h2; rfl
  · rename_i xs k
    obtain ⟨⟨c1, c2, c3⟩, rfl⟩ := bool_ite ho
    obtain ⟨a, vs, rfl, h1, h2⟩ := hx.list fg gh
    have hk := hy.int
    subst hk
    have hl := dpa_len h2
    exact .inr (.inr (.inr ⟨a, k, vs, rfl, rfl, h1, by omega, by omega, by rw [hl]; exact c3, fun p n => q.lst fg gh (rep_dq h2 _) n⟩))
  · cases ho
theorem o_div : OpR X (binaryOp .FloorDiv) (RD2 C .va bDiv) := by
  refine op_imp op_fdivW fun x y H Q ⟨F, G, d, e, r, fg, gh, hx, hy, ho, q⟩ => ?_
  unfold bDiv at ho
  split at ho
  · rename_i i j
    cases hm : divOk j with
    | false => rw [hm] at ho; cases ho
    | true =>
      rw [hm] at ho
      cases ho
      unfold divOk at hm
      rw [Bool.and_eq_true, decide_eq_true_eq, decide_eq_true_eq] at hm
      exact ⟨i, j, hx.int, hy.int, hm, q.plain fg gh (.int _)⟩
  · cases ho
theorem o_mod : OpR X (binaryOp .Mod) (RD2 C .va bMod) := by
  refine op_imp op_mod fun x y H Q ⟨F, G, d, e, r, fg, gh, hx, hy, ho, q⟩ => ?_
  unfold bMod at ho
  split at ho
  · obtain ⟨hz, rfl⟩ := bool_ite ho
    exact ⟨_, _, hx.int, hy.int, hz, q.plain fg gh (.int _)⟩
  · cases ho
theorem o_pow : OpR X (binaryOp .Pow) (RD2 C .va bPow) := by
  refine op_imp op_pow fun x y H Q ⟨F, G, d, e, r, fg, gh, hx, hy, ho, q⟩ => ?_
  unfold bPow at ho
  split at ho
  · obtain ⟨hz, rfl⟩ := bool_ite ho
    exact ⟨_, _, hx.int, hy.int, hz, q.plain fg gh (.int _)⟩
  · cases ho
def uNeg : PyData → Option PyData
  | .int i => some (.int (-i))
  | _ => none
theorem o_neg : UnR X (unaryOp .USub) (RD1 C .va uNeg) := by
  refine un_imp un_neg fun x H Q ⟨F, G, d, r, fg, gh, hx, ho, q⟩ => ?_
  unfold uNeg at ho
  split at ho
  · cases ho
    exact ⟨_, hx.int, q.plain fg gh (.int _)⟩
  · cases ho

/-! ### comparisons on data -/
def eqS : PyData → PyData → Option Bool
  | .str a, .str b => some (a == b)
  | _, _ => none
def cEq (d e : PyData) : Option PyData := if (eqS d e).isSome = true then (eqS d e).map .bool else if SeqAt.shaped d = true ∧ SeqAt.shaped e = true then some (.bool (PyData.eqv d e)) else none
def cNe (d e : PyData) : Option PyData := if (eqS d e).isSome = true then (eqS d e).map fun b => .bool (!b) else if SeqAt.shaped d = true ∧ SeqAt.shaped e = true then some (.bool (!PyData.eqv d e)) else none
theorem eqS_some {d e : PyData} {b : Bool} (h : eqS d e = some b) : ∃ x y, d = .str x ∧ e = .str y ∧ b = (x == y) := by
  unfold eqS at h
  split at h
  · cases h; exact ⟨_, _, rfl, rfl, rfl⟩
  · cases h
theorem dec_str {x y : Str} : decide (V.str x = V.str y) = (x == y) := by
  rw [Bool.eq_iff_iff]
  simp
theorem o_eq (hK : X.K = C.K) (hu : X.A.units + 64 < cLine) : OpR X (compareOp .Eq) (RD2 C .va cEq) := by
  refine op_imp (op_eq.or (op_eqD hu)) fun x y H Q ⟨F, G, d, e, r, fg, gh, hx, hy, ho, q⟩ => ?_
  unfold cEq at ho
  split at ho
  · cases z : eqS d e with
    | none => rw [z] at ho; cases ho
    | some b =>
      obtain ⟨s, t, rfl, rfl, rfl⟩ := eqS_some z
      rw [z] at ho
      cases ho
      rw [hx.str, hy.str]
      exact .inl ⟨rfl, by rw [dec_str]; exact q.plain fg gh (.bl _)⟩
  · obtain ⟨⟨h1, h2⟩, rfl⟩ := bool_ite ho
    rw [hK]
    exact .inr ⟨d, e, dq_dp (dp_same gh (hx.dp fg)), dq_dp (dp_same gh (hy.dp fg)), h1, h2, q.plain fg gh (.bl _)⟩
theorem o_ne (hK : X.K = C.K) (hu : X.A.units + 64 < cLine) : OpR X (compareOp .NotEq) (RD2 C .va cNe) := by
  refine op_imp (op_ne.or (op_neD hu)) fun x y H Q ⟨F, G, d, e, r, fg, gh, hx, hy, ho, q⟩ => ?_
  unfold cNe at ho
  split at ho
  · cases z : eqS d e with
    | none => rw [z] at ho; cases ho
    | some b =>
      obtain ⟨s, t, rfl, rfl, rfl⟩ := eqS_some z
      rw [z] at ho
      cases ho
      rw [hx.str, hy.str]
      exact .inl ⟨rfl, by rw [dec_str]; exact q.plain fg gh (.bl _)⟩
  · obtain ⟨⟨h1, h2⟩, rfl⟩ := bool_ite ho
    rw [hK]
    exact .inr ⟨d, e, dq_dp (dp_same gh (hx.dp fg)), dq_dp (dp_same gh (hy.dp fg)), h1, h2, q.plain fg gh (.bl _)⟩
/-- an order of ints, of tuples of ints -/
def asInts : List PyData → Option (List Int)
  | [] => some []
  | .int i :: r => (asInts r).map fun l => i :: l
  | _ => none
theorem asInts_some : ∀ {ds : List PyData} {l : List Int}, asInts ds = some l → ds = l.map PyData.int
  | [], l, h => by cases h; rfl
  | d :: r, l, h => by
    cases d with
    | int i =>
      have h' : (asInts r).map (fun l => i :: l) = some l := h
      cases e : asInts r with
      | none => rw [e] at h'; cases h'
      | some m =>
        rw [e] at h'
        cases h'
        rw [asInts_some e]
        rfl
    | _ => cases h
theorem dqa_ints {K : PySem.W.Frag} {F : Hp} : ∀ {l : List Int} {vs : List V}, DqAll K F vs (l.map PyData.int) → vs = l.map V.int
  | [], _, .nil => rfl
  | i :: l, _, .cons a r => by
    cases a
    rw [dqa_ints r]
    rfl
def cInt (p : Int → Int → Bool) : PyData → PyData → Option PyData
  | .int i, .int j => some (.bool (p i j))
  | _, _ => none
def cLt : PyData → PyData → Option PyData
  | .int i, .int j => some (.bool (decide (i < j)))
  | .tuple xs, .tuple ys => match asInts xs, asInts ys with
    | some l, some k => some (.bool (HT.lexLt l k))
    | _, _ => none
  | _, _ => none
abbrev cLe : PyData → PyData → Option PyData := cInt fun i j => decide (i ≤ j)
abbrev cGe : PyData → PyData → Option PyData := cInt fun i j => decide (j ≤ i)
abbrev cGt : PyData → PyData → Option PyData := cInt fun i j => decide (j < i)
theorem o_cInt {g : Value → Value → Sem Value} {p : Int → Int → Bool} (h : OpR X g (rI0 fun i j => .bl (p i j))) : OpR X g (RD2 C .va (cInt p)) := by
  refine op_imp h fun x y H Q ⟨F, G, d, e, r, fg, gh, hx, hy, ho, q⟩ => ?_
  unfold cInt at ho
  split at ho
  · cases ho
    exact ⟨_, _, hx.int, hy.int, q.plain fg gh (.bl _)⟩
  · cases ho
theorem o_lt (hK : X.K = C.K) (hu : X.A.units < cLine) : OpR X (compareOp .Lt) (RD2 C .va cLt) := by
  refine op_imp (op_lt.or (op_ltT hu)) fun x y H Q ⟨F, G, d, e, r, fg, gh, hx, hy, ho, q⟩ => ?_
  unfold cLt at ho
  split at ho
  · cases ho
    exact .inl ⟨_, _, hx.int, hy.int, q.plain fg gh (.bl _)⟩
  · split at ho
    · rename_i l k e1 e2
      cases ho
      rw [asInts_some e1] at hx
      rw [asInts_some e2] at hy
      obtain ⟨a, vs, rfl, h1, h2⟩ := hx.tuple fg gh
      obtain ⟨b, us, rfl, h3, h4⟩ := hy.tuple fg gh
      rw [dqa_ints h2] at h1
      rw [dqa_ints h4] at h3
      exact .inr ⟨a, b, l, k, rfl, rfl, hK ▸ h1, hK ▸ h3, q.plain fg gh (.bl _)⟩
    · cases ho
  · cases ho
/-! is None -/
def isN : PyData → Bool
  | .none => true
  | _ => false
def cIsN (d e : PyData) : Option PyData := if isN e = true then some (.bool (isN d)) else none
def cNotN (d e : PyData) : Option PyData := if isN e = true then some (.bool (!isN d)) else none
theorem vw_none {F G : Hp} {v : V} {d : PyData} (h : Vw C F G v d) : decide (v = .non) = isN d := by
  rcases h with h | ⟨a, vs, xs, e1, e2, _, _⟩
  · cases h <;> rfl
  · subst e1
    subst e2
    rfl
theorem isN_eq {d : PyData} (h : isN d = true) : d = .none := by
  cases d <;> first | rfl | cases h
theorem o_isN : OpR X (compareOp .Is) (RD2 C .va cIsN) := by
  refine op_imp op_isN fun x y H Q ⟨F, G, d, e, r, fg, gh, hx, hy, ho, q⟩ => ?_
  obtain ⟨h, rfl⟩ := bool_ite ho
  rw [isN_eq h] at hy
  refine ⟨hy.none, ?_⟩
  rw [vw_none hx]
  exact q.plain fg gh (.bl _)
theorem o_notN : OpR X (compareOp .IsNot) (RD2 C .va cNotN) := by
  refine op_imp op_notN fun x y H Q ⟨F, G, d, e, r, fg, gh, hx, hy, ho, q⟩ => ?_
  obtain ⟨h, rfl⟩ := bool_ite ho
  rw [isN_eq h] at hy
  refine ⟨hy.none, ?_⟩
  rw [vw_none hx]
  exact q.plain fg gh (.bl _)
/-! in -/
def cIn (d e : PyData) : Option PyData := match e with
  | .list xs => if SeqAt.shaped d = true ∧ SeqAt.shaped (.list xs) = true then some (.bool (xs.any fun z => PyData.eqv z d)) else none
  | .tuple xs => if SeqAt.shaped d = true ∧ SeqAt.shaped (.tuple xs) = true then some (.bool (xs.any fun z => PyData.eqv z d)) else none
  | .str t => match d with
    | .str s => some (.bool (!(Builtin.Str.occurrences t s 0 t.length 1).isEmpty))
    | _ => none
  | _ => none
def bNot (o : Option PyData) : Option PyData := match o with
  | some (.bool b) => some (.bool (!b))
  | _ => none
def cNotIn (d e : PyData) : Option PyData := bNot (cIn d e)
def rInT (K : PySem.W.Frag) (b : Bool) : R2 := fun x y H Q => ∃ d ds, Dp K H x d ∧ Dp K H y (.tuple ds) ∧ SeqAt.shaped d = true ∧ SeqAt.shaped (.tuple ds) = true ∧ Q (.bl (b ^^ ds.any fun z => PyData.eqv z d)) H
theorem op_inT (hu : X.A.units + 65 < cLine) : OpR X (compareOp .In) (rInT X.K false) := by
  intro pins s σ H x y v u Q I rx ry h
  obtain ⟨d, ds, hd, he, sd, se, q⟩ := h
  obtain ⟨as, r1⟩ := Dp.reads I d x v hd rx
  obtain ⟨bs, r2⟩ := Dp.reads I (.tuple ds) y u he ry
  rw [Bool.false_xor] at q
  exact SeqAt.in_tuple_reads r2 r1 (SeqAt.canLay_of_shaped se) (SeqAt.canLay_of_shaped sd) (room_in_shaped sd hu) ⟨.bl _, H, I, rfl, q⟩
theorem op_notInT (hu : X.A.units + 65 < cLine) : OpR X (compareOp .NotIn) (rInT X.K true) := by
  intro pins s σ H x y v u Q I rx ry h
  obtain ⟨d, ds, hd, he, sd, se, q⟩ := h
  obtain ⟨as, r1⟩ := Dp.reads I d x v hd rx
  obtain ⟨bs, r2⟩ := Dp.reads I (.tuple ds) y u he ry
  rw [Bool.true_xor] at q
  exact SeqAt.notIn_tuple_reads r2 r1 (SeqAt.canLay_of_shaped se) (SeqAt.canLay_of_shaped sd) (room_in_shaped sd hu) ⟨.bl _, H, I, rfl, q⟩
theorem o_in (hK : X.K = C.K) (hu : X.A.units + 65 < cLine) : OpR X (compareOp .In) (RD2 C .va cIn) := by
  refine op_imp ((op_inD hu).or ((op_inT hu).or op_in_str)) fun x y H Q ⟨F, G, d, e, r, fg, gh, hx, hy, ho, q⟩ => ?_
  unfold cIn at ho
  rw [hK]
  split at ho
  · obtain ⟨⟨h1, h2⟩, rfl⟩ := bool_ite ho
    exact .inl ⟨d, _, dq_dp (dp_same gh (hx.dp fg)), dq_dp (dp_same gh (hy.dp fg)), h1, h2, q.plain fg gh (.bl _)⟩
  · obtain ⟨⟨h1, h2⟩, rfl⟩ := bool_ite ho
    exact .inr (.inl ⟨d, _, dq_dp (dp_same gh (hx.dp fg)), dq_dp (dp_same gh (hy.dp fg)), h1, h2, by rw [Bool.false_xor]; exact q.plain fg gh (.bl _)⟩)
  · split at ho
    · cases ho
      exact .inr (.inr ⟨_, _, hx.str, hy.str, q.plain fg gh (.bl _)⟩)
    · cases ho
  · cases ho
theorem o_notIn (hK : X.K = C.K) (hu : X.A.units + 65 < cLine) : OpR X (compareOp .NotIn) (RD2 C .va cNotIn) := by
  refine op_imp ((op_notInD hu).or ((op_notInT hu).or op_notin_str)) fun x y H Q ⟨F, G, d, e, r, fg, gh, hx, hy, ho, q⟩ => ?_
  unfold cNotIn bNot at ho
  split at ho
  · rename_i b hb
    cases ho
    unfold cIn at hb
    rw [hK]
    split at hb
    · obtain ⟨⟨h1, h2⟩, e⟩ := bool_ite hb
      cases e
      exact .inl ⟨d, _, dq_dp (dp_same gh (hx.dp fg)), dq_dp (dp_same gh (hy.dp fg)), h1, h2, q.plain fg gh (.bl _)⟩
    · obtain ⟨⟨h1, h2⟩, e⟩ := bool_ite hb
      cases e
      exact .inr (.inl ⟨d, _, dq_dp (dp_same gh (hx.dp fg)), dq_dp (dp_same gh (hy.dp fg)), h1, h2, by rw [Bool.true_xor]; exact q.plain fg gh (.bl _)⟩)
    · split at hb
      · cases hb
        exact .inr (.inr ⟨_, _, hx.str, hy.str, q.plain fg gh (.bl _)⟩)
      · cases hb
    · cases hb
  · cases ho
end
end Dv
set_option Elab.async false
set_option linter.all false
set_option maxRecDepth 100000
set_option maxHeartbeats 1000000
/-! Part 5: subscripts, slices, built-in functions on data. -/
namespace Dv
open PySem PySem.Spec PyProof.Rows L2

section
variable {X : Cx} {C : Ct} {m : Mode} {a b : Expr} {fa fb : Ex} {pos : Pos}
def bIx : PyData → PyData → Option PyData
  | .list xs, .int i => atI xs i
  | .tuple xs, .int i => atI xs i
  | .str z, .int i => if z.length ≤ sizeLine then (atI z.cps.toList i).map fun c => .str ⟨#[c]⟩ else none
  | _, _ => none
theorem atI_dq {K : PySem.W.Frag} {F : Hp} {vs : List V} {xs : List PyData} {i : Int} {d : PyData} (h : DqAll K F vs xs) (e : atI xs i = some d) : ∃ v, atI vs i = some v ∧ Dq K F v d := by
  unfold atI at e ⊢
  rw [dpa_len h]
  cases q : ixN xs.length i with
  | none => rw [q] at e; cases e
  | some j =>
    rw [q] at e
    exact dpa_get' h e
theorem o_ix (hK : X.K = C.K) : IxR X (RD2 C .va bIx) := by
  intro value slice p s σ H x y v u Q I rx ry ⟨F, G, d, e, r, fg, gh, hx, hy, ho, q⟩ hsub
  refine ix_seq (X := X) value slice p s σ H x y v u Q I rx ry ?_ hsub
  unfold bIx at ho
  split at ho
  · obtain ⟨a, vs, rfl, h1, h2⟩ := hx.list fg gh
    obtain ⟨z, hz, dz⟩ := atI_dq h2 ho
    exact .inl ⟨a, vs, _, z, rfl, hy.int, SqL.of h1, hz, q.plain fg gh dz⟩
  · obtain ⟨a, vs, rfl, h1, h2⟩ := hx.tuple fg gh
    obtain ⟨z, hz, dz⟩ := atI_dq h2 ho
    exact .inr (.inl ⟨a, vs, _, z, rfl, hy.int, hK ▸ h1, hz, q.plain fg gh dz⟩)
  · rename_i z i
    split at ho
    · rename_i hl
      cases hc : atI z.cps.toList i with
      | none => rw [hc] at ho; cases ho
      | some c =>
        rw [hc] at ho
        cases ho
        exact .inr (.inr ⟨z, i, c, hx.str, hy.int, hl, hc, q.plain fg gh (.str _)⟩)
    · cases ho
  · cases ho
theorem x_ix {f : PyData → PyData → Option PyData} {m1 m2 : Mode} (ho : IxR X (RD2 C .va f)) (ha : PE X a (TX C m1 fa)) (hb : PE X b (TX C m2 fb)) (hs : PlainIx b) : PE X (.Subscript a b pos) (TX C .va (e2 f fa fb)) := by
  refine pe_weak (pe_ix ho ha hb hs) fun σ H Q ⟨ρ, W, F, G, d, W', R, ef, q⟩ => ?_
  obtain ⟨x, W1, y, ea, eb, hop⟩ := e2_some ef
  refine ⟨ρ, W, F, G, x, W1, R, ea, fun v F1 G1 H1 x1 R1 r1 => ⟨ρ, W1, F1, G1, y, _, R1, eb, fun v2 F2 G2 H2 x2 R2 r2 => ?_⟩⟩
  refine ⟨F2, G2, x, y, _, R2.fg, R2.gh, r1.vw.ext x2.f x2.g, r2.vw, hop, fun v3 F3 G3 H3 g3 r3 => ?_⟩
  exact q v3 F3 G3 H3 ((x1.trans x2).trans g3.ext) (R2.gr g3) r3

/-! ### slices -/
def cutG {α : Type} (xs : List α) (lo hi : Option Int) : List α := (xs.drop (HT.sIx xs.length 0 lo)).take (HT.sIx xs.length xs.length hi - HT.sIx xs.length 0 lo)
def oSl (d : PyData) (lo hi : Option Int) : Option PyData := match d with
  | .list xs => some (.list (cutG xs lo hi))
  | .tuple xs => some (.tuple (cutG xs lo hi))
  | .str z => if z.length ≤ sizeLine then some (.str (cutS z lo hi)) else none
  | _ => none
theorem cutG_whole {α : Type} {xs : List α} {lo hi : Option Int} (h : HT.sIx xs.length 0 lo = 0 ∧ HT.sIx xs.length xs.length hi = xs.length) : cutG xs lo hi = xs := by
  unfold cutG
  rw [h.1, h.2, List.drop_zero, Nat.sub_zero, List.take_length]
theorem cut_dq {K : PySem.W.Frag} {F : Hp} {vs : List V} {xs : List PyData} {lo hi : Option Int} (h : DqAll K F vs xs) : DqAll K F (cutV vs lo hi) (cutG xs lo hi) := by
  unfold cutV cutG
  rw [dpa_len h]
  exact dpa_take _ (dpa_drop _ h)
def RDs (C : Ct) : V → Option Int → Option Int → Hp → VK → Prop := fun x lo hi H Q => ∃ F G d r, Same F G ∧ Same G H ∧ Vw C F G x d ∧ oSl d lo hi = some r ∧ End1 C .nw F G H r Q
theorem slr_imp {r r' : V → Option Int → Option Int → Hp → VK → Prop} (h : SlR X r) (w : ∀ x lo hi H Q, r' x lo hi H Q → r x lo hi H Q) : SlR X r' :=
  fun p s σ H x v vl vu lo hi sl Q I rx hs pl pu q => h p s σ H x v vl vu lo hi sl Q I rx hs pl pu (w _ _ _ _ _ q)
theorem o_sl (hK : X.K = C.K) : SlR X (RDs C) := by
  refine slr_imp (sl_list.or (sl_tupA.or sl_str)) fun x lo hi H Q ⟨F, G, d, r, fg, gh, hx, ho, q⟩ => ?_
  unfold oSl at ho
  split at ho
  · cases ho
    obtain ⟨a, vs, rfl, h1, h2⟩ := hx.list fg gh
    exact .inl ⟨a, vs, rfl, SqL.of h1, fun p n => q.lst fg gh (cut_dq h2) n⟩
  · cases ho
    obtain ⟨a, vs, rfl, h1, h2⟩ := hx.tuple fg gh
    refine .inr (.inl ⟨a, vs, rfl, hK ▸ h1, fun w => ?_, fun w p n => q.tup fg gh (cut_dq h2) n⟩)
    rw [dpa_len h2] at w
    rw [cutG_whole w] at q
    refine q.plainN fg gh ?_
    rcases hx with hx | ⟨_, _, _, _, z, _⟩
    · exact hx
    · cases z
  · obtain ⟨hz, rfl⟩ := bool_ite ho
    exact .inr (.inr ⟨_, hx.str, hz, q.plainN fg gh (.str _)⟩)
  · cases ho
/-- a part of a slice -/
abbrev Px := Rho → Src → Option (Option Int × Src)
def pNo : Px := fun _ W => some (none, W)
def pOf (f : Ex) : Px := fun ρ W => match f ρ W with
  | some (.int i, W1) => some (some i, W1)
  | _ => none
def TP0 (C : Ct) (f : Px) : TO := fun σ H Q => ∃ ρ W F G i W', Rel C ρ W F G σ H ∧ f ρ W = some (i, W') ∧ ∀ F' G' H', Ext C.Z F G H F' G' H' → Rel C ρ W' F' G' σ H' → Q i H'
theorem po_weak {o : Option Expr} {t t' : TO} (h : PO X o t) (w : ∀ σ H Q, t' σ H Q → t σ H Q) : PO X o t' := ⟨fun p s σ H Q I q => h.run p s σ H Q I (w σ H Q q)⟩
theorem p_no : PO X none (TP0 C pNo) := po_weak po_none fun σ H Q ⟨ρ, W, F, G, d, W', R, ef, q⟩ => by
  cases ef
  exact q F G H (Ext.refl ..) R
theorem p_of (h : PE X a (TX C m fa)) : PO X (some a) (TP0 C (pOf fa)) := po_weak (po_some h) fun σ H Q ⟨ρ, W, F, G, d, W', R, ef, q⟩ => by
  unfold pOf at ef
  split at ef
  · rename_i i W1 h1
    cases ef
    exact ⟨ρ, W, F, G, _, _, R, h1, fun v F1 G1 H1 x1 R1 r1 => ⟨i, r1.vw.int, q F1 G1 H1 x1 R1⟩⟩
  · cases ef
def eSl (a : Ex) (lo hi : Px) : Ex := fun ρ W => match a ρ W with
  | some (x, W1) => match lo ρ W1 with
    | some (l, W2) => match hi ρ W2 with
      | some (u, W3) => (oSl x l u).map fun r => (r, W3)
      | none => none
    | none => none
  | none => none
theorem x_sl {lo hi : Option Expr} {fl fh : Px} {p2 : Pos} (ho : SlR X (RDs C)) (ha : PE X a (TX C m fa)) (hl : PO X lo (TP0 C fl)) (hh : PO X hi (TP0 C fh)) : PE X (.Subscript a (.Slice lo hi none p2) pos) (TX C .nw (eSl fa fl fh)) := by
  refine pe_weak (pe_slice ho ha hl hh) fun σ H Q ⟨ρ, W, F, G, d, W', R, ef, q⟩ => ?_
  unfold eSl at ef
  split at ef
  · rename_i x W1 ea
    split at ef
    · rename_i l W2 el
      split at ef
      · rename_i u W3 eu
        cases hop : oSl x l u with
        | none => rw [hop] at ef; cases ef
        | some r =>
          rw [hop] at ef
          cases ef
          refine ⟨ρ, W, F, G, x, W1, R, ea, fun v F1 G1 H1 x1 R1 r1 => ⟨ρ, W1, F1, G1, l, W2, R1, el, fun F2 G2 H2 x2 R2 => ⟨ρ, W2, F2, G2, u, _, R2, eu, fun F3 G3 H3 x3 R3 => ?_⟩⟩⟩
          have x13 := (x1.trans x2).trans x3
          exact ⟨F3, G3, x, _, R3.fg, R3.gh, r1.vw.ext (x2.trans x3).f (x2.trans x3).g, hop, fun v4 F4 G4 H4 g4 r4 => q v4 F4 G4 H4 (x13.trans g4.ext) (R3.gr g4) (r4.back x13)⟩
      · cases ef
    · cases ef
  · cases ef

/-! ### built-in functions -/
theorem vwa_one {F G : Hp} {vs : List V} {d : PyData} (h : VwAll C F G vs [d]) : ∃ v, vs = [v] ∧ Vw C F G v d := by
  cases h with
  | cons a r => cases r; exact ⟨_, rfl, a⟩
theorem vwa_two {F G : Hp} {vs : List V} {d e : PyData} (h : VwAll C F G vs [d, e]) : ∃ v w, vs = [v, w] ∧ Vw C F G v d ∧ Vw C F G w e := by
  cases h with
  | cons a r => cases r with
    | cons b r => cases r; exact ⟨_, _, rfl, a, b⟩
def fLen : List PyData → Option PyData
  | [.list xs] => some (.int xs.length)
  | [.tuple xs] => some (.int xs.length)
  | [.str z] => if z.length ≤ sizeLine then some (.int z.length) else none
  | _ => none
theorem o_len (hK : X.K = C.K) : CallR X (.builtin "len") (RDn C .va fLen) := by
  refine call_imp (call_or call_len_seq call_len_str) fun xs H Q ⟨F, G, ds, r, fg, gh, hx, ho, q⟩ => ?_
  unfold fLen at ho
  rw [hK]
  split at ho
  · cases ho
    obtain ⟨v, rfl, hv⟩ := vwa_one hx
    obtain ⟨a, vs, rfl, h1, h2⟩ := hv.list fg gh
    exact .inl ⟨a, vs, rfl, .inl (SqL.of h1), by rw [dpa_len h2]; exact q.plain fg gh (.int _)⟩
  · cases ho
    obtain ⟨v, rfl, hv⟩ := vwa_one hx
    obtain ⟨a, vs, rfl, h1, h2⟩ := hv.tuple fg gh
    exact .inl ⟨a, vs, rfl, .inr h1, by rw [dpa_len h2]; exact q.plain fg gh (.int _)⟩
  · obtain ⟨hz, rfl⟩ := bool_ite ho
    obtain ⟨v, rfl, hv⟩ := vwa_one hx
    exact .inr ⟨_, by rw [hv.str], hz, q.plain fg gh (.int _)⟩
  · cases ho
def fTuple : List PyData → Option PyData
  | [.list xs] => some (.tuple xs)
  | [.tuple xs] => some (.tuple xs)
  | _ => none
theorem o_tuple (hK : X.K = C.K) : CallR X (.type "tuple") (RDn C .va fTuple) := by
  refine call_imp call_tuple_of fun xs H Q ⟨F, G, ds, r, fg, gh, hx, ho, q⟩ => ?_
  unfold fTuple at ho
  rw [hK]
  split at ho
  · cases ho
    obtain ⟨v, rfl, hv⟩ := vwa_one hx
    obtain ⟨a, vs, rfl, h1, h2⟩ := hv.list fg gh
    exact ⟨a, vs, rfl, .inl ⟨SqL.of h1, fun p n => q.tup fg gh h2 n⟩⟩
  · cases ho
    obtain ⟨v, rfl, hv⟩ := vwa_one hx
    obtain ⟨a, vs, rfl, h1, h2⟩ := hv.tuple fg gh
    refine ⟨a, vs, rfl, .inr ⟨h1, q.plain fg gh ?_⟩⟩
    rcases hv with hv | ⟨_, _, _, _, z, _⟩
    · exact hv
    · cases z
  · cases ho
def fList : List PyData → Option PyData
  | [.list xs] => some (.list xs)
  | [.tuple xs] => some (.list xs)
  | _ => none
theorem o_list (hK : X.K = C.K) : CallR X (.type "list") (RDn C .nw fList) := by
  refine call_imp call_list_of fun xs H Q ⟨F, G, ds, r, fg, gh, hx, ho, q⟩ => ?_
  unfold fList at ho
  rw [hK]
  split at ho
  · cases ho
    obtain ⟨v, rfl, hv⟩ := vwa_one hx
    obtain ⟨a, vs, rfl, h1, h2⟩ := hv.list fg gh
    exact ⟨a, vs, rfl, .inl (SqL.of h1), fun p n => q.lst fg gh h2 n⟩
  · cases ho
    obtain ⟨v, rfl, hv⟩ := vwa_one hx
    obtain ⟨a, vs, rfl, h1, h2⟩ := hv.tuple fg gh
    exact ⟨a, vs, rfl, .inr h1, fun p n => q.lst fg gh h2 n⟩
  · cases ho
def fInt : List PyData → Option PyData
  | [.int i] => some (.int i)
  | [.bool b] => some (.int (if b then 1 else 0))
  | _ => none
theorem o_int : CallR X (.type "int") (RDn C .va fInt) := by
  refine call_imp call_int1 fun xs H Q ⟨F, G, ds, r, fg, gh, hx, ho, q⟩ => ?_
  unfold fInt at ho
  split at ho
  · cases ho
    obtain ⟨v, rfl, hv⟩ := vwa_one hx
    exact .inl ⟨_, by rw [hv.int], q.plain fg gh (.int _)⟩
  · cases ho
    obtain ⟨v, rfl, hv⟩ := vwa_one hx
    exact .inr ⟨_, by rw [hv.bool], q.plain fg gh (.int _)⟩
  · cases ho
def fAbs : List PyData → Option PyData
  | [.int i] => some (.int (if i < 0 then -i else i))
  | _ => none
theorem o_abs : CallR X (.builtin "abs") (RDn C .va fAbs) := by
  refine call_imp call_abs fun xs H Q ⟨F, G, ds, r, fg, gh, hx, ho, q⟩ => ?_
  unfold fAbs at ho
  split at ho
  · cases ho
    obtain ⟨v, rfl, hv⟩ := vwa_one hx
    exact ⟨_, by rw [hv.int], q.plain fg gh (.int _)⟩
  · cases ho
def fMax : List PyData → Option PyData
  | [.int i, .int j] => some (.int (if j > i then j else i))
  | _ => none
theorem o_max (hc : X.calm = true) : CallR X (.builtin "max") (RDn C .va fMax) := by
  refine call_imp (call_max2 hc) fun xs H Q ⟨F, G, ds, r, fg, gh, hx, ho, q⟩ => ?_
  unfold fMax at ho
  split at ho
  · cases ho
    obtain ⟨v, w, rfl, hv, hw⟩ := vwa_two hx
    exact ⟨_, _, by rw [hv.int, hw.int], q.plain fg gh (.int _)⟩
  · cases ho
def fGcd : List PyData → Option PyData
  | [.int i, .int j] => some (.int ((Nat.gcd i.natAbs j.natAbs : Nat) : Int))
  | _ => none
theorem o_gcd : CallR X (.builtin "math.gcd") (RDn C .va fGcd) := by
  refine call_imp cr_gcd fun xs H Q ⟨F, G, ds, r, fg, gh, hx, ho, q⟩ => ?_
  unfold fGcd at ho
  split at ho
  · cases ho
    obtain ⟨v, w, rfl, hv, hw⟩ := vwa_two hx
    exact ⟨_, _, by rw [hv.int, hw.int], q.plain fg gh (.int _)⟩
  · cases ho
/-- a module's name for a built-in function -/
theorem x_callM {x : Str} {p : Pos} {id : String} {es : List Expr} {f : List PyData → Option PyData} {fl : Lx} (hc : CallR X (.builtin id) (RDn C m f)) (hg : Gl X x) (hm : X.mg x = some (.builtin id)) (ha : PA X (a :: es) (TV C fl)) (hdb : (x == ("__debug__" : Str)) = false)
    (he : starEach (a :: es) X.env = (false, eval a X.env) :: starEach es X.env) (hpl : (backTo pos (starEach es X.env)).any (·.1) = false) : PE X (.Call (.Name x p) (a :: es) [] pos) (TX C m (eN f fl)) := by
  refine pe_weak (pe_callBfun hc hg hm ha hdb he hpl) fun σ H Q ⟨ρ, W, F, G, d, W', R, ef, q⟩ => ?_
  obtain ⟨xs, h1, h2⟩ := eN_some ef
  exact ⟨ρ, W, F, G, xs, W', R, h1, fun vs F1 G1 H1 x1 R1 r1 => ⟨F1, G1, xs, d, R1.fg, R1.gh, r1, h2, fun v3 F3 G3 H3 g3 r3 => q v3 F3 G3 H3 (x1.trans g3.ext) (R1.gr g3) (r3.back x1)⟩⟩
end
end Dv
set_option Elab.async false
set_option linter.all false
set_option maxRecDepth 100000
set_option maxHeartbeats 1000000
/-! Part 6: repr, isinstance, all, calls of defs by what they are worth. -/
namespace Dv
open PySem PySem.Spec PyProof.Rows L2

section
variable {X : Cx} {C : Ct} {m : Mode} {a b : Expr} {fa fb : Ex} {pos : Pos}
/-- repr -/
def canShow (d : PyData) : Bool := d.showable && !d.hasDict && decide (d.depth ≤ 60) && decide (d.shown.length ≤ sizeLine)
def fRepr : List PyData → Option PyData
  | [d] => if canShow d = true then some (.str d.shown) else none
  | _ => none
theorem o_repr (hK : X.K = C.K) (hg : X.A.guards = some []) (hu : X.A.units + 64 < cLine) : CallR X (.builtin "repr") (RDn C .va fRepr) := by
  intro pins s σ H xs us Q I rx ⟨F, G, ds, r, fg, gh, hx, ho, q⟩
  unfold fRepr at ho
  split at ho
  · rename_i d
    obtain ⟨hs, rfl⟩ := bool_ite ho
    unfold canShow at hs
    simp only [Bool.and_eq_true, decide_eq_true_eq, Bool.not_eq_true'] at hs
    obtain ⟨⟨⟨s1, s2⟩, s3⟩, s4⟩ := hs
    obtain ⟨v, rfl, hv⟩ := vwa_one hx
    obtain ⟨u, rfl, ru⟩ := Vals.one rx
    have hd : Dp X.K H v d := hK ▸ dq_dp (dp_same gh (hv.dp fg))
    obtain ⟨as, rr⟩ := Dp.reads I d v u hd ru
    have fin : ∀ (h' : Heap) (tu tk : Nat), (∀ b o, s.heap.get? b = some o → h'.get? b = some o) → EP X pins σ Q (.str d.shown tu) { s with heap := h', toks := tk } := fun h' tu tk hk =>
      ⟨.str d.shown, H, I.kept hk, ⟨tu, rfl⟩, q.plain fg gh (.str _)⟩
    cases hd with
    | non => cases ru; exact PySem.P.repr_of_none ⟨.str _, H, I.tok _, ⟨_, rfl⟩, q.plain fg gh (.str _)⟩
    | bl b =>
      cases ru
      refine PySem.P.repr_of_bool ⟨.str _, H, I.tok _, ⟨_, rfl⟩, ?_⟩
      cases b <;> exact q.plain fg gh (.str _)
    | int i =>
      obtain ⟨t, rfl⟩ := ru
      refine PySem.P.repr_of_int (of_decide_eq_true s1) ⟨.str _, H, I.tok _, ⟨_, rfl⟩, ?_⟩
      exact q.plain fg gh (.str _)
    | str z =>
      obtain ⟨t, rfl⟩ := ru
      exact PySem.P.repr_of_str ⟨.str _, H, I.tok _, ⟨_, rfl⟩, q.plain fg gh (.str _)⟩ s4
    | lst h1 h2 =>
      cases ru
      exact repr_of_reads' rr s1 (fun z => by rw [s2] at z; cases z) hg (by omega) (fun _ _ e => e) fin s4
    | tup h1 h2 =>
      cases ru
      exact repr_of_reads' rr s1 (fun z => by rw [s2] at z; cases z) hg (by omega) (fun _ _ e => e) fin s4
  · cases ho

/-- isinstance(x, T), T built-in -/
def iTy : PyData → String
  | .none => "NoneType"
  | .bool _ => "bool"
  | .int _ => "int"
  | .str _ => "str"
  | .list _ => "list"
  | .tuple _ => "tuple"
  | .dict _ => "dict"
def isT (T : String) (d : PyData) : Option PyData := (kitB (iTy d) T).map .bool
theorem tyx_of {F G H : Hp} {v : V} {d : PyData} (fg : Same F G) (gh : Same G H) (h : Vw C F G v d) : TyX C.K H v (.type (iTy d)) := by
  have hd := dp_same gh (h.dp fg)
  cases hd with
  | non => exact .base .non
  | bl b => exact .base (.bl b)
  | int i => exact .base (.int i)
  | str z => exact .base (.str z)
  | lst g r => exact .base (.lst g)
  | tup g r =>
    rcases g with g | ⟨o, its, n, h1, h2, _⟩
    · rcases g with g | ⟨o, g⟩
      · exact .base (.tup g)
      · exact .fTuple g
    · exact .kTuple h1 h2
theorem x_isi {p pt : Pos} {T : Str} {tn : String} (hK : X.K = C.K) (hg : Gl X "isinstance") (hm : X.mg "isinstance" = none) (hgT : Gl X T) (hmT : X.mg T = none) (hvT : bootBuiltins T = some (.type tn)) (hn : T ≠ "__name__") (hdT : (T == ("__debug__" : Str)) = false)
    (ha : PE X a (TX C m fa)) (he : starEach [a, .Name T pt] X.env = (false, eval a X.env) :: starEach [.Name T pt] X.env) (hpl : (backTo pos (starEach [.Name T pt] X.env)).any (·.1) = false) :
    PE X (.Call (.Name "isinstance" p) [a, .Name T pt] [] pos) (TX C .va (e1 (isT tn) fa)) := by
  have hT : PE X (.Name T pt) (tC (.ty tn)) := pe_bltn hgT hmT hvT rfl hn hdT
  refine pe_weak (pe_callB call_isi hg hm (by decide +kernel) (pa_cons ha (pa_cons hT pa_nil) he) (by decide) (by decide) he hpl) fun σ H Q ⟨ρ, W, F, G, d, W', R, ef, q⟩ => ?_
  unfold e1 at ef
  cases h1 : fa ρ W with
  | none => rw [h1] at ef; cases ef
  | some p =>
    obtain ⟨x, W1⟩ := p
    rw [h1] at ef
    unfold isT at ef
    cases hk : kitB (iTy x) tn with
    | none => simp only [hk] at ef; cases ef
    | some b =>
      simp only [hk] at ef
      cases ef
      refine ⟨ρ, W, F, G, x, _, R, h1, fun v F1 G1 H1 x1 R1 r1 => ?_⟩
      refine ⟨v, .ty tn, _, _, b, rfl, .ty tn, hK ▸ tyx_of R1.fg R1.gh r1.vw, kit_ty hk, ?_⟩
      exact q _ F1 G1 H1 x1 R1 (.bl b)

/-- all, any over a list of truth values -/
def asBools : List PyData → Option (List Bool)
  | [] => some []
  | .bool b :: r => (asBools r).map fun l => b :: l
  | _ => none
theorem asBools_some : ∀ {ds : List PyData} {l : List Bool}, asBools ds = some l → ds = l.map PyData.bool
  | [], l, h => by cases h; rfl
  | d :: r, l, h => by
    cases d with
    | bool b =>
      have h' : (asBools r).map (fun l => b :: l) = some l := h
      cases e : asBools r with
      | none => rw [e] at h'; cases h'
      | some m =>
        rw [e] at h'
        cases h'
        rw [asBools_some e]
        rfl
    | _ => cases h
theorem dqa_bools {K : PySem.W.Frag} {F : Hp} : ∀ {l : List Bool} {vs : List V}, DqAll K F vs (l.map PyData.bool) → vs = l.map V.bl
  | [], _, .nil => rfl
  | i :: l, _, .cons a r => by
    cases a
    rw [dqa_bools r]
    rfl
def fAll : List PyData → Option PyData
  | [.list xs] => (asBools xs).map fun l => .bool (l.all id)
  | _ => none
def fAny : List PyData → Option PyData
  | [.list xs] => (asBools xs).map fun l => .bool (l.any id)
  | _ => none
theorem o_all (hK : X.K = C.K) (hc : X.calm = true) : CallR X (.builtin "all") (RDn C .va fAll) := by
  refine call_imp (cr_all hc) fun xs H Q ⟨F, G, ds, r, fg, gh, hx, ho, q⟩ => ?_
  unfold fAll at ho
  split at ho
  · rename_i ys
    cases e : asBools ys with
    | none => rw [e] at ho; cases ho
    | some l =>
      rw [e] at ho
      cases ho
      rw [asBools_some e] at hx
      obtain ⟨v, rfl, hv⟩ := vwa_one hx
      obtain ⟨a, vs, rfl, h1, h2⟩ := hv.list fg gh
      rw [dqa_bools h2] at h1
      exact ⟨a, l, rfl, SqL.of h1, q.plain fg gh (.bl _)⟩
  · cases ho
theorem o_any (hK : X.K = C.K) (hc : X.calm = true) : CallR X (.builtin "any") (RDn C .va fAny) := by
  refine call_imp (cr_any hc) fun xs H Q ⟨F, G, ds, r, fg, gh, hx, ho, q⟩ => ?_
  unfold fAny at ho
  split at ho
  · rename_i ys
    cases e : asBools ys with
    | none => rw [e] at ho; cases ho
    | some l =>
      rw [e] at ho
      cases ho
      rw [asBools_some e] at hx
      obtain ⟨v, rfl, hv⟩ := vwa_one hx
      obtain ⟨a, vs, rfl, h1, h2⟩ := hv.list fg gh
      rw [dqa_bools h2] at h1
      exact ⟨a, l, rfl, SqL.of h1, q.plain fg gh (.bl _)⟩
  · cases ho
end

/-! ### what a def is worth -/
inductive Ar where
  | d (x : PyData) | src
abbrev Ctr := List Ar → Src → Option (PyData × Src)
def ArOk (K : PySem.W.Frag) (Z : Zn) (F : Hp) : V → Ar → Prop
  | v, .d x => Dq K F v x
  | v, .src => ∃ p, Z = some p ∧ v = .ref p.1
inductive ArsOk (K : PySem.W.Frag) (Z : Zn) (F : Hp) : List V → List Ar → Prop
  | nil : ArsOk K Z F [] []
  | cons {v x vs xs} : ArOk K Z F v x → ArsOk K Z F vs xs → ArsOk K Z F (v :: vs) (x :: xs)
def spC (K : PySem.W.Frag) (φ : Ctr) (n : Nat) : Sp := fun vs H Q _ => vs.length = n ∧ ∃ Z F as W r W', Same F H ∧ SrcAt Z W H ∧ (∀ a, Zm Z a → F a = none) ∧ ArsOk K Z F vs as ∧ φ as W = some (r, W') ∧
  ∀ v F' H', Same F F' → Same F' H' → SrcAt Z W' H' → (∀ a o, H a = some o → ¬ Zm Z a → H' a = some o) → (∀ a o, H a = some o → F a = none → F' a = none) → Dq K F' v r → Q v H'
abbrev Ax := Rho → Src → Option (List Ar × Src)
def aNil : Ax := fun _ W => some ([], W)
def aCons (a : Ex) (r : Ax) : Ax := fun ρ W => match a ρ W with
  | some (x, W1) => match r ρ W1 with
    | some (xs, W2) => some (.d x :: xs, W2)
    | none => none
  | none => none
def aSrc (i : Nat) (r : Ax) : Ax := fun ρ W => match ρ[i]? with
  | some .src => match r ρ W with
    | some (xs, W2) => some (.src :: xs, W2)
    | none => none
  | _ => none
def TA' (C : Ct) (f : Ax) : TA := fun σ H Q => ∃ ρ W F G as W', Rel C ρ W F G σ H ∧ f ρ W = some (as, W') ∧
  ∀ vs F' G' H', Ext C.Z F G H F' G' H' → Rel C ρ W' F' G' σ H' → ArsOk C.K C.Z F' vs as → Q vs H'
def eCall (φ : Ctr) (a : Ax) : Ex := fun ρ W => match a ρ W with
  | some (as, W1) => φ as W1
  | none => none
theorem ArOk.ext {K : PySem.W.Frag} {Z : Zn} {F F' : Hp} {v : V} {x : Ar} (h : ArOk K Z F v x) (f : Same F F') : ArOk K Z F' v x := match x, h with
  | .d _, h => dp_same f h
  | .src, h => h
section
variable {X : Cx} {C : Ct} {a : Expr} {fa : Ex} {pos : Pos}
theorem a_nil : PA X [] (TA' C aNil) := pa_weak pa_nil fun σ H Q ⟨ρ, W, F, G, ds, W', R, ef, q⟩ => by
  cases ef
  exact q [] F G H (Ext.refl ..) R .nil
theorem a_cons {es : List Expr} {fr : Ax} (ha : PE X a (TX C .va fa)) (hr : PA X es (TA' C fr)) (hs : starEach (a :: es) X.env = (false, eval a X.env) :: starEach es X.env) : PA X (a :: es) (TA' C (aCons fa fr)) := by
  refine pa_weak (pa_cons ha hr hs) fun σ H Q ⟨ρ, W, F, G, ds, W', R, ef, q⟩ => ?_
  unfold aCons at ef
  split at ef
  · rename_i x W1 h1
    split at ef
    · rename_i xs W2 h2
      cases ef
      exact ⟨ρ, W, F, G, x, W1, R, h1, fun v F1 G1 H1 x1 R1 r1 => ⟨ρ, W1, F1, G1, xs, _, R1, h2, fun vs F2 G2 H2 x2 R2 r2 => q _ F2 G2 H2 (x1.trans x2) R2 (.cons (ArOk.ext (x := .d x) r1 x2.f) r2)⟩⟩
    · cases ef
  · cases ef
theorem a_src {i : Nat} {x : Str} {p : Pos} {es : List Expr} {fr : Ax} (hN : X.N[i]? = some x) (hv : Vis X.env.scope x) (hd : (x == ("__debug__" : Str)) = false) (hcd : (x == ("__classdict__" : Str)) = false) (hr : PA X es (TA' C fr))
    (hs : starEach (.Name x p :: es) X.env = (false, eval (.Name x p) X.env) :: starEach es X.env) : PA X (.Name x p :: es) (TA' C (aSrc i fr)) := by
  refine pa_weak (pa_cons (pe_var hN hv hd hcd) hr hs) fun σ H Q ⟨ρ, W, F, G, ds, W', R, ef, q⟩ => ?_
  unfold aSrc at ef
  split at ef
  · rename_i h1
    split at ef
    · rename_i xs W2 h2
      cases ef
      obtain ⟨o, g1, g2⟩ := R.sl i _ h1
      cases g2 with
      | src hz => exact ⟨_, g1, ρ, W, F, G, xs, _, R, h2, fun vs F2 G2 H2 x2 R2 r2 => q _ F2 G2 H2 x2 R2 (.cons ⟨_, hz, rfl⟩ r2)⟩
    · cases ef
  · cases ef
/-- what a call leaves -/
theorem call_end {φ : Ctr} {n : Nat} {as : List Ar} {ρ : Rho} {W W' : Src} {F G H : Hp} {σ : L2.St} {r : PyData} {vs : List V} {Q : VK} {E : XK} (R : Rel C ρ W F G σ H) (hn : vs.length = n) (ha : ArsOk C.K C.Z F vs as) (hφ : φ as W = some (r, W'))
    (q : ∀ v F' G' H', Ext C.Z F G H F' G' H' → Rel C ρ W' F' G' σ H' → Res .va C F' G' H v r → Q v H') : spC C.K φ n vs H Q E := by
  refine ⟨hn, C.Z, F, as, W, r, W', R.fh, R.src, fun b hz => R.fg.free (R.gz b hz), ha, hφ, fun v F' H' f1 f2 s1 k1 k2 d1 => ?_⟩
  let G' : Hp := fun b => match F' b with
    | some o => some o
    | none => G b
  have fg' : Same F' G' := fun b o h => by show (match F' b with | some o => some o | none => G b) = some o; rw [h]
  have gg : Same G G' := fun b o h => by
    show (match F' b with | some o => some o | none => G b) = some o
    cases e : F' b with
    | none => exact h
    | some o' =>
      have hb : H b = some o := R.gh b o h
      cases e2 : F b with
      | none => rw [k2 b o hb e2] at e; cases e
      | some o2 =>
        have := f1 b o2 e2
        rw [this] at e
        have h3 := R.fg b o2 e2
        rw [h] at h3
        show some o' = some o
        rw [← e, ← h3]
  have gh' : Same G' H' := fun b o h => by
    have h : (match F' b with | some o => some o | none => G b) = some o := h
    cases e : F' b with
    | some o' => rw [e] at h; rw [← h]; exact f2 b o' e
    | none =>
      rw [e] at h
      exact k1 b o (R.gh b o h) fun hz => by rw [R.gz b hz] at h; cases h
  have x1 : Ext C.Z F G H F' G' H' := by
    refine ⟨f1, gg, k2, fun b o h n => ?_, k1, fun b hz h => ?_⟩
    · show (match F' b with | some o => some o | none => G b) = none
      have fn : F b = none := R.fg.free n
      rw [k2 b o h fn]
      exact n
    · obtain ⟨p, hp, e | e⟩ := hz
      · rw [e, (s1 p hp).2.1]; simp
      · rw [e, (s1 p hp).2.2]; simp
  exact q v F' G' H' x1 (R.ext x1 fg' gh' s1) d1
theorem x_call {φ : Ctr} {n k : Nat} {f : Addr} {fd : FuncData} {ps : List Str} {x : Str} {p : Pos} {es : List Expr} {fl : Ax} (hK : X.K = C.K) (Fn : FG X.prog X.w X.K X.mg X.base CX0 k f fd ps (spC C.K φ n)) (hr : Room k X.A) (hgd : X.A.guards = some []) (hg : Gl X x) (hm : X.mg x = some (.ref f)) (hk : PySem.W.keepIn X.K (.ref f) = true) (hb : Binds X.K fd ps [])
    (ha : PA X (a :: es) (TA' C fl)) (hdb : (x == ("__debug__" : Str)) = false) (he : starEach (a :: es) X.env = (false, eval a X.env) :: starEach es X.env) (hpl : (backTo pos (starEach es X.env)).any (·.1) = false) (hlen : ∀ ρ W as W', fl ρ W = some (as, W') → as.length = n) :
    PE X (.Call (.Name x p) (a :: es) [] pos) (TX C .va (eCall φ fl)) := by
  refine pe_weak (pe_fg (E := E0) Fn hr hgd hg hm hk hb pass0 ha hdb he hpl) fun σ H Q ⟨ρ, W, F, G, d, W', R, ef, q⟩ => ?_
  unfold eCall at ef
  split at ef
  · rename_i as W1 h1
    refine ⟨ρ, W, F, G, as, W1, R, h1, fun vs F1 G1 H1 x1 R1 r1 => ?_⟩
    have hl : vs.length = n := by
      rw [← hlen _ _ _ _ h1]
      clear h1 ef
      induction r1 with
      | nil => rfl
      | cons _ _ ih => simp [ih]
    exact call_end R1 hl r1 ef fun v F2 G2 H2 x2 R2 r2 => q v F2 G2 H2 (x1.trans x2) R2 r2
  · cases ef
end
end Dv
set_option Elab.async false
set_option linter.all false
set_option maxRecDepth 100000
set_option maxHeartbeats 1000000
/-! Part 7: targets, statements, loops, comprehensions. -/
namespace Dv
open PySem PySem.Spec PyProof.Rows L2

inductive Out where
  | nx (ρ : Rho) (W : Src)
  | rt (d : PyData) (W : Src)
  | bk (ρ : Rho) (W : Src)
  | ct (ρ : Rho) (W : Src)
abbrev Sx := Rho → Src → Option Out
def Fin (C : Ct) (F0 : Hp) (D : Ends) : Out → Prop
  | .nx ρ W => ∀ F G σ H, Same F0 F → Rel C ρ W F G σ H → D.nx σ H
  | .rt d W => ∀ v ρ F G σ H, Same F0 F → Rel C ρ W F G σ H → Dq C.K F v d → D.rt v H
  | .bk ρ W => ∀ F G σ H, Same F0 F → Rel C ρ W F G σ H → D.bk σ H
  | .ct ρ W => ∀ F G σ H, Same F0 F → Rel C ρ W F G σ H → D.ct σ H
theorem Fin.mono {C : Ct} {F0 F1 : Hp} {D : Ends} {o : Out} (s : Same F0 F1) (h : Fin C F0 D o) : Fin C F1 D o := by
  cases o with
  | nx ρ W => exact fun F G σ H e => h F G σ H (s.trans e)
  | rt d W => exact fun v ρ F G σ H e => h v ρ F G σ H (s.trans e)
  | bk ρ W => exact fun F G σ H e => h F G σ H (s.trans e)
  | ct ρ W => exact fun F G σ H e => h F G σ H (s.trans e)
def TS' (C : Ct) (f : Sx) : TS := fun D σ H => ∃ ρ W F G o, Rel C ρ W F G σ H ∧ f ρ W = some o ∧ Fin C F D o

/-! ### targets -/
abbrev Gx := PyData → Rho → Option Rho
abbrev Gxs := List PyData → Rho → Option Rho
def gN (i : Nat) : Gx := fun d ρ => some (ρ.set i (.d d))
def gT (n : Nat) (g : Gxs) : Gx := fun d ρ => match d with
  | .tuple xs => if xs.length = n then g xs ρ else none
  | _ => none
def gs0 : Gxs := fun xs ρ => match xs with
  | [] => some ρ
  | _ => none
def gsC (g : Gx) (h : Gxs) : Gxs := fun xs ρ => match xs with
  | x :: r => match g x ρ with
    | some ρ1 => h r ρ1
    | none => none
  | [] => none
def TG' (C : Ct) (vs : List Nat) (g : Gx) : TG := fun v σ H Q => ∃ ρ W F G d ρ', Rel C ρ W F G σ H ∧ Dq C.K F v d ∧ g d ρ = some ρ' ∧ ∀ σ', wipe σ' vs = wipe σ vs → Rel C ρ' W F G σ' H → Q σ' H
def TGs' (C : Ct) (vs : List Nat) (g : Gxs) : TGs := fun us σ H Q => ∃ ρ W F G ds ρ', Rel C ρ W F G σ H ∧ DqAll C.K F us ds ∧ g ds ρ = some ρ' ∧ ∀ σ', wipe σ' vs = wipe σ vs → Rel C ρ' W F G σ' H → Q σ' H
theorem pg_weak {X : Cx} {e : Expr} {t t' : TG} (h : PG X e t) (w : ∀ v σ H Q, t' v σ H Q → t v σ H Q) : PG X e t' := ⟨fun p s σ H v u Q I r q => h.run p s σ H v u Q I r (w v σ H Q q)⟩
theorem pgs_weak {X : Cx} {e : List Expr} {t t' : TGs} (h : PGs X e t) (w : ∀ v σ H Q, t' v σ H Q → t v σ H Q) : PGs X e t' := ⟨fun p s σ H v u Q I r q => h.run p s σ H v u Q I r (w v σ H Q q)⟩
theorem wipe_set {σ : L2.St} {i : Nat} {x : Option V} : ∀ {vs : List Nat}, i ∈ vs → wipe (σ.set i x) vs = wipe σ vs
  | v :: vs, h => by
    show (wipe (σ.set i x) vs).set v none = (wipe σ vs).set v none
    by_cases hi : i ∈ vs
    · rw [wipe_set hi]
    · have e : v = i := by
        rcases List.mem_cons.mp h with z | z
        · exact z.symm
        · exact absurd z hi
      subst e
      have go : ∀ us : List Nat, v ∉ us → wipe (σ.set v x) us = (wipe σ us).set v x := by
        intro us
        induction us with
        | nil => intro _; rfl
        | cons u us ih =>
          intro hn
          show (wipe (σ.set v x) us).set u none = ((wipe σ us).set u none).set v x
          rw [ih (fun z => hn (List.mem_cons_of_mem _ z)), List.set_comm _ _ (fun z => hn (by rw [z]; exact List.mem_cons_self))]
      rw [go vs hi, List.set_set]
theorem wipe_idem {σ : L2.St} (vs : List Nat) : wipe (wipe σ vs) vs = wipe σ vs := by
  have go : ∀ us : List Nat, (∀ u ∈ us, u ∈ vs) → wipe (wipe σ us) vs = wipe σ vs := by
    intro us
    induction us with
    | nil => intro _; rfl
    | cons u us ih =>
      intro h
      show wipe ((wipe σ us).set u none) vs = _
      rw [wipe_set (h u List.mem_cons_self)]
      exact ih fun w hw => h w (List.mem_cons_of_mem _ hw)
  exact go vs fun _ h => h
section
variable {X : Cx} {C : Ct} {pos : Pos} {vs : List Nat}
theorem g_name {i : Nat} {x : Str} (hN : X.N.Nodup) (hi : X.N[i]? = some x) (hx : Loc X.env.scope x) (hf : X.fn x = true ∨ X.env.scope.names.lookup x = some .local) (hv : i ∈ vs) : PG X (.Name x pos) (TG' C vs (gN i)) :=
  pg_weak (pg_name hN hi hx hf) fun v σ H Q ⟨ρ, W, F, G, d, ρ', R, hd, e, q⟩ => by
    cases e
    exact q _ (wipe_set hv) (R.set i hd)
theorem gs_nil : PGs X [] (TGs' C vs gs0) := pgs_weak pgs_nil fun us σ H Q ⟨ρ, W, F, G, ds, ρ', R, hd, e, q⟩ => by
  cases hd with
  | nil => cases e; exact ⟨rfl, q σ rfl R⟩
  | cons _ _ => cases e
theorem gs_cons {e : Expr} {es : List Expr} {g : Gx} {h : Gxs} (h1 : PG X e (TG' C vs g)) (h2 : PGs X es (TGs' C vs h)) (hs : (assignEach (e :: es) X.env).map (·.2) = assign e X.env :: (assignEach es X.env).map (·.2)) : PGs X (e :: es) (TGs' C vs (gsC g h)) :=
  pgs_weak (pgs_cons h1 h2 hs) fun us σ H Q ⟨ρ, W, F, G, ds, ρ', R, hd, e, q⟩ => by
    cases hd with
    | nil => cases e
    | cons a r =>
      unfold gsC at e
      split at e
      · rename_i x r' e1
        cases e1
        split at e
        · rename_i ρ1 e2
          exact ⟨_, _, rfl, ρ, W, F, G, _, ρ1, R, a, e2, fun σ1 w1 R1 => ⟨ρ1, W, F, G, _, ρ', R1, r, e, fun σ2 w2 R2 => q σ2 (w2.trans w1) R2⟩⟩
        · cases e
      · cases e
theorem g_tup {es : List Expr} {k n : Nat} {h : Gxs} (hK : X.K = C.K) (hc : X.calm = true) (hp : PGs X es (TGs' C vs h)) (hn : (assignEach es X.env).length = n) (hst : (assignEach es X.env).findIdx? (·.1) = none) : PG X (.Tuple es k pos) (TG' C vs (gT n h)) :=
  pg_weak (pg_tup hc hp hn hst) fun v σ H Q ⟨ρ, W, F, G, d, ρ', R, hd, e, q⟩ => by
    unfold gT at e
    split at e
    · rename_i xs
      split at e
      · rename_i hl
        cases hd with
        | tup ht r => exact ⟨_, _, rfl, hK ▸ sqt_same R.fh ht, by rw [dpa_len r]; exact hl, ρ, W, F, G, xs, ρ', R, r, e, q⟩
      · cases e
    · cases e

/-! ### blocks -/
def s0 : Sx := fun ρ W => some (.nx ρ W)
def sC (a b : Sx) : Sx := fun ρ W => match a ρ W with
  | some (.nx ρ1 W1) => b ρ1 W1
  | o => o
theorem ss_nil : PSs X [] (TS' C s0) := pss_weak pss_nil fun D σ H ⟨ρ, W, F, G, o, R, e, q⟩ => by
  cases e
  exact q F G σ H (Same.refl _) R
theorem ss_cons {st : Stmt} {rest : List Stmt} {f g : Sx} (h1 : PS X st (TS' C f)) (h2 : PSs X rest (TS' C g)) : PSs X (st :: rest) (TS' C (sC f g)) := pss_weak (pss_cons h1 h2) fun D σ H ⟨ρ, W, F, G, o, R, e, q⟩ => by
  unfold sC at e
  cases hf : f ρ W with
  | none => rw [hf] at e; cases e
  | some o1 =>
    refine ⟨ρ, W, F, G, o1, R, hf, ?_⟩
    rw [hf] at e
    cases o1 with
    | nx ρ1 W1 => exact fun F1 G1 σ1 H1 s1 R1 => ⟨ρ1, W1, F1, G1, o, R1, e, q.mono s1⟩
    | rt d W1 => cases e; exact q
    | bk ρ1 W1 => cases e; exact q
    | ct ρ1 W1 => cases e; exact q
def sPass : Sx := s0
theorem st_pass : PS X (.Pass pos) (TS' C sPass) := ps_weak ps_pass fun D σ H ⟨ρ, W, F, G, o, R, e, q⟩ => by
  cases e
  exact q F G σ H (Same.refl _) R
def sBreak : Sx := fun ρ W => some (.bk ρ W)
theorem st_break : PS X (.Break pos) (TS' C sBreak) := ps_weak ps_break fun D σ H ⟨ρ, W, F, G, o, R, e, q⟩ => by
  cases e
  exact q F G σ H (Same.refl _) R
def sCont : Sx := fun ρ W => some (.ct ρ W)
theorem st_cont : PS X (.Continue pos) (TS' C sCont) := ps_weak ps_continue fun D σ H ⟨ρ, W, F, G, o, R, e, q⟩ => by
  cases e
  exact q F G σ H (Same.refl _) R
def sStuck : Sx := fun _ _ => none
theorem st_stuck {st : Stmt} : PS X st (TS' C sStuck) := ps_weak ps_never fun D σ H ⟨ρ, W, F, G, o, R, e, q⟩ => by cases e
theorem st_doc {x : Str} {j : Nat} {pos' : Pos} : PS X (.Expr (.Constant (.str x) j pos) pos') (TS' C sPass) := ps_weak ps_doc fun D σ H ⟨ρ, W, F, G, o, R, e, q⟩ => by
  cases e
  exact q F G σ H (Same.refl _) R
def sRet (f : Ex) : Sx := fun ρ W => match f ρ W with
  | some (d, W1) => some (.rt d W1)
  | none => none
theorem st_ret {a : Expr} {f : Ex} (h : PE X a (TX C .va f)) : PS X (.Return (some a) pos) (TS' C (sRet f)) := ps_weak (ps_ret h) fun D σ H ⟨ρ, W, F, G, o, R, e, q⟩ => by
  unfold sRet at e
  split at e
  · rename_i d W1 e1
    cases e
    exact ⟨ρ, W, F, G, d, W1, R, e1, fun v F1 G1 H1 x1 R1 r1 => q v ρ F1 G1 σ H1 x1.f R1 r1⟩
  · cases e
def sRetN : Sx := fun ρ W => some (.rt .none W)
theorem st_retN : PS X (.Return none pos) (TS' C sRetN) := ps_weak ps_retN fun D σ H ⟨ρ, W, F, G, o, R, e, q⟩ => by
  cases e
  exact q .non ρ F G σ H (Same.refl _) R .non
def sIf (t : Tx) (a b : Sx) : Sx := fun ρ W => match t ρ W with
  | some (true, W1) => a ρ W1
  | some (false, W1) => b ρ W1
  | none => none
theorem st_if {c : Expr} {a b : List Stmt} {t : Tx} {f g : Sx} (hc : PT X c (TB C t)) (ha : PSs X a (TS' C f)) (hb : PSs X b (TS' C g)) : PS X (.If c a b pos) (TS' C (sIf t f g)) := ps_weak (ps_if hc ha hb) fun D σ H ⟨ρ, W, F, G, o, R, e, q⟩ => by
  unfold sIf at e
  split at e
  · rename_i W1 h1
    refine ⟨ρ, W, F, G, _, W1, R, h1, fun F1 G1 H1 x1 R1 => ?_⟩
    refine iteT ?_
    exact ⟨ρ, W1, F1, G1, o, R1, e, q.mono x1.f⟩
  · rename_i W1 h1
    refine ⟨ρ, W, F, G, _, W1, R, h1, fun F1 G1 H1 x1 R1 => ?_⟩
    refine iteF ?_
    exact ⟨ρ, W1, F1, G1, o, R1, e, q.mono x1.f⟩
  · cases e
def sDrop (f : Ex) : Sx := fun ρ W => match f ρ W with
  | some (_, W1) => some (.nx ρ W1)
  | none => none
theorem st_drop {a : Expr} {m : Mode} {f : Ex} (h : PE X a (TX C m f)) (hs : swapsWith a none pos.line X.env = pure false) : PS X (.Expr a pos) (TS' C (sDrop f)) := ps_weak (ps_expr h hs) fun D σ H ⟨ρ, W, F, G, o, R, e, q⟩ => by
  unfold sDrop at e
  split at e
  · rename_i d W1 e1
    cases e
    exact ⟨ρ, W, F, G, d, W1, R, e1, fun v F1 G1 H1 x1 R1 r1 => q F1 G1 σ H1 x1.f R1⟩
  · cases e
/-! ### assignments -/
def sSet (g : Gx) (f : Ex) : Sx := fun ρ W => match f ρ W with
  | some (d, W1) => match g d ρ with
    | some ρ1 => some (.nx ρ1 W1)
    | none => none
  | none => none
theorem st_set {tg a : Expr} {f : Ex} {g : Gx} (h : PE X a (TX C .va f)) (hg : PG X tg (TG' C vs g)) (hs : swapsWithSole [tg] a pos.line X.env = pure false) (hw : swappedStores [tg] a X.env = pure none) (h1 : (assignEach [tg] X.env).map (·.2) = [assign tg X.env]) :
    PS X (.Assign [tg] a pos) (TS' C (sSet g f)) := ps_weak (ps_asg h hg hs hw h1) fun D σ H ⟨ρ, W, F, G, o, R, e, q⟩ => by
  unfold sSet at e
  split at e
  · rename_i d W1 e1
    split at e
    · rename_i ρ1 e2
      cases e
      exact ⟨ρ, W, F, G, d, W1, R, e1, fun v F1 G1 H1 x1 R1 r1 => ⟨ρ, W1, F1, G1, d, ρ1, R1, r1, e2, fun σ2 w2 R2 => q F1 G1 σ2 H1 x1.f R2⟩⟩
    · cases e
  · cases e
/-- a new list becomes the name's own -/
def sNew (i : Nat) (f : Ex) : Sx := fun ρ W => match f ρ W with
  | some (.list xs, W1) => some (.nx (ρ.set i (.own xs)) W1)
  | some (d, W1) => some (.nx (ρ.set i (.d d)) W1)
  | none => none
theorem Rel.h0 {ρ : Rho} {W : Src} {F G H : Hp} {σ : L2.St} {a : Addr} (R : Rel C ρ W F G σ H) (h : H a = none) : C.H0 a = none := by
  cases e : C.H0 a with
  | none => rfl
  | some o =>
    by_cases hz : Zm C.Z a
    · obtain ⟨o', h'⟩ := R.zh hz
      rw [h] at h'; cases h'
    · rw [R.b2 a o e hz] at h; cases h
theorem own_there {ρ : Rho} {W : Src} {F G H : Hp} {σ : L2.St} {j : Nat} {ys : List PyData} {a : Addr} (R : Rel C ρ W F G σ H) (h1 : ρ[j]? = some (.own ys)) (h2 : σ[j]? = some (some (.ref a))) : ∃ us, G a = some (.lst us) ∧ F a = none ∧ C.H0 a = none ∧ DqAll C.K F us ys := by
  obtain ⟨o, g1, g2⟩ := R.sl j _ h1
  rw [h2] at g1
  cases g1
  cases g2 with
  | own k1 k2 k3 k4 => exact ⟨_, k1, k2, k3, k4⟩
/-- the end of x = a new thing -/
theorem new_end {ρ : Rho} {W W1 : Src} {F G H F1 G1 H1 : Hp} {σ : L2.St} {i : Nat} {d : PyData} {v : V} {o : Out} {D : Ends} (R : Rel C ρ W F G σ H) (x1 : Ext C.Z F G H F1 G1 H1) (R1 : Rel C ρ W1 F1 G1 σ H1) (r : Res .nw C F1 G1 H v d)
    (e : (match (some (d, W1) : Option (PyData × Src)) with | some (.list xs, W1) => some (Out.nx (ρ.set i (.own xs)) W1) | some (d, W1) => some (.nx (ρ.set i (.d d)) W1) | none => none) = some o) (q : Fin C F D o) : D.nx (σ.set i (some v)) H1 := by
  rcases r with ⟨hl, hd⟩ | ⟨a, us, xs, rfl, rfl, h1, h2, h3, h4⟩
  · cases d with
    | list xs => cases hl
    | _ => cases e; exact q F1 G1 _ H1 x1.f (R1.set i hd)
  · cases e
    refine q F1 G1 _ H1 x1.f (R1.setOwn i h1 h2 (R.h0 h3) h4 fun j ys e1 e2 => ?_)
    obtain ⟨us', g1, _⟩ := own_there R e1 e2
    have := R.gh _ _ g1
    rw [h3] at this
    cases this
theorem st_new {a : Expr} {f : Ex} {i : Nat} {x : Str} {pos' : Pos} (hN : X.N.Nodup) (hi : X.N[i]? = some x) (hx : Loc X.env.scope x) (h : PE X a (TX C .nw f)) (hs : swapsWith a (some (.Name x pos')) pos.line X.env = pure false) (hf : X.fn x = true ∨ X.env.scope.names.lookup x = some .local) :
    PS X (.Assign [.Name x pos'] a pos) (TS' C (sNew i f)) := ps_weak (ps_set hN hi hx h hs hf) fun D σ H ⟨ρ, W, F, G, o, R, e, q⟩ => by
  unfold sNew at e
  cases h1 : f ρ W with
  | none => rw [h1] at e; cases e
  | some p =>
    obtain ⟨d, W1⟩ := p
    rw [h1] at e
    exact ⟨ρ, W, F, G, d, W1, R, h1, fun v F1 G1 H1 x1 R1 r1 => new_end R x1 R1 r1 e q⟩
/-- a list is no name's own any more -/
def frz (i : Nat) (ρ : Rho) : Rho := match ρ[i]? with
  | some (.own xs) => ρ.set i (.d (.list xs))
  | _ => ρ
def frzs (is : List Nat) (ρ : Rho) : Rho := is.foldl (fun r i => frz i r) ρ
theorem Rel.frz {ρ : Rho} {W : Src} {F G H : Hp} {σ : L2.St} (R : Rel C ρ W F G σ H) (i : Nat) : ∃ F', Same F F' ∧ Rel C (Dv.frz i ρ) W F' G σ H := by
  unfold Dv.frz
  split
  · rename_i xs hi
    obtain ⟨o, g1, g2⟩ := R.sl i _ hi
    cases g2 with
    | @own a us _ k1 k2 k3 k4 =>
      have sF : Same F (upd F a (.lst us)) := same_none k2
      have fg : Same (upd F a (.lst us)) G := fun b x h => by
        by_cases hb : b = a
        · subst hb; rw [upd_same] at h; rw [k1]; exact h
        · rw [upd_ne hb] at h; exact R.fg b x h
      refine ⟨_, sF, ⟨fg, R.gh, R.src, R.gz, R.b1.trans sF, R.b2, fun b o h n => ?_, by rw [List.length_set]; exact R.len, fun j s e => ?_, fun j k b ys zs e1 e2 e3 e4 => ?_⟩⟩
      · rw [upd_ne (fun z => by subst z; rw [k3] at h; cases h)]
        exact R.b3 b o h n
      · by_cases hj : i = j
        · subst hj
          have hl : i < ρ.length := by simpa using (List.getElem?_eq_some_iff.mp e).1
          rw [List.getElem?_set_self hl] at e
          cases e
          exact ⟨_, g1, .d (.lst upd_same (dpa_same sF k4))⟩
        · rw [List.getElem?_set_ne hj] at e
          obtain ⟨o', q1, q2⟩ := R.sl j s e
          refine ⟨o', q1, ?_⟩
          cases q2 with
          | no => exact .no
          | d h => exact .d (dp_same sF h)
          | src h => exact .src h
          | @own b us2 xs2 p1 p2 p3 p4 =>
            refine .own p1 ?_ p3 (dpa_same sF p4)
            rw [upd_ne (fun z => hj (R.ap i j a xs xs2 hi e g1 (by rw [← z]; exact q1)))]
            exact p2
      · have hj : i ≠ j := fun z => by
          subst z
          have hl : i < ρ.length := by simpa using (List.getElem?_eq_some_iff.mp e1).1
          rw [List.getElem?_set_self hl] at e1
          cases e1
        have hk : i ≠ k := fun z => by
          subst z
          have hl : i < ρ.length := by simpa using (List.getElem?_eq_some_iff.mp e2).1
          rw [List.getElem?_set_self hl] at e2
          cases e2
        rw [List.getElem?_set_ne hj] at e1
        rw [List.getElem?_set_ne hk] at e2
        exact R.ap j k b ys zs e1 e2 e3 e4
  · exact ⟨F, Same.refl _, R⟩
theorem Rel.frzs {ρ : Rho} {W : Src} {F G H : Hp} {σ : L2.St} (is : List Nat) (R : Rel C ρ W F G σ H) : ∃ F', Same F F' ∧ Rel C (Dv.frzs is ρ) W F' G σ H := by
  induction is generalizing ρ F with
  | nil => exact ⟨F, Same.refl _, R⟩
  | cons i is ih =>
    obtain ⟨F1, s1, R1⟩ := R.frz i
    obtain ⟨F2, s2, R2⟩ := ih R1
    exact ⟨F2, s1.trans s2, R2⟩
def sFrz (is : List Nat) (f : Sx) : Sx := fun ρ W => f (frzs is ρ) W
theorem st_frz {st : Stmt} {f : Sx} (is : List Nat) (h : PS X st (TS' C f)) : PS X st (TS' C (sFrz is f)) := ps_weak h fun D σ H ⟨ρ, W, F, G, o, R, e, q⟩ => by
  obtain ⟨F1, s1, R1⟩ := R.frzs is
  exact ⟨_, W, F1, G, o, R1, e, q.mono s1⟩
/-- xs.append(e) -/
def sApp (i : Nat) (f : Ex) : Sx := fun ρ W => match f ρ W with
  | some (d, W1) => match ρ[i]? with
    | some (.own xs) => if xs.length < sizeLine then some (.nx (ρ.set i (.own (xs ++ [d]))) W1) else none
    | _ => none
  | none => none
theorem Rel.mutOwn {ρ : Rho} {W : Src} {F G H : Hp} {σ : L2.St} {i : Nat} {a : Addr} {xs ys : List PyData} {us : List V} (R : Rel C ρ W F G σ H) (h1 : ρ[i]? = some (.own xs)) (h2 : σ[i]? = some (some (.ref a))) (h3 : DqAll C.K F us ys) :
    Rel C (ρ.set i (.own ys)) W F (upd G a (.lst us)) σ (upd H a (.lst us)) := by
  obtain ⟨ws, g1, g2, g3, g4⟩ := own_there R h1 h2
  have hz : ¬ Zm C.Z a := fun z => by rw [R.gz a z] at g1; cases g1
  have hi : i < σ.length := (List.getElem?_eq_some_iff.mp h2).1
  refine ⟨fun b x h => ?_, fun b x h => ?_, fun q hq => ?_, fun b hb => ?_, R.b1, fun b o h n => ?_, R.b3, by rw [List.length_set]; exact R.len, fun j s e => ?_, fun j k b zs1 zs2 e1 e2 e3 e4 => ?_⟩
  · rw [upd_ne (fun z => by subst z; rw [g2] at h; cases h)]
    exact R.fg b x h
  · by_cases hb : b = a
    · subst hb; rw [upd_same] at h ⊢; exact h
    · rw [upd_ne hb] at h ⊢; exact R.gh b x h
  · obtain ⟨k1, k2, k3⟩ := R.src q hq
    refine ⟨k1, ?_, ?_⟩
    · rw [upd_ne (fun z => hz ⟨q, hq, .inl z.symm⟩)]; exact k2
    · rw [upd_ne (fun z => hz ⟨q, hq, .inr z.symm⟩)]; exact k3
  · rw [upd_ne (fun z => hz (by rw [← z]; exact hb))]; exact R.gz b hb
  · rw [upd_ne (fun z => by subst z; rw [g3] at h; cases h)]; exact R.b2 b o h n
  · by_cases hj : i = j
    · subst hj
      rw [List.getElem?_set_self (R.len ▸ hi)] at e
      cases e
      exact ⟨_, h2, .own upd_same g2 g3 h3⟩
    · rw [List.getElem?_set_ne hj] at e
      obtain ⟨o', q1, q2⟩ := R.sl j s e
      refine ⟨o', q1, ?_⟩
      cases q2 with
      | no => exact .no
      | d h => exact .d h
      | src h => exact .src h
      | @own b us2 xs2 p1 p2 p3 p4 =>
        refine .own ?_ p2 p3 p4
        rw [upd_ne (fun z => hj (R.ap i j a xs xs2 h1 e h2 (by rw [← z]; exact q1)))]
        exact p1
  · have back : ∀ (n : Nat) (zs : List PyData), (ρ.set i (.own ys))[n]? = some (.own zs) → ∃ ws, ρ[n]? = some (.own ws) := fun n zs e => by
      by_cases hn : i = n
      · subst hn; exact ⟨_, h1⟩
      · rw [List.getElem?_set_ne hn] at e; exact ⟨_, e⟩
    obtain ⟨w1, k1⟩ := back j zs1 e1
    obtain ⟨w2, k2⟩ := back k zs2 e2
    exact R.ap j k b w1 w2 k1 k2 e3 e4
theorem lOne {f : Ex} {ρ : Rho} {W W' : Src} {d : PyData} (h : f ρ W = some (d, W')) : lCons f lNil ρ W = some ([d], W') := by
  unfold lCons lNil
  rw [h]
theorem st_app {a : Expr} {f : Ex} {i : Nat} {x : Str} {p1 ap cp pos : Pos} (hK : X.K = C.K) (hN : X.N[i]? = some x) (hv : Vis X.env.scope x) (hd : (x == ("__debug__" : Str)) = false) (hcd : (x == ("__classdict__" : Str)) = false) (h : PE X a (TX C .va f))
    (hbase : attributeBase (.Name x p1) "append" X.env (eval (.Name x p1) X.env) = eval (.Name x p1) X.env)
    (hfew : ((backTo cp (starEach [a] X.env)).all (fun x => !x.1) && (backToKw cp (keywordEach [] X.env)).all (fun x => x.1.isSome) && decide ([a].length + ([] : List Keyword).length + (if ([] : List Keyword).isEmpty then 0 else 1) < 30)) = true)
    (hline : (ap.endLine == cp.line) = true) (hs : starEach [a] X.env = (false, eval a X.env) :: starEach [] X.env) (hpl : (backTo cp (starEach [] X.env)).any (·.1) = false)
    (hsw : swapsWith (.Call (.Attribute (.Name x p1) "append" ap) [a] [] cp) none pos.line X.env = pure false) :
    PS X (.Expr (.Call (.Attribute (.Name x p1) "append" ap) [a] [] cp) pos) (TS' C (sApp i f)) := by
  refine ps_weak (ps_expr (pe_bm PySem.F.plainAttrs_list PySem.F.slot_list_append PySem.F.type_list_append mt_append (pe_var hN hv hd hcd) (l_cons h l_nil hs) hbase hfew hline hs hpl) hsw) fun D σ H ⟨ρ, W, F, G, o, R, e, q⟩ => ?_
  unfold sApp at e
  split at e
  · rename_i d W1 e1
    split at e
    · rename_i xs e2
      split at e
      · rename_i hz
        cases e
        obtain ⟨ov, g1, g2⟩ := R.sl i _ e2
        cases g2 with
        | @own b us _ k1 k2 k3 k4 =>
          refine ⟨.ref b, g1, .inl ⟨rfl, us, SqL.of (R.gh _ _ k1)⟩, ρ, W, F, G, [d], W1, R, lOne e1, fun vs F1 G1 H1 x1 R1 r1 => ?_⟩
          cases r1 with
          | @cons y _ ys _ ry rn =>
            cases rn
            refine ⟨b, us, y, rfl, rfl, R1.gh _ _ (x1.g _ _ k1), by rw [dpa_len k4]; exact hz, ?_⟩
            exact q F1 _ σ _ x1.f (R1.mutOwn e2 g1 (dpa_append (dpa_same x1.f k4) (.cons ry .nil)))
      · cases e
    · cases e
  · cases e
end
end Dv
set_option Elab.async false
set_option linter.all false
set_option maxRecDepth 100000
set_option maxHeartbeats 1000000
/-! Part 8: what is walked, for, while, list comprehensions. -/
namespace Dv
open PySem PySem.Spec PyProof.Rows L2

/-- a walk over data -/
structure Walk (C : Ct) (J : It) (F1 : Hp) (ds : List PyData) : Prop where
  go : ∀ (i : Nat) (F G H : Hp), Same F1 F → Same F G → Same G H → i < ds.length → J.go i H ∧ ∀ x H', J.yld i H x H' → ∃ F' G' d, Gr F G H F' G' H' ∧ ds[i]? = some d ∧ Dq C.K F' x d
  stop : ∀ (i : Nat) (F G H : Hp), Same F1 F → Same F G → Same G H → ds.length ≤ i → J.stop i H
def TI' (C : Ct) (f : Lx) : TI := fun σ H R => ∃ ρ W F G ds W', Rel C ρ W F G σ H ∧ f ρ W = some (ds, W') ∧
  ∀ J F' G' H', Ext C.Z F G H F' G' H' → Rel C ρ W' F' G' σ H' → Walk C J F' ds → R J H'
theorem pi_weak {X : Cx} {tg e : Expr} {t t' : TI} (h : PI X tg e t) (w : ∀ σ H Q, t' σ H Q → t σ H Q) : PI X tg e t' := ⟨fun p s σ H Q I q => h.run p s σ H Q I (w σ H Q q)⟩
theorem pi_or {X : Cx} {tg e : Expr} {t t' : TI} (h : PI X tg e t) (h' : PI X tg e t') : PI X tg e (fun σ H Q => t σ H Q ∨ t' σ H Q) := ⟨fun p s σ H Q I q => q.elim (h.run p s σ H Q I) (h'.run p s σ H Q I)⟩
/-- the items of a list or tuple -/
def iSeq (f : Ex) : Lx := fun ρ W => match f ρ W with
  | some (.list xs, W1) => some (xs, W1)
  | some (.tuple xs, W1) => some (xs, W1)
  | _ => none
def rng (lo : Int) (n : Nat) : List PyData := (List.range n).map fun (k : Nat) => PyData.int (lo + k)
def big62 (i : Int) : Bool := -(2 ^ 62) ≤ i && i < 2 ^ 62
def iR1 (f : Ex) : Lx := fun ρ W => match f ρ W with
  | some (.int j, W1) => if big62 j = true then some (rng 0 j.toNat, W1) else none
  | _ => none
def iR2 (f g : Ex) : Lx := fun ρ W => match f ρ W with
  | some (.int i, W1) => match g ρ W1 with
    | some (.int j, W2) => if big62 i = true ∧ big62 j = true then some (rng i (j - i).toNat, W2) else none
    | _ => none
  | _ => none
section
variable {X : Cx} {C : Ct} {tg : Expr} {pos : Pos}
theorem walk_list {K : PySem.W.Frag} {F1 : Hp} {a : Addr} {vs : List V} {ds : List PyData} (hK : K = C.K) (h : F1 a = some (.lst vs)) (r : DqAll C.K F1 vs ds) : Walk C (Itl K a) F1 ds where
  go := fun i F G H f fg gh hi => by
    obtain ⟨d, hd⟩ : ∃ d, ds[i]? = some d := ⟨_, List.getElem?_eq_getElem hi⟩
    obtain ⟨v, hv, dv⟩ := dpa_get' r hd
    have hq : SqL K H a vs := SqL.of (gh _ _ (fg _ _ (f _ _ h)))
    refine ⟨⟨vs, v, hq, hv⟩, fun x H' y => ?_⟩
    obtain ⟨e, y⟩ := y
    subst e
    have := y vs hq
    rw [hv] at this
    cases this
    exact ⟨F, G, d, Gr.refl fg gh, hd, dp_same f dv⟩
  stop := fun i F G H f fg gh hi => ⟨vs, SqL.of (gh _ _ (fg _ _ (f _ _ h))), by rw [dpa_len r]; exact hi⟩
theorem walk_tuple {K : PySem.W.Frag} {F1 : Hp} {a : Addr} {vs : List V} {ds : List PyData} (hK : K = C.K) (h : SqT C.K F1 a vs) (r : DqAll C.K F1 vs ds) : Walk C (Itt K a) F1 ds where
  go := fun i F G H f fg gh hi => by
    obtain ⟨d, hd⟩ : ∃ d, ds[i]? = some d := ⟨_, List.getElem?_eq_getElem hi⟩
    obtain ⟨v, hv, dv⟩ := dpa_get' r hd
    have hq : SqT K H a vs := hK ▸ sqt_same ((f.trans fg).trans gh) h
    refine ⟨⟨vs, v, hq, hv⟩, fun x H' y => ?_⟩
    obtain ⟨e, y⟩ := y
    subst e
    have := y vs hq
    rw [hv] at this
    cases this
    exact ⟨F, G, d, Gr.refl fg gh, hd, dp_same f dv⟩
  stop := fun i F G H f fg gh hi => ⟨vs, hK ▸ sqt_same ((f.trans fg).trans gh) h, by rw [dpa_len r]; exact hi⟩
theorem rng_get {lo : Int} {n i : Nat} (h : i < n) : (rng lo n)[i]? = some (.int (lo + i)) := by
  unfold rng
  rw [List.getElem?_map, List.getElem?_range h]
  rfl
theorem rng_len {lo : Int} {n : Nat} : (rng lo n).length = n := by
  unfold rng
  rw [List.length_map, List.length_range]
theorem walk_rng {F1 : Hp} {lo : Int} {n : Nat} : Walk C (Itr lo n) F1 (rng lo n) where
  go := fun i F G H f fg gh hi => by
    rw [rng_len] at hi
    refine ⟨hi, fun x H' y => ?_⟩
    obtain ⟨e, rfl⟩ := y
    subst e
    exact ⟨F, G, _, Gr.refl fg gh, rng_get hi, .int _⟩
  stop := fun i F G H f fg gh hi => by
    rw [rng_len] at hi
    exact hi
theorem i_seq {a : Expr} {f : Ex} (hK : X.K = C.K) (h : PE X a (TX C .va f)) : PI X tg a (TI' C (iSeq f)) := by
  refine pi_weak (pi_or (pi_list h) (pi_tup h)) fun σ H Q ⟨ρ, W, F, G, ds, W', R, e, q⟩ => ?_
  unfold iSeq at e
  split at e
  · rename_i xs W1 e1
    cases e
    refine .inl ⟨ρ, W, F, G, _, _, R, e1, fun v F1 G1 H1 x1 R1 r1 => ?_⟩
    cases r1 with
    | lst g r => exact ⟨_, rfl, ⟨_, SqL.of (R1.fh _ _ g)⟩, q _ F1 G1 H1 x1 R1 (walk_list hK g r)⟩
  · rename_i xs W1 e1
    cases e
    refine .inr ⟨ρ, W, F, G, _, _, R, e1, fun v F1 G1 H1 x1 R1 r1 => ?_⟩
    cases r1 with
    | tup g r => exact ⟨_, rfl, ⟨_, hK ▸ sqt_same R1.fh g⟩, q _ F1 G1 H1 x1 R1 (walk_tuple hK g r)⟩
  · cases e
theorem big62_of {i : Int} (h : big62 i = true) : -(2 ^ 62) ≤ i ∧ i < 2 ^ 62 := by
  unfold big62 at h
  rw [Bool.and_eq_true, decide_eq_true_eq, decide_eq_true_eq] at h
  exact h
theorem i_rng1 {a : Expr} {f : Ex} {m : Mode} {p : Pos} (hg : Gl X "range") (hm : X.mg "range" = none) (h : PE X a (TX C m f)) (hs : starEach [a] X.env = [(false, eval a X.env)]) (hn : starEach [] X.env = []) : PI X tg (.Call (.Name "range" p) [a] [] pos) (TI' C (iR1 f)) := by
  refine pi_weak (pi_range1 hg hm (pa_cons h pa_nil (by rw [hs, hn])) hs) fun σ H Q ⟨ρ, W, F, G, ds, W', R, e, q⟩ => ?_
  unfold iR1 at e
  split at e
  · rename_i j W1 e1
    obtain ⟨hb, e⟩ := bool_ite e
    cases e
    exact ⟨ρ, W, F, G, _, _, R, e1, fun v F1 G1 H1 x1 R1 r1 => ⟨j, by rw [r1.vw.int], (big62_of hb).1, (big62_of hb).2, q _ F1 G1 H1 x1 R1 walk_rng⟩⟩
  · cases e
theorem i_rng2 {a b : Expr} {f g : Ex} {m m2 : Mode} {p : Pos} (hg : Gl X "range") (hm : X.mg "range" = none) (h : PE X a (TX C m f)) (h2 : PE X b (TX C m2 g)) (hs : starEach [a, b] X.env = [(false, eval a X.env), (false, eval b X.env)]) (hs2 : starEach [b] X.env = [(false, eval b X.env)]) (hn : starEach [] X.env = []) :
    PI X tg (.Call (.Name "range" p) [a, b] [] pos) (TI' C (iR2 f g)) := by
  refine pi_weak (pi_range2 hg hm (pa_cons h (pa_cons h2 pa_nil (by rw [hs2, hn])) (by rw [hs, hs2])) hs hs2) fun σ H Q ⟨ρ, W, F, G, ds, W', R, e, q⟩ => ?_
  unfold iR2 at e
  split at e
  · rename_i i W1 e1
    split at e
    · rename_i j W2 e2
      obtain ⟨⟨hb, hb2⟩, e⟩ := bool_ite e
      cases e
      exact ⟨ρ, W, F, G, _, _, R, e1, fun v F1 G1 H1 x1 R1 r1 => ⟨ρ, W1, F1, G1, _, _, R1, e2, fun v2 F2 G2 H2 x2 R2 r2 => ⟨i, j, by rw [r1.vw.int, r2.vw.int], ⟨(big62_of hb).1, (big62_of hb).2, (big62_of hb2).1, (big62_of hb2).2⟩, q _ F2 G2 H2 (x1.trans x2) R2 walk_rng⟩⟩⟩
    · cases e
  · cases e

/-! ### for -/
def forL (g : Gx) (b : Sx) : List PyData → Sx
  | [], ρ, W => some (.nx ρ W)
  | d :: ds, ρ, W => match g d ρ with
    | none => none
    | some ρ1 => match b ρ1 W with
      | some (.nx ρ2 W2) => forL g b ds ρ2 W2
      | some (.ct ρ2 W2) => forL g b ds ρ2 W2
      | some (.bk ρ2 W2) => some (.nx ρ2 W2)
      | some (.rt d2 W2) => some (.rt d2 W2)
      | none => none
def sFor (it : Lx) (g : Gx) (b : Sx) : Sx := fun ρ W => match it ρ W with
  | some (ds, W1) => forL g b ds ρ W1
  | none => none
/-- behind a turn -/
def Nxt (C : Ct) (F1 : Hp) (g : Gx) (b : Sx) (ds : List PyData) (o : Out) (σ' : L2.St) (H' : Hp) : Prop := ∃ ρ' W' F' G', Rel C ρ' W' F' G' σ' H' ∧ Same F1 F' ∧ forL g b ds ρ' W' = some o
theorem st_for {iter : Expr} {body : List Stmt} {it : Lx} {g : Gx} {b : Sx} {vs : List Nat} (hp : PassesOwn (model X.prog X.w) X.A X.env X.xe) (hc : X.calm = true) (hi : PI X tg iter (TI' C it)) (hg : PG X tg (TG' C vs g)) (hb : PSs X body (TS' C b)) (hs : ∀ x, foldedSetIterable iter X.env x = pure x) :
    PS X (.For tg iter body [] pos) (TS' C (sFor it g b)) := by
  refine ps_weak (ps_for hp hc hi hg hb hs) fun D σ H ⟨ρ, W, F, G, o, R, e, q⟩ => ?_
  unfold sFor at e
  split at e
  · rename_i ds W1 e1
    refine ⟨ρ, W, F, G, ds, W1, R, e1, fun J F1 G1 H1 x1 R1 wk => ?_⟩
    have q1 := q.mono x1.f
    refine ⟨fun i m σ' H' => m = ds.length - i ∧ i ≤ ds.length ∧ Nxt C F1 g b (ds.drop i) o σ' H',
      ⟨_, rfl, Nat.zero_le _, ρ, W1, F1, G1, R1, Same.refl _, e⟩, ?_⟩
    rintro i m σ2 H2 ⟨rfl, hle, ρ2, W2, F2, G2, R2, s2, e2⟩
    by_cases hi : i < ds.length
    · obtain ⟨hgo, hy⟩ := wk.go i F2 G2 H2 s2 R2.fg R2.gh hi
      refine .inr ⟨hgo, Nxt C F1 g b (ds.drop (i + 1)) o, fun σ' H' hN => ⟨_, by omega, rfl, hi, hN⟩, fun x H3 y => ?_⟩
      obtain ⟨F3, G3, d, g3, hd, dd⟩ := hy x H3 y
      have R3 := R2.gr g3
      have s3 := s2.trans g3.f
      have hdr : ds.drop i = d :: ds.drop (i + 1) := by
        obtain ⟨hlt, hx⟩ := List.getElem?_eq_some_iff.mp hd
        rw [List.drop_eq_getElem_cons hlt, hx]
      rw [hdr] at e2
      unfold forL at e2
      split at e2
      · cases e2
      · rename_i ρ3 eg
        refine ⟨ρ2, W2, F3, G3, d, ρ3, R3, dd, eg, fun σ4 w4 R4 => ?_⟩
        split at e2
        · rename_i ρ5 W5 eb
          exact ⟨ρ3, W2, F3, G3, _, R4, eb, fun F5 G5 σ5 H5 s5 R5 => ⟨ρ5, W5, F5, G5, R5, s3.trans s5, e2⟩⟩
        · rename_i ρ5 W5 eb
          exact ⟨ρ3, W2, F3, G3, _, R4, eb, fun F5 G5 σ5 H5 s5 R5 => ⟨ρ5, W5, F5, G5, R5, s3.trans s5, e2⟩⟩
        · rename_i ρ5 W5 eb
          cases e2
          exact ⟨ρ3, W2, F3, G3, _, R4, eb, fun F5 G5 σ5 H5 s5 R5 => q1 F5 G5 σ5 H5 (s3.trans s5) R5⟩
        · rename_i d5 W5 eb
          cases e2
          exact ⟨ρ3, W2, F3, G3, _, R4, eb, fun v ρ5 F5 G5 σ5 H5 s5 R5 r5 => q1 v ρ5 F5 G5 σ5 H5 (s3.trans s5) R5 r5⟩
        · cases e2
    · have hd : ds.drop i = [] := List.drop_eq_nil_of_le (by omega)
      rw [hd] at e2
      cases e2
      exact .inl ⟨wk.stop i F2 G2 H2 s2 R2.fg R2.gh (by omega), q1 F2 G2 σ2 H2 s2 R2⟩
  · cases e

/-! ### while: n turns at most -/
def whL (fz : List Nat) (t : Tx) (b : Sx) : Nat → Sx
  | 0, _, _ => none
  | n + 1, ρ, W => match t (frzs fz ρ) W with
    | some (true, W1) => match b (frzs fz ρ) W1 with
      | some (.nx ρ2 W2) => whL fz t b n ρ2 W2
      | some (.ct ρ2 W2) => whL fz t b n ρ2 W2
      | some (.bk ρ2 W2) => some (.nx ρ2 W2)
      | some (.rt d2 W2) => some (.rt d2 W2)
      | none => none
    | some (false, W1) => some (.nx (frzs fz ρ) W1)
    | none => none
def Wht (C : Ct) (F1 : Hp) (fz : List Nat) (t : Tx) (b : Sx) (o : Out) (n : Nat) (σ' : L2.St) (H' : Hp) : Prop := ∃ ρ' W' F' G', Rel C ρ' W' F' G' σ' H' ∧ Same F1 F' ∧ whL fz t b n ρ' W' = some o
theorem st_while {c : Expr} {body : List Stmt} {t : Tx} {b : Sx} (fz : List Nat) (n : Nat) (hp : PassesOwn (model X.prog X.w) X.A X.env X.xe) (hc : PT X c (TB C t)) (hb : PSs X body (TS' C b)) : PS X (.While c body [] pos) (TS' C (whL fz t b n)) := by
  refine ps_weak (ps_while hp hc hb) fun D σ H ⟨ρ, W, F, G, o, R, e, q⟩ => ?_
  refine ⟨fun m σ' H' => Wht C F fz t b o m σ' H', ⟨n, ρ, W, F, G, R, Same.refl _, e⟩, ?_⟩
  rintro m σ2 H2 ⟨ρ2, W2, F2, G2, R2, s2, e2⟩
  cases m with
  | zero => cases e2
  | succ m =>
    unfold whL at e2
    obtain ⟨F3, s3, R3⟩ := R2.frzs fz
    split at e2
    · rename_i W3 et
      refine ⟨_, W2, F3, G2, true, W3, R3, et, fun F4 G4 H4 x4 R4 => ?_⟩
      have s4 := (s2.trans s3).trans x4.f
      refine iteT ⟨fun σ' H' => Wht C F fz t b o m σ' H', fun σ' H' hN => ⟨m, Nat.lt_succ_self m, hN⟩, ?_⟩
      split at e2
      · rename_i ρ5 W5 eb
        exact ⟨_, W3, F4, G4, _, R4, eb, fun F5 G5 σ5 H5 s5 R5 => ⟨ρ5, W5, F5, G5, R5, s4.trans s5, e2⟩⟩
      · rename_i ρ5 W5 eb
        exact ⟨_, W3, F4, G4, _, R4, eb, fun F5 G5 σ5 H5 s5 R5 => ⟨ρ5, W5, F5, G5, R5, s4.trans s5, e2⟩⟩
      · rename_i ρ5 W5 eb
        cases e2
        exact ⟨_, W3, F4, G4, _, R4, eb, fun F5 G5 σ5 H5 s5 R5 => q F5 G5 σ5 H5 (s4.trans s5) R5⟩
      · rename_i d5 W5 eb
        cases e2
        exact ⟨_, W3, F4, G4, _, R4, eb, fun v ρ5 F5 G5 σ5 H5 s5 R5 r5 => q v ρ5 F5 G5 σ5 H5 (s4.trans s5) R5 r5⟩
      · cases e2
    · rename_i W3 et
      cases e2
      refine ⟨_, W2, F3, G2, false, W3, R3, et, fun F4 G4 H4 x4 R4 => ?_⟩
      exact iteF (q F4 G4 σ2 H4 ((s2.trans s3).trans x4.f) R4)
    · cases e2

/-! ### list comprehensions of one clause -/
def wipeR (ρ : Rho) : List Nat → Rho
  | [] => ρ
  | v :: vs => (wipeR ρ vs).set v .no
theorem Rel.wipe {ρ : Rho} {W : Src} {F G H : Hp} {σ : L2.St} (R : Rel C ρ W F G σ H) : ∀ vs : List Nat, Rel C (wipeR ρ vs) W F G (L2.wipe σ vs) H
  | [] => R
  | v :: vs => by
    have R' := R.wipe vs
    show Rel C ((wipeR ρ vs).set v .no) W F G ((L2.wipe σ vs).set v none) H
    refine ⟨R'.fg, R'.gh, R'.src, R'.gz, R'.b1, R'.b2, R'.b3, by rw [List.length_set, List.length_set]; exact R'.len, fun j s e => ?_, fun j k a xs ys e1 e2 e3 e4 => ?_⟩
    · by_cases hj : v = j
      · subst hj
        have hl : v < (wipeR ρ vs).length := by simpa using (List.getElem?_eq_some_iff.mp e).1
        rw [List.getElem?_set_self hl] at e
        cases e
        exact ⟨none, List.getElem?_set_self (R'.len ▸ hl), .no⟩
      · rw [List.getElem?_set_ne hj] at e ⊢
        exact R'.sl j s e
    · have hj : v ≠ j := fun z => by
        subst z
        have hl : v < (wipeR ρ vs).length := by simpa using (List.getElem?_eq_some_iff.mp e1).1
        rw [List.getElem?_set_self hl] at e1
        cases e1
      have hk : v ≠ k := fun z => by
        subst z
        have hl : v < (wipeR ρ vs).length := by simpa using (List.getElem?_eq_some_iff.mp e2).1
        rw [List.getElem?_set_self hl] at e2
        cases e2
      rw [List.getElem?_set_ne hj] at e1 e3
      rw [List.getElem?_set_ne hk] at e2 e4
      exact R'.ap j k a xs ys e1 e2 e3 e4
def tYs : Tx := fun _ W => some (true, W)
def cmpL (g : Gx) (t : Tx) (e : Ex) (ρ : Rho) : List PyData → List PyData → Src → Option (List PyData × Src)
  | [], acc, W => some (acc, W)
  | d :: ds, acc, W => match g d ρ with
    | none => none
    | some ρ1 => match t ρ1 W with
      | some (true, W1) => match e ρ1 W1 with
        | some (x, W2) => if acc.length < sizeLine then cmpL g t e ρ ds (acc ++ [x]) W2 else none
        | none => none
      | some (false, W1) => cmpL g t e ρ ds acc W1
      | none => none
def eComp (vs : List Nat) (it : Lx) (g : Gx) (t : Tx) (e : Ex) : Ex := fun ρ W => match it ρ W with
  | some (ds, W1) => match cmpL g t e (wipeR ρ vs) ds [] W1 with
    | some (xs, W2) => some (.list xs, W2)
    | none => none
  | none => none
def TBs (C : Ct) (f : Tx) : TT := TB C f
theorem pts_weak {ifs : List Expr} {t t' : TT} (h : PTs X ifs t) (w : ∀ σ H Q, t' σ H Q → t σ H Q) : PTs X ifs t' := ⟨fun p s σ H Q I q => h.run p s σ H Q I (w σ H Q q)⟩
theorem ts_nil : PTs X [] (TB C tYs) := pts_weak pts_nil fun σ H Q ⟨ρ, W, F, G, b, W', R, e, q⟩ => by
  cases e
  exact q F G H (Ext.refl ..) R
theorem ts_one {c : Expr} {t : Tx} (h : PT X c (TB C t)) : PTs X [c] (TB C t) := pts_one h
/-- while the list is made -/
structure Mk (C : Ct) (vs : List Nat) (F1 G1 H1 : Hp) (D : Addr) (acc : List PyData) (W : Src) (F G H : Hp) : Prop where
  x : Ext C.Z F1 G1 H1 F G H
  fg : Same F G
  gh : Same G H
  src : SrcAt C.Z W H
  gd : G D = none
  l : ∃ us, H D = some (.lst us) ∧ DqAll C.K F us acc
theorem comp_read {own : List (Str × Nat)} {it : Lx} {g : Gx} {t : Tx} {e : Ex} {σ : L2.St} {H : Hp} {Q : VK} (h : TX C .nw (eComp (own.map (·.2)) it g t e) σ H Q) : tLc (TI' C it) (TG' C (own.map (·.2)) g) (TB C t) (TX C .va e) (own.map (·.2)) σ H Q := by
  obtain ⟨ρ, W, F, G, d, W', R, ef, q⟩ := h
  generalize own.map (·.2) = vs at ef ⊢
  unfold eComp at ef
  split at ef
  · rename_i ds W1 e1
    split at ef
    · rename_i xs W2 e2
      cases ef
      refine ⟨ρ, W, F, G, ds, W1, R, e1, fun J F1 G1 H1 x1 R1 wk D nD => ?_⟩
      have zD : ¬ Zm C.Z D := fun z => by
        obtain ⟨o, h⟩ := R1.zh z
        rw [nD] at h; cases h
      have gD : G1 D = none := R1.gh.free nD
      have Rw := R1.wipe vs
      have mk0 : Mk C vs F1 G1 H1 D [] W1 F1 G1 (upd H1 D (.lst [])) := by
        refine ⟨⟨Same.refl _, Same.refl _, fun _ _ _ h => h, fun _ _ _ h => h, fun a o h _ => same_none nD a o h, fun a _ h => ?_⟩, R1.fg, R1.gh.trans (same_none nD), srcAt_upd R1.src nD, gD, [], upd_same, .nil⟩
        cases q2 : H1 a with
        | none => exact absurd q2 h
        | some o => rw [same_none nD a o q2]; simp
      refine ⟨fun i m H' => m = ds.length - i ∧ i ≤ ds.length ∧ ∃ acc Wb F' G', Mk C vs F1 G1 H1 D acc Wb F' G' H' ∧ cmpL g t e (wipeR ρ vs) (ds.drop i) acc Wb = some (xs, W'),
        ⟨_, rfl, Nat.zero_le _, [], W1, F1, G1, mk0, e2⟩, ?_⟩
      rintro i m H2 ⟨rfl, hle, acc, Wa, F2, G2, mk, e3⟩
      have Ro : Rel C ρ Wa F2 G2 σ H2 := R1.ext mk.x mk.fg mk.gh mk.src
      have R2 : Rel C (wipeR ρ vs) Wa F2 G2 (L2.wipe σ vs) H2 := Ro.wipe vs
      obtain ⟨us, hD, dus⟩ := mk.l
      by_cases hi : i < ds.length
      · obtain ⟨hgo, hy⟩ := wk.go i F2 G2 H2 mk.x.f mk.fg mk.gh hi
        refine .inr ⟨hgo, fun H' => ∃ acc Wb F' G', Mk C vs F1 G1 H1 D acc Wb F' G' H' ∧ cmpL g t e (wipeR ρ vs) (ds.drop (i + 1)) acc Wb = some (xs, W'), fun H' hN => ⟨_, by omega, rfl, hi, hN⟩, fun x H3 y => ?_⟩
        obtain ⟨F3, G3, d, g3, hd, dd⟩ := hy x H3 y
        have hdr : ds.drop i = d :: ds.drop (i + 1) := by
          obtain ⟨hlt, hx⟩ := List.getElem?_eq_some_iff.mp hd
          rw [List.drop_eq_getElem_cons hlt, hx]
        rw [hdr] at e3
        unfold cmpL at e3
        have R3 := R2.gr g3
        split at e3
        · cases e3
        · rename_i ρ1 eg
          refine ⟨_, Wa, F3, G3, d, ρ1, R3, dd, eg, fun σ4 w4 R4 => ⟨by rw [w4, wipe_idem], ?_⟩⟩
          -- behind the target: the made list stands
          have keep : ∀ {F5 G5 H5 : Hp} {W5 : Src}, Ext C.Z F3 G3 H3 F5 G5 H5 → Same F5 G5 → Same G5 H5 → SrcAt C.Z W5 H5 → Mk C vs F1 G1 H1 D acc W5 F5 G5 H5 := fun {F5 G5 H5 W5} x5 fg5 gh5 sr5 => by
            have h3 : H3 D = some (.lst us) := g3.h _ _ hD
            have g3D : G3 D = none := g3.gn D _ hD mk.gd
            exact ⟨(mk.x.trans g3.ext).trans x5, fg5, gh5, sr5, x5.gn D _ h3 g3D, us, x5.h D _ h3 zD, dpa_same (g3.f.trans x5.f) dus⟩
          split at e3
          · rename_i W5 et
            refine ⟨ρ1, Wa, F3, G3, true, W5, R4, et, fun F5 G5 H5 x5 R5 => ?_⟩
            refine iteT ?_
            split at e3
            · rename_i y W6 ee
              obtain ⟨hz, e3⟩ := (show acc.length < sizeLine ∧ cmpL g t e (wipeR ρ vs) (ds.drop (i + 1)) (acc ++ [y]) W6 = some (xs, W') by
                split at e3
                · exact ⟨by assumption, e3⟩
                · cases e3)
              refine ⟨ρ1, W5, F5, G5, y, W6, R5, ee, fun v F6 G6 H6 x6 R6 r6 => ?_⟩
              have mk6 := keep (x5.trans x6) R6.fg R6.gh R6.src
              obtain ⟨us6, hD6, dus6⟩ := mk6.l
              refine ⟨us6, hD6, by rw [dpa_len dus6]; exact hz, acc ++ [y], W6, F6, G6, ?_, e3⟩
              refine ⟨⟨mk6.x.f, mk6.x.g, mk6.x.fn, mk6.x.gn, fun a o h n => ?_, fun a hz h => ?_⟩, mk6.fg, fun b o h => ?_, fun p hp => ?_, mk6.gd, _, upd_same, dpa_append dus6 (.cons r6 .nil)⟩
              · rw [upd_ne (fun z => by subst z; rw [nD] at h; cases h)]
                exact mk6.x.h a o h n
              · rw [upd_ne (fun z => zD (by rw [← z]; exact hz))]
                exact mk6.x.z a hz h
              · rw [upd_ne (fun z => by subst z; rw [mk6.gd] at h; cases h)]
                exact mk6.gh b o h
              · obtain ⟨k1, k2, k3⟩ := mk6.src p hp
                refine ⟨k1, ?_, ?_⟩
                · rw [upd_ne (fun z => zD ⟨p, hp, .inl z.symm⟩)]; exact k2
                · rw [upd_ne (fun z => zD ⟨p, hp, .inr z.symm⟩)]; exact k3
            · cases e3
          · rename_i W5 et
            refine ⟨ρ1, Wa, F3, G3, false, W5, R4, et, fun F5 G5 H5 x5 R5 => ?_⟩
            exact iteF ⟨acc, W5, F5, G5, keep x5 R5.fg R5.gh R5.src, e3⟩
          · cases e3
      · have hd : ds.drop i = [] := List.drop_eq_nil_of_le (by omega)
        rw [hd] at e3
        cases e3
        refine .inl ⟨wk.stop i F2 G2 H2 mk.x.f mk.fg mk.gh (by omega), ?_⟩
        -- the list joins G
        have hne : ∀ {b : Addr} {o : HO}, G2 b = some o → b ≠ D := fun h z => by
          rw [z, mk.gd] at h
          cases h
        have x2 : Ext C.Z F G H F2 (upd G2 D (.lst us)) H2 := by
          have xx := x1.trans mk.x
          refine ⟨xx.f, fun b o h => ?_, xx.fn, fun b o h n => ?_, xx.h, xx.z⟩
          · rw [upd_ne (hne (xx.g b o h))]; exact xx.g b o h
          · have hb : b ≠ D := fun z => by
              subst z
              obtain ⟨o', h'⟩ := x1.there h
              rw [nD] at h'; cases h'
            rw [upd_ne hb]; exact xx.gn b o h n
        refine q (.ref D) F2 (upd G2 D (.lst us)) H2 x2 (R.ext x2 (fun b o h => ?_) (fun b o h => ?_) mk.src) (.inr ⟨D, us, _, rfl, rfl, upd_same, mk.fg.free mk.gd, ?_, dus⟩)
        · rw [upd_ne (hne (mk.fg b o h))]; exact mk.fg b o h
        · by_cases hb : b = D
          · subst hb; rw [upd_same] at h; rw [hD]; exact h
          · rw [upd_ne hb] at h; exact mk.gh b o h
        · cases hh : H D with
          | none => rfl
          | some o =>
            obtain ⟨o', h'⟩ := x1.there hh
            rw [nD] at h'; cases h'
    · cases ef
  · cases ef
theorem x_comp {elt iter : Expr} {ifs : List Expr} {scope : Scope} {own : List (Str × Nat)} {it : Lx} {g : Gx} {t : Tx} {e : Ex} (hc : X.calm = true) (hN : X.N.Nodup) (hi : PI X tg iter (TI' C it)) (ok : BlkOk X.N X.env.scope scope own)
    (hg : ∀ (s : Shared) (H : Hp) (A : Addr) (cl : List (Str × Addr)) (fp : List Addr), PG (X.blk s H scope (compEnvC scope cl A X.env) fp) tg (TG' C (own.map (·.2)) g))
    (ht : ∀ (s : Shared) (H : Hp) (A : Addr) (cl : List (Str × Addr)) (fp : List Addr), PTs (X.blk s H scope (compEnvC scope cl A X.env) fp) ifs (TB C t))
    (he : ∀ (s : Shared) (H : Hp) (A : Addr) (cl : List (Str × Addr)) (fp : List Addr), PE (X.blk s H scope (compEnvC scope cl A X.env) fp) elt (TX C .va e)) (hs : ∀ x, foldedSetIterable iter X.env x = pure x) :
    PE X (.ListComp elt [⟨tg, iter, ifs, 0⟩] scope pos) (TX C .nw (eComp (own.map (·.2)) it g t e)) := by
  refine pe_weak (pe_lc hc hN hi ok hg ht he hs) fun σ H Q hh => ?_
  exact comp_read hh
end
end Dv
set_option Elab.async false
set_option linter.all false
set_option maxRecDepth 100000
set_option maxHeartbeats 1000000
/-! Part 9: a, b = x, y (new lists become names' own), name op= e, [..] given to a name. -/
namespace Dv
open PySem PySem.Spec PyProof.Rows L2

/-- a value to be stored: frozen, or a new list; Hs: the heap ahead -/
def Rn (n : Bool) (C : Ct) (F G Hs : Hp) (v : V) (d : PyData) : Prop :=
  ((n = false ∨ isL d = false) ∧ Dq C.K F v d) ∨ (n = true ∧ ∃ a us xs, v = .ref a ∧ d = .list xs ∧ G a = some (.lst us) ∧ F a = none ∧ Hs a = none ∧ DqAll C.K F us xs)
def put (n : Bool) (i : Nat) (d : PyData) (ρ : Rho) : Rho := match n, d with
  | true, .list xs => ρ.set i (.own xs)
  | _, d => ρ.set i (.d d)
def NoAl (ρ : Rho) (σ : L2.St) (v : V) : Prop := ∀ (j : Nat) (ys : List PyData), ρ[j]? = some (.own ys) → σ[j]? ≠ some (some v)
theorem put_frz {n : Bool} {i : Nat} {d : PyData} {ρ : Rho} (h : n = false ∨ isL d = false) : put n i d ρ = ρ.set i (.d d) := by
  rcases h with rfl | h
  · rfl
  · cases d <;> first | (cases n <;> rfl) | cases h
section
variable {X : Cx} {C : Ct} {pos : Pos} {ρ : Rho} {W : Src} {F G H Hs : Hp} {σ : L2.St}
theorem Rel.put {n : Bool} {v : V} {d : PyData} (i : Nat) (R : Rel C ρ W F G σ H) (r : Rn n C F G Hs v d) (h0 : ∀ a, Hs a = none → C.H0 a = none) (na : isL d = true → n = true → NoAl ρ σ v) : Rel C (Dv.put n i d ρ) W F G (σ.set i (some v)) H := by
  rcases r with ⟨h, hd⟩ | ⟨rfl, a, us, xs, rfl, rfl, h1, h2, h3, h4⟩
  · rw [put_frz h]; exact R.set i hd
  · exact R.setOwn i h1 h2 (h0 a h3) h4 fun j ys e1 e2 => absurd e2 (na rfl rfl j ys e1)
theorem noal_put {n : Bool} {v u : V} {d : PyData} {i : Nat} (h : NoAl ρ σ u) (hl : i < ρ.length → i < σ.length) (ne : isL d = true → n = true → v ≠ u) : NoAl (put n i d ρ) (σ.set i (some v)) u := by
  intro j ys e1 e2
  by_cases hj : i = j
  · subst hj
    have hi : i < ρ.length := by
      unfold put at e1
      split at e1 <;> simpa using (List.getElem?_eq_some_iff.mp e1).1
    rw [List.getElem?_set_self (hl hi)] at e2
    have e2' : v = u := Option.some.inj (Option.some.inj e2)
    unfold put at e1
    split at e1
    · exact ne rfl rfl e2'
    · rw [List.getElem?_set_self hi] at e1; cases e1
  · rw [List.getElem?_set_ne hj] at e2
    unfold put at e1
    split at e1 <;> (rw [List.getElem?_set_ne hj] at e1; exact h j ys e1 e2)
/-- values to be stored, one behind another -/
inductive Nws (C : Ct) (F G Hs : Hp) : List Bool → List V → List PyData → Prop
  | nil : Nws C F G Hs [] [] []
  | cons {n ns v vs d ds} : Rn n C F G Hs v d → (isL d = true → n = true → ∀ (j : Nat) (m : Bool) (u : V) (e : PyData), ns[j]? = some m → vs[j]? = some u → ds[j]? = some e → isL e = true → m = true → v ≠ u) → Nws C F G Hs ns vs ds → Nws C F G Hs (n :: ns) (v :: vs) (d :: ds)
theorem Rn.ext {Z : Zn} {n : Bool} {F' G' H' : Hp} {v : V} {d : PyData} (r : Rn n C F G Hs v d) (gh : Same G H) (x : Ext Z F G H F' G' H') : Rn n C F' G' Hs v d := by
  rcases r with ⟨h, hd⟩ | ⟨e, a, us, xs, e1, e2, h1, h2, h3, h4⟩
  · exact .inl ⟨h, dp_same x.f hd⟩
  · exact .inr ⟨e, a, us, xs, e1, e2, x.g _ _ h1, x.fn _ _ (gh _ _ h1) h2, h3, dpa_same x.f h4⟩
theorem Rn.back {Z : Zn} {n : Bool} {F0 G0 Hs' : Hp} {v : V} {d : PyData} (r : Rn n C F G Hs' v d) (x : Ext Z F0 G0 Hs F G Hs') : Rn n C F G Hs v d := by
  rcases r with h | ⟨e, a, us, xs, e1, e2, h1, h2, h3, h4⟩
  · exact .inl h
  · refine .inr ⟨e, a, us, xs, e1, e2, h1, h2, ?_, h4⟩
    cases q : Hs a with
    | none => rfl
    | some o =>
      obtain ⟨o', q'⟩ := x.there q
      rw [h3] at q'; cases q'
end
abbrev Nx := Bool × Ex
def lx : List Nx → Lx
  | [] => lNil
  | (_, f) :: r => lCons f (lx r)
def TN (C : Ct) (fs : List Nx) : TA := fun σ H Q => ∃ ρ W F G ds W', Rel C ρ W F G σ H ∧ lx fs ρ W = some (ds, W') ∧
  ∀ vs F' G' H', Ext C.Z F G H F' G' H' → Rel C ρ W' F' G' σ H' → Nws C F' G' H (fs.map (·.1)) vs ds → Q vs H'
theorem res_rn {C : Ct} {F G Hs : Hp} {v : V} {d : PyData} (h : Res .nw C F G Hs v d) : Rn true C F G Hs v d := by
  rcases h with ⟨hl, h⟩ | ⟨a, us, xs, e1, e2, h1, h2, h3, h4⟩
  · exact .inl ⟨.inr hl, h⟩
  · exact .inr ⟨rfl, a, us, xs, e1, e2, h1, h2, h3, h4⟩
theorem rn_own {C : Ct} {F G Hs : Hp} {n : Bool} {v : V} {d : PyData} (h : Rn n C F G Hs v d) (hl : isL d = true) (hn : n = true) : ∃ a us xs, v = .ref a ∧ d = .list xs ∧ G a = some (.lst us) ∧ Hs a = none := by
  rcases h with ⟨h, _⟩ | ⟨e, a, us, xs, e1, e2, h1, h2, h3, h4⟩
  · rcases h with h | h
    · rw [hn] at h; cases h
    · rw [hl] at h; cases h
  · exact ⟨a, us, xs, e1, e2, h1, h3⟩
section
variable {X : Cx} {C : Ct} {pos : Pos}
theorem n_nil : PA X [] (TN C []) := pa_weak pa_nil fun σ H Q ⟨ρ, W, F, G, ds, W', R, ef, q⟩ => by
  cases ef
  exact q [] F G H (Ext.refl ..) R .nil
theorem n_cons {a : Expr} {es : List Expr} {m : Bool} {f : Ex} {fs : List Nx} (ha : PE X a (TX C (if m then .nw else .va) f)) (hr : PA X es (TN C fs)) (hs : starEach (a :: es) X.env = (false, eval a X.env) :: starEach es X.env) : PA X (a :: es) (TN C ((m, f) :: fs)) := by
  refine pa_weak (pa_cons ha hr hs) fun σ H Q ⟨ρ, W, F, G, ds, W', R, ef, q⟩ => ?_
  obtain ⟨x, W1, xs, h1, h2, rfl⟩ := lCons_some ef
  refine ⟨ρ, W, F, G, x, W1, R, h1, fun v F1 G1 H1 x1 R1 r1 => ⟨ρ, W1, F1, G1, xs, W', R1, h2, fun vs F2 G2 H2 x2 R2 r2 => q _ F2 G2 H2 (x1.trans x2) R2 ?_⟩⟩
  have r1' : Rn m C F1 G1 H v x := by
    cases m with
    | true => exact res_rn r1
    | false => exact .inl ⟨.inl rfl, r1⟩
  have back : ∀ {ns : List Bool} {us : List V} {es : List PyData}, Nws C F2 G2 H1 ns us es → Nws C F2 G2 H ns us es := by
    intro ns us es h
    induction h with
    | nil => exact .nil
    | cons a b _ ih =>
      refine .cons ?_ b ih
      rcases a with a | ⟨e, a', us', xs', e1, e2, g1, g2, g3, g4⟩
      · exact .inl a
      · refine .inr ⟨e, a', us', xs', e1, e2, g1, g2, ?_, g4⟩
        cases hh : H a' with
        | none => rfl
        | some o =>
          obtain ⟨o', h'⟩ := x1.there hh
          rw [g3] at h'; cases h'
  refine .cons (r1'.ext R1.gh x2) (fun hl hm j m' u e e1 e2 e3 hle hm' => ?_) (back r2)
  obtain ⟨a', us', ys, rfl, _, g1, _⟩ := rn_own r1' hl hm
  have get : ∀ {ns : List Bool} {us : List V} {es : List PyData}, Nws C F2 G2 H1 ns us es → ∀ (j : Nat), ns[j]? = some m' → us[j]? = some u → es[j]? = some e → Rn m' C F2 G2 H1 u e := by
    intro ns us es h
    induction h with
    | nil => intro j z; simp at z
    | cons a b _ ih =>
      intro j z1 z2 z3
      cases j with
      | zero => simp at z1 z2 z3; subst z1 z2 z3; exact a
      | succ j => exact ih j (by simpa using z1) (by simpa using z2) (by simpa using z3)
  obtain ⟨b', _, _, e', _, _, g2⟩ := rn_own (get r2 j e1 e2 e3) hle hm'
  rw [e']
  intro z
  have z' : a' = b' := V.ref.inj z
  have := R1.gh _ _ g1
  rw [z', g2] at this
  cases this
/-- what is stored -/
def puts : List Nat → List Bool → List PyData → Rho → Option Rho
  | [], [], [], ρ => some ρ
  | i :: is, n :: ns, d :: ds, ρ => puts is ns ds (put n i d ρ)
  | _, _, _, _ => none
def sPars (is : List Nat) (fs : List Nx) : Sx := fun ρ W => match lx fs ρ W with
  | some (ds, W1) => match puts is (fs.map (·.1)) ds ρ with
    | some ρ1 => some (.nx ρ1 W1)
    | none => none
  | none => none
def sets : List Nat → List V → L2.St → L2.St
  | i :: is, v :: vs, σ => sets is vs (σ.set i (some v))
  | _, _, σ => σ
theorem put_len {n : Bool} {i : Nat} {d : PyData} {ρ : Rho} : (put n i d ρ).length = ρ.length := by
  unfold put
  split <;> rw [List.length_set]
theorem Rel.puts {W : Src} {F G H Hs : Hp} (h0 : ∀ a, Hs a = none → C.H0 a = none) : ∀ {is : List Nat} {ns : List Bool} {vs : List V} {ds : List PyData} {ρ ρ' : Rho} {σ : L2.St}, Rel C ρ W F G σ H → Nws C F G Hs ns vs ds → Dv.puts is ns ds ρ = some ρ' →
    (∀ (j : Nat) (m : Bool) (u : V) (e : PyData), ns[j]? = some m → vs[j]? = some u → ds[j]? = some e → isL e = true → m = true → NoAl ρ σ u) → Rel C ρ' W F G (sets is vs σ) H := by
  intro is ns vs ds ρ ρ' σ R h
  induction h generalizing is ρ σ with
  | nil =>
    intro e _
    cases is with
    | nil => cases e; exact R
    | cons => cases e
  | @cons n ns v vs d ds a b _ ih =>
    intro e na
    cases is with
    | nil => cases e
    | cons i is =>
      have R1 := R.put i a h0 fun hl hn => na 0 n v d rfl rfl rfl hl hn
      refine ih R1 e fun j m u e' z1 z2 z3 hl hm => ?_
      exact noal_put (na (j + 1) m u e' (by simpa using z1) (by simpa using z2) (by simpa using z3) hl hm) (fun hi => R.len ▸ hi) fun hl' hn' => b hl' hn' j m u e' z1 z2 z3 hl hm
theorem noal_new {ρ : Rho} {W : Src} {F G H F' G' : Hp} {σ : L2.St} {n : Bool} {v : V} {d : PyData} (R : Rel C ρ W F G σ H) (r : Rn n C F' G' H v d) (hl : isL d = true) (hn : n = true) : NoAl ρ σ v := by
  obtain ⟨a, us, xs, rfl, _, _, h⟩ := rn_own r hl hn
  intro j ys e1 e2
  obtain ⟨us', g1, _⟩ := own_there R e1 e2
  have := R.gh _ _ g1
  rw [h] at this
  cases this
theorem nws_get {F G Hs : Hp} : ∀ {ns : List Bool} {us : List V} {es : List PyData}, Nws C F G Hs ns us es → ∀ (j : Nat) (m : Bool) (u : V) (e : PyData), ns[j]? = some m → us[j]? = some u → es[j]? = some e → Rn m C F G Hs u e := by
  intro ns us es h
  induction h with
  | nil => intro j _ _ _ z; simp at z
  | cons a b _ ih =>
    intro j m u e z1 z2 z3
    cases j with
    | zero => simp at z1 z2 z3; subst z1 z2 z3; exact a
    | succ j => exact ih j m u e (by simpa using z1) (by simpa using z2) (by simpa using z3)
theorem nws_len {F G Hs : Hp} {ns : List Bool} {us : List V} {es : List PyData} (h : Nws C F G Hs ns us es) : us.length = ns.length ∧ es.length = ns.length := by
  induction h with
  | nil => exact ⟨rfl, rfl⟩
  | cons _ _ _ ih => simp [ih.1, ih.2]
/-- the end of a, b, .. = x, y, .. -/
theorem pars_end {is : List Nat} {fs : List Nx} {ρ : Rho} {W W1 : Src} {F G H F1 G1 H1 : Hp} {σ : L2.St} {ds : List PyData} {vs : List V} {o : Out} {D : Ends} (R : Rel C ρ W F G σ H) (x1 : Ext C.Z F G H F1 G1 H1) (R1 : Rel C ρ W1 F1 G1 σ H1) (r : Nws C F1 G1 H (fs.map (·.1)) vs ds)
    (e : (match puts is (fs.map (·.1)) ds ρ with | some ρ1 => some (Out.nx ρ1 W1) | none => none) = some o) (q : Fin C F D o) : D.nx (sets is vs σ) H1 := by
  split at e
  · rename_i ρ1 e1
    cases e
    refine q F1 G1 _ H1 x1.f (R1.puts (Hs := H) (fun a h => R.h0 h) r e1 fun j m u e' z1 z2 z3 hl hm => ?_)
    exact noal_new R (nws_get r j m u e' z1 z2 z3) hl hm
  · cases e
theorem st_par2 {i j : Nat} {x y : Str} {a b : Expr} {fs : List Nx} {px py pt : Pos} {kt k2 : Nat} {pt2 : Pos} (hc : X.calm = true) (hN : X.N.Nodup) (hi : X.N[i]? = some x) (hj : X.N[j]? = some y) (hij : i ≠ j) (hx : X.env.scope.names.lookup x = some .local) (hy : X.env.scope.names.lookup y = some .local) (ha : PA X [a, b] (TN C fs)) (hfs : fs.length = 2)
    (hw : swappedStores [.Tuple [.Name x px, .Name y py] kt pt] (.Tuple [a, b] k2 pt2) X.env = pure (some [x, y])) :
    PS X (.Assign [.Tuple [.Name x px, .Name y py] kt pt] (.Tuple [a, b] k2 pt2) pos) (TS' C (sPars [i, j] fs)) := by
  refine ps_weak (ps_par hc hN hi hj hij hx hy ha hw) fun D σ H ⟨ρ, W, F, G, o, R, e, q⟩ => ?_
  unfold sPars at e
  split at e
  · rename_i ds W1 e1
    refine ⟨ρ, W, F, G, ds, W1, R, e1, fun vs F1 G1 H1 x1 R1 r1 => ?_⟩
    have := (nws_len r1).1
    rw [List.length_map, hfs] at this
    match vs, this with
    | [v, w], _ => exact ⟨v, w, rfl, pars_end R x1 R1 r1 e q⟩
  · cases e
theorem st_par3 {i j l : Nat} {x y z : Str} {a b c : Expr} {fs : List Nx} {px py pz pt : Pos} {kt k2 : Nat} {pt2 : Pos} (hc : X.calm = true) (hN : X.N.Nodup) (hi : X.N[i]? = some x) (hj : X.N[j]? = some y) (hl : X.N[l]? = some z) (hij : i ≠ j) (hil : i ≠ l) (hjl : j ≠ l) (hx : X.env.scope.names.lookup x = some .local) (hy : X.env.scope.names.lookup y = some .local) (hz : X.env.scope.names.lookup z = some .local)
    (ha : PA X [a, b, c] (TN C fs)) (hfs : fs.length = 3)
    (hw : swappedStores [.Tuple [.Name x px, .Name y py, .Name z pz] kt pt] (.Tuple [a, b, c] k2 pt2) X.env = pure (some [x, y, z])) :
    PS X (.Assign [.Tuple [.Name x px, .Name y py, .Name z pz] kt pt] (.Tuple [a, b, c] k2 pt2) pos) (TS' C (sPars [i, j, l] fs)) := by
  refine ps_weak (ps_par3 hc hN hi hj hl hij hil hjl hx hy hz ha hw) fun D σ H ⟨ρ, W, F, G, o, R, e, q⟩ => ?_
  unfold sPars at e
  split at e
  · rename_i ds W1 e1
    refine ⟨ρ, W, F, G, ds, W1, R, e1, fun vs F1 G1 H1 x1 R1 r1 => ?_⟩
    have := (nws_len r1).1
    rw [List.length_map, hfs] at this
    match vs, this with
    | [v, w, u], _ => exact ⟨v, w, u, rfl, pars_end R x1 R1 r1 e q⟩
  · cases e
/-- plain names as targets -/
def TNm (is : List Nat) : TGs := fun us σ H Q => us.length = is.length ∧ Q (sets is us σ) H
theorem nm_nil : PGs X [] (TNm []) := pgs_weak pgs_nil fun us σ H Q ⟨h, q⟩ => by
  cases us with
  | nil => exact ⟨rfl, q⟩
  | cons => cases h
theorem nm_cons {i : Nat} {is : List Nat} {x : Str} {p : Pos} {es : List Expr} (hN : X.N.Nodup) (hi : X.N[i]? = some x) (hx : Loc X.env.scope x) (hf : X.fn x = true ∨ X.env.scope.names.lookup x = some .local) (h : PGs X es (TNm is)) (hs : (assignEach (.Name x p :: es) X.env).map (·.2) = assign (.Name x p) X.env :: (assignEach es X.env).map (·.2)) :
    PGs X (.Name x p :: es) (TNm (i :: is)) := pgs_weak (pgs_cons (pg_name hN hi hx hf) h hs) fun us σ H Q ⟨hl, q⟩ => by
  cases us with
  | nil => cases hl
  | cons u us => exact ⟨u, us, rfl, by simpa using hl, q⟩
/-- through a tuple -/
theorem st_pars {is : List Nat} {ts es : List Expr} {fs : List Nx} {pt pt2 : Pos} {kt k2 : Nat} (hK : X.K = C.K) (hc : X.calm = true) (ha : PA X es (TN C fs)) (hg : PGs X ts (TNm is)) (hn : (assignEach ts X.env).length = is.length) (hst : (assignEach ts X.env).findIdx? (·.1) = none) (hfs : fs.length = is.length) (hz : fs.length ≤ sizeLine)
    (hs : swapsWithSole [.Tuple ts kt pt] (.Tuple es k2 pt2) pos.line X.env = pure false) (hw : swappedStores [.Tuple ts kt pt] (.Tuple es k2 pt2) X.env = pure none) (h1 : (assignEach [.Tuple ts kt pt] X.env).map (·.2) = [assign (.Tuple ts kt pt) X.env]) :
    PS X (.Assign [.Tuple ts kt pt] (.Tuple es k2 pt2) pos) (TS' C (sPars is fs)) := by
  refine ps_weak (ps_asg (pe_tup ha) (pg_tup hc hg hn hst) hs hw h1) fun D σ H ⟨ρ, W, F, G, o, R, e, q⟩ => ?_
  unfold sPars at e
  split at e
  · rename_i ds W1 e1
    refine ⟨ρ, W, F, G, ds, W1, R, e1, fun vs F1 G1 H1 x1 R1 r1 => ?_⟩
    have hl := (nws_len r1).1
    rw [List.length_map] at hl
    refine ⟨by rw [hl]; exact hz, fun p np => ?_⟩
    have gp : G1 p = none := R1.gh.free np
    have zp : ¬ Zm C.Z p := fun z => by
      obtain ⟨o', h⟩ := R1.zh z
      rw [np] at h; cases h
    have R2 : Rel C ρ W1 F1 G1 σ (upd H1 p (.tup vs)) := R1.side _ gp zp (R1.h0 np)
    refine ⟨p, vs, rfl, SqT.of upd_same, by rw [hl, hfs], by rw [hl, hfs], ?_⟩
    have x2 : Ext C.Z F G H F1 G1 (upd H1 p (.tup vs)) := ⟨x1.f, x1.g, x1.fn, x1.gn, fun a o' h n => same_none np a o' (x1.h a o' h n), fun a hz h => by
      have := x1.z a hz h
      cases q2 : H1 a with
      | none => exact absurd q2 this
      | some o' => rw [same_none np a o' q2]; simp⟩
    exact pars_end R x2 R2 r1 e q
  · cases e
/-- name = [..] on one line -/
theorem st_newLc {i : Nat} {y : Str} {py spos : Pos} {elt tg iter : Expr} {ifs : List Expr} {scope : Scope} {own : List (Str × Nat)} {it : Lx} {g : Gx} {t : Tx} {e : Ex} (hc : X.calm = true) (hN : X.N.Nodup) (hy : X.N[i]? = some y) (hyl : X.env.scope.names.lookup y = some .local)
    (hsw : swapsWith (.ListComp elt [⟨tg, iter, ifs, 0⟩] scope pos) (some (.Name y py)) spos.line X.env = pure true) (hi : PI X tg iter (TI' C it)) (ok : BlkOk X.N X.env.scope scope own)
    (hg : ∀ (s : Shared) (H : Hp) (A : Addr) (cl : List (Str × Addr)) (fp : List Addr), PG (X.blk s H scope (compEnvC scope cl A X.env) fp) tg (TG' C (own.map (·.2)) g))
    (ht : ∀ (s : Shared) (H : Hp) (A : Addr) (cl : List (Str × Addr)) (fp : List Addr), PTs (X.blk s H scope (compEnvC scope cl A X.env) fp) ifs (TB C t))
    (he : ∀ (s : Shared) (H : Hp) (A : Addr) (cl : List (Str × Addr)) (fp : List Addr), PE (X.blk s H scope (compEnvC scope cl A X.env) fp) elt (TX C .va e)) (hs : ∀ x, foldedSetIterable iter X.env x = pure x) :
    PS X (.Assign [.Name y py] (.ListComp elt [⟨tg, iter, ifs, 0⟩] scope pos) spos) (TS' C (sNew i (eComp (own.map (·.2)) it g t e))) := by
  refine ps_weak (ps_setLc hc hN hy hyl hsw hi ok hg ht he hs) fun D σ H ⟨ρ, W, F, G, o, R, ef, q⟩ => ?_
  unfold sNew at ef
  cases h1 : eComp (own.map (·.2)) it g t e ρ W with
  | none => rw [h1] at ef; cases ef
  | some p =>
    obtain ⟨d, W1⟩ := p
    rw [h1] at ef
    exact comp_read ⟨ρ, W, F, G, d, W1, R, h1, fun v F1 G1 H1 x1 R1 r1 => new_end R x1 R1 r1 ef q⟩
/-- name op= e, on data that is not changed in place -/
def sAug (i : Nat) (op : PyData → PyData → Option PyData) (f : Ex) : Sx := fun ρ W => match ρ[i]? with
  | some (.d x) => match f ρ W with
    | some (y, W1) => match op x y with
      | some r => some (.nx (ρ.set i (.d r)) W1)
      | none => none
    | none => none
  | _ => none
def aAdd : PyData → PyData → Option PyData
  | .int i, .int j => some (.int (i + j))
  | _, _ => none
def aSub : PyData → PyData → Option PyData
  | .int i, .int j => some (.int (i - j))
  | _, _ => none
theorem st_aug {i : Nat} {x : Str} {a : Expr} {f : Ex} {m : Mode} {op : Operator} {fo : PyData → PyData → Option PyData} {p' : Pos} (hN : X.N.Nodup) (hi : X.N[i]? = some x) (hx : Loc X.env.scope x) (hf : X.fn x = true ∨ X.env.scope.names.lookup x = some .local) (h : PE X a (TX C m f)) (ho : OpR X (inplaceOp op) (RD2 C .va fo)) :
    PS X (.AugAssign (.Name x p') op a pos) (TS' C (sAug i fo f)) := by
  refine ps_weak (ps_aug hN hi hx h (ti := RD2 C .va fo) (fun p s σ H x y v u Q I rx ry q => ho p s σ H x y v u Q I rx ry q) hf) fun D σ H ⟨ρ, W, F, G, o, R, e, q⟩ => ?_
  unfold sAug at e
  split at e
  · rename_i x0 e0
    split at e
    · rename_i y W1 e1
      split at e
      · rename_i r e2
        cases e
        obtain ⟨ov, g1, g2⟩ := R.sl i _ e0
        cases g2 with
        | d h =>
          refine ⟨_, g1, ρ, W, F, G, y, W1, R, e1, fun v F1 G1 H1 x1 R1 r1 => ⟨F1, G1, x0, y, r, R1.fg, R1.gh, .inl (dp_same x1.f h), r1.vw, e2, fun v3 F3 G3 H3 g3 r3 => ?_⟩⟩
          exact q F3 G3 _ H3 (x1.f.trans g3.f) ((R1.gr g3).set i r3)
      · cases e
    · cases e
  · cases e
theorem o_iadd : OpR X (inplaceOp .Add) (RD2 C .va aAdd) := by
  refine op_imp iop_add fun x y H Q ⟨F, G, d, e, r, fg, gh, hx, hy, ho, q⟩ => ?_
  unfold aAdd at ho
  split at ho
  · cases ho
    exact ⟨_, _, hx.int, hy.int, q.plain fg gh (.int _)⟩
  · cases ho
theorem o_isub : OpR X (inplaceOp .Sub) (RD2 C .va aSub) := by
  refine op_imp iop_sub fun x y H Q ⟨F, G, d, e, r, fg, gh, hx, hy, ho, q⟩ => ?_
  unfold aSub at ho
  split at ho
  · cases ho
    exact ⟨_, _, hx.int, hy.int, q.plain fg gh (.int _)⟩
  · cases ho
end
end Dv
set_option Elab.async false
set_option linter.all false
set_option maxRecDepth 100000
set_option maxHeartbeats 1000000
/-! Part 9s: sorted of data; methods of lists that give data. -/
namespace Dv
open PySem PySem.Spec PyProof.Rows L2
open PySem.Calls

def alikeB (ds : List PyData) : Bool := ds.all fun d => ds.all fun e => PySem.W.alike d e
def isTup1 : PyData → Bool
  | .tuple (_ :: _) => true
  | _ => false
def noTup : PyData → Bool
  | .none => false
  | .tuple _ => false
  | _ => true
def sortOk (ds : List PyData) : Bool := alikeB ds && (ds.all isTup1 || ds.all noTup) && ds.all (fun d => decide (d.depth ≤ 60)) && decide (ds.length ≤ sizeLine)
def sortd (ds : List PyData) : List PyData := ds.mergeSort (PySem.W.dataLe false id)
def fSort : List PyData → Option PyData
  | [.list xs] => if sortOk xs = true then some (.list (sortd xs)) else none
  | [.tuple xs] => if sortOk xs = true then some (.list (sortd xs)) else none
  | _ => none
theorem sortOk_alike {ds : List PyData} (h : sortOk ds = true) : PySem.W.AllAlike ds := by
  unfold sortOk alikeB at h
  simp only [Bool.and_eq_true, List.all_eq_true] at h
  exact fun d hd e he => h.1.1.1 d hd e he
theorem sortOk_kind {ds : List PyData} (h : sortOk ds = true) : PySem.W.Sortable ds := by
  unfold sortOk at h
  simp only [Bool.and_eq_true, Bool.or_eq_true, List.all_eq_true] at h
  rcases h.1.1.2 with h | h
  · refine .inl fun d hd => ?_
    have := h d hd
    unfold isTup1 at this
    split at this
    · exact ⟨_, _, rfl⟩
    · cases this
  · refine .inr fun d hd => ?_
    have := h d hd
    unfold noTup at this
    split at this
    · cases this
    · cases this
    · rename_i h1 h2
      exact ⟨h1, h2⟩
theorem sortOk_depth {ds : List PyData} (h : sortOk ds = true) : ∀ d ∈ ds, d.depth ≤ 60 := by
  unfold sortOk at h
  simp only [Bool.and_eq_true, List.all_eq_true, decide_eq_true_eq] at h
  exact h.1.2
theorem sortOk_len {ds : List PyData} (h : sortOk ds = true) : ds.length ≤ sizeLine := by
  unfold sortOk at h
  simp only [Bool.and_eq_true, decide_eq_true_eq] at h
  exact h.2

section
variable {prog : Program} {w : World} {A : Around} {E : Value → Shared → Prop} {s : Shared} {β : Type} {vs : List Value} {bs : List β} {enc : β → PyData} {R : Value → β → Prop}
/-- sorted(xs), xs a list or a tuple of alike data -/
theorem sorted_seq {l : Addr} {T : String} {o : Obj} {n : Nat} {Q : Value → Shared → Prop} (hT : T = "list" ∨ T = "tuple") (ho : s.heap.get? l = some o) (hc : o.cls = .type T) (hd : o.data = .seq vs.toArray n)
    (e : PySem.W.EachIs R vs bs) (er : PySem.W.EachIs (fun v b => ∃ as, Reads s.heap v (enc b) as) vs bs) (hal : PySem.W.AllAlike (bs.map enc)) (hk : PySem.W.Sortable (bs.map enc)) (hL : bs.length ≤ sizeLine)
    (hu : ∀ b, b ∈ bs → A.units + 2 + (enc b).depth < cLine)
    (h : ∀ (h' : Heap) (d : Addr) (out : List Value), out.length = bs.length → PySem.W.EachIs R out (bs.mergeSort (PySem.W.dataLe false enc)) → (∀ b u, s.heap.get? b = some u → h'.get? b = some u) → s.heap.get? d = none → (∃ m, h'.get? d = some (seqObj "list" out.toArray m)) → Q (.ref d) { s with heap := h' }) :
    wpAny (model prog w) A (call (.builtin "sorted") [.ref l]) Q E s := by
  have hL2 : vs.length ≤ sizeLine := by rw [e.length]; exact hL
  refine call_function_entry_kw kind_sorted plain_sorted entry_sorted (PyProof.Rows.args_sorted1 _) ?_
  unfold Builtin.«sorted»
  refine wpAny_bind (m := checkCount "sorted" 1 1 _) (wpAny_pure ?_)
  refine wpAny_bind (wpAny_collect_seq l hT ho hc hd (fun h1 k1 => ?_) (by simpa using hL2))
  refine wpAny_bind (wpAny_newList ?_ hL2)
  have hat : (h1.push (seqObj "list" vs.toArray 0)).get? h1.objs.size = some (seqObj "list" vs.toArray 0) := Heap.get?_push_size _ rfl
  have hle : s.heap.get? h1.objs.size = none := by
    cases q : s.heap.get? h1.objs.size with
    | none => rfl
    | some u => exact absurd (Heap.lt_size (k1 _ u q)) (Nat.lt_irrefl _)
  have keep : ∀ b u, s.heap.get? b = some u → (h1.push (seqObj "list" vs.toArray 0)).get? b = some u ∧ b ≠ h1.objs.size := fun b u q => ⟨Heap.get?_push_of_some _ (k1 b u q), Nat.ne_of_lt (Heap.lt_size (k1 b u q))⟩
  have er' : PySem.W.EachIs (fun v b => ∃ as, Reads (PySem.W.sortingHeap (h1.push (seqObj "list" vs.toArray 0)) h1.objs.size vs) v (enc b) as) vs bs := er.mono fun _ _ ⟨as, r⟩ => ⟨as, PyProof.Rows.Reads.keeps (fun b u q => PySem.W.sortingHeap_old (keep b u q).2 (keep b u q).1) r⟩
  refine wpAny_bind (wpAny_holding (wpAny_call_entry_kw slot_list_sort ⟨_, hat, rfl⟩ entry_list_sort (PySem.W.list_sort_vals (κ := PySem.W.dataKind (PySem.W.sortingHeap (h1.push (seqObj "list" vs.toArray 0)) h1.objs.size vs) (bs.map enc)) hat (PySem.W.SortsAt.data (s := { s with heap := PySem.W.sortingHeap (h1.push (seqObj "list" vs.toArray 0)) h1.objs.size vs }) (PySem.W.each_map (R := fun v d => ∃ as, Reads _ v d as) enc er') hal hk (PySem.W.bound_map hu)) hL2 ⟨_, rfl, ?_⟩) (PyProof.Rows.args_list_sort _)))
  exact wpAny_pure ⟨_, rfl, h _ _ _ (by rw [PySem.W.sortVals_length false rfl]; exact e.length) (PySem.W.sortVals_data false e er' hal) (fun b u q => (sortedHeap_old (keep b u q).2 (Heap.lt_size (keep b u q).1)).trans (keep b u q).1) hle (sortedHeap_at hat)⟩
end
theorem objok_there {P : Program} {w : World} {H : Hp} {h : Heap} {a : Addr} {o : HO} (x : ObjOk P w H h a o) : ∃ u, h.get? a = some u := by
  cases o with
  | lst xs => obtain ⟨_, _, _, _, e⟩ := x; exact ⟨_, e⟩
  | tup xs => obtain ⟨_, _, _, u, e, _⟩ := x; exact ⟨_, e⟩
  | dK kvs => obtain ⟨_, _, _, _, o, _, _, e, _⟩ := x; exact ⟨_, e⟩
  | dT kvs => obtain ⟨_, _, _, _, o, _, _, e, _⟩ := x; exact ⟨_, e⟩
  | set S n => obtain ⟨o, _, _, _, e, _⟩ := x; exact ⟨_, e⟩
  | ins C dx fs => obtain ⟨_, _, _, e, _⟩ := x; exact ⟨_, e⟩
  | own y => obtain ⟨_, e⟩ := x; exact ⟨_, e⟩
  | xd fs => obtain ⟨_, ⟨_, _, _, e, _⟩, _⟩ := x; exact ⟨_, e⟩
  | rng lo hi => obtain ⟨_, _, _, e⟩ := x; exact ⟨_, e⟩
  | frz ob u => obtain ⟨e, _⟩ := x; exact ⟨_, e⟩
  | tbl ps => exact ⟨_, (show h.get? a = some _ from x)⟩
  | met f y => exact ⟨_, (show h.get? a = some _ from x)⟩
  | ext φ => obtain ⟨_, ⟨_, e⟩, _⟩ := x; exact ⟨_, e⟩
theorem hok_none {P : Program} {w : World} {H : Hp} {h : Heap} {a : Addr} (x : HOk P w H h) (e : h.get? a = none) : H a = none := by
  cases q : H a with
  | none => rfl
  | some o =>
    obtain ⟨u, h2⟩ := objok_there (x a o q)
    rw [e] at h2
    cases h2
section
variable {X : Cx} {C : Ct} {m : Mode}
theorem zip_each {K : PySem.W.Frag} {F : Hp} : ∀ {vs : List V} {us : List Value} {ds : List PyData}, Vals vs us → DqAll K F vs ds → PySem.W.EachIs (fun (v : Value) (b : V × PyData) => RelV b.1 v ∧ Dq K F b.1 b.2) us (vs.zip ds)
  | [], _, _, .nil, .nil => .nil
  | _ :: _, _, _, .cons r t, .cons d e => .cons ⟨r, d⟩ (zip_each t e)
theorem zip_reads {pins : List (Addr × Obj)} {s : Shared} {σ : L2.St} {H : Hp} (I : Inv X pins σ H s) {us : List Value} {bs : List (V × PyData)} {F : Hp} (fh : Same F H) (e : PySem.W.EachIs (fun (v : Value) (b : V × PyData) => RelV b.1 v ∧ Dq X.K F b.1 b.2) us bs) :
    PySem.W.EachIs (fun v b => ∃ as, Reads s.heap v b.2 as) us bs := e.mono fun v b h => Dp.reads I b.2 b.1 v (dq_dp (dp_same fh h.2)) h.1
theorem unzip_each {K : PySem.W.Frag} {F : Hp} {us : List Value} {bs : List (V × PyData)} (e : PySem.W.EachIs (fun (v : Value) (b : V × PyData) => RelV b.1 v ∧ Dq K F b.1 b.2) us bs) : Vals (bs.map (·.1)) us ∧ DqAll K F (bs.map (·.1)) (bs.map (·.2)) := by
  induction e with
  | nil => exact ⟨.nil, .nil⟩
  | cons h _ ih => exact ⟨.cons h.1 ih.1, .cons h.2 ih.2⟩
theorem o_sort (hK : X.K = C.K) (hu : X.A.units + 65 < cLine) : CallR X (.builtin "sorted") (RDn C .nw fSort) := by
  intro pins s σ H xs us Q I r h
  obtain ⟨F, G, ds, rr, fg, gh, hx, ho, q⟩ := h
  have core : ∀ (a : Addr) (vs : List V) (zs : List PyData) (T : String) (o : Obj) (n : Nat) (its : List Value), (T = "list" ∨ T = "tuple") → s.heap.get? a = some o → o.cls = .type T → o.data = .seq its.toArray n → Vals vs its → DqAll C.K F vs zs → sortOk zs = true → rr = .list (sortd zs) →
      wpAny (model X.prog X.w) X.A (call (.builtin "sorted") [.ref a]) (EP X pins σ Q) X.xe s := by
    intro a vs zs T o n its hT h1 h2 h3 rv dv hok hr
    subst hr
    rw [← hK] at dv
    have e := zip_each rv dv
    have hsnd : (vs.zip zs).map (·.2) = zs := by
      rw [List.map_snd_zip]
      rw [dpa_len dv]
      exact Nat.le_refl _
    refine sorted_seq (vs := its) (bs := vs.zip zs) (enc := fun b => b.2) (R := fun (v : Value) (b : V × PyData) => RelV b.1 v ∧ Dq X.K F b.1 b.2) hT h1 h2 h3 e (zip_reads I (fg.trans gh) e) (by rw [hsnd]; exact sortOk_alike hok) (by rw [hsnd]; exact sortOk_kind hok) ?_ (fun b hb => ?_) ?_
    · have := sortOk_len hok
      rw [← hsnd, List.length_map] at this
      exact this
    · have : b.2 ∈ zs := by rw [← hsnd]; exact List.mem_map.mpr ⟨b, hb, rfl⟩
      have := sortOk_depth hok _ this
      show X.A.units + 2 + b.2.depth < cLine
      omega
    · intro h' d out hlen eo kp hn hat
      obtain ⟨m, hat⟩ := hat
      obtain ⟨v1, v2⟩ := unzip_each eo
      have hs2 : ((vs.zip zs).mergeSort (PySem.W.dataLe false fun b => b.2)).map (·.2) = sortd zs := by
        unfold sortd
        have z : ((vs.zip zs).mergeSort (PySem.W.dataLe false fun b => b.2)).map (fun b => b.2) = ((vs.zip zs).map (fun b => b.2)).mergeSort (PySem.W.dataLe false id) := List.map_mergeSort (fun _ _ _ _ => rfl)
        rw [hsnd] at z
        exact z
      rw [hs2] at v2
      have hH := hok_none I.hok hn
      refine ⟨.ref d, upd H d (.lst _), I.laidN (t' := s.toks) kp hn hH ⟨?_, out, m, v1, hat⟩, rfl, q.lst fg gh (by rw [← hK]; exact v2) hH⟩
      rw [v1.length, hlen, ← List.length_map (f := (·.2)), hsnd]
      exact sortOk_len hok
  unfold fSort at ho
  split at ho
  · rename_i zs
    split at ho
    · rename_i hok
      cases ho
      obtain ⟨v, rfl, hv⟩ := vwa_one hx
      obtain ⟨a, vs, rfl, h1, h2⟩ := hv.list fg gh
      obtain ⟨u, rfl, ru⟩ := vals1 r
      obtain rfl : u = Value.ref a := ru
      obtain ⟨its, rv, pl, hz⟩ := I.list (SqL.of h1)
      obtain ⟨o, g1, g2, n, g3⟩ := pl.isList
      exact core a vs zs "list" o n its (.inl rfl) g1 g2 g3 rv h2 hok rfl
    · cases ho
  · rename_i zs
    split at ho
    · rename_i hok
      cases ho
      obtain ⟨v, rfl, hv⟩ := vwa_one hx
      obtain ⟨a, vs, rfl, h1, h2⟩ := hv.tuple fg gh
      obtain ⟨u, rfl, ru⟩ := vals1 r
      obtain rfl : u = Value.ref a := ru
      obtain ⟨its, rv, ⟨o, g1, g2, n, g3⟩, hz⟩ := I.tuple (by rw [hK]; exact h1)
      exact core a vs zs "tuple" o n its (.inr rfl) g1 g2 g3 rv h2 hok rfl
    · cases ho
  · cases ho

/-! ### methods of lists that give data -/
def noSt : Expr → Bool
  | .Starred .. => false
  | _ => true
theorem noSt_star {e : Expr} {es : List Expr} {env : Env} (h : noSt e = true) : starEach (e :: es) env = (false, eval e env) :: starEach es env := by
  cases e <;> first | rfl | cases h
theorem noSt_few {cp : Pos} {a : Expr} {env : Env} (h : noSt a = true) : ((backTo cp (starEach [a] env)).all (fun x => !x.1) && (backToKw cp (keywordEach [] env)).all (fun x => x.1.isSome) && decide ([a].length + ([] : List Keyword).length + (if ([] : List Keyword).isEmpty then 0 else 1) < 30)) = true := by
  rw [noSt_star h]
  rfl
def mIndex : PyData → PyData → Option PyData
  | .list xs, d => if SeqAt.shaped d = true ∧ SeqAt.shaped (.list xs) = true then (xs.findIdx? fun z => PyData.eqv z d).map fun j => .int (j : Nat) else none
  | _, _ => none
theorem findIdx_spec {p : PyData → Bool} {xs : List PyData} {j : Nat} (h : xs.findIdx? p = some j) : ∃ z, xs[j]? = some z ∧ p z = true ∧ ∀ (m : Nat) (z' : PyData), m < j → xs[m]? = some z' → p z' = false := by
  rw [List.findIdx?_eq_some_iff_getElem] at h
  obtain ⟨h1, h2, h3⟩ := h
  refine ⟨xs[j], List.getElem?_eq_getElem h1, h2, fun m z hm hz => ?_⟩
  have := h3 m hm
  obtain ⟨h4, rfl⟩ := List.getElem?_eq_some_iff.mp hz
  simpa using this
theorem mt_ix (hK : X.K = C.K) (hu : X.A.units + 65 < cLine) : MtR X "list.index" (fun x xs H Q => ∃ y, xs = [y] ∧ RD2 C .va mIndex x y H Q) := by
  intro pins s σ H x xs v us Q I rx rxs h
  refine mt_indexD hu pins s σ H x xs v us Q I rx rxs ?_
  obtain ⟨y, rfl, F, G, d, e, r, fg, gh, hx, hy, ho, q⟩ := h
  unfold mIndex at ho
  split at ho
  · rename_i zs
    split at ho
    · rename_i hsh
      cases hj : zs.findIdx? (fun z => PyData.eqv z e) with
      | none => rw [hj] at ho; cases ho
      | some j =>
        rw [hj] at ho
        cases ho
        obtain ⟨z, z1, z2, z3⟩ := findIdx_spec hj
        have l1 : Dp X.K H x (.list zs) := by
          rw [hK]
          exact dq_dp (dp_same gh (hx.dp fg))
        obtain ⟨a, vs, rfl, _, _⟩ := hx.list fg gh
        exact ⟨a, y, e, zs, j, z, rfl, rfl, l1, by rw [hK]; exact dq_dp (dp_same gh (hy.dp fg)), hsh.2, hsh.1, z1, z2, z3, q.plain fg gh (.int _)⟩
    · cases ho
  · cases ho
variable {o e : Expr} {fo fe : Ex} {name : Str} {apos cpos : Pos} {id : String}
theorem x_meth {op : PyData → PyData → Option PyData} {m1 m2 : Mode} (hK : X.K = C.K) (slot : Slot "list" name id) (hty : typeOf (.builtin id) = pure (.type "method_descriptor")) (hm : MtR X id (fun x xs H Q => ∃ y, xs = [y] ∧ RD2 C m op x y H Q)) (hl : ∀ x y r, op x y = some r → ∃ zs, x = .list zs)
    (ho : PE X o (TX C m1 fo)) (he : PE X e (TX C m2 fe)) (hbase : attributeBase o name X.env (eval o X.env) = eval o X.env) (hs : noSt e = true) (hline : (apos.endLine == cpos.line) = true) :
    PE X (.Call (.Attribute o name apos) [e] [] cpos) (TX C m (e2 op fo fe)) := by
  refine pe_weak (pe_bm PySem.F.plainAttrs_list slot hty hm ho (v_cons he v_nil (noSt_star hs)) hbase (noSt_few hs) hline (noSt_star hs) rfl) fun σ H Q ⟨ρ, W, F, G, d, W', R, ef, q⟩ => ?_
  obtain ⟨x, W1, y, h1, h2, h3⟩ := e2_some ef
  refine ⟨ρ, W, F, G, x, W1, R, h1, fun v F1 G1 H1 x1 R1 r1 => ⟨?_, ρ, W1, F1, G1, [y], W', R1, ?_, fun vs F2 G2 H2 x2 R2 r2 => ?_⟩⟩
  · obtain ⟨zs, rfl⟩ := hl _ _ _ h3
    obtain ⟨a, us, rfl, g1, g2⟩ := r1.vw.list R1.fg R1.gh
    exact .inl ⟨rfl, us, SqL.of g1⟩
  · simp only [lCons, lNil, h2]
  · cases r2 with
    | cons ry rn =>
      cases rn
      exact ⟨_, rfl, F2, G2, x, y, d, R2.fg, R2.gh, r1.vw.ext x2.f x2.g, ry, h3, fun v3 F3 G3 H3 g3 r3 => q v3 F3 G3 H3 ((x1.trans x2).trans g3.ext) (R2.gr g3) (r3.back (x1.trans x2))⟩
end
end Dv
set_option Elab.async false
set_option linter.all false
set_option maxRecDepth 100000
set_option maxHeartbeats 1000000
/-! Part 10: from the text to plain functions. -/
namespace Dv
open PySem PySem.Spec PyProof.Rows L2

/-- what the text is read by -/
structure Gm where
  N : List Str
  sc : Scope
  raw : Scope
  fns : List (Str × Nat × Ctr)
  cts : List (Str × PyData)
  mods : List (Str × String)
  src : Str
  fuel : Nat
  wp : List (Nat × List Nat)
def ixOf : List Str → Str → Option Nat
  | [], _ => none
  | y :: r, x => if (y == x) = true then some 0 else (ixOf r x).map (· + 1)
theorem ixOf_some : ∀ {N : List Str} {x : Str} {i : Nat}, ixOf N x = some i → N[i]? = some x
  | y :: r, x, i, h => by
    unfold ixOf at h
    split at h
    · rename_i e
      cases h
      have : y = x := by simpa using e
      rw [this]
      rfl
    · cases q : ixOf r x with
      | none => rw [q] at h; cases h
      | some j =>
        rw [q] at h
        cases h
        show r[j]? = some x
        exact ixOf_some q
def okN (x : Str) : Bool := !(x == ("__debug__" : Str)) && !(x == ("__classdict__" : Str)) && !(x == ("__name__" : Str))
theorem okN_1 {x : Str} (h : okN x = true) : (x == ("__debug__" : Str)) = false := by
  unfold okN at h
  cases q : (x == ("__debug__" : Str)) <;> simp_all
theorem okN_2 {x : Str} (h : okN x = true) : (x == ("__classdict__" : Str)) = false := by
  unfold okN at h
  cases q : (x == ("__classdict__" : Str)) <;> simp_all
theorem okN_3 {x : Str} (h : okN x = true) : x ≠ "__name__" := by
  unfold okN at h
  intro z
  rw [z] at h
  simp at h
def visB (sc : Scope) (x : Str) : Bool := match sc.names.lookup x with
  | some .local => true
  | some .cell => true
  | some .free => true
  | _ => false
theorem visB_ok {sc : Scope} {x : Str} (h : visB sc x = true) : Vis sc x := by
  unfold visB at h
  unfold Vis
  split at h
  · rename_i e; exact .inl e
  · rename_i e; exact .inr (.inl e)
  · rename_i e; exact .inr (.inr e)
  · cases h
def isGl (sc : Scope) (x : Str) : Bool := match sc.names.lookup x with
  | some .globalImplicit => true
  | _ => false
def isLc (sc : Scope) (x : Str) : Bool := match sc.names.lookup x with
  | some .local => true
  | _ => false
def isLoc (sc : Scope) (x : Str) : Bool := match sc.names.lookup x with
  | some .local => true
  | some .cell => true
  | _ => false
theorem isLoc_ok {sc : Scope} {x : Str} (h : isLoc sc x = true) : L2.Loc sc x := by
  unfold isLoc at h
  unfold L2.Loc
  split at h
  · rename_i e; exact .inl e
  · rename_i e; exact .inr e
  · cases h
theorem isLc_ok {sc : Scope} {x : Str} (h : isLc sc x = true) : sc.names.lookup x = some .local := by
  unfold isLc at h
  split at h
  · rename_i e; exact e
  · cases h
/-- built-in functions, classes, a module's function -/
def bnames : List Str := ["len", "abs", "max", "repr", "isinstance", "all", "any", "range", "tuple", "list", "int", "str", "bool", "sorted", "sum", "min", "zip", "enumerate", "dict"]
/-- what stands around a def's text -/
structure Tb (X : Cx) (Γ : Gm) : Prop where
  fn : ∀ x n φ, Γ.fns.lookup x = some (n, φ) → ∃ k f fd ps, FG X.prog X.w X.K X.mg X.base CX0 k f fd ps (spC X.K φ n) ∧ Room k X.A ∧ X.mg x = some (.ref f) ∧ PySem.W.keepIn X.K (.ref f) = true ∧ Binds X.K fd ps []
  ct : ∀ x d, Γ.cts.lookup x = some d → ∃ v u, X.mg x = some u ∧ RelV v u ∧ ∀ F, Dq X.K F v d
  bl : ∀ x ∈ bnames, X.mg x = none
  md : ∀ x id, Γ.mods.lookup x = some id → X.mg x = some (.builtin id)
structure Gd (X : Cx) (C : Ct) (Γ : Gm) : Prop where
  hK : X.K = C.K
  calm : X.calm = true
  gu : X.A.guards = some []
  nd : X.N.Nodup
  N : X.N = Γ.N
  sc : X.env.scope = Γ.sc
  st : ∀ x, isLoc Γ.raw x = true → L2.Loc Γ.sc x ∧ (X.fn x = true ∨ X.env.scope.names.lookup x = some .local)
  xe : X.xe = fun _ _ => False
  hu : X.A.units + 70 < cLine
  hd : X.A.handled = none
  kd : Γ.sc.kind = .function
  tb : Tb X Γ
theorem isGl_ok {X : Cx} {C : Ct} {Γ : Gm} (G : Gd X C Γ) {x : Str} (h : isGl Γ.sc x = true) : Gl X x := by
  unfold isGl at h
  show X.env.scope.names.lookup x = some .globalImplicit
  rw [G.sc]
  split at h
  · assumption
  · cases h

/-! ### the text read: expressions -/
abbrev FE := Ex × List Nat
abbrev Rec := (Gm → Mode → Expr → Option FE) × (Gm → Expr → Option (Tx × List Nat))
def noStar : Expr → Bool
  | .Starred .. => false
  | _ => true
def isNw : Mode → Bool
  | .nw => true
  | _ => false
def cVs (r : Rec) (Γ : Gm) : List Expr → Option (Lx × List Nat)
  | [] => some (lNil, [])
  | e :: es => if noStar e = true then match r.1 Γ .vw e with
    | some (f, l) => match cVs r Γ es with
      | some (g, k) => some (lCons f g, l ++ k)
      | none => none
    | none => none else none
def cLs (r : Rec) (Γ : Gm) : List Expr → Option (Lx × List Nat)
  | [] => some (lNil, [])
  | e :: es => if noStar e = true then match r.1 Γ .va e with
    | some (f, l) => match cLs r Γ es with
      | some (g, k) => some (lCons f g, l ++ k)
      | none => none
    | none => none else none
def isSrc (Γ : Gm) : Expr → Option Nat
  | .Name x _ => if (x == Γ.src) = true && visB Γ.sc x && okN x then ixOf Γ.N x else none
  | _ => none
def cAs (r : Rec) (Γ : Gm) : List Expr → Option (Ax × List Nat)
  | [] => some (aNil, [])
  | e :: es => match isSrc Γ e with
    | some i => match cAs r Γ es with
      | some (g, k) => some (aSrc i g, k)
      | none => none
    | none => if noStar e = true then match r.1 Γ .va e with
      | some (f, l) => match cAs r Γ es with
        | some (g, k) => some (aCons f g, l ++ k)
        | none => none
      | none => none else none
def cBs (r : Rec) (Γ : Gm) (op : BoolOp) : List Expr → Option FE
  | [] => none
  | [e] => r.1 Γ .va e
  | e :: es => match r.1 Γ .va e with
    | some (f, l) => match cBs r Γ op es with
      | some (g, k) => some ((match op with | .And => eAnd2 f g | .Or => eOr2 f g), l ++ k)
      | none => none
    | none => none
def cTs (r : Rec) (Γ : Gm) (op : BoolOp) : List Expr → Option (Tx × List Nat)
  | [] => none
  | [e] => r.2 Γ e
  | e :: es => match r.2 Γ e with
    | some (f, l) => match cTs r Γ op es with
      | some (g, k) => some ((match op with | .And => tAnd2 f g | .Or => tOr2 f g), l ++ k)
      | none => none
    | none => none
/-- + and * may give new lists, the others don't -/
def binOf : Operator → Option ((PyData → PyData → Option PyData) × Bool)
  | .Add => some (bAdd, true)
  | .Mult => some (bMul, true)
  | .Sub => some (bSub, false)
  | .FloorDiv => some (bDiv, false)
  | .Mod => some (bMod, false)
  | .Pow => some (bPow, false)
  | _ => none
def cmpOf : CmpOp → Option (PyData → PyData → Option PyData)
  | .Eq => some cEq
  | .NotEq => some cNe
  | .Lt => some cLt
  | .LtE => some cLe
  | .Gt => some cGt
  | .GtE => some cGe
  | .Is => some cIsN
  | .IsNot => some cNotN
  | .In => some cIn
  | .NotIn => some cNotIn
def funOf (x : Str) : Option ((List PyData → Option PyData) × Bool) :=
  if (x == ("len" : Str)) = true then some (fLen, false)
  else if (x == ("abs" : Str)) = true then some (fAbs, false)
  else if (x == ("max" : Str)) = true then some (fMax, false)
  else if (x == ("repr" : Str)) = true then some (fRepr, false)
  else if (x == ("all" : Str)) = true then some (fAll, false)
  else if (x == ("any" : Str)) = true then some (fAny, false)
  else if (x == ("tuple" : Str)) = true then some (fTuple, false)
  else if (x == ("int" : Str)) = true then some (fInt, false)
  else if (x == ("list" : Str)) = true then some (fList, true)
  else if (x == ("sorted" : Str)) = true then some (fSort, true)
  else none
def tyOf (x : Str) : Option String :=
  if (x == ("int" : Str)) = true then some "int"
  else if (x == ("bool" : Str)) = true then some "bool"
  else if (x == ("str" : Str)) = true then some "str"
  else if (x == ("list" : Str)) = true then some "list"
  else if (x == ("tuple" : Str)) = true then some "tuple"
  else none
def noSlice : Expr → Bool
  | .Slice .. => false
  | _ => true
def cP (r : Rec) (Γ : Gm) : Option Expr → Option (Px × List Nat)
  | none => some (pNo, [])
  | some e => match r.1 Γ .vw e with
    | some (f, l) => some (pOf f, l)
    | none => none
/-- what is walked -/
def noSet : Expr → Bool
  | .Set .. => false
  | _ => true
def cSeq (r : Rec) (Γ : Gm) (e : Expr) : Option (Lx × List Nat) :=
  if noSet e = true then match r.1 Γ .va e with
    | some (f, l) => some (iSeq f, l)
    | none => none else none
def cI (r : Rec) (Γ : Gm) (e : Expr) : Option (Lx × List Nat) :=
  match e with
  | .Call (.Name x p) [a] [] q => if (x == ("range" : Str)) = true then (if isGl Γ.sc x && noStar a then match r.1 Γ .vw a with
      | some (f, l) => some (iR1 f, l)
      | none => none else none) else cSeq r Γ (.Call (.Name x p) [a] [] q)
  | .Call (.Name x p) [a, b] [] q => if (x == ("range" : Str)) = true then (if isGl Γ.sc x && noStar a && noStar b then match r.1 Γ .vw a, r.1 Γ .vw b with
      | some (f, l), some (g, k) => some (iR2 f g, l ++ k)
      | _, _ => none else none) else cSeq r Γ (.Call (.Name x p) [a, b] [] q)
  | e => cSeq r Γ e
/-- targets: names, tuples of such -/
def tgNs : Nat → Expr → List Str
  | 0, _ => []
  | _ + 1, .Name x _ => [x]
  | n + 1, .Tuple es _ _ => es.flatMap (tgNs n)
  | _ + 1, _ => []
def cGl (c : Expr → Option Gx) : List Expr → Option Gxs
  | [] => some gs0
  | e :: es => if noStar e = true then match c e with
    | some g => match cGl c es with
      | some h => some (gsC g h)
      | none => none
    | none => none else none
def cG (Γ : Gm) (vs : List Nat) : Nat → Expr → Option Gx
  | 0, _ => none
  | _ + 1, .Name x _ => match ixOf Γ.N x with
    | some i => if isLoc Γ.raw x && decide (i ∈ vs) then some (gN i) else none
    | none => none
  | n + 1, .Tuple es _ _ => match cGl (cG Γ vs n) es with
    | some h => some (gT es.length h)
    | none => none
  | _ + 1, _ => none
def ownOf (Γ : Gm) (tg : Expr) : List (Str × Nat) := (tgNs 4 tg).map fun x => (x, (ixOf Γ.N x).getD 0)
def blkG (Γ : Gm) (scope : Scope) : Gm := { Γ with sc := relS scope Γ.sc, raw := scope }
def cC (r : Rec) (Γ : Gm) (elt tg iter : Expr) (ifs : List Expr) (scope : Scope) : Option FE :=
  if blkC Γ.N Γ.sc scope (ownOf Γ tg) = true then match cI r Γ iter with
    | some (it, l) => match cG (blkG Γ scope) ((ownOf Γ tg).map (·.2)) 4 tg with
      | some g => match r.1 (blkG Γ scope) .va elt with
        | some (f, k) => match ifs with
          | [] => some (eComp ((ownOf Γ tg).map (·.2)) it g tYs f, l ++ k)
          | [c] => match r.2 (blkG Γ scope) c with
            | some (t, j) => some (eComp ((ownOf Γ tg).map (·.2)) it g t f, l ++ k ++ j)
            | none => none
          | _ => none
        | none => none
      | none => none
    | none => none
  else none
def cCall (r : Rec) (Γ : Gm) (m : Mode) (x : Str) (args : List Expr) : Option FE :=
  match Γ.fns.lookup x with
  | some (n, φ) => if isNw m = false ∧ isGl Γ.sc x = true ∧ okN x = true ∧ args.length = n ∧ args ≠ [] ∧ args.all noStar = true then match cAs r Γ args with
    | some (g, l) => some (eCall φ g, l)
    | none => none else none
  | none => match Γ.mods.lookup x with
    | some id => if id = "math.gcd" ∧ isNw m = false ∧ isGl Γ.sc x = true ∧ okN x = true ∧ args ≠ [] ∧ args.all noStar = true then match cVs r Γ args with
      | some (g, l) => some (eN fGcd g, l)
      | none => none else none
    | none => if (x == ("isinstance" : Str)) = true then (match args with
        | [a, .Name T _] => match tyOf T with
          | some tn => if isNw m = false ∧ isGl Γ.sc x = true ∧ isGl Γ.sc T = true ∧ noStar a = true then match r.1 Γ .vw a with
            | some (f, l) => some (e1 (isT tn) f, l)
            | none => none else none
          | none => none
        | _ => none)
      else match funOf x with
        | some (f, nw) => if (nw = true ∨ isNw m = false) ∧ isGl Γ.sc x = true ∧ args ≠ [] ∧ args.all noStar = true then match cVs r Γ args with
          | some (g, l) => some (eN f g, l)
          | none => none else none
        | none => none
/-- a base whose methods are looked up plainly -/
def plainB : Expr → Bool
  | .Name .. => true
  | .Subscript .. => true
  | .BinOp .. => true
  | _ => false
def cMeth (r : Rec) (Γ : Gm) (m : Mode) (o : Expr) (attr : Str) (ap cp : Pos) (a : Expr) : Option FE :=
  if isNw m = false ∧ plainB o = true ∧ noSt a = true ∧ (ap.endLine == cp.line) = true then (if (attr == ("index" : Str)) = true then match r.1 Γ .vw o, r.1 Γ .vw a with
    | some (fo, lo), some (fa, la) => some (e2 mIndex fo fa, lo ++ la)
    | _, _ => none else none) else none
def stepE (r : Rec) (Γ : Gm) (m : Mode) (e : Expr) : Option FE := match e with
  | .Name x _ => if okN x = true then match ixOf Γ.N x with
      | some i => if visB Γ.sc x = true then (match m with
        | .va => some (eVal i, [i])
        | .vw => some (eVar i, [])
        | .nw => none) else none
      | none => match Γ.cts.lookup x with
        | some d => if isNw m = false ∧ isGl Γ.sc x = true then some (eC d, []) else none
        | none => none
    else none
  | .Constant c _ _ => if isNw m = true then none else match c with
    | .int i => some (eC (.int i), [])
    | .str z => some (eC (.str z), [])
    | .bool b => some (eC (.bool b), [])
    | .none => some (eC .none, [])
    | _ => none
  | .BinOp a op b _ => match binOf op, r.1 Γ .vw a, r.1 Γ .vw b with
    | some (f, nw), some (fa, la), some (fb, lb) => if nw = true ∨ isNw m = false then some (e2 f fa fb, la ++ lb) else none
    | _, _, _ => none
  | .UnaryOp op a _ => if isNw m = true then none else match op with
    | .USub => match r.1 Γ .vw a with
      | some (f, l) => some (e1 uNeg f, l)
      | none => none
    | .Not => match r.1 Γ .va a with
      | some (f, l) => some (eNot f, l)
      | none => none
    | _ => none
  | .BoolOp op es _ => if isNw m = true then none else cBs r Γ op es
  | .Compare a [op] [b] _ => if isNw m = true then none else match cmpOf op, r.1 Γ .vw a, r.1 Γ .vw b with
    | some f, some (fa, la), some (fb, lb) => if behindInMarks op b = false then some (e2 f fa fb, la ++ lb) else none
    | _, _, _ => none
  | .Compare a [op, op'] [b, c] _ => if isNw m = true then none else match cmpOf op, cmpOf op', r.1 Γ .vw a, r.1 Γ .vw b, r.1 Γ .vw c with
    | some f, some g, some (fa, la), some (fb, lb), some (fc, lc) => if lastMarks [op, op'] [b, c] = false then some (eChain f g fa fb fc, la ++ lb ++ lc) else none
    | _, _, _, _, _ => none
  | .IfExp c a b _ => match r.2 Γ c, r.1 Γ m a, r.1 Γ m b with
    | some (t, l), some (fa, la), some (fb, lb) => some (eIf t fa fb, l ++ la ++ lb)
    | _, _, _ => none
  | .Subscript a (.Slice lo hi none _) _ => match r.1 Γ .vw a, cP r Γ lo, cP r Γ hi with
    | some (fa, la), some (fl, l), some (fh, k) => some (eSl fa fl fh, la ++ l ++ k)
    | _, _, _ => none
  | .Subscript a b _ => if isNw m = false ∧ noSlice b = true then (match r.1 Γ .vw a, r.1 Γ .vw b with
    | some (fa, la), some (fb, lb) => some (e2 bIx fa fb, la ++ lb)
    | _, _ => none) else none
  | .Tuple es _ _ => if isNw m = true then none else match cLs r Γ es with
    | some (f, l) => some (eN oTup f, l)
    | none => none
  | .List es _ => match cLs r Γ es with
    | some (f, l) => some (eN oLst f, l)
    | none => none
  | .ListComp elt [⟨tg, iter, ifs, 0⟩] scope _ => cC r Γ elt tg iter ifs scope
  | .Call (.Name x _) args [] _ => cCall r Γ m x args
  | .Call (.Attribute o attr ap) [a] [] cp => cMeth r Γ m o attr ap cp a
  | _ => none
/-- an expression whose test is its value's truth -/
def plainT : Expr → Bool
  | .UnaryOp .Not _ _ => false
  | .BoolOp .. => false
  | .IfExp .. => false
  | .Compare .. => false
  | _ => true
def stepT (r : Rec) (Γ : Gm) (e : Expr) : Option (Tx × List Nat) := match e with
  | .UnaryOp .Not a _ => match r.2 Γ a with
    | some (t, l) => some (tNeg t, l)
    | none => none
  | .BoolOp op es _ => cTs r Γ op es
  | .Compare a [op] [b] _ => match cmpOf op, r.1 Γ .vw a, r.1 Γ .vw b with
    | some f, some (fa, la), some (fb, lb) => if behindInMarks op b = false then some (tOf (e2 f fa fb), la ++ lb) else none
    | _, _, _ => none
  | .Compare a [op, op'] [b, c] _ => match cmpOf op, cmpOf op', r.1 Γ .vw a, r.1 Γ .vw b, r.1 Γ .vw c with
    | some f, some g, some (fa, la), some (fb, lb), some (fc, lc) => if lastMarks [op, op'] [b, c] = false then some (tOf (eChain f g fa fb fc), la ++ lb ++ lc) else none
    | _, _, _, _, _ => none
  | e => if plainT e = true then match r.1 Γ .va e with
    | some (f, l) => some (tOf f, l)
    | none => none else none
def recs : Nat → Rec
  | 0 => (fun _ _ _ => none, fun _ _ => none)
  | n + 1 => (stepE (recs n), stepT (recs n))
end Dv
set_option Elab.async false
set_option linter.all false
set_option maxRecDepth 100000
set_option maxHeartbeats 2000000
/-! Part 11: what is read off the text is what it does: expressions. -/
namespace Dv
open PySem PySem.Spec PyProof.Rows L2

theorem star_cons {e : Expr} {es : List Expr} {env : Env} (h : noStar e = true) : starEach (e :: es) env = (false, eval e env) :: starEach es env := by
  cases e <;> first | rfl | cases h
theorem star_plain {pos : Pos} {env : Env} : ∀ {es : List Expr}, es.all noStar = true → (backTo pos (starEach es env)).any (·.1) = false
  | [], _ => rfl
  | e :: es, h => by
    rw [List.all_cons, Bool.and_eq_true] at h
    rw [star_cons h.1]
    show (false || (backTo pos (starEach es env)).any (·.1)) = false
    rw [star_plain h.2]
    rfl
theorem plainIx_of {b : Expr} (h : noSlice b = true) : PlainIx b := by
  intro o i
  cases b <;> first | rfl | cases h
theorem plainT_ok {e : Expr} (h : plainT e = true) (env : Env) (whole : Sem Value) : isTrue e env whole = (do let v ← whole; standAt e.pos; holding [v] (truthy v)) := by
  cases e with
  | UnaryOp op a p => cases op <;> first | rfl | cases h
  | BoolOp => cases h
  | IfExp => cases h
  | Compare => cases h
  | _ => rfl
theorem isNw_f {m : Mode} (h : isNw m = false) : m = .va ∨ m = .vw := by
  cases m with
  | va => exact .inl rfl
  | vw => exact .inr rfl
  | nw => cases h
theorem fit_va {X : Cx} {C : Ct} {m : Mode} {e : Expr} {f : Ex} (h : PE X e (TX C .va f)) (hm : isNw m = false) : PE X e (TX C m f) := by
  rcases isNw_f hm with rfl | rfl
  · exact h
  · exact tx_vw h
theorem fit_nw {X : Cx} {C : Ct} {m : Mode} {e : Expr} {f : Ex} (h : PE X e (TX C .nw f)) : PE X e (TX C m f) := by
  cases m with
  | va => exact tx_va h
  | vw => exact tx_vw h
  | nw => exact h
theorem nnw {m : Mode} (h : ¬ isNw m = true) : isNw m = false := by
  cases q : isNw m with
  | true => exact absurd q h
  | false => rfl

/-- what reads right -/
structure RecOk (r : Rec) : Prop where
  e : ∀ Γ X C m e f l, Gd X C Γ → r.1 Γ m e = some (f, l) → PE X e (TX C m f)
  t : ∀ Γ X C e t l, Gd X C Γ → r.2 Γ e = some (t, l) → PT X e (TB C t)

section
variable {r : Rec} {Γ : Gm} {X : Cx} {C : Ct}
theorem cVs_ok (ro : RecOk r) (G : Gd X C Γ) : ∀ {es : List Expr} {f : Lx} {l : List Nat}, cVs r Γ es = some (f, l) → PA X es (TV C f)
  | [], f, l, h => by cases h; exact v_nil
  | e :: es, f, l, h => by
    unfold cVs at h
    split at h
    · rename_i hs
      split at h
      · rename_i f1 l1 e1
        split at h
        · rename_i g k e2
          cases h
          exact v_cons (ro.e _ _ _ _ _ _ _ G e1) (cVs_ok ro G e2) (star_cons hs)
        · cases h
      · cases h
    · cases h
theorem cLs_ok (ro : RecOk r) (G : Gd X C Γ) : ∀ {es : List Expr} {f : Lx} {l : List Nat}, cLs r Γ es = some (f, l) → PA X es (TL C f)
  | [], f, l, h => by cases h; exact l_nil
  | e :: es, f, l, h => by
    unfold cLs at h
    split at h
    · rename_i hs
      split at h
      · rename_i f1 l1 e1
        split at h
        · rename_i g k e2
          cases h
          exact l_cons (ro.e _ _ _ _ _ _ _ G e1) (cLs_ok ro G e2) (star_cons hs)
        · cases h
      · cases h
    · cases h
theorem vis_of (G : Gd X C Γ) {x : Str} (h : visB Γ.sc x = true) : Vis X.env.scope x := by
  rw [G.sc]; exact visB_ok h
theorem nat_of (G : Gd X C Γ) {x : Str} {i : Nat} (h : ixOf Γ.N x = some i) : X.N[i]? = some x := by
  rw [G.N]; exact ixOf_some h
theorem cAs_ok (ro : RecOk r) (G : Gd X C Γ) : ∀ {es : List Expr} {f : Ax} {l : List Nat}, cAs r Γ es = some (f, l) → PA X es (TA' C f) ∧ (∀ ρ W as W', f ρ W = some (as, W') → as.length = es.length)
  | [], f, l, h => by
    cases h
    refine ⟨a_nil, fun ρ W as W' e => ?_⟩
    cases e
    rfl
  | e :: es, f, l, h => by
    unfold cAs at h
    split at h
    · rename_i i hi
      split at h
      · rename_i g k e2
        cases h
        have ih := cAs_ok ro G e2
        unfold isSrc at hi
        split at hi
        · rename_i x p
          split at hi
          · rename_i hc
            rw [Bool.and_eq_true, Bool.and_eq_true] at hc
            refine ⟨a_src (nat_of G hi) (vis_of G hc.1.2) (okN_1 hc.2) (okN_2 hc.2) ih.1 rfl, fun ρ W as W' e => ?_⟩
            unfold aSrc at e
            split at e
            · split at e
              · rename_i xs W2 h2
                cases e
                simp [ih.2 _ _ _ _ h2]
              · cases e
            · cases e
          · cases hi
        · cases hi
      · cases h
    · split at h
      · rename_i hs
        split at h
        · rename_i f1 l1 e1
          split at h
          · rename_i g k e2
            cases h
            have ih := cAs_ok ro G e2
            refine ⟨a_cons (ro.e _ _ _ _ _ _ _ G e1) ih.1 (star_cons hs), fun ρ W as W' e => ?_⟩
            unfold aCons at e
            split at e
            · split at e
              · rename_i xs W2 h2
                cases e
                simp [ih.2 _ _ _ _ h2]
              · cases e
            · cases e
          · cases h
        · cases h
      · cases h
theorem cBs_ok (ro : RecOk r) (G : Gd X C Γ) {op : BoolOp} {pos : Pos} : ∀ {es : List Expr} {f : Ex} {l : List Nat}, cBs r Γ op es = some (f, l) → PE X (.BoolOp op es pos) (TX C .va f)
  | [], f, l, h => by cases h
  | [e], f, l, h => x_one (ro.e _ _ _ _ _ _ _ G h)
  | e :: e' :: es, f, l, h => by
    unfold cBs at h
    split at h
    · rename_i f1 l1 e1
      split at h
      · rename_i g k e2
        cases h
        cases op with
        | And => exact x_and (ro.e _ _ _ _ _ _ _ G e1) (cBs_ok ro G e2)
        | Or => exact x_or (ro.e _ _ _ _ _ _ _ G e1) (cBs_ok ro G e2)
      · cases h
    · cases h
theorem cTs_ok (ro : RecOk r) (G : Gd X C Γ) {op : BoolOp} {pos : Pos} : ∀ {es : List Expr} {f : Tx} {l : List Nat}, cTs r Γ op es = some (f, l) → PW X (.BoolOp op es pos) (TB C f)
  | [], f, l, h => by cases h
  | [e], f, l, h => by
    cases op with
    | And => exact t_and1 (ro.t _ _ _ _ _ _ G h)
    | Or => exact t_or1 (ro.t _ _ _ _ _ _ G h)
  | e :: e' :: es, f, l, h => by
    unfold cTs at h
    split at h
    · rename_i f1 l1 e1
      split at h
      · rename_i g k e2
        cases h
        cases op with
        | And => exact t_and (ro.t _ _ _ _ _ _ G e1) (cTs_ok ro G e2)
        | Or => exact t_or (ro.t _ _ _ _ _ _ G e1) (cTs_ok ro G e2)
      · cases h
    · cases h
theorem bin_ok (G : Gd X C Γ) {op : Operator} {f : PyData → PyData → Option PyData} {nw : Bool} (h : binOf op = some (f, nw)) : OpR X (binaryOp op) (RD2 C (if nw = true then .nw else .va) f) := by
  unfold binOf at h
  split at h <;> cases h
  · exact o_add G.hK
  · exact o_mul G.hK
  · exact o_sub
  · exact o_div
  · exact o_mod
  · exact o_pow
theorem cmp_ok (G : Gd X C Γ) {op : CmpOp} {f : PyData → PyData → Option PyData} (h : cmpOf op = some f) : OpR X (compareOp op) (RD2 C .va f) := by
  have hu := G.hu
  cases op <;> cases h
  · exact o_eq G.hK (by omega)
  · exact o_ne G.hK (by omega)
  · exact o_lt G.hK (by omega)
  · exact o_cInt op_le
  · exact o_cInt op_gt
  · exact o_cInt op_ge
  · exact o_isN
  · exact o_notN
  · exact o_in G.hK (by omega)
  · exact o_notIn G.hK (by omega)
theorem gl_of (G : Gd X C Γ) {x : Str} (h : isGl Γ.sc x = true) : Gl X x := isGl_ok G h
theorem fun_ok (ro : RecOk r) (G : Gd X C Γ) {x : Str} {f : List PyData → Option PyData} {nw : Bool} {a : Expr} {es : List Expr} {g : Lx} {p pos : Pos} (h : funOf x = some (f, nw)) (hg : isGl Γ.sc x = true) (hs : (a :: es).all noStar = true) (ha : PA X (a :: es) (TV C g)) :
    PE X (.Call (.Name x p) (a :: es) [] pos) (TX C (if nw = true then .nw else .va) (eN f g)) := by
  rw [List.all_cons, Bool.and_eq_true] at hs
  have hu := G.hu
  have hgl := isGl_ok G hg
  have bl := G.tb.bl
  unfold funOf at h
  split at h
  · rename_i e
    have e' : x = "len" := by simpa using e
    subst e'
    cases h
    exact x_callB (o_len G.hK) hgl (bl _ (by decide)) (by decide +kernel) ha (by decide) (by decide) (star_cons hs.1) (star_plain hs.2)
  split at h
  · rename_i e
    have e' : x = "abs" := by simpa using e
    subst e'
    cases h
    exact x_callB o_abs hgl (bl _ (by decide)) (by decide +kernel) ha (by decide) (by decide) (star_cons hs.1) (star_plain hs.2)
  split at h
  · rename_i e
    have e' : x = "max" := by simpa using e
    subst e'
    cases h
    exact x_callB (o_max G.calm) hgl (bl _ (by decide)) (by decide +kernel) ha (by decide) (by decide) (star_cons hs.1) (star_plain hs.2)
  split at h
  · rename_i e
    have e' : x = "repr" := by simpa using e
    subst e'
    cases h
    exact x_callB (o_repr G.hK G.gu (by omega)) hgl (bl _ (by decide)) (by decide +kernel) ha (by decide) (by decide) (star_cons hs.1) (star_plain hs.2)
  split at h
  · rename_i e
    have e' : x = "all" := by simpa using e
    subst e'
    cases h
    exact x_callB (o_all G.hK G.calm) hgl (bl _ (by decide)) (by decide +kernel) ha (by decide) (by decide) (star_cons hs.1) (star_plain hs.2)
  split at h
  · rename_i e
    have e' : x = "any" := by simpa using e
    subst e'
    cases h
    exact x_callB (o_any G.hK G.calm) hgl (bl _ (by decide)) (by decide +kernel) ha (by decide) (by decide) (star_cons hs.1) (star_plain hs.2)
  split at h
  · rename_i e
    have e' : x = "tuple" := by simpa using e
    subst e'
    cases h
    exact x_callTy (o_tuple G.hK) hgl (bl _ (by decide)) (by decide +kernel) ha (by decide) (by decide) (star_cons hs.1) (star_plain hs.2)
  split at h
  · rename_i e
    have e' : x = "int" := by simpa using e
    subst e'
    cases h
    exact x_callTy o_int hgl (bl _ (by decide)) (by decide +kernel) ha (by decide) (by decide) (star_cons hs.1) (star_plain hs.2)
  split at h
  · rename_i e
    have e' : x = "list" := by simpa using e
    subst e'
    cases h
    exact x_callTy (o_list G.hK) hgl (bl _ (by decide)) (by decide +kernel) ha (by decide) (by decide) (star_cons hs.1) (star_plain hs.2)
  split at h
  · rename_i e
    have e' : x = "sorted" := by simpa using e
    subst e'
    cases h
    exact x_callB (o_sort G.hK (by omega)) hgl (bl _ (by decide)) (by decide +kernel) ha (by decide) (by decide) (star_cons hs.1) (star_plain hs.2)
  · cases h
theorem ty_ok (G : Gd X C Γ) {T : Str} {tn : String} (h : tyOf T = some tn) : X.mg T = none ∧ bootBuiltins T = some (.type tn) ∧ T ≠ "__name__" ∧ (T == ("__debug__" : Str)) = false := by
  have bl := G.tb.bl
  unfold tyOf at h
  split at h
  · rename_i e
    have e' : T = "int" := by simpa using e
    subst e'
    cases h
    exact ⟨bl _ (by decide), by decide +kernel, by decide, by decide⟩
  split at h
  · rename_i e
    have e' : T = "bool" := by simpa using e
    subst e'
    cases h
    exact ⟨bl _ (by decide), by decide +kernel, by decide, by decide⟩
  split at h
  · rename_i e
    have e' : T = "str" := by simpa using e
    subst e'
    cases h
    exact ⟨bl _ (by decide), by decide +kernel, by decide, by decide⟩
  split at h
  · rename_i e
    have e' : T = "list" := by simpa using e
    subst e'
    cases h
    exact ⟨bl _ (by decide), by decide +kernel, by decide, by decide⟩
  split at h
  · rename_i e
    have e' : T = "tuple" := by simpa using e
    subst e'
    cases h
    exact ⟨bl _ (by decide), by decide +kernel, by decide, by decide⟩
  · cases h
theorem foldedSet_of {e : Expr} (h : noSet e = true) (env : Env) (x : Value) : foldedSetIterable e env x = pure x := by
  cases e <;> first | rfl | cases h
theorem cSeq_ok (ro : RecOk r) (G : Gd X C Γ) {tg e : Expr} {f : Lx} {l : List Nat} (h : cSeq r Γ e = some (f, l)) : PI X tg e (TI' C f) ∧ ∀ x, foldedSetIterable e X.env x = pure x := by
  unfold cSeq at h
  split at h
  · rename_i hs
    split at h
    · rename_i f1 l1 e1
      cases h
      exact ⟨i_seq G.hK (ro.e _ _ _ _ _ _ _ G e1), foldedSet_of hs X.env⟩
    · cases h
  · cases h
theorem cI_ok (ro : RecOk r) (G : Gd X C Γ) {tg e : Expr} {f : Lx} {l : List Nat} (h : cI r Γ e = some (f, l)) : PI X tg e (TI' C f) ∧ ∀ x, foldedSetIterable e X.env x = pure x := by
  unfold cI at h
  split at h
  · rename_i x p a pos
    split at h
    · rename_i e
      have e' : x = "range" := by simpa using e
      subst e'
      split at h
      · rename_i hc
        rw [Bool.and_eq_true] at hc
        split at h
        · rename_i f1 l1 e1
          cases h
          exact ⟨i_rng1 (isGl_ok G hc.1) (G.tb.bl _ (by decide)) (ro.e _ _ _ _ _ _ _ G e1) (star_cons hc.2) rfl, foldedSet_of rfl X.env⟩
        · cases h
      · cases h
    · exact cSeq_ok ro G h
  · rename_i x p a b pos
    split at h
    · rename_i e
      have e' : x = "range" := by simpa using e
      subst e'
      split at h
      · rename_i hc
        rw [Bool.and_eq_true, Bool.and_eq_true] at hc
        split at h
        · rename_i f1 l1 f2 l2 e1 e2
          cases h
          exact ⟨i_rng2 (isGl_ok G hc.1.1) (G.tb.bl _ (by decide)) (ro.e _ _ _ _ _ _ _ G e1) (ro.e _ _ _ _ _ _ _ G e2) (by rw [star_cons hc.1.2, star_cons hc.2]; rfl) (star_cons hc.2) rfl, foldedSet_of rfl X.env⟩
        · cases h
      · cases h
    · exact cSeq_ok ro G h
  · exact cSeq_ok ro G h
theorem asg_cons {e : Expr} {es : List Expr} {env : Env} (h : noStar e = true) : assignEach (e :: es) env = (false, assign e env) :: assignEach es env := by
  cases e <;> first | rfl | cases h
theorem cGl_ok {c : Expr → Option Gx} {vs : List Nat} (hc : ∀ e g, c e = some g → PG X e (TG' C vs g)) : ∀ {es : List Expr} {h : Gxs}, cGl c es = some h → PGs X es (TGs' C vs h) ∧ (assignEach es X.env).length = es.length ∧ (assignEach es X.env).findIdx? (·.1) = none
  | [], h, e => by cases e; exact ⟨gs_nil, rfl, rfl⟩
  | e :: es, h, q => by
    unfold cGl at q
    split at q
    · rename_i hs
      split at q
      · rename_i g e1
        split at q
        · rename_i k e2
          cases q
          obtain ⟨i1, i2, i3⟩ := cGl_ok hc e2
          refine ⟨gs_cons (hc _ _ e1) i1 (by rw [asg_cons hs]; rfl), by rw [asg_cons hs]; simp [i2], ?_⟩
          rw [asg_cons hs, List.findIdx?_cons]
          simp [i3]
        · cases q
      · cases q
    · cases q
theorem cG_ok (G : Gd X C Γ) {vs : List Nat} : ∀ {n : Nat} {e : Expr} {g : Gx}, cG Γ vs n e = some g → PG X e (TG' C vs g)
  | 0, e, g, h => by cases e <;> cases h
  | n + 1, e, g, h => by
    cases e with
    | Name x p =>
      unfold cG at h
      split at h
      · rename_i i e1
        split at h
        · rename_i hc
          cases h
          rw [Bool.and_eq_true, decide_eq_true_eq] at hc
          obtain ⟨l1, l2⟩ := G.st x hc.1
          exact g_name G.nd (nat_of G e1) (by rw [G.sc]; exact l1) l2 hc.2
        · cases h
      · cases h
    | Tuple es k p =>
      unfold cG at h
      split at h
      · rename_i k e1
        cases h
        obtain ⟨i1, i2, i3⟩ := cGl_ok (X := X) (C := C) (vs := vs) (fun e g q => cG_ok G q) e1
        exact g_tup G.hK G.calm i1 i2 i3
      · cases h
    | _ => cases h
/-- the block of a comprehension -/
theorem lookup_map_cell {names : List (Str × NameKind)} {x : Str} {q : Str → NameKind → Bool} (hq : ∀ n k, q n k = true → k = .free) : ∀ {k : NameKind}, k ≠ .free → names.lookup x = some k → (names.map fun (n, k) => if q n k = true then (n, NameKind.cell) else (n, k)).lookup x = some k := by
  induction names with
  | nil => intro k _ h; cases h
  | cons p r ih =>
    intro k hk h
    obtain ⟨n, k'⟩ := p
    rw [List.lookup_cons] at h
    rw [List.map_cons]
    by_cases hx : (x == n) = true
    · rw [hx] at h
      cases h
      have : q n k = false := by
        cases e : q n k with
        | false => rfl
        | true => exact absurd (hq n k e) hk
      simp only [this]
      rw [List.lookup_cons]
      simp [hx]
    · have hx' : (x == n) = false := by simpa using hx
      rw [hx'] at h
      simp only at h
      have ih' := ih hk h
      by_cases e : q n k' = true
      · simp only [e, if_true]
        rw [List.lookup_cons, hx']
        exact ih'
      · have e' : q n k' = false := by simpa using e
        simp only [e', Bool.false_eq_true, if_false]
        rw [List.lookup_cons, hx']
        exact ih'
theorem gd_blk (G : Gd X C Γ) {scope : Scope} {own : List (Str × Nat)} (ok : BlkOk Γ.N Γ.sc scope own) (s : Shared) (H : Hp) (A : Addr) (cl : List (Str × Addr)) (fp : List Addr) : Gd (X.blk s H scope (compEnvC scope cl A X.env) fp) C (blkG Γ scope) where
  hK := G.hK
  calm := G.calm
  gu := G.gu
  nd := G.nd
  N := G.N
  sc := by
    show relabel scope X.env = relS scope Γ.sc
    rw [← G.sc]
    rfl
  st := fun x h => by
    have hsc : relabel scope X.env = relS scope Γ.sc := by rw [← G.sc]; rfl
    have hq : ∀ (n : Str) (k : NameKind), (k == .free && Γ.sc.kind == .function && Γ.sc.names.lookup n == some .cell) = true → k = .free := fun n k z => by
      rw [Bool.and_eq_true, Bool.and_eq_true] at z
      simpa using z.1.1
    have h : isLoc scope x = true := h
    unfold isLoc at h
    split at h
    · rename_i e
      have q := lookup_map_cell (q := fun n k => k == .free && Γ.sc.kind == .function && Γ.sc.names.lookup n == some .cell) hq (by decide) e
      exact ⟨.inl q, .inr (by show (relabel scope X.env).names.lookup x = _; rw [hsc]; exact q)⟩
    · rename_i e
      have q := lookup_map_cell (q := fun n k => k == .free && Γ.sc.kind == .function && Γ.sc.names.lookup n == some .cell) hq (by decide) e
      refine ⟨.inr q, .inl ?_⟩
      show (scope.names.lookup x == some .cell) = true
      rw [e]
      rfl
    · cases h
  xe := rfl
  hu := G.hu
  hd := G.hd
  kd := ok.kind
  tb := ⟨G.tb.fn, G.tb.ct, G.tb.bl, G.tb.md⟩
theorem cC_ok (ro : RecOk r) (G : Gd X C Γ) {elt tg iter : Expr} {ifs : List Expr} {scope : Scope} {pos : Pos} {f : Ex} {l : List Nat} (h : cC r Γ elt tg iter ifs scope = some (f, l)) :
    ∃ it g t e, f = eComp ((ownOf Γ tg).map (·.2)) it g t e ∧ PI X tg iter (TI' C it) ∧ BlkOk X.N X.env.scope scope (ownOf Γ tg) ∧
      (∀ (s : Shared) (H : Hp) (A : Addr) (cl : List (Str × Addr)) (fp : List Addr), PG (X.blk s H scope (compEnvC scope cl A X.env) fp) tg (TG' C ((ownOf Γ tg).map (·.2)) g)) ∧
      (∀ (s : Shared) (H : Hp) (A : Addr) (cl : List (Str × Addr)) (fp : List Addr), PTs (X.blk s H scope (compEnvC scope cl A X.env) fp) ifs (TB C t)) ∧
      (∀ (s : Shared) (H : Hp) (A : Addr) (cl : List (Str × Addr)) (fp : List Addr), PE (X.blk s H scope (compEnvC scope cl A X.env) fp) elt (TX C .va e)) ∧ ∀ x, foldedSetIterable iter X.env x = pure x := by
  unfold cC at h
  split at h
  · rename_i hb
    have ok := blkOk_by hb
    have ok' : BlkOk X.N X.env.scope scope (ownOf Γ tg) := by rw [G.N, G.sc]; exact ok
    split at h
    · rename_i it l1 e1
      obtain ⟨i1, i2⟩ := cI_ok (tg := tg) ro G e1
      split at h
      · rename_i g e2
        split at h
        · rename_i f1 k e3
          split at h
          · cases h
            exact ⟨it, g, tYs, f1, rfl, i1, ok', fun s H A cl fp => cG_ok (gd_blk G ok s H A cl fp) e2, fun s H A cl fp => ts_nil, fun s H A cl fp => ro.e _ _ _ _ _ _ _ (gd_blk G ok s H A cl fp) e3, i2⟩
          · split at h
            · rename_i t j e4
              cases h
              exact ⟨it, g, t, f1, rfl, i1, ok', fun s H A cl fp => cG_ok (gd_blk G ok s H A cl fp) e2, fun s H A cl fp => ts_one (ro.t _ _ _ _ _ _ (gd_blk G ok s H A cl fp) e4), fun s H A cl fp => ro.e _ _ _ _ _ _ _ (gd_blk G ok s H A cl fp) e3, i2⟩
            · cases h
          · cases h
        · cases h
      · cases h
    · cases h
  · cases h
theorem cCall_ok (ro : RecOk r) (G : Gd X C Γ) {m : Mode} {x : Str} {args : List Expr} {f : Ex} {l : List Nat} {p pos : Pos} (h : cCall r Γ m x args = some (f, l)) : PE X (.Call (.Name x p) args [] pos) (TX C m f) := by
  unfold cCall at h
  split at h
  · rename_i n φ e1
    split at h
    · rename_i hc
      obtain ⟨c1, c2, c3, c4, c5, c6⟩ := hc
      split at h
      · rename_i g k e2
        cases h
        cases args with
        | nil => exact absurd rfl c5
        | cons a es =>
          obtain ⟨k', fa, fd, ps, F1, F2, F3, F4, F5⟩ := G.tb.fn x n φ e1
          have ha := cAs_ok ro G e2
          have c6' := c6
          rw [List.all_cons, Bool.and_eq_true] at c6'
          exact fit_va (x_call (n := n) G.hK (by rw [← G.hK]; exact F1) F2 G.gu (isGl_ok G c2) F3 F4 F5 ha.1 (okN_1 c3) (star_cons c6'.1) (star_plain c6'.2) (fun ρ W as W' q => (ha.2 ρ W as W' q).trans c4)) c1
      · cases h
    · cases h
  · split at h
    · rename_i id e1
      split at h
      · rename_i hc
        obtain ⟨c0, c1, c2, c3, c5, c6⟩ := hc
        subst c0
        split at h
        · rename_i g k e2
          cases h
          cases args with
          | nil => exact absurd rfl c5
          | cons a es =>
            rw [List.all_cons, Bool.and_eq_true] at c6
            exact fit_va (x_callM o_gcd (isGl_ok G c2) (G.tb.md x _ e1) (cVs_ok ro G e2) (okN_1 c3) (star_cons c6.1) (star_plain c6.2)) c1
        · cases h
      · cases h
    · split at h
      · rename_i e1
        have e' : x = "isinstance" := by simpa using e1
        subst e'
        split at h
        · rename_i a T pt
          split at h
          · rename_i tn e2
            split at h
            · rename_i hc
              obtain ⟨c1, c2, c3, c4⟩ := hc
              split at h
              · rename_i f1 l1 e3
                cases h
                obtain ⟨t1, t2, t3, t4⟩ := ty_ok G e2
                exact fit_va (x_isi G.hK (isGl_ok G c2) (G.tb.bl _ (by decide)) (isGl_ok G c3) t1 t2 t3 t4 (ro.e _ _ _ _ _ _ _ G e3) (star_cons c4) rfl) c1
              · cases h
            · cases h
          · cases h
        · cases h
      · split at h
        · rename_i f1 nw e1
          split at h
          · rename_i hc
            obtain ⟨c1, c2, c5, c6⟩ := hc
            split at h
            · rename_i g k e2
              cases h
              cases args with
              | nil => exact absurd rfl c5
              | cons a es =>
                have q := fun_ok (pos := pos) (p := p) ro G e1 c2 c6 (cVs_ok ro G e2)
                cases nw with
                | true => exact fit_nw q
                | false =>
                  rcases c1 with c1 | c1
                  · cases c1
                  · exact fit_va q c1
            · cases h
          · cases h
        · cases h
theorem cP_ok (ro : RecOk r) (G : Gd X C Γ) {o : Option Expr} {f : Px} {l : List Nat} (h : cP r Γ o = some (f, l)) : PO X o (TP0 C f) := by
  unfold cP at h
  split at h
  · cases h
    exact p_no
  · split at h
    · rename_i e f1 l1 e1
      cases h
      exact p_of (ro.e _ _ _ _ _ _ _ G e1)
    · cases h
theorem plainB_ok {o : Expr} {attr : Str} {env : Env} (h : plainB o = true) : attributeBase o attr env (eval o env) = eval o env := by
  cases o <;> first | rfl | cases h
theorem mIndex_l {x y r : PyData} (h : mIndex x y = some r) : ∃ zs, x = .list zs := by
  unfold mIndex at h
  split at h
  · exact ⟨_, rfl⟩
  · cases h
theorem cMeth_ok (ro : RecOk r) (G : Gd X C Γ) {m : Mode} {o a : Expr} {attr : Str} {ap cp : Pos} {f : Ex} {l : List Nat} (h : cMeth r Γ m o attr ap cp a = some (f, l)) : PE X (.Call (.Attribute o attr ap) [a] [] cp) (TX C m f) := by
  have hu := G.hu
  unfold cMeth at h
  split at h
  · rename_i hc
    obtain ⟨c1, c2, c3, c4⟩ := hc
    split at h
    · rename_i ha
      split at h
      · rename_i fo lo fa la e1 e2
        cases h
        have e' : attr = "index" := by simpa using ha
        subst e'
        exact fit_va (x_meth G.hK PySem.F.slot_list_index PySem.F.type_list_index (mt_ix G.hK (by omega)) (fun x y r q => mIndex_l q) (ro.e _ _ _ _ _ _ _ G e1) (ro.e _ _ _ _ _ _ _ G e2) (plainB_ok c2) c3 c4) c1
      · cases h
    · cases h
  · cases h
theorem stepE_ok (ro : RecOk r) (G : Gd X C Γ) {m : Mode} {e : Expr} {f : Ex} {l : List Nat} (h : stepE r Γ m e = some (f, l)) : PE X e (TX C m f) := by
  unfold stepE at h
  split at h
  · rename_i x p
    split at h
    · rename_i hk
      split at h
      · rename_i i hi
        split at h
        · rename_i hv
          split at h
          · cases h
            exact x_val (nat_of G hi) (vis_of G hv) (okN_1 hk) (okN_2 hk)
          · cases h
            exact x_var (nat_of G hi) (vis_of G hv) (okN_1 hk) (okN_2 hk)
          · cases h
        · cases h
      · split at h
        · rename_i d hd
          split at h
          · rename_i hc
            cases h
            obtain ⟨v, u, k1, k2, k3⟩ := G.tb.ct x d hd
            exact fit_va (x_const (pe_glob (isGl_ok G hc.2) k1 k2 (okN_1 hk)) (fun F => G.hK ▸ k3 F)) hc.1
          · cases h
        · cases h
    · cases h
  · rename_i c k p
    split at h
    · cases h
    · rename_i hn
      have hn := nnw hn
      split at h
      · cases h; exact fit_va (x_const pe_int fun F => .int _) hn
      · cases h; exact fit_va (x_const pe_str fun F => .str _) hn
      · cases h; exact fit_va (x_const pe_bl fun F => .bl _) hn
      · cases h; exact fit_va (x_const pe_non fun F => .non) hn
      · cases h
  · rename_i a op b p
    split at h
    · rename_i f1 nw fa la fb lb e1 e2 e3
      split at h
      · rename_i hc
        cases h
        have q := x_2 (pos := p) (bin_ok G e1) (ro.e _ _ _ _ _ _ _ G e2) (ro.e _ _ _ _ _ _ _ G e3)
        cases nw with
        | true => exact fit_nw q
        | false =>
          rcases hc with hc | hc
          · cases hc
          · exact fit_va q hc
      · cases h
    · cases h
  · rename_i op a p
    split at h
    · cases h
    · rename_i hn
      have hn := nnw hn
      split at h
      · split at h
        · rename_i f1 l1 e1
          cases h
          exact fit_va (x_un o_neg (ro.e _ _ _ _ _ _ _ G e1)) hn
        · cases h
      · split at h
        · rename_i f1 l1 e1
          cases h
          exact fit_va (x_not (ro.e _ _ _ _ _ _ _ G e1)) hn
        · cases h
      · cases h
  · rename_i op es p
    split at h
    · cases h
    · rename_i hn
      exact fit_va (cBs_ok ro G h) (nnw hn)
  · rename_i a op b p
    split at h
    · cases h
    · rename_i hn
      split at h
      · rename_i f1 fa la fb lb e1 e2 e3
        split at h
        · rename_i hc
          cases h
          exact fit_va (x_cmp (cmp_ok G e1) (ro.e _ _ _ _ _ _ _ G e2) (ro.e _ _ _ _ _ _ _ G e3) hc) (nnw hn)
        · cases h
      · cases h
  · rename_i a op op' b c p
    split at h
    · cases h
    · rename_i hn
      split at h
      · rename_i f1 g1 fa la fb lb fc lc e1 e1' e2 e3 e4
        split at h
        · rename_i hc
          cases h
          exact fit_va (x_chain (cmp_ok G e1) (cmp_ok G e1') (ro.e _ _ _ _ _ _ _ G e2) (ro.e _ _ _ _ _ _ _ G e3) (ro.e _ _ _ _ _ _ _ G e4) hc) (nnw hn)
        · cases h
      · cases h
  · rename_i c a b p
    split at h
    · rename_i t l1 fa la fb lb e1 e2 e3
      cases h
      exact x_if (ro.t _ _ _ _ _ _ G e1) (ro.e _ _ _ _ _ _ _ G e2) (ro.e _ _ _ _ _ _ _ G e3)
    · cases h
  · rename_i a lo hi p1 p2
    split at h
    · rename_i fa la fl l1 fh k e1 e2 e3
      cases h
      exact fit_nw (x_sl (o_sl G.hK) (ro.e _ _ _ _ _ _ _ G e1) (cP_ok ro G e2) (cP_ok ro G e3))
    · cases h
  · rename_i a b p _
    split at h
    · rename_i hc
      split at h
      · rename_i fa la fb lb e1 e2
        cases h
        exact fit_va (x_ix (o_ix G.hK) (ro.e _ _ _ _ _ _ _ G e1) (ro.e _ _ _ _ _ _ _ G e2) (plainIx_of hc.2)) hc.1
      · cases h
    · cases h
  · rename_i es k p
    split at h
    · cases h
    · rename_i hn
      split at h
      · rename_i f1 l1 e1
        cases h
        exact fit_va (x_tup (cLs_ok ro G e1)) (nnw hn)
      · cases h
  · rename_i es p
    split at h
    · rename_i f1 l1 e1
      cases h
      exact fit_nw (x_lst (cLs_ok ro G e1))
    · cases h
  · rename_i elt tg iter ifs scope p
    obtain ⟨it, g, t, e, rfl, h1, h2, h3, h4, h5, h6⟩ := cC_ok (pos := p) ro G h
    exact fit_nw (x_comp G.calm G.nd h1 h2 h3 h4 h5 h6)
  · rename_i x p1 args p2
    exact cCall_ok ro G h
  · rename_i o attr ap a cp
    exact cMeth_ok ro G h
  · cases h
theorem stepT_ok (ro : RecOk r) (G : Gd X C Γ) {e : Expr} {t : Tx} {l : List Nat} (h : stepT r Γ e = some (t, l)) : PT X e (TB C t) := by
  unfold stepT at h
  split at h
  · rename_i a p
    split at h
    · rename_i t1 l1 e1
      cases h
      exact t_not (ro.t _ _ _ _ _ _ G e1)
    · cases h
  · rename_i op es p
    exact (cTs_ok ro G h).pt
  · rename_i a op b p
    split at h
    · rename_i f1 fa la fb lb e1 e2 e3
      split at h
      · rename_i hc
        cases h
        exact t_cmp (cmp_ok G e1) (ro.e _ _ _ _ _ _ _ G e2) (ro.e _ _ _ _ _ _ _ G e3) hc
      · cases h
    · cases h
  · rename_i a op op' b c p
    split at h
    · rename_i f1 g1 fa la fb lb fc lc e1 e1' e2 e3 e4
      split at h
      · rename_i hc
        cases h
        exact t_chain (cmp_ok G e1) (cmp_ok G e1') (ro.e _ _ _ _ _ _ _ G e2) (ro.e _ _ _ _ _ _ _ G e3) (ro.e _ _ _ _ _ _ _ G e4) hc
      · cases h
    · cases h
  · split at h
    · rename_i hp
      split at h
      · rename_i f1 l1 e1
        cases h
        exact t_val (ro.e _ _ _ _ _ _ _ G e1) (plainT_ok hp X.env)
      · cases h
    · cases h
end
theorem recs_ok : ∀ n : Nat, RecOk (recs n)
  | 0 => ⟨fun _ _ _ _ _ _ _ _ h => (by cases h), fun _ _ _ _ _ _ _ h => (by cases h)⟩
  | n + 1 => ⟨fun _ _ _ _ _ _ _ G h => stepE_ok (recs_ok n) G h, fun _ _ _ _ _ _ G h => stepT_ok (recs_ok n) G h⟩
end Dv
set_option Elab.async false
set_option linter.all false
set_option maxRecDepth 100000
set_option maxHeartbeats 2000000
/-! Part 12: statements read off the text. -/
namespace Dv
open PySem PySem.Spec PyProof.Rows L2

/-- which names a, b, .. = x, y, .. stores without a tuple: none if not told -/
def swNames (sc : Scope) (ts : List Expr) : List Str := ts.filterMap fun
  | .Name id pos => if (sc.names.lookup id == some .local && pos.line == (ts.head?.map (·.pos.line)).getD 0) = true then some id else none
  | _ => none
def swOf (sc : Scope) (ts vs : List Expr) : Option (Option (List Str)) :=
  if (!(ts.length == 2 || ts.length == 3) || vs.length != ts.length) = true then some none
  else if (vs.any fun | .Starred .. => true | _ => false) = true then some none
  else if ((swNames sc ts).length != ts.length || (swNames sc ts).eraseDups.length != (swNames sc ts).length) = true then some none
  else if vs.all (foldedForSure 8) = true then some none
  else if vs.all (constantsAlone 8) = true then none
  else some (some (swNames sc ts))
theorem swOf_ok {env : Env} {ts vs : List Expr} {k k2 : Nat} {p p2 : Pos} {r : Option (List Str)} (hk : env.scope.kind = .function) (h : swOf env.scope ts vs = some r) : swappedStores [.Tuple ts k p] (.Tuple vs k2 p2) env = pure r := by
  have hb : env.blockKind = .function := by unfold Env.blockKind; rw [hk]; rfl
  have hb2 : (env.blockKind != .function) = false := by rw [hb]; rfl
  unfold swOf at h
  unfold swappedStores
  simp only [hb2, Bool.or_false]
  by_cases c : (!(ts.length == 2 || ts.length == 3) || vs.length != ts.length) = true
  · rw [if_pos c] at h; cases h; exact if_pos c
  rw [if_neg c] at h
  refine (if_neg c).trans ?_
  by_cases c2 : (vs.any fun | .Starred .. => true | _ => false) = true
  · rw [if_pos c2] at h; cases h; exact if_pos c2
  rw [if_neg c2] at h
  refine (if_neg c2).trans ?_
  by_cases c3 : ((swNames env.scope ts).length != ts.length || (swNames env.scope ts).eraseDups.length != (swNames env.scope ts).length) = true
  · rw [if_pos c3] at h; cases h; exact if_pos c3
  rw [if_neg c3] at h
  refine (if_neg c3).trans ?_
  by_cases c4 : vs.all (foldedForSure 8) = true
  · rw [if_pos c4] at h; cases h; exact if_pos c4
  rw [if_neg c4] at h
  refine (if_neg c4).trans ?_
  by_cases c5 : vs.all (constantsAlone 8) = true
  · rw [if_pos c5] at h; cases h
  rw [if_neg c5] at h
  cases h
  exact if_neg c5
def isTupE : Expr → Bool
  | .Tuple .. => true
  | _ => false
theorem sw_none {env : Env} {tg e : Expr} (h : isTupE e = false) : swappedStores [tg] e env = pure none := by
  unfold swappedStores
  cases e with
  | Tuple => cases h
  | _ => cases tg <;> rfl
def noComp : Expr → Bool
  | .ListComp .. => false
  | .SetComp .. => false
  | .DictComp .. => false
  | _ => true
theorem swaps_plain {e : Expr} {t : Option Expr} {l : Nat} {env : Env} (h : noComp e = true) : swapsWith e t l env = pure false := by
  cases e <;> first | rfl | cases h
theorem sws_plain {tg e : Expr} {l : Nat} {env : Env} (h : noComp e = true) : swapsWithSole [tg] e l env = pure false := swaps_plain h
/-- a list display for a name: stored outright, or by the comprehension's own road -/
def swLc (sc : Scope) (scope : Scope) (y : Str) (py pos : Pos) : Bool := isLc sc y && (py.line == pos.line) && !(scope.names.any fun (n, k) => n == y && (k == .local || k == .cell))
theorem swLc_no {env : Env} {elt : Expr} {gs : List Comprehension} {scope : Scope} {pos py : Pos} {y : Str} {l : Nat} (hk : env.scope.kind = .function) (h : swLc env.scope scope y py pos = false) : swapsWith (.ListComp elt gs scope pos) (some (.Name y py)) l env = pure false := by
  have hb : env.blockKind = .function := by unfold Env.blockKind; rw [hk]; rfl
  have hl : (env.kindOf y == some .local) = isLc env.scope y := by
    show (env.scope.names.lookup y == some .local) = _
    unfold isLc
    split
    · rename_i e; rw [e]; rfl
    · rename_i hne
      cases q : env.scope.names.lookup y with
      | none => rfl
      | some k => cases k <;> first | rfl | exact absurd q (by assumption)
  unfold swLc at h
  unfold swapsWith
  simp only [hb, hl, Expr.pos]
  have e1 : (ScopeKind.function == ScopeKind.function) = true := rfl
  rw [e1, Bool.true_and, h]

/-- a value for a name: new lists where it can be -/
def cN (r : Rec) (Γ : Gm) (e : Expr) : Option (Nx × List Nat) := match r.1 Γ .nw e with
  | some (f, l) => some ((true, f), l)
  | none => match r.1 Γ .va e with
    | some (f, l) => some ((false, f), l)
    | none => none
def cNs (r : Rec) (Γ : Gm) : List Expr → Option (List Nx × List Nat)
  | [] => some ([], [])
  | e :: es => if noStar e = true then match cN r Γ e with
    | some (f, l) => match cNs r Γ es with
      | some (fs, k) => some (f :: fs, l ++ k)
      | none => none
    | none => none else none
def nmOf (Γ : Gm) : List Expr → Option (List Nat)
  | [] => some []
  | .Name x _ :: es => match ixOf Γ.N x with
    | some i => if isLoc Γ.raw x = true then match nmOf Γ es with
      | some is => some (i :: is)
      | none => none else none
    | none => none
  | _ => none
def asName : Expr → Option (Str × Pos)
  | .Name x p => some (x, p)
  | _ => none
def asTup : Expr → Option (List Expr × Nat × Pos)
  | .Tuple es k p => some (es, k, p)
  | _ => none
structure LcV where
  elt : Expr
  tg : Expr
  iter : Expr
  ifs : List Expr
  scope : Scope
  pos : Pos
def asLc : Expr → Option LcV
  | .ListComp elt [⟨tg, iter, ifs, 0⟩] scope pos => some ⟨elt, tg, iter, ifs, scope, pos⟩
  | _ => none
theorem asName_ok {e : Expr} {x : Str} {p : Pos} (h : asName e = some (x, p)) : e = .Name x p := by
  cases e <;> first | (cases h; rfl) | cases h
theorem asTup_ok {e : Expr} {es : List Expr} {k : Nat} {p : Pos} (h : asTup e = some (es, k, p)) : e = .Tuple es k p := by
  cases e <;> first | (cases h; rfl) | cases h
theorem asLc_ok {e : Expr} {v : LcV} (h : asLc e = some v) : e = .ListComp v.elt [⟨v.tg, v.iter, v.ifs, 0⟩] v.scope v.pos := by
  unfold asLc at h
  split at h
  · cases h; rfl
  · cases h
theorem asTup_no {e : Expr} (h : asTup e = none) : isTupE e = false := by
  cases e <;> first | rfl | cases h
def sPut (n : Bool) (i : Nat) (f : Ex) : Sx := match n with
  | true => sNew i f
  | false => sSet (gN i) f
def cAsgN (r : Rec) (Γ : Gm) (x : Str) (py : Pos) (e : Expr) : Option Sx := match ixOf Γ.N x with
  | none => none
  | some i => if isLoc Γ.raw x = true then match asLc e with
    | some v => match cC r Γ v.elt v.tg v.iter v.ifs v.scope with
      | some (f, l) => some (sFrz l (sNew i f))
      | none => none
    | none => if noComp e = true then match cN r Γ e with
      | some ((n, f), l) => some (sFrz l (sPut n i f))
      | none => none else none
    else none
def cPar (r : Rec) (Γ : Gm) (names : List Str) (is : List Nat) (fs : List Nx) (l : List Nat) (ts : List Expr) (es : List Expr) : Option Sx := match names with
  | [x, y] => match ts, es with
    | [a, b], [_, _] => if asName a = (asName a).map (fun p => (x, p.2)) ∧ asName b = (asName b).map (fun p => (y, p.2)) ∧ is.Nodup ∧ isLc Γ.sc x = true ∧ isLc Γ.sc y = true then some (sFrz l (sPars is fs)) else none
    | _, _ => none
  | [x, y, z] => match ts, es with
    | [a, b, c], [_, _, _] => if asName a = (asName a).map (fun p => (x, p.2)) ∧ asName b = (asName b).map (fun p => (y, p.2)) ∧ asName c = (asName c).map (fun p => (z, p.2)) ∧ is.Nodup ∧ isLc Γ.sc x = true ∧ isLc Γ.sc y = true ∧ isLc Γ.sc z = true then some (sFrz l (sPars is fs)) else none
    | _, _ => none
  | _ => none
def cAsgT (r : Rec) (Γ : Gm) (ts : List Expr) (k : Nat) (p : Pos) (e : Expr) : Option Sx := match asTup e with
  | none => if noComp e = true then match cG Γ (List.range Γ.N.length) 4 (.Tuple ts k p), r.1 Γ .va e with
      | some g, some (f, l) => some (sFrz l (sSet g f))
      | _, _ => none else none
  | some (es, k2, p2) => match swOf Γ.sc ts es with
    | none => none
    | some (some names) => match nmOf Γ ts, cNs r Γ es with
      | some is, some (fs, l) => cPar r Γ names is fs l ts es
      | _, _ => none
    | some none => match nmOf Γ ts, cNs r Γ es with
      | some is, some (fs, l) => if fs.length = is.length ∧ fs.length ≤ 100 then some (sFrz l (sPars is fs)) else none
      | _, _ => match cG Γ (List.range Γ.N.length) 4 (.Tuple ts k p), r.1 Γ .va (.Tuple es k2 p2) with
        | some g, some (f, l) => some (sFrz l (sSet g f))
        | _, _ => none
def cAsg (r : Rec) (Γ : Gm) (tg e : Expr) : Option Sx := match asName tg with
  | some (x, py) => cAsgN r Γ x py e
  | none => match asTup tg with
    | some (ts, k, p) => cAsgT r Γ ts k p e
    | none => none
def augOf : Operator → Option (PyData → PyData → Option PyData)
  | .Add => some aAdd
  | .Sub => some aSub
  | _ => none
/-- xs.append(e) -/
def cApp (r : Rec) (Γ : Gm) (x : Str) (attr : Str) (ap cp : Pos) (a : Expr) : Option Sx := match ixOf Γ.N x with
  | some i => if (attr == ("append" : Str)) = true ∧ visB Γ.sc x = true ∧ okN x = true ∧ noStar a = true ∧ (ap.endLine == cp.line) = true then match r.1 Γ .va a with
    | some (f, l) => some (sFrz l (sApp i f))
    | none => none else none
  | none => none
def cSs (c : Stmt → Option Sx) : List Stmt → Option Sx
  | [] => some s0
  | st :: sts => match c st with
    | some f => match cSs c sts with
      | some g => some (sC f g)
      | none => none
    | none => none
structure ApV where
  x : Str
  p1 : Pos
  attr : Str
  ap : Pos
  a : Expr
  cp : Pos
def asApp : Expr → Option ApV
  | .Call (.Attribute (.Name x p1) attr ap) [a] [] cp => some ⟨x, p1, attr, ap, a, cp⟩
  | _ => none
theorem asApp_ok {e : Expr} {v : ApV} (h : asApp e = some v) : e = .Call (.Attribute (.Name v.x v.p1) v.attr v.ap) [v.a] [] v.cp := by
  unfold asApp at h
  split at h
  · cases h; rfl
  · cases h
def isDoc : Expr → Bool
  | .Constant (.str _) _ _ => true
  | _ => false
def cExp (r : Rec) (Γ : Gm) (e : Expr) : Option Sx :=
  if isDoc e = true then some sPass else match asApp e with
    | some v => if (v.attr == ("append" : Str)) = true then cApp r Γ v.x v.attr v.ap v.cp v.a else none
    | none => if noComp e = true then match r.1 Γ .va e with
      | some (f, l) => some (sFrz l (sDrop f))
      | none => none else none
def cAug (r : Rec) (Γ : Gm) (tg : Expr) (op : Operator) (e : Expr) : Option Sx := match asName tg with
  | some (x, _) => match ixOf Γ.N x, augOf op with
      | some i, some fo => if isLoc Γ.raw x = true then match r.1 Γ .vw e with
        | some (f, l) => some (sFrz l (sAug i fo f))
        | none => none else none
      | _, _ => none
  | none => none
def one {α : Type} : List α → Option α
  | [a] => some a
  | _ => none
theorem one_ok {α : Type} {l : List α} {a : α} (h : one l = some a) : l = [a] := by
  unfold one at h
  split at h
  · cases h; rfl
  · cases h
def sAfter (vs : List Nat) (f : Sx) : Sx := fun ρ W => match f ρ W with
  | some (.nx ρ1 W1) => some (.nx (wipeR ρ1 vs) W1)
  | o => o
theorem Rel.forget {C : Ct} {ρ : Rho} {W : Src} {F G H : Hp} {σ : L2.St} (R : Rel C ρ W F G σ H) : ∀ vs : List Nat, Rel C (wipeR ρ vs) W F G σ H
  | [] => R
  | v :: vs => by
    have R' := R.forget vs
    show Rel C ((wipeR ρ vs).set v .no) W F G σ H
    refine ⟨R'.fg, R'.gh, R'.src, R'.gz, R'.b1, R'.b2, R'.b3, by rw [List.length_set]; exact R'.len, fun j s e => ?_, fun j k a xs ys e1 e2 e3 e4 => ?_⟩
    · by_cases hj : v = j
      · subst hj
        have hl : v < (wipeR ρ vs).length := by simpa using (List.getElem?_eq_some_iff.mp e).1
        rw [List.getElem?_set_self hl] at e
        cases e
        exact ⟨_, List.getElem?_eq_getElem (R'.len ▸ hl), .no⟩
      · rw [List.getElem?_set_ne hj] at e
        exact R'.sl j s e
    · have hj : v ≠ j := fun z => by
        subst z
        have hl : v < (wipeR ρ vs).length := by simpa using (List.getElem?_eq_some_iff.mp e1).1
        rw [List.getElem?_set_self hl] at e1
        cases e1
      have hk : v ≠ k := fun z => by
        subst z
        have hl : v < (wipeR ρ vs).length := by simpa using (List.getElem?_eq_some_iff.mp e2).1
        rw [List.getElem?_set_self hl] at e2
        cases e2
      rw [List.getElem?_set_ne hj] at e1
      rw [List.getElem?_set_ne hk] at e2
      exact R'.ap j k a xs ys e1 e2 e3 e4
theorem st_after {X : Cx} {C : Ct} {st : Stmt} {f : Sx} (vs : List Nat) (h : PS X st (TS' C f)) : PS X st (TS' C (sAfter vs f)) := by
  refine ps_weak h fun D σ H ⟨ρ, W, F, G, o, R, e, q⟩ => ?_
  unfold sAfter at e
  split at e
  · rename_i ρ1 W1 e1
    cases e
    exact ⟨ρ, W, F, G, _, R, e1, fun F2 G2 σ2 H2 s2 R2 => q F2 G2 σ2 H2 s2 (R2.forget vs)⟩
  · exact ⟨ρ, W, F, G, o, R, e, q⟩
def cS1 (c : Stmt → Option Sx) (r : Rec) (Γ : Gm) (st : Stmt) : Option Sx := match st with
    | .Expr e _ => cExp r Γ e
    | .Return o _ => match o with
      | none => some sRetN
      | some e => match r.1 Γ .va e with
        | some (f, l) => some (sFrz l (sRet f))
        | none => none
    | .Assign ts e _ => match one ts with
      | some tg => cAsg r Γ tg e
      | none => none
    | .AugAssign tg op e _ => cAug r Γ tg op e
    | .If q a b _ => match r.2 Γ q, cSs c a, cSs c b with
      | some (t, l), some f, some g => some (sFrz l (sIf t f g))
      | _, _, _ => none
    | .For tg iter body els _ => if els.isEmpty = true then match cI r Γ iter, cG Γ (List.range Γ.N.length) 4 tg, cSs c body with
      | some (it, l), some g, some f => some (sFrz l (sFor it g f))
      | _, _, _ => none else none
    | .While q body els _ => if els.isEmpty = true then match r.2 Γ q, cSs c body with
      | some (t, l), some f => some (whL l t f Γ.fuel)
      | _, _ => none else none
    | .Pass _ => some sPass
    | .Break _ => some sBreak
    | .Continue _ => some sCont
    | .Raise .. => some sStuck
    | _ => none
/-- slots that nothing asks for any more are forgotten -/
def killOf (Γ : Gm) (st : Stmt) (f : Sx) : Sx := match Γ.wp.lookup st.pos.line with
  | some vs => sAfter vs f
  | none => f
def cS (r : Rec) (Γ : Gm) : Nat → Stmt → Option Sx
  | 0, _ => none
  | n + 1, st => match cS1 (cS r Γ n) r Γ st with
    | some f => some (killOf Γ st f)
    | none => none
section
variable {r : Rec} {Γ : Gm} {X : Cx} {C : Ct}
theorem cN_ok (ro : RecOk r) (G : Gd X C Γ) {e : Expr} {n : Bool} {f : Ex} {l : List Nat} (h : cN r Γ e = some ((n, f), l)) : PE X e (TX C (if n = true then .nw else .va) f) := by
  unfold cN at h
  split at h
  · rename_i f1 l1 e1
    cases h
    exact ro.e _ _ _ _ _ _ _ G e1
  · split at h
    · rename_i f1 l1 e1
      cases h
      exact ro.e _ _ _ _ _ _ _ G e1
    · cases h
theorem cNs_ok (ro : RecOk r) (G : Gd X C Γ) : ∀ {es : List Expr} {fs : List Nx} {l : List Nat}, cNs r Γ es = some (fs, l) → PA X es (TN C fs) ∧ fs.length = es.length
  | [], fs, l, h => by cases h; exact ⟨n_nil, rfl⟩
  | e :: es, fs, l, h => by
    unfold cNs at h
    split at h
    · rename_i hs
      split at h
      · rename_i f1 l1 e1
        split at h
        · rename_i g k e2
          cases h
          obtain ⟨n1, f1⟩ := f1
          obtain ⟨i1, i2⟩ := cNs_ok ro G e2
          exact ⟨n_cons (cN_ok ro G e1) i1 (star_cons hs), by simp [i2]⟩
        · cases h
      · cases h
    · cases h
theorem kd_of (G : Gd X C Γ) : X.env.scope.kind = .function := by rw [G.sc]; exact G.kd
theorem nm_ok (G : Gd X C Γ) : ∀ {ts : List Expr} {is : List Nat}, nmOf Γ ts = some is → PGs X ts (TNm is) ∧ (assignEach ts X.env).length = is.length ∧ (assignEach ts X.env).findIdx? (·.1) = none
  | [], is, h => by cases h; exact ⟨nm_nil, rfl, rfl⟩
  | t :: ts, is, h => by
    cases t with
    | Name x p =>
      unfold nmOf at h
      split at h
      · rename_i i e1
        split at h
        · rename_i hl
          split at h
          · rename_i is' e2
            cases h
            obtain ⟨i1, i2, i3⟩ := nm_ok G e2
            obtain ⟨l1, l2⟩ := G.st x hl
            refine ⟨nm_cons G.nd (nat_of G e1) (by rw [G.sc]; exact l1) l2 i1 (by rw [asg_cons rfl]; rfl), by rw [asg_cons rfl]; simp [i2], ?_⟩
            rw [asg_cons rfl, List.findIdx?_cons]
            simp [i3]
          · cases h
        · cases h
      · cases h
    | _ => cases h
theorem lc_of (G : Gd X C Γ) {x : Str} (h : isLc Γ.sc x = true) : X.env.scope.names.lookup x = some .local := by
  rw [G.sc]; exact isLc_ok h
theorem put_ok (ro : RecOk r) (G : Gd X C Γ) {x : Str} {i : Nat} {e : Expr} {n : Bool} {f : Ex} {py pos : Pos} (hi : ixOf Γ.N x = some i) (hl : isLoc Γ.raw x = true) (hc : noComp e = true) (h : PE X e (TX C (if n = true then .nw else .va) f)) (hw : n = true ∨ swappedStores [.Name x py] e X.env = pure none) :
    PS X (.Assign [.Name x py] e pos) (TS' C (sPut n i f)) := by
  obtain ⟨l1, l2⟩ := G.st x hl
  have l1' : L2.Loc X.env.scope x := by rw [G.sc]; exact l1
  cases n with
  | true => exact st_new G.nd (nat_of G hi) l1' h (swaps_plain hc) l2
  | false =>
    rcases hw with hw | hw
    · cases hw
    · exact st_set h (g_name (vs := [i]) G.nd (nat_of G hi) l1' l2 (by simp)) (sws_plain hc) hw rfl
theorem sw_name {env : Env} {x : Str} {p : Pos} {e : Expr} : swappedStores [.Name x p] e env = pure none := by
  unfold swappedStores
  cases e <;> rfl
theorem nd2 {i j : Nat} (h : [i, j].Nodup) : i ≠ j := by simpa using h
theorem nd3 {i j k : Nat} (h : [i, j, k].Nodup) : i ≠ j ∧ i ≠ k ∧ j ≠ k := by
  simp at h
  exact ⟨h.1.1, h.1.2, h.2⟩
theorem nm2 {x y : Str} {p q : Pos} {is : List Nat} (h : nmOf Γ [.Name x p, .Name y q] = some is) : ∃ i j, is = [i, j] ∧ ixOf Γ.N x = some i ∧ ixOf Γ.N y = some j := by
  unfold nmOf at h
  split at h
  · rename_i i e1
    split at h
    · split at h
      · rename_i is' e2
        cases h
        unfold nmOf at e2
        split at e2
        · rename_i j e3
          split at e2
          · cases e2
            exact ⟨i, j, rfl, e1, e3⟩
          · cases e2
        · cases e2
      · cases h
    · cases h
  · cases h
theorem nm3 {x y z : Str} {p q w : Pos} {is : List Nat} (h : nmOf Γ [.Name x p, .Name y q, .Name z w] = some is) : ∃ i j k, is = [i, j, k] ∧ ixOf Γ.N x = some i ∧ ixOf Γ.N y = some j ∧ ixOf Γ.N z = some k := by
  unfold nmOf at h
  split at h
  · rename_i i e1
    split at h
    · split at h
      · rename_i is' e2
        cases h
        obtain ⟨j, k, rfl, h1, h2⟩ := nm2 e2
        exact ⟨i, j, k, rfl, e1, h1, h2⟩
      · cases h
    · cases h
  · cases h
theorem cAsgN_ok (ro : RecOk r) (G : Gd X C Γ) {x : Str} {py : Pos} {e : Expr} {f : Sx} {pos : Pos} (h : cAsgN r Γ x py e = some f) : PS X (.Assign [.Name x py] e pos) (TS' C f) := by
  unfold cAsgN at h
  split at h
  · cases h
  · rename_i i e1
    split at h
    · rename_i hl
      split at h
      · rename_i v e2
        split at h
        · rename_i f1 l e3
          cases h
          rw [asLc_ok e2]
          obtain ⟨it, g, t, e', rfl, h1, h2, h3, h4, h5, h6⟩ := cC_ok (pos := v.pos) ro G e3
          refine st_frz l ?_
          cases hw : swLc Γ.sc v.scope x py v.pos with
          | true =>
            unfold swLc at hw
            rw [Bool.and_eq_true, Bool.and_eq_true] at hw
            have hlc := lc_of G hw.1.1
            exact st_newLc G.calm G.nd (nat_of G e1) hlc (sw_true (kd_of G) hlc hw.1.2 (by simpa using hw.2)) h1 h2 h3 h4 h5 h6
          | false =>
            obtain ⟨l1, l2⟩ := G.st x hl
            exact st_new G.nd (nat_of G e1) (by rw [G.sc]; exact l1) (x_comp G.calm G.nd h1 h2 h3 h4 h5 h6) (swLc_no (kd_of G) (by rw [G.sc]; exact hw)) l2
        · cases h
      · split at h
        · rename_i hc
          split at h
          · rename_i n f1 l e3
            cases h
            exact st_frz l (put_ok ro G e1 hl hc (cN_ok ro G e3) (.inr sw_name))
          · cases h
        · cases h
    · cases h
theorem asName_map {e : Expr} {x : Str} {i : Nat} {ts : List Expr} (h : asName e = (asName e).map (fun p => (x, p.2))) (hn : ∃ y p, e = .Name y p) : ∃ p, e = .Name x p := by
  obtain ⟨y, p, rfl⟩ := hn
  have h' : some (y, p) = some (x, p) := h
  cases h'
  exact ⟨p, rfl⟩
theorem nm_name {t : Expr} {ts : List Expr} {is : List Nat} (h : nmOf Γ (t :: ts) = some is) : (∃ y p, t = .Name y p) ∧ ∃ is', nmOf Γ ts = some is' := by
  cases t with
  | Name x p =>
    refine ⟨⟨x, p, rfl⟩, ?_⟩
    unfold nmOf at h
    split at h
    · split at h
      · split at h
        · rename_i is' e2
          exact ⟨is', e2⟩
        · cases h
      · cases h
    · cases h
  | _ => cases h
theorem cPar_ok (ro : RecOk r) (G : Gd X C Γ) {names : List Str} {is : List Nat} {fs : List Nx} {l : List Nat} {ts es : List Expr} {f : Sx} {k k2 : Nat} {p p2 pos : Pos} (h : cPar r Γ names is fs l ts es = some f) (hn : nmOf Γ ts = some is) (ha : PA X es (TN C fs)) (hfs : fs.length = es.length)
    (hw : swappedStores [.Tuple ts k p] (.Tuple es k2 p2) X.env = pure (some names)) : PS X (.Assign [.Tuple ts k p] (.Tuple es k2 p2) pos) (TS' C f) := by
  unfold cPar at h
  split at h
  · rename_i x y
    split at h
    · rename_i a b e1 e2
      split at h
      · rename_i hc
        obtain ⟨c1, c2, c3, c4, c5⟩ := hc
        cases h
        obtain ⟨q1, is1, q2⟩ := nm_name hn
        obtain ⟨q3, _⟩ := nm_name q2
        obtain ⟨pa, rfl⟩ := asName_map (i := 0) (ts := []) c1 q1
        obtain ⟨pb, rfl⟩ := asName_map (i := 0) (ts := []) c2 q3
        obtain ⟨i, j, rfl, n1, n2⟩ := nm2 hn
        exact st_frz l (st_par2 G.calm G.nd (nat_of G n1) (nat_of G n2) (nd2 c3) (lc_of G c4) (lc_of G c5) ha hfs hw)
      · cases h
    · cases h
  · rename_i x y z
    split at h
    · rename_i a b c e1 e2 e3
      split at h
      · rename_i hc
        obtain ⟨c1, c2, c3, c4, c5, c6, c7⟩ := hc
        cases h
        obtain ⟨q1, is1, q2⟩ := nm_name hn
        obtain ⟨q3, is2, q4⟩ := nm_name q2
        obtain ⟨q5, _⟩ := nm_name q4
        obtain ⟨pa, rfl⟩ := asName_map (i := 0) (ts := []) c1 q1
        obtain ⟨pb, rfl⟩ := asName_map (i := 0) (ts := []) c2 q3
        obtain ⟨pc, rfl⟩ := asName_map (i := 0) (ts := []) c3 q5
        obtain ⟨i, j, m, rfl, n1, n2, n3⟩ := nm3 hn
        obtain ⟨d1, d2, d3⟩ := nd3 c4
        exact st_frz l (st_par3 G.calm G.nd (nat_of G n1) (nat_of G n2) (nat_of G n3) d1 d2 d3 (lc_of G c5) (lc_of G c6) (lc_of G c7) ha hfs hw)
      · cases h
    · cases h
  · cases h
theorem cAsgT_ok (ro : RecOk r) (G : Gd X C Γ) {ts : List Expr} {k : Nat} {p : Pos} {e : Expr} {f : Sx} {pos : Pos} (h : cAsgT r Γ ts k p e = some f) : PS X (.Assign [.Tuple ts k p] e pos) (TS' C f) := by
  unfold cAsgT at h
  split at h
  · rename_i he
    split at h
    · rename_i hc
      split at h
      · rename_i g f1 l e3 e4
        cases h
        exact st_frz l (st_set (ro.e _ _ _ _ _ _ _ G e4) (cG_ok G e3) (sws_plain hc) (sw_none (asTup_no he)) rfl)
      · cases h
    · cases h
  · rename_i es k2 p2 he
    rw [asTup_ok he]
    have swk : ∀ {r}, swOf Γ.sc ts es = some r → swappedStores [.Tuple ts k p] (.Tuple es k2 p2) X.env = pure r := fun q => swOf_ok (kd_of G) (by rw [G.sc]; exact q)
    split at h
    · cases h
    · rename_i names e1
      split at h
      · rename_i is fs l e2 e3
        obtain ⟨ha, hfs⟩ := cNs_ok ro G e3
        exact cPar_ok ro G h e2 ha hfs (swk e1)
      · cases h
    · rename_i e1
      split at h
      · rename_i is fs l e2 e3
        obtain ⟨ha, hfs⟩ := cNs_ok ro G e3
        split at h
        · rename_i hc
          cases h
          obtain ⟨i1, i2, i3⟩ := nm_ok G e2
          exact st_frz l (st_pars G.hK G.calm ha i1 i2 i3 hc.1 (by rw [sizeLine_eq]; omega) (sws_plain rfl) (swk e1) rfl)
        · cases h
      · split at h
        · rename_i g f1 l e3 e4
          cases h
          exact st_frz l (st_set (ro.e _ _ _ _ _ _ _ G e4) (cG_ok G e3) (sws_plain rfl) (swk e1) rfl)
        · cases h
theorem cAsg_ok (ro : RecOk r) (G : Gd X C Γ) {tg e : Expr} {f : Sx} {pos : Pos} (h : cAsg r Γ tg e = some f) : PS X (.Assign [tg] e pos) (TS' C f) := by
  unfold cAsg at h
  split at h
  · rename_i x py e1
    rw [asName_ok e1]
    exact cAsgN_ok ro G h
  · split at h
    · rename_i ts k p e1
      rw [asTup_ok e1]
      exact cAsgT_ok ro G h
    · cases h
theorem aug_ok {op : Operator} {fo : PyData → PyData → Option PyData} (h : augOf op = some fo) : OpR X (inplaceOp op) (RD2 C .va fo) := by
  unfold augOf at h
  split at h <;> cases h
  · exact o_iadd
  · exact o_isub
theorem app_few {cp : Pos} {a : Expr} {env : Env} (h : noStar a = true) : ((backTo cp (starEach [a] env)).all (fun x => !x.1) && (backToKw cp (keywordEach [] env)).all (fun x => x.1.isSome) && decide ([a].length + ([] : List Keyword).length + (if ([] : List Keyword).isEmpty then 0 else 1) < 30)) = true := by
  rw [star_cons h]
  rfl
theorem cApp_ok (ro : RecOk r) (G : Gd X C Γ) {x attr : Str} {p1 ap cp pos : Pos} {a : Expr} {f : Sx} (h : cApp r Γ x attr ap cp a = some f) : PS X (.Expr (.Call (.Attribute (.Name x p1) attr ap) [a] [] cp) pos) (TS' C f) := by
  unfold cApp at h
  split at h
  · rename_i i e1
    split at h
    · rename_i hc
      obtain ⟨c1, c2, c3, c4, c5⟩ := hc
      split at h
      · rename_i f1 l e2
        cases h
        have e' : attr = "append" := by simpa using c1
        subst e'
        exact st_frz l (st_app G.hK (nat_of G e1) (vis_of G c2) (okN_1 c3) (okN_2 c3) (ro.e _ _ _ _ _ _ _ G e2) rfl (app_few c4) c5 (star_cons c4) rfl rfl)
      · cases h
    · cases h
  · cases h
theorem cSs_ok {c : Stmt → Option Sx} (hc : ∀ st f, c st = some f → PS X st (TS' C f)) : ∀ {sts : List Stmt} {f : Sx}, cSs c sts = some f → PSs X sts (TS' C f)
  | [], f, h => by cases h; exact ss_nil
  | st :: sts, f, h => by
    unfold cSs at h
    split at h
    · rename_i f1 e1
      split at h
      · rename_i g e2
        cases h
        exact ss_cons (hc _ _ e1) (cSs_ok hc e2)
      · cases h
    · cases h
theorem own_ok (G : Gd X C Γ) : PassesOwn (model X.prog X.w) X.A X.env X.xe := by
  rw [G.xe]
  exact PassesOwn.never
theorem cExp_ok (ro : RecOk r) (G : Gd X C Γ) {e : Expr} {f : Sx} {pos : Pos} (h : cExp r Γ e = some f) : PS X (.Expr e pos) (TS' C f) := by
  unfold cExp at h
  split at h
  · rename_i hd
    cases h
    unfold isDoc at hd
    split at hd
    · exact st_doc
    · cases hd
  · split at h
    · rename_i v e1
      rw [asApp_ok e1]
      split at h
      · exact cApp_ok ro G h
      · cases h
    · split at h
      · rename_i hc
        split at h
        · rename_i f1 l e1
          cases h
          exact st_frz l (st_drop (ro.e _ _ _ _ _ _ _ G e1) (swaps_plain hc))
        · cases h
      · cases h
theorem cAug_ok (ro : RecOk r) (G : Gd X C Γ) {tg e : Expr} {op : Operator} {f : Sx} {pos : Pos} (h : cAug r Γ tg op e = some f) : PS X (.AugAssign tg op e pos) (TS' C f) := by
  unfold cAug at h
  split at h
  · rename_i x p e0
    rw [asName_ok e0]
    split at h
    · rename_i i fo e1 e2
      split at h
      · rename_i hl
        split at h
        · rename_i f1 l e3
          cases h
          obtain ⟨l1, l2⟩ := G.st _ hl
          exact st_frz l (st_aug G.nd (nat_of G e1) (by rw [G.sc]; exact l1) l2 (ro.e _ _ _ _ _ _ _ G e3) (aug_ok e2))
        · cases h
      · cases h
    · cases h
  · cases h
theorem cS1_ok (ro : RecOk r) (G : Gd X C Γ) {c : Stmt → Option Sx} (ih : ∀ st f, c st = some f → PS X st (TS' C f)) {st : Stmt} {f : Sx} (h : cS1 c r Γ st = some f) : PS X st (TS' C f) := by
    cases st with
    | Expr e p => exact cExp_ok ro G h
    | Return o p =>
      cases o with
      | none => cases h; exact st_retN
      | some e =>
        have h : (match r.1 Γ .va e with | some (f, l) => some (sFrz l (sRet f)) | none => none) = some f := h
        split at h
        · rename_i f1 l e1
          cases h
          exact st_frz l (st_ret (ro.e _ _ _ _ _ _ _ G e1))
        · cases h
    | Assign ts e p =>
      have h : (match one ts with | some tg => cAsg r Γ tg e | none => none) = some f := h
      split at h
      · rename_i tg e1
        rw [one_ok e1]
        exact cAsg_ok ro G h
      · cases h
    | AugAssign tg op e p => exact cAug_ok ro G h
    | If q a b p =>
      have h : (match r.2 Γ q, cSs c a, cSs c b with | some (t, l), some f, some g => some (sFrz l (sIf t f g)) | _, _, _ => none) = some f := h
      split at h
      · rename_i t l f1 g1 e1 e2 e3
        cases h
        exact st_frz l (st_if (ro.t _ _ _ _ _ _ G e1) (cSs_ok ih e2) (cSs_ok ih e3))
      · cases h
    | For tg iter body els p =>
      have h : (if els.isEmpty = true then match cI r Γ iter, cG Γ (List.range Γ.N.length) 4 tg, cSs c body with | some (it, l), some g, some f => some (sFrz l (sFor it g f)) | _, _, _ => none else none) = some f := h
      split at h
      · rename_i he
        split at h
        · rename_i it l g f1 e1 e2 e3
          cases h
          obtain ⟨i1, i2⟩ := cI_ok ro G e1
          have : els = [] := List.isEmpty_iff.mp he
          subst this
          exact st_frz l (st_for (own_ok G) G.calm i1 (cG_ok G e2) (cSs_ok ih e3) i2)
        · cases h
      · cases h
    | While q body els p =>
      have h : (if els.isEmpty = true then match r.2 Γ q, cSs c body with | some (t, l), some f => some (whL l t f Γ.fuel) | _, _ => none else none) = some f := h
      split at h
      · rename_i he
        split at h
        · rename_i t l f1 e1 e2
          cases h
          have : els = [] := List.isEmpty_iff.mp he
          subst this
          exact st_while l Γ.fuel (own_ok G) (ro.t _ _ _ _ _ _ G e1) (cSs_ok ih e2)
        · cases h
      · cases h
    | Pass p => cases h; exact st_pass
    | Break p => cases h; exact st_break
    | Continue p => cases h; exact st_cont
    | Raise a b p => cases h; exact st_stuck
    | _ => cases h
theorem kill_ok {st : Stmt} {f : Sx} (h : PS X st (TS' C f)) : PS X st (TS' C (killOf Γ st f)) := by
  unfold killOf
  split
  · exact st_after _ h
  · exact h
theorem cS_ok (ro : RecOk r) (G : Gd X C Γ) : ∀ {n : Nat} {st : Stmt} {f : Sx}, cS r Γ n st = some f → PS X st (TS' C f)
  | 0, st, f, h => by cases h
  | n + 1, st, f, h => by
    unfold cS at h
    split at h
    · rename_i f1 e1
      cases h
      exact kill_ok (cS1_ok ro G (fun st f q => cS_ok ro G q) e1)
    · cases h
end
end Dv
set_option Elab.async false
set_option linter.all false
set_option maxRecDepth 100000
set_option maxHeartbeats 2000000
/-! Part 13: a def from its text; the source of draws. -/
namespace Dv
open PySem PySem.Spec PyProof.Rows L2

def slOf : Ar → Sl
  | .d x => .d x
  | .src => .src
def st0 (N : List Str) (as : List Ar) : Rho := as.map slOf ++ List.replicate (N.length - as.length) .no
/-- what a body is worth -/
def wth (N : List Str) (g : Sx) : Ctr := fun as W => match g (st0 N as) W with
  | some (.rt d W') => some (d, W')
  | some (.nx _ W') => some (.none, W')
  | _ => none
def den (Γ : Gm) (st : Stmt) : Option Sx := cSs (cS (recs 40) Γ 40) (defBody st)
theorem ars_len {K : PySem.W.Frag} {Z : Zn} {F : Hp} {vs : List V} {as : List Ar} (h : ArsOk K Z F vs as) : vs.length = as.length := by
  induction h with
  | nil => rfl
  | cons _ _ ih => simp [ih]
theorem ars_get {K : PySem.W.Frag} {Z : Zn} {F : Hp} {vs : List V} {as : List Ar} (h : ArsOk K Z F vs as) : ∀ (i : Nat) (a : Ar), as[i]? = some a → ∃ v, vs[i]? = some v ∧ ArOk K Z F v a := by
  induction h with
  | nil => intro i a e; simp at e
  | cons a r ih =>
    intro i x e
    cases i with
    | zero => simp at e; subst e; exact ⟨_, rfl, a⟩
    | succ i => obtain ⟨v, h1, h2⟩ := ih i x (by simpa using e); exact ⟨v, by simpa using h1, h2⟩
theorem rel_start {C : Ct} {N : List Str} {vs : List V} {as : List Ar} {W : Src} (h1 : Same C.F0 C.H0) (h2 : SrcAt C.Z W C.H0) (h3 : ∀ a, Zm C.Z a → C.F0 a = none) (h4 : ArsOk C.K C.Z C.F0 vs as) : Rel C (st0 N as) W C.F0 C.F0 (L2.start N vs) C.H0 where
  fg := Same.refl _
  gh := h1
  src := h2
  gz := h3
  b1 := Same.refl _
  b2 := fun _ _ h _ => h
  b3 := fun _ _ _ h => h
  len := by
    have := ars_len h4
    unfold st0 L2.start
    rw [List.length_append, List.length_append, List.length_map, List.length_map, List.length_replicate, List.length_replicate, this]
  sl := fun i s e => by
    have hl := ars_len h4
    unfold st0 at e
    unfold L2.start
    by_cases hi : i < as.length
    · rw [List.getElem?_append_left (by simpa using hi), List.getElem?_map] at e
      cases ha : as[i]? with
      | none => rw [ha] at e; cases e
      | some a =>
        rw [ha] at e
        cases e
        obtain ⟨v, g1, g2⟩ := ars_get h4 i a ha
        refine ⟨some v, ?_, ?_⟩
        · rw [List.getElem?_append_left (by rw [List.length_map, hl]; exact hi), List.getElem?_map, g1]
          rfl
        · cases a with
          | d x => exact .d g2
          | src => obtain ⟨p, q1, rfl⟩ := g2; exact .src q1
    · rw [List.getElem?_append_right (by simpa using hi), List.getElem?_replicate] at e
      split at e
      · rename_i hlt
        cases e
        rw [List.length_map] at hlt
        refine ⟨none, ?_, .no⟩
        rw [List.getElem?_append_right (by rw [List.length_map, hl]; omega), List.getElem?_replicate, List.length_map, hl, if_pos hlt]
      · cases e
  ap := fun i j a xs ys e1 _ _ _ => by
    exfalso
    unfold st0 at e1
    by_cases hi : i < as.length
    · rw [List.getElem?_append_left (by simpa using hi), List.getElem?_map] at e1
      cases ha : as[i]? with
      | none => rw [ha] at e1; cases e1
      | some b => rw [ha] at e1; cases b <;> cases e1
    · rw [List.getElem?_append_right (by simpa using hi), List.getElem?_replicate] at e1
      split at e1 <;> cases e1
section
variable {P : Program} {w : World} {K : PySem.W.Frag} {mg : Str → Option Value} {base : Heap} {k : Nat} {f : Addr} {fd : FuncData} {ps : List Str}
/-- a def does what its text reads -/
theorem fg_def {x qual : Str} {st : Stmt} (Γ : Gm) (φ : Ctr) (F : Fun K x qual st f fd) (S : FnScope Γ.N ps (defScope st)) (hsc : Γ.sc = defScope st) (hraw : Γ.raw = defScope st)
    (tb : ∀ X : Cx, X.prog = P → X.w = w → X.K = K → X.mg = mg → X.base = base → Room k X.A → Tb X Γ)
    (hφ : ∀ as W p, φ as W = some p → as.length = ps.length ∧ ∃ n g, den { Γ with fuel := n } st = some g ∧ wth Γ.N g as W = some p) :
    FG P w K mg base CX0 (k + 1) f fd ps (spC K φ ps.length) := by
  refine FG.of F S (fun vs H Q E h => h.1) fun cdv A out s H vs Q E hr hg h => ?_
  obtain ⟨hl, Z, F0, as, W, r, W', f1, f2, f3, f4, f5, q⟩ := h
  obtain ⟨_, n, g, hden, hw⟩ := hφ _ _ _ f5
  let C : Ct := ⟨K, Z, F0, H⟩
  let X : Cx := (cxOf CX0 P w K mg base Γ.N qual (defScope st) f cdv A out s H E).nox
  have hrX : Room k X.A := hr
  have G : Gd X C { Γ with fuel := n } := by
    refine ⟨rfl, rfl, hg, S.nd, rfl, hsc.symm, fun y hy => ?_, rfl, ?_, hr.hd, by show Γ.sc.kind = _; rw [hsc]; exact S.kind, ?_⟩
    · have hy' : isLoc Γ.raw y = true := hy
      refine ⟨?_, .inl rfl⟩
      show L2.Loc Γ.sc y
      rw [hsc, ← hraw]
      exact isLoc_ok hy'
    · have hu : X.A.units + 16 * k + 200 < cLine := hr.un
      show X.A.units + 70 < cLine
      omega
    · have t := tb X rfl rfl rfl rfl rfl hrX
      exact ⟨t.fn, t.ct, t.bl, t.md⟩
  have hb : PSs X (defBody st) (TS' C g) := cSs_ok (fun s f q => cS_ok (recs_ok 40) G q) hden
  refine ⟨TS' C g, hb.nox, ?_⟩
  have R0 : Rel C (st0 Γ.N as) W F0 F0 (L2.start Γ.N vs) H := rel_start (C := C) f1 f2 f3 f4
  unfold wth at hw
  have fin : ∀ {v ρ F G σ H'}, Same F0 F → Rel C ρ W' F G σ H' → Dq K F v r → Q v H' := fun {v ρ F G σ H'} s1 R d => q v F H' s1 R.fh R.src (fun a o h n => R.b2 a o h n) (fun a o h n => R.b3 a o h n) d
  split at hw
  · rename_i d W1 e
    cases hw
    exact ⟨_, W, F0, F0, _, R0, e, fun v ρ F G σ H' s1 R d => fin s1 R d⟩
  · rename_i ρ1 W1 e
    cases hw
    exact ⟨_, W, F0, F0, _, R0, e, fun F G σ H' s1 R => fin s1 R .non⟩
  · cases hw
end

/-! ### the source -/
def pickL (many : Int) : List Int → Int → List Int × Int
  | cs, left => if 1 < many ∧ left < 2 then match h : cs.getLast? with
    | some c => pickL many cs.dropLast c
    | none => (cs, left) else (cs, left)
  termination_by cs => cs.length
  decreasing_by
    simp only [List.length_dropLast]
    have : cs ≠ [] := fun e => by rw [e] at h; cases h
    have := List.length_pos_iff.mpr this
    omega
def mix1 (W : Src) : Int := (W.mixed + (W.turn + 1) * 104729) % 998244353
def mix2 (W : Src) : Int := (mix1 W * mix1 W + (W.turn + 1) * 17) % 2147483647
def pickF (many : Int) (W : Src) : Int × Src :=
  let p := pickL many W.cells W.left
  if many < 2 ∨ 1 < p.2 then (p.2 % (if many > 1 then many else 1), ⟨p.1, p.2 / (if many > 1 then many else 1), W.mixed, W.turn⟩)
  else (mix2 W / 16 % many, ⟨p.1, p.2, mix2 W, W.turn + 1⟩)
theorem pickF_low (many : Int) (W : Src) : 0 ≤ (pickF many W).1 := by
  unfold pickF
  simp only
  split
  · exact Int.emod_nonneg _ (by split <;> omega)
  · rename_i h
    exact Int.emod_nonneg _ (by omega)
theorem pickF_lt {many : Int} (W : Src) (h : 1 ≤ many) : (pickF many W).1 < many := by
  unfold pickF
  simp only
  split
  · have := Int.emod_lt_of_pos ((pickL many W.cells W.left).2) (b := if many > 1 then many else 1) (by split <;> omega)
    show _ % _ < many
    split at this <;> (split <;> omega)
  · rename_i h
    exact Int.emod_lt_of_pos _ (by omega)
def pickOk : Int → Bool
  | .ofNat n => Nat.ble n 999999999
  | .negSucc _ => true
theorem pickOk_lt {i : Int} : pickOk i = true ↔ i < 1000000000 := by
  cases i with
  | ofNat n =>
    show Nat.ble n 999999999 = true ↔ _
    rw [Nat.ble_eq]
    show n ≤ 999999999 ↔ ((n : Int) < 1000000000)
    omega
  | negSucc n =>
    have h : Int.negSucc n < 1000000000 := by omega
    exact ⟨fun _ => h, fun _ => rfl⟩
def cPick : Ctr := fun as W => match as with
  | [.src, .d (.int many)] => if pickOk many = true then some (.int (pickF many W).1, (pickF many W).2) else none
  | _ => none
/-- what _law_source gives -/
def spSrc (K : PySem.W.Frag) : Sp := fun vs H Q _ => ∃ (a : Addr) (ns : List Int), vs = [.ref a] ∧ SqL K H a (ns.map V.int) ∧ ns.length ≤ 63 ∧ ∀ (H' : Hp) (p q : Addr) (W : Src), Same H H' → H p = none → H q = none → SrcAt (some (p, q)) W H' → Q (.ref p) H'
theorem valV_key {kvs : List (Key × V)} {k : Key} {v : V} (h : valV kvs k = some v) : valV kvs k = some v := h
end Dv
set_option Elab.async false
set_option linter.all false
set_option maxRecDepth 100000
set_option maxHeartbeats 2000000
/-! Part 14: defs of a text, one behind another. -/
namespace Dv
open PySem PySem.Spec PyProof.Rows L2

/-- a def by its body's worth -/
def wf (n : Nat) (N : List Str) (g : Sx) : Ctr := fun as W => if as.length = n then wth N g as W else none
def wfn (n m : Nat) (g : Sx) : Ctr := fun as W => if as.length = n then match g (as.map slOf ++ List.replicate (m - as.length) .no) W with
  | some (.rt d W') => some (d, W')
  | some (.nx _ W') => some (.none, W')
  | _ => none else none
theorem wf_wfn (n : Nat) (N : List Str) (g : Sx) : wf n N g = wfn n N.length g := rfl
/-- the def named x is worth φ -/
structure Wk (P : Program) (w : World) (K : PySem.W.Frag) (mg : Str → Option Value) (base : Heap) (x : Str) (n : Nat) (φ : Ctr) (k : Nat) : Prop where
  ex : ∃ f fd ps, FG P w K mg base CX0 k f fd ps (spC K φ n) ∧ mg x = some (.ref f) ∧ PySem.W.keepIn K (.ref f) = true ∧ Binds K fd ps []
structure DI (K : PySem.W.Frag) (mg : Str → Option Value) (x : Str) (st : Stmt) (ps : List Str) : Prop where
  ex : ∃ f fd, Fun K x x st f fd ∧ mg x = some (.ref f) ∧ Binds K fd ps []
def BL (mg : Str → Option Value) : Prop := ∀ x ∈ bnames, mg x = none
def CtOk (K : PySem.W.Frag) (mg : Str → Option Value) (x : Str) (d : PyData) : Prop := ∃ v u, mg x = some u ∧ RelV v u ∧ ∀ F, Dq K F v d
theorem ct_int {K : PySem.W.Frag} {mg : Str → Option Value} {x : Str} {i : Int} {t : Tok} (h : mg x = some (.int i t)) : CtOk K mg x (.int i) := ⟨.int i, _, h, ⟨t, rfl⟩, fun F => .int i⟩
theorem lookup_mem {α : Type} : ∀ {l : List (Str × α)} {x : Str} {a : α}, l.lookup x = some a → (x, a) ∈ l
  | (k, v) :: r, x, a, h => by
    rw [List.lookup_cons] at h
    cases hb : x == k with
    | true =>
      rw [hb] at h
      cases h
      have : x = k := by simpa using hb
      rw [this]
      exact List.mem_cons_self
    | false =>
      rw [hb] at h
      exact List.mem_cons_of_mem _ (lookup_mem h)
section
variable {P : Program} {w : World} {K : PySem.W.Frag} {mg : Str → Option Value} {base : Heap} {k : Nat}
theorem Wk.mono {x : Str} {n : Nat} {φ : Ctr} {j : Nat} (h : Wk P w K mg base x n φ j) (hj : j ≤ k) : Wk P w K mg base x n φ k := by
  obtain ⟨f, fd, ps, a, b⟩ := h.ex
  exact ⟨f, fd, ps, a.mono hj, b⟩
def AllWk (P : Program) (w : World) (K : PySem.W.Frag) (mg : Str → Option Value) (base : Heap) (k : Nat) (l : List (Str × Nat × Ctr)) : Prop := ∀ e ∈ l, Wk P w K mg base e.1 e.2.1 e.2.2 k
theorem aw_nil : AllWk P w K mg base k [] := fun _ h => by cases h
theorem aw_cons {x : Str} {n : Nat} {φ : Ctr} {j : Nat} {l : List (Str × Nat × Ctr)} (h : Wk P w K mg base x n φ j) (hj : j ≤ k) (r : AllWk P w K mg base k l) : AllWk P w K mg base k ((x, n, φ) :: l) := fun e he => by
  rcases List.mem_cons.mp he with z | z
  · rw [z]; exact h.mono hj
  · exact r e z
def AllCt (K : PySem.W.Frag) (mg : Str → Option Value) (l : List (Str × PyData)) : Prop := ∀ e ∈ l, CtOk K mg e.1 e.2
theorem ac_nil : AllCt K mg [] := fun _ h => by cases h
theorem ac_cons {x : Str} {d : PyData} {l : List (Str × PyData)} (h : CtOk K mg x d) (r : AllCt K mg l) : AllCt K mg ((x, d) :: l) := fun e he => by
  rcases List.mem_cons.mp he with z | z
  · rw [z]; exact h
  · exact r e z
def AllMd (mg : Str → Option Value) (l : List (Str × String)) : Prop := ∀ e ∈ l, mg e.1 = some (.builtin e.2)
theorem am_nil : AllMd mg [] := fun _ h => by cases h
theorem am_cons {x : Str} {d : String} {l : List (Str × String)} (h : mg x = some (.builtin d)) (r : AllMd mg l) : AllMd mg ((x, d) :: l) := fun e he => by
  rcases List.mem_cons.mp he with z | z
  · rw [z]; exact h
  · exact r e z
theorem tb_of {X : Cx} {Γ : Gm} (fs : AllWk X.prog X.w X.K X.mg X.base k Γ.fns) (hr : Room k X.A) (cs : AllCt X.K X.mg Γ.cts) (bl : BL X.mg) (ms : AllMd X.mg Γ.mods) : Tb X Γ where
  fn := fun x n φ h => by
    obtain ⟨f, fd, ps, a, b, c, d⟩ := (fs _ (lookup_mem h)).ex
    exact ⟨k, f, fd, ps, a, hr, b, c, d⟩
  ct := fun x d h => cs _ (lookup_mem h)
  bl := bl
  md := fun x id h => ms _ (lookup_mem h)
theorem wk_def {x : Str} {st : Stmt} {ps : List Str} (D : DI K mg x st ps) (Γ : Gm) (g : Sx) (S : FnScope Γ.N ps (defScope st)) (hsc : Γ.sc = defScope st) (hraw : Γ.raw = defScope st) (fs : AllWk P w K mg base k Γ.fns) (cs : AllCt K mg Γ.cts) (bl : BL mg) (ms : AllMd mg Γ.mods)
    (hd : den Γ st = some g) : Wk P w K mg base x ps.length (wf ps.length Γ.N g) (k + 1) := by
  obtain ⟨f, fd, F, h1, h2⟩ := D.ex
  refine ⟨f, fd, ps, fg_def Γ _ F S hsc hraw (fun X e1 e2 e3 e4 e5 hr => ?_) (fun as W p h => ?_), h1, F.kp, h2⟩
  · subst e1 e2 e3 e4 e5
    exact tb_of fs hr cs bl ms
  · unfold wf at h
    split at h
    · rename_i hl
      exact ⟨hl, Γ.fuel, g, hd, h⟩
    · cases h
theorem wk_def' {x : Str} {st : Stmt} {ps : List Str} {n m : Nat} (D : DI K mg x st ps) (Γ : Gm) (g : Sx) (hn : ps.length = n) (hm : Γ.N.length = m) (S : FnScope Γ.N ps (defScope st)) (hsc : Γ.sc = defScope st) (hraw : Γ.raw = defScope st) (fs : AllWk P w K mg base k Γ.fns) (cs : AllCt K mg Γ.cts) (bl : BL mg) (ms : AllMd mg Γ.mods)
    (hd : den Γ st = some g) : Wk P w K mg base x n (wfn n m g) (k + 1) := by
  subst hn hm
  exact wk_def D Γ g S hsc hraw fs cs bl ms hd
/-- a draw -/
theorem wk_pick {x : Str} {f : Addr} {fd : FuncData} {ps : List Str} {spP : Sp} (F : FG P w K mg base CX0 k f fd ps spP) (h1 : mg x = some (.ref f)) (h2 : PySem.W.keepIn K (.ref f) = true) (h3 : Binds K fd ps []) (hp : ps.length = 2)
    (hs : ∀ (p q : Addr) (W : Src) (many : Int) (H : Hp) (Q : VK) (E : XK), SrcAt (some (p, q)) W H → many < 1000000000 → (∀ H', SrcAt (some (p, q)) (pickF many W).2 H' → (∀ a o, H a = some o → a ≠ p → a ≠ q → H' a = some o) → Q (.int (pickF many W).1) H') → spP [.ref p, .int many] H Q E) : Wk P w K mg base x 2 cPick k := by
  refine ⟨f, fd, ps, F.imp fun vs H Q E h => ?_, h1, h2, h3⟩
  obtain ⟨hl, Z, F0, as, W, r, W', f1, f2, f3, f4, f5, q⟩ := h
  unfold cPick at f5
  split at f5
  · rename_i many
    split at f5
    · rename_i hm
      cases f5
      cases f4 with
      | cons a1 r1 =>
        cases r1 with
        | cons a2 r2 =>
          cases r2
          obtain ⟨p, hZ, rfl⟩ := a1
          subst hZ
          cases a2
          refine hs p.1 p.2 W many H Q E f2 (pickOk_lt.mp hm) fun H' s1 k1 => ?_
          refine q _ F0 H' (Same.refl _) (fun b o hb => ?_) s1 (fun b o hb hz => ?_) (fun _ _ _ h => h) (.int _)
          · have hz : ¬ Zm (some p) b := fun z => by rw [f3 b z] at hb; cases hb
            exact k1 b o (f1 b o hb) (fun e => hz ⟨p, rfl, .inl e⟩) (fun e => hz ⟨p, rfl, .inr e⟩)
          · exact k1 b o hb (fun e => hz ⟨p, rfl, .inl e⟩) (fun e => hz ⟨p, rfl, .inr e⟩)
    · cases f5
  · cases f5
/-- source = _law_source(script) -/
theorem h1_mk {X : Cx} {K0 : PySem.W.Frag} (hK : X.K = K0) {j : Nat} {f : Addr} {fd : FuncData} {p1 p2 p3 p4 p5 : Pos} (F : FG X.prog X.w X.K X.mg X.base CX0 j f fd ["script"] (spSrc X.K)) (hr : Room j X.A) (hg : X.A.guards = some []) (nd : X.N.Nodup) (n0 : X.N[0]? = some ("script" : Str)) (n1 : X.N[1]? = some ("source" : Str))
    (l1 : L2.Loc X.env.scope "source") (v0 : Vis X.env.scope "script") (gl : Gl X "_law_source") (hm : X.mg "_law_source" = some (.ref f)) (hk : PySem.W.keepIn X.K (.ref f) = true) (hb : Binds X.K fd ["script"] []) (hf : X.fn "source" = true) :
    PS X (.Assign [.Name "source" p1] (.Call (.Name "_law_source" p2) [.Name "script" p3] [] p4) p5) (fun D σ H => spSrc K0 [(σ[0]?.getD none).getD .non] H (fun v H' => D.nx (σ.set 1 (some v)) H') E0) := by
  subst hK
  refine ps_weak (ps_set (i := 1) nd n1 l1 (pe_fg F hr hg gl hm hk hb pass0 (pa_cons (pe_var n0 v0) pa_nil) (by decide +kernel) rfl rfl) rfl (.inl hf)) fun D σ H h => ?_
  obtain ⟨a, ns, e, h2, h3, h4⟩ := h
  have e1 : (σ[0]?.getD none).getD V.non = .ref a := by
    injection e
  have e2 : σ[0]? = some (some (.ref a)) := by
    cases q : σ[0]? with
    | none => rw [q] at e1; cases e1
    | some o =>
      rw [q] at e1
      cases o with
      | none => cases e1
      | some v =>
        have : v = .ref a := e1
        rw [this]
  exact ⟨_, e2, a, ns, rfl, h2, h3, fun H1 p q W s np nq sa => h4 H1 p q W s np nq sa⟩
/-- the law: source = _law_source(script), then what its text reads -/
def spLaw (K : PySem.W.Frag) : Sp := fun vs H Q _ => ∃ (a : Addr) (ns : List Int), vs = [.ref a] ∧ SqL K H a (ns.map V.int) ∧ ns.length ≤ 63 ∧ ∀ H', Q (.bl true) H'
def restOf (st : Stmt) : List Stmt := (defBody st).drop 1
/-- the slots as the law stands behind its first statement -/
def stL (n : Nat) : Rho := .no :: .src :: List.replicate n .no
theorem fg_law {f : Addr} {fd : FuncData} {x : Str} {st : Stmt} {a1 : Stmt} {rest : List Stmt} {n : Nat} (F : Fun K x x st f fd) (Γ : Gm) (g : Sx) (hN : Γ.N.length = n + 2) (S : FnScope Γ.N ["script"] (defScope st)) (hsc : Γ.sc = defScope st) (hraw : Γ.raw = defScope st) (fs : AllWk P w K mg base k Γ.fns) (cs : AllCt K mg Γ.cts) (bl : BL mg) (ms : AllMd mg Γ.mods)
    (hb : defBody st = a1 :: rest)
    (h1 : ∀ X : Cx, X.prog = P → X.w = w → X.K = K → X.mg = mg → X.base = base → X.N = Γ.N → X.env.scope = defScope st → X.fn = (fun _ => true) → X.A.guards = some [] → Room k X.A → PS X a1 (fun D σ H => spSrc K [(σ[0]?.getD none).getD .non] H (fun v H' => D.nx (σ.set 1 (some v)) H') E0))
    (hd : cSs (cS (recs 40) Γ 40) rest = some g) (hg : ∀ W : Src, ∃ W', g (stL n) W = some (.rt (.bool true) W')) : FG P w K mg base CX0 (k + 1) f fd ["script"] (spLaw K) := by
  refine FG.of F S (fun vs H Q E h => ?_) fun cdv A out s H vs Q E hr hgd h => ?_
  · obtain ⟨a, ns, rfl, _⟩ := h
    rfl
  obtain ⟨a, ns, rfl, hS, hl, fin⟩ := h
  let X : Cx := (cxOf CX0 P w K mg base Γ.N x (defScope st) f cdv A out s H E).nox
  have hrX : Room k X.A := hr
  have p1 := h1 X rfl rfl rfl rfl rfl rfl rfl rfl hgd hrX
  -- the rest, whatever the source's place and the heaps at its start
  have p2 : PSs X rest (fun D σ H' => ∃ C : Ct, C.K = K ∧ TS' C g D σ H') := by
    refine ⟨fun pins s σ H' D I h => ?_⟩
    obtain ⟨C, hK, h⟩ := h
    have G : Gd X C Γ := by
      refine ⟨hK.symm, rfl, hgd, S.nd, rfl, hsc.symm, fun y hy => ⟨?_, .inl rfl⟩, rfl, ?_, hr.hd, by rw [hsc]; exact S.kind, tb_of fs hrX cs bl ms⟩
      · rw [hsc, ← hraw]; exact isLoc_ok hy
      · have hu : X.A.units + 16 * k + 200 < cLine := hr.un
        show X.A.units + 70 < cLine
        omega
    exact (cSs_ok (fun s f q => cS_ok (recs_ok 40) G q) hd).run pins s σ H' D I h
  refine ⟨_, PSs.nox (by rw [hb]; exact pss_cons p1 p2), ?_⟩
  have hst : L2.start Γ.N [V.ref a] = some (.ref a) :: List.replicate (n + 1) none := by
    unfold L2.start
    rw [hN]
    rfl
  rw [hst]
  refine ⟨a, ns, rfl, hS, hl, fun H' p q W s1 np nq sa => ?_⟩
  let C : Ct := ⟨K, some (p, q), fun _ => none, H'⟩
  refine ⟨C, rfl, ?_⟩
  have hset : ((some (V.ref a) :: List.replicate (n + 1) (none : Option V)).set 1 (some (V.ref p))) = some (.ref a) :: some (.ref p) :: List.replicate n none := by
    rw [List.replicate_succ]
    rfl
  rw [hset]
  obtain ⟨W', hW⟩ := hg W
  refine ⟨stL n, W, fun _ => none, fun _ => none, _, ?_, hW, fun v ρ F' G' σ' H2 _ R d => ?_⟩
  · refine ⟨Same.refl _, (fun b o h => by cases h), sa, fun _ _ => rfl, Same.refl _, fun _ _ h _ => h, fun _ _ _ _ => rfl, by simp [stL], fun i t e => ?_, fun i j b xs ys e1 _ _ _ => ?_⟩
    · unfold stL at e
      match i, e with
      | 0, e => cases e; exact ⟨_, rfl, .no⟩
      | 1, e => cases e; exact ⟨_, rfl, SlotOk.src (p := (p, q)) rfl⟩
      | i + 2, e =>
        have e : (List.replicate n Sl.no)[i]? = some t := e
        rw [List.getElem?_replicate] at e
        split at e
        · rename_i hi
          cases e
          exact ⟨none, by show (List.replicate n (none : Option V))[i]? = _; rw [List.getElem?_replicate, if_pos hi], .no⟩
        · cases e
    · exfalso
      unfold stL at e1
      match i, e1 with
      | 0, e => cases e
      | 1, e => cases e
      | i + 2, e =>
        have e : (List.replicate n Sl.no)[i]? = some (.own xs) := e
        rw [List.getElem?_replicate] at e
        split at e <;> cases e
  · cases d
    exact fin H2
end
end Dv
set_option Elab.async false
set_option linter.all false
set_option maxRecDepth 100000
set_option maxHeartbeats 4000000
/-! Part 15: evaluation, told to simp. -/
namespace Dv
open PySem PySem.Spec
@[simp] theorem eC_s (d : PyData) (ρ : Rho) (W : Src) : eC d ρ W = some (d, W) := rfl
@[simp] theorem eVar_s (i : Nat) (ρ : Rho) (W : Src) : eVar i ρ W = match ρ[i]? with
  | some (.d x) => some (x, W)
  | some (.own xs) => some (.list xs, W)
  | _ => none := rfl
@[simp] theorem eVal_s (i : Nat) (ρ : Rho) (W : Src) : eVal i ρ W = match ρ[i]? with
  | some (.d x) => some (x, W)
  | _ => none := rfl
@[simp] theorem e1_s (op : PyData → Option PyData) (a : Ex) (ρ : Rho) (W : Src) : e1 op a ρ W = match a ρ W with
  | some (x, W1) => (op x).map fun r => (r, W1)
  | none => none := rfl
@[simp] theorem e2_s (op : PyData → PyData → Option PyData) (a b : Ex) (ρ : Rho) (W : Src) : e2 op a b ρ W = match a ρ W with
  | some (x, W1) => match b ρ W1 with
    | some (y, W2) => (op x y).map fun r => (r, W2)
    | none => none
  | none => none := rfl
@[simp] theorem eN_s (op : List PyData → Option PyData) (a : Lx) (ρ : Rho) (W : Src) : eN op a ρ W = match a ρ W with
  | some (xs, W1) => (op xs).map fun r => (r, W1)
  | none => none := rfl
@[simp] theorem lNil_s  (ρ : Rho) (W : Src) : lNil  ρ W = some ([], W) := rfl
@[simp] theorem lCons_s (a : Ex) (r : Lx) (ρ : Rho) (W : Src) : lCons a r ρ W = match a ρ W with
  | some (x, W1) => match r ρ W1 with
    | some (xs, W2) => some (x :: xs, W2)
    | none => none
  | none => none := rfl
@[simp] theorem eIf_s (t : Tx) (a b : Ex) (ρ : Rho) (W : Src) : eIf t a b ρ W = match t ρ W with
  | some (true, W1) => a ρ W1
  | some (false, W1) => b ρ W1
  | none => none := rfl
@[simp] theorem tOf_s (f : Ex) (ρ : Rho) (W : Src) : tOf f ρ W = match f ρ W with
  | some (.bool b, W1) => some (b, W1)
  | _ => none := rfl
@[simp] theorem tNeg_s (t : Tx) (ρ : Rho) (W : Src) : tNeg t ρ W = match t ρ W with
  | some (b, W1) => some (!b, W1)
  | none => none := rfl
@[simp] theorem tAnd2_s (t u : Tx) (ρ : Rho) (W : Src) : tAnd2 t u ρ W = match t ρ W with
  | some (true, W1) => u ρ W1
  | some (false, W1) => some (false, W1)
  | none => none := rfl
@[simp] theorem tOr2_s (t u : Tx) (ρ : Rho) (W : Src) : tOr2 t u ρ W = match t ρ W with
  | some (true, W1) => some (true, W1)
  | some (false, W1) => u ρ W1
  | none => none := rfl
@[simp] theorem eOf_s (t : Tx) (ρ : Rho) (W : Src) : eOf t ρ W = match t ρ W with
  | some (b, W1) => some (.bool b, W1)
  | none => none := rfl
@[simp] theorem eAnd2_s (f g : Ex) (ρ : Rho) (W : Src) : eAnd2 f g ρ W = match f ρ W with
  | some (.bool true, W1) => g ρ W1
  | some (.bool false, W1) => some (.bool false, W1)
  | _ => none := rfl
@[simp] theorem eOr2_s (f g : Ex) (ρ : Rho) (W : Src) : eOr2 f g ρ W = match f ρ W with
  | some (.bool true, W1) => some (.bool true, W1)
  | some (.bool false, W1) => g ρ W1
  | _ => none := rfl
@[simp] theorem eNot_s (f : Ex) (ρ : Rho) (W : Src) : eNot f ρ W = match f ρ W with
  | some (.bool b, W1) => some (.bool (!b), W1)
  | _ => none := rfl
@[simp] theorem eChain_s (f g : PyData → PyData → Option PyData) (a b c : Ex) (ρ : Rho) (W : Src) : eChain f g a b c ρ W = match a ρ W with
  | some (x, W1) => match b ρ W1 with
    | some (y, W2) => match f x y with
      | some (.bool true) => match c ρ W2 with
        | some (z, W3) => (g y z).map fun r => (r, W3)
        | none => none
      | some (.bool false) => some (.bool false, W2)
      | _ => none
    | none => none
  | none => none := rfl
@[simp] theorem pNo_s  (ρ : Rho) (W : Src) : pNo  ρ W = some (none, W) := rfl
@[simp] theorem pOf_s (f : Ex) (ρ : Rho) (W : Src) : pOf f ρ W = match f ρ W with
  | some (.int i, W1) => some (some i, W1)
  | _ => none := rfl
@[simp] theorem eSl_s (a : Ex) (lo hi : Px) (ρ : Rho) (W : Src) : eSl a lo hi ρ W = match a ρ W with
  | some (x, W1) => match lo ρ W1 with
    | some (l, W2) => match hi ρ W2 with
      | some (u, W3) => (oSl x l u).map fun r => (r, W3)
      | none => none
    | none => none
  | none => none := rfl
@[simp] theorem aNil_s  (ρ : Rho) (W : Src) : aNil  ρ W = some ([], W) := rfl
@[simp] theorem aCons_s (a : Ex) (r : Ax) (ρ : Rho) (W : Src) : aCons a r ρ W = match a ρ W with
  | some (x, W1) => match r ρ W1 with
    | some (xs, W2) => some (.d x :: xs, W2)
    | none => none
  | none => none := rfl
@[simp] theorem aSrc_s (i : Nat) (r : Ax) (ρ : Rho) (W : Src) : aSrc i r ρ W = match ρ[i]? with
  | some .src => match r ρ W with
    | some (xs, W2) => some (.src :: xs, W2)
    | none => none
  | _ => none := rfl
@[simp] theorem eCall_s (φ : Ctr) (a : Ax) (ρ : Rho) (W : Src) : eCall φ a ρ W = match a ρ W with
  | some (as, W1) => φ as W1
  | none => none := rfl
@[simp] theorem gN_s (i : Nat) (d : PyData) (ρ : Rho) : gN i d ρ = some (ρ.set i (.d d)) := rfl
@[simp] theorem gT_s (n : Nat) (g : Gxs) (d : PyData) (ρ : Rho) : gT n g d ρ = match d with
  | .tuple xs => if xs.length = n then g xs ρ else none
  | _ => none := rfl
@[simp] theorem gs0_s  (xs : List PyData) (ρ : Rho) : gs0  xs ρ = match xs with
  | [] => some ρ
  | _ => none := rfl
@[simp] theorem gsC_s (g : Gx) (h : Gxs) (xs : List PyData) (ρ : Rho) : gsC g h xs ρ = match xs with
  | x :: r => match g x ρ with
    | some ρ1 => h r ρ1
    | none => none
  | [] => none := rfl
@[simp] theorem s0_s  (ρ : Rho) (W : Src) : s0  ρ W = some (.nx ρ W) := rfl
@[simp] theorem sC_s (a b : Sx) (ρ : Rho) (W : Src) : sC a b ρ W = match a ρ W with
  | some (.nx ρ1 W1) => b ρ1 W1
  | o => o := rfl
@[simp] theorem sBreak_s  (ρ : Rho) (W : Src) : sBreak  ρ W = some (.bk ρ W) := rfl
@[simp] theorem sCont_s  (ρ : Rho) (W : Src) : sCont  ρ W = some (.ct ρ W) := rfl
@[simp] theorem sRet_s (f : Ex) (ρ : Rho) (W : Src) : sRet f ρ W = match f ρ W with
  | some (d, W1) => some (.rt d W1)
  | none => none := rfl
@[simp] theorem sRetN_s  (ρ : Rho) (W : Src) : sRetN  ρ W = some (.rt .none W) := rfl
@[simp] theorem sIf_s (t : Tx) (a b : Sx) (ρ : Rho) (W : Src) : sIf t a b ρ W = match t ρ W with
  | some (true, W1) => a ρ W1
  | some (false, W1) => b ρ W1
  | none => none := rfl
@[simp] theorem sDrop_s (f : Ex) (ρ : Rho) (W : Src) : sDrop f ρ W = match f ρ W with
  | some (_, W1) => some (.nx ρ W1)
  | none => none := rfl
@[simp] theorem sSet_s (g : Gx) (f : Ex) (ρ : Rho) (W : Src) : sSet g f ρ W = match f ρ W with
  | some (d, W1) => match g d ρ with
    | some ρ1 => some (.nx ρ1 W1)
    | none => none
  | none => none := rfl
@[simp] theorem sNew_s (i : Nat) (f : Ex) (ρ : Rho) (W : Src) : sNew i f ρ W = match f ρ W with
  | some (.list xs, W1) => some (.nx (ρ.set i (.own xs)) W1)
  | some (d, W1) => some (.nx (ρ.set i (.d d)) W1)
  | none => none := rfl
@[simp] theorem sFrz_s (is : List Nat) (f : Sx) (ρ : Rho) (W : Src) : sFrz is f ρ W = f (frzs is ρ) W := rfl
@[simp] theorem sApp_s (i : Nat) (f : Ex) (ρ : Rho) (W : Src) : sApp i f ρ W = match f ρ W with
  | some (d, W1) => match ρ[i]? with
    | some (.own xs) => if xs.length < sizeLine then some (.nx (ρ.set i (.own (xs ++ [d]))) W1) else none
    | _ => none
  | none => none := rfl
@[simp] theorem iSeq_s (f : Ex) (ρ : Rho) (W : Src) : iSeq f ρ W = match f ρ W with
  | some (.list xs, W1) => some (xs, W1)
  | some (.tuple xs, W1) => some (xs, W1)
  | _ => none := rfl
@[simp] theorem iR1_s (f : Ex) (ρ : Rho) (W : Src) : iR1 f ρ W = match f ρ W with
  | some (.int j, W1) => if big62 j = true then some (rng 0 j.toNat, W1) else none
  | _ => none := rfl
@[simp] theorem iR2_s (f g : Ex) (ρ : Rho) (W : Src) : iR2 f g ρ W = match f ρ W with
  | some (.int i, W1) => match g ρ W1 with
    | some (.int j, W2) => if big62 i = true ∧ big62 j = true then some (rng i (j - i).toNat, W2) else none
    | _ => none
  | _ => none := rfl
@[simp] theorem sFor_s (it : Lx) (g : Gx) (b : Sx) (ρ : Rho) (W : Src) : sFor it g b ρ W = match it ρ W with
  | some (ds, W1) => forL g b ds ρ W1
  | none => none := rfl
@[simp] theorem tYs_s  (ρ : Rho) (W : Src) : tYs  ρ W = some (true, W) := rfl
@[simp] theorem eComp_s (vs : List Nat) (it : Lx) (g : Gx) (t : Tx) (e : Ex) (ρ : Rho) (W : Src) : eComp vs it g t e ρ W = match it ρ W with
  | some (ds, W1) => match cmpL g t e (wipeR ρ vs) ds [] W1 with
    | some (xs, W2) => some (.list xs, W2)
    | none => none
  | none => none := rfl
@[simp] theorem sPars_s (is : List Nat) (fs : List Nx) (ρ : Rho) (W : Src) : sPars is fs ρ W = match lx fs ρ W with
  | some (ds, W1) => match puts is (fs.map (·.1)) ds ρ with
    | some ρ1 => some (.nx ρ1 W1)
    | none => none
  | none => none := rfl
@[simp] theorem sAug_s (i : Nat) (op : PyData → PyData → Option PyData) (f : Ex) (ρ : Rho) (W : Src) : sAug i op f ρ W = match ρ[i]? with
  | some (.d x) => match f ρ W with
    | some (y, W1) => match op x y with
      | some r => some (.nx (ρ.set i (.d r)) W1)
      | none => none
    | none => none
  | _ => none := rfl
@[simp] theorem sAfter_s (vs : List Nat) (f : Sx) (ρ : Rho) (W : Src) : sAfter vs f ρ W = match f ρ W with
  | some (.nx ρ1 W1) => some (.nx (wipeR ρ1 vs) W1)
  | o => o := rfl
@[simp] theorem frzs_nil (ρ : Rho) : frzs [] ρ = ρ := rfl
@[simp] theorem frzs_cons (i : Nat) (is : List Nat) (ρ : Rho) : frzs (i :: is) ρ = frzs is (frz i ρ) := rfl
@[simp] theorem frz_s (i : Nat) (ρ : Rho) : frz i ρ = match ρ[i]? with
  | some (.own xs) => ρ.set i (.d (.list xs))
  | _ => ρ := rfl
@[simp] theorem slOf_d (x : PyData) : slOf (.d x) = .d x := rfl
@[simp] theorem slOf_src : slOf .src = .src := rfl
@[simp] theorem wipeR_nil (ρ : Rho) : wipeR ρ [] = ρ := rfl
@[simp] theorem wipeR_cons (ρ : Rho) (v : Nat) (vs : List Nat) : wipeR ρ (v :: vs) = (wipeR ρ vs).set v .no := rfl
@[simp] theorem lx_nil : lx [] = lNil := rfl
@[simp] theorem lx_cons (b : Bool) (f : Ex) (r : List Nx) : lx ((b, f) :: r) = lCons f (lx r) := rfl
@[simp] theorem puts_nil (ρ : Rho) : puts [] [] [] ρ = some ρ := rfl
@[simp] theorem puts_cons (i : Nat) (is : List Nat) (n : Bool) (ns : List Bool) (d : PyData) (ds : List PyData) (ρ : Rho) : puts (i :: is) (n :: ns) (d :: ds) ρ = puts is ns ds (put n i d ρ) := rfl
@[simp] theorem put_f (i : Nat) (d : PyData) (ρ : Rho) : put false i d ρ = ρ.set i (.d d) := rfl
@[simp] theorem put_int (n : Bool) (i : Nat) (z : Int) (ρ : Rho) : put n i (.int z) ρ = ρ.set i (.d (.int z)) := by cases n <;> rfl
@[simp] theorem put_bool (n : Bool) (i : Nat) (z : Bool) (ρ : Rho) : put n i (.bool z) ρ = ρ.set i (.d (.bool z)) := by cases n <;> rfl
@[simp] theorem put_str (n : Bool) (i : Nat) (z : Str) (ρ : Rho) : put n i (.str z) ρ = ρ.set i (.d (.str z)) := by cases n <;> rfl
@[simp] theorem put_none (n : Bool) (i : Nat) (ρ : Rho) : put n i .none ρ = ρ.set i (.d .none) := by cases n <;> rfl
@[simp] theorem put_tup (n : Bool) (i : Nat) (z : List PyData) (ρ : Rho) : put n i (.tuple z) ρ = ρ.set i (.d (.tuple z)) := by cases n <;> rfl
@[simp] theorem put_lst (i : Nat) (z : List PyData) (ρ : Rho) : put true i (.list z) ρ = ρ.set i (.own z) := rfl
@[simp] theorem forL_nil (g : Gx) (b : Sx) (ρ : Rho) (W : Src) : forL g b [] ρ W = some (.nx ρ W) := rfl
theorem forL_cons (g : Gx) (b : Sx) (d : PyData) (ds : List PyData) (ρ : Rho) (W : Src) : forL g b (d :: ds) ρ W = match g d ρ with
    | none => none
    | some ρ1 => match b ρ1 W with
      | some (.nx ρ2 W2) => forL g b ds ρ2 W2
      | some (.ct ρ2 W2) => forL g b ds ρ2 W2
      | some (.bk ρ2 W2) => some (.nx ρ2 W2)
      | some (.rt d2 W2) => some (.rt d2 W2)
      | none => none := rfl
theorem whL_succ (fz : List Nat) (t : Tx) (b : Sx) (n : Nat) (ρ : Rho) (W : Src) : whL fz t b (n + 1) ρ W = match t (frzs fz ρ) W with
    | some (true, W1) => match b (frzs fz ρ) W1 with
      | some (.nx ρ2 W2) => whL fz t b n ρ2 W2
      | some (.ct ρ2 W2) => whL fz t b n ρ2 W2
      | some (.bk ρ2 W2) => some (.nx ρ2 W2)
      | some (.rt d2 W2) => some (.rt d2 W2)
      | none => none
    | some (false, W1) => some (.nx (frzs fz ρ) W1)
    | none => none := rfl
@[simp] theorem cmpL_nil (g : Gx) (t : Tx) (e : Ex) (ρ : Rho) (acc : List PyData) (W : Src) : cmpL g t e ρ [] acc W = some (acc, W) := rfl
@[simp] theorem cmpL_cons (g : Gx) (t : Tx) (e : Ex) (ρ : Rho) (d : PyData) (ds acc : List PyData) (W : Src) : cmpL g t e ρ (d :: ds) acc W = match g d ρ with
    | none => none
    | some ρ1 => match t ρ1 W with
      | some (true, W1) => match e ρ1 W1 with
        | some (x, W2) => if acc.length < sizeLine then cmpL g t e ρ ds (acc ++ [x]) W2 else none
        | none => none
      | some (false, W1) => cmpL g t e ρ ds acc W1
      | none => none := rfl
@[simp] theorem bAdd_i (i j : Int) : bAdd (.int i) (.int j) = some (.int (i + j)) := rfl
@[simp] theorem bAdd_l (xs ys : List PyData) : bAdd (.list xs) (.list ys) = if xs.length + ys.length ≤ sizeLine then some (.list (xs ++ ys)) else none := rfl
@[simp] theorem bAdd_t (xs ys : List PyData) : bAdd (.tuple xs) (.tuple ys) = if xs.length + ys.length ≤ sizeLine then some (.tuple (xs ++ ys)) else none := rfl
@[simp] theorem bSub_i (i j : Int) : bSub (.int i) (.int j) = some (.int (i - j)) := rfl
@[simp] theorem bMul_i (i j : Int) : bMul (.int i) (.int j) = if mulOk i j = true then some (.int (i * j)) else none := rfl
@[simp] theorem bMul_l (xs : List PyData) (k : Int) : bMul (.list xs) (.int k) = if 0 ≤ k ∧ k < 2 ^ 40 ∧ xs.length * k.toNat ≤ sizeLine then some (.list (rep k.toNat xs)) else none := rfl
@[simp] theorem bDiv_i (i j : Int) : bDiv (.int i) (.int j) = if divOk j = true then some (.int (i / j)) else none := rfl
@[simp] theorem bMod_i (i j : Int) : bMod (.int i) (.int j) = if 0 < j then some (.int (i % j)) else none := rfl
@[simp] theorem uNeg_i (i : Int) : uNeg (.int i) = some (.int (-i)) := rfl
@[simp] theorem aAdd_i (i j : Int) : aAdd (.int i) (.int j) = some (.int (i + j)) := rfl
@[simp] theorem aSub_i (i j : Int) : aSub (.int i) (.int j) = some (.int (i - j)) := rfl
theorem cEq_of {d e : PyData} (h : eqS d e = none) (h1 : SeqAt.shaped d = true) (h2 : SeqAt.shaped e = true) : cEq d e = some (.bool (PyData.eqv d e)) := by
  unfold cEq
  rw [h, if_neg (by decide), if_pos ⟨h1, h2⟩]
theorem cNe_of {d e : PyData} (h : eqS d e = none) (h1 : SeqAt.shaped d = true) (h2 : SeqAt.shaped e = true) : cNe d e = some (.bool (!PyData.eqv d e)) := by
  unfold cNe
  rw [h, if_neg (by decide), if_pos ⟨h1, h2⟩]
theorem eqv_int (i j : Int) : PyData.eqv (.int i) (.int j) = decide (i = j) := by
  by_cases h : i = j
  · subst h; simp [PyData.eqv]
  · simp [PyData.eqv, h]
@[simp] theorem cEq_i (i j : Int) : cEq (.int i) (.int j) = some (.bool (decide (i = j))) := by
  rw [cEq_of rfl rfl rfl, eqv_int]
@[simp] theorem cNe_i (i j : Int) : cNe (.int i) (.int j) = some (.bool (!decide (i = j))) := by
  rw [cNe_of rfl rfl rfl, eqv_int]
theorem eqv_bool (i j : Bool) : PyData.eqv (.bool i) (.bool j) = (i == j) := by cases i <;> cases j <;> rfl
@[simp] theorem cEq_b (i j : Bool) : cEq (.bool i) (.bool j) = some (.bool (i == j)) := by
  rw [cEq_of rfl rfl rfl, eqv_bool]
@[simp] theorem cNe_b (i j : Bool) : cNe (.bool i) (.bool j) = some (.bool (!(i == j))) := by
  rw [cNe_of rfl rfl rfl, eqv_bool]
@[simp] theorem cEq_s (x y : Str) : cEq (.str x) (.str y) = some (.bool (x == y)) := rfl
@[simp] theorem cNe_s (x y : Str) : cNe (.str x) (.str y) = some (.bool (!(x == y))) := rfl
@[simp] theorem cLt_i (i j : Int) : cLt (.int i) (.int j) = some (.bool (decide (i < j))) := rfl
@[simp] theorem cInt_i (p : Int → Int → Bool) (i j : Int) : cInt p (.int i) (.int j) = some (.bool (p i j)) := rfl
@[simp] theorem cLe_i (i j : Int) : cLe (.int i) (.int j) = some (.bool (decide (i ≤ j))) := rfl
@[simp] theorem cGe_i (i j : Int) : cGe (.int i) (.int j) = some (.bool (decide (j ≤ i))) := rfl
@[simp] theorem cGt_i (i j : Int) : cGt (.int i) (.int j) = some (.bool (decide (j < i))) := rfl
@[simp] theorem fInt_i (i : Int) : fInt [.int i] = some (.int i) := rfl
@[simp] theorem fInt_b (b : Bool) : fInt [.bool b] = some (.int (if b then 1 else 0)) := rfl
@[simp] theorem fAbs_i (i : Int) : fAbs [.int i] = some (.int (if i < 0 then -i else i)) := rfl
@[simp] theorem fMax_i (i j : Int) : fMax [.int i, .int j] = some (.int (if j > i then j else i)) := rfl
@[simp] theorem fGcd_i (i j : Int) : fGcd [.int i, .int j] = some (.int (Int.gcd i j : Int)) := rfl
@[simp] theorem fLen_l (xs : List PyData) : fLen [.list xs] = some (.int xs.length) := rfl
@[simp] theorem fLen_t (xs : List PyData) : fLen [.tuple xs] = some (.int xs.length) := rfl
@[simp] theorem fTuple_l (xs : List PyData) : fTuple [.list xs] = some (.tuple xs) := rfl
@[simp] theorem fTuple_t (xs : List PyData) : fTuple [.tuple xs] = some (.tuple xs) := rfl
@[simp] theorem fList_l (xs : List PyData) : fList [.list xs] = some (.list xs) := rfl
@[simp] theorem fList_t (xs : List PyData) : fList [.tuple xs] = some (.list xs) := rfl
@[simp] theorem fAll_s (xs : List PyData) : fAll [.list xs] = (asBools xs).map fun l => .bool (l.all id) := rfl
@[simp] theorem fAny_s (xs : List PyData) : fAny [.list xs] = (asBools xs).map fun l => .bool (l.any id) := rfl
@[simp] theorem asBools_nil : asBools [] = some [] := rfl
@[simp] theorem asBools_cons (b : Bool) (r : List PyData) : asBools (.bool b :: r) = (asBools r).map fun l => b :: l := rfl
@[simp] theorem bIx_t (xs : List PyData) (i : Int) : bIx (.tuple xs) (.int i) = L2.atI xs i := rfl
@[simp] theorem bIx_l (xs : List PyData) (i : Int) : bIx (.list xs) (.int i) = L2.atI xs i := rfl
theorem atI_nn {xs : List PyData} {i : Int} (h : 0 ≤ i) : L2.atI xs i = xs[i.toNat]? := by
  unfold L2.atI L2.ixN
  rw [if_pos h]
  by_cases h2 : i < xs.length
  · rw [if_pos h2]
    rfl
  · rw [if_neg h2, List.getElem?_eq_none (by omega)]
    rfl
@[simp] theorem atI_0 (x : PyData) (xs : List PyData) : L2.atI (x :: xs) 0 = some x := by rw [atI_nn (by decide)]; rfl
@[simp] theorem atI_1 (x y : PyData) (xs : List PyData) : L2.atI (x :: y :: xs) 1 = some y := by rw [atI_nn (by decide)]; rfl
@[simp] theorem atI_2 (x y z : PyData) (xs : List PyData) : L2.atI (x :: y :: z :: xs) 2 = some z := by rw [atI_nn (by decide)]; rfl
@[simp] theorem oTup_s (ds : List PyData) : oTup ds = if ds.length ≤ sizeLine then some (.tuple ds) else none := rfl
@[simp] theorem oLst_s (ds : List PyData) : oLst ds = if ds.length ≤ sizeLine then some (.list ds) else none := rfl
@[simp] theorem size_big : sizeLine = 16777216 := by decide
theorem log2_small {n : Nat} (h : n < 2 ^ 200) : n.log2 < 200 := by
  by_cases h0 : n = 0
  · subst h0; decide
  · exact (Nat.log2_lt h0).mpr h
theorem mulOk_of {i j : Int} (hi : -(2 ^ 200) < i) (hi2 : i < 2 ^ 200) (hj : -(2 ^ 200) < j) (hj2 : j < 2 ^ 200) : mulOk i j = true := by
  have a := log2_small (n := i.natAbs) (by omega)
  have b := log2_small (n := j.natAbs) (by omega)
  unfold mulOk
  simp only [decide_eq_true_eq]
  omega
theorem divOk_of {j : Int} (h : 0 < j) (hj : j < 2 ^ 200) : divOk j = true := by
  unfold divOk
  have a := log2_small (n := j.natAbs) (by omega)
  simp only [Bool.and_eq_true, decide_eq_true_eq]
  exact ⟨h, by omega⟩
end Dv
set_option Elab.async false
set_option linter.all false
set_option maxRecDepth 100000
set_option maxHeartbeats 4000000
/-! Part 16: what does not ask the source does not see it. -/
namespace Dv
open PySem PySem.Spec

inductive Oz where
  | nx (ρ : Rho)
  | rt (d : PyData)
  | bk (ρ : Rho)
  | ct (ρ : Rho)
def Oz.at (W : Src) : Oz → Out
  | .nx ρ => .nx ρ W
  | .rt d => .rt d W
  | .bk ρ => .bk ρ W
  | .ct ρ => .ct ρ W
structure PuE (f : Ex) : Prop where
  h : ∀ ρ, ∃ o : Option PyData, ∀ W, f ρ W = o.map fun d => (d, W)
structure PuT (f : Tx) : Prop where
  h : ∀ ρ, ∃ o : Option Bool, ∀ W, f ρ W = o.map fun d => (d, W)
structure PuL (f : Lx) : Prop where
  h : ∀ ρ, ∃ o : Option (List PyData), ∀ W, f ρ W = o.map fun d => (d, W)
structure PuP (f : Px) : Prop where
  h : ∀ ρ, ∃ o : Option (Option Int), ∀ W, f ρ W = o.map fun d => (d, W)
structure PuA (f : Ax) : Prop where
  h : ∀ ρ, ∃ o : Option (List Ar), ∀ W, f ρ W = o.map fun d => (d, W)
structure PuC (f : Ctr) : Prop where
  h : ∀ as, ∃ o : Option PyData, ∀ W, f as W = o.map fun d => (d, W)
structure PuS (f : Sx) : Prop where
  h : ∀ ρ, ∃ o : Option Oz, ∀ W, f ρ W = o.map fun z => z.at W
theorem PuE.get {f : Ex} (p : PuE f) {ρ : Rho} {W0 W1 : Src} {d : PyData} (h : f ρ W0 = some (d, W1)) (W : Src) : f ρ W = some (d, W) := by
  obtain ⟨o, e⟩ := p.h ρ
  cases o with
  | none => rw [e] at h; cases h
  | some x => rw [e] at h; cases h; rw [e]; rfl
theorem PuT.get {f : Tx} (p : PuT f) {ρ : Rho} {W0 W1 : Src} {d : Bool} (h : f ρ W0 = some (d, W1)) (W : Src) : f ρ W = some (d, W) := by
  obtain ⟨o, e⟩ := p.h ρ
  cases o with
  | none => rw [e] at h; cases h
  | some x => rw [e] at h; cases h; rw [e]; rfl
theorem PuC.get {f : Ctr} (p : PuC f) {as : List Ar} {W0 W1 : Src} {d : PyData} (h : f as W0 = some (d, W1)) (W : Src) : f as W = some (d, W) := by
  obtain ⟨o, e⟩ := p.h as
  cases o with
  | none => rw [e] at h; cases h
  | some x => rw [e] at h; cases h; rw [e]; rfl
theorem PuS.getNx {f : Sx} (p : PuS f) {ρ ρ1 : Rho} {W0 W1 : Src} (h : f ρ W0 = some (.nx ρ1 W1)) (W : Src) : f ρ W = some (.nx ρ1 W) := by
  obtain ⟨o, e⟩ := p.h ρ
  cases o with
  | none => rw [e] at h; cases h
  | some x =>
    rw [e] at h
    cases x <;> cases h
    rw [e]
    rfl
theorem PuS.getRt {f : Sx} (p : PuS f) {ρ : Rho} {d : PyData} {W0 W1 : Src} (h : f ρ W0 = some (.rt d W1)) (W : Src) : f ρ W = some (.rt d W) := by
  obtain ⟨o, e⟩ := p.h ρ
  cases o with
  | none => rw [e] at h; cases h
  | some x =>
    rw [e] at h
    cases x <;> cases h
    rw [e]
    rfl
section
variable {a b c f g : Ex} {t u : Tx} {l r : Lx} {p q : Px} {x y : Ax} {s s' : Sx} {op : PyData → Option PyData} {op2 op2' : PyData → PyData → Option PyData} {opn : List PyData → Option PyData}
theorem pu_eC (d : PyData) : PuE (eC d) := ⟨fun ρ => ⟨some d, fun W => rfl⟩⟩
theorem pu_eVar (i : Nat) : PuE (eVar i) := ⟨fun ρ => by
  cases h : ρ[i]? with
  | none => exact ⟨none, fun W => by simp [h]⟩
  | some z => cases z with
    | no => exact ⟨none, fun W => by simp [h]⟩
    | src => exact ⟨none, fun W => by simp [h]⟩
    | d x => exact ⟨some x, fun W => by simp [h]⟩
    | own xs => exact ⟨some (.list xs), fun W => by simp [h]⟩⟩
theorem pu_eVal (i : Nat) : PuE (eVal i) := ⟨fun ρ => by
  cases h : ρ[i]? with
  | none => exact ⟨none, fun W => by simp [h]⟩
  | some z => cases z with
    | no => exact ⟨none, fun W => by simp [h]⟩
    | src => exact ⟨none, fun W => by simp [h]⟩
    | d x => exact ⟨some x, fun W => by simp [h]⟩
    | own xs => exact ⟨none, fun W => by simp [h]⟩⟩
theorem pu_e1 (ha : PuE a) : PuE (e1 op a) := ⟨fun ρ => by
  obtain ⟨o, h⟩ := ha.h ρ
  cases o with
  | none => exact ⟨none, fun W => by simp [h]⟩
  | some v => exact ⟨op v, fun W => by simp [h]⟩⟩
theorem pu_e2 (ha : PuE a) (hb : PuE b) : PuE (e2 op2 a b) := ⟨fun ρ => by
  obtain ⟨o, h⟩ := ha.h ρ
  obtain ⟨o', h'⟩ := hb.h ρ
  cases o with
  | none => exact ⟨none, fun W => by simp [h]⟩
  | some v => cases o' with
    | none => exact ⟨none, fun W => by simp [h, h']⟩
    | some v' => exact ⟨op2 v v', fun W => by simp [h, h']⟩⟩
theorem pu_eN (hl : PuL l) : PuE (eN opn l) := ⟨fun ρ => by
  obtain ⟨o, h⟩ := hl.h ρ
  cases o with
  | none => exact ⟨none, fun W => by simp [h]⟩
  | some v => exact ⟨opn v, fun W => by simp [h]⟩⟩
theorem pu_lNil : PuL lNil := ⟨fun ρ => ⟨some [], fun W => rfl⟩⟩
theorem pu_lCons (ha : PuE a) (hr : PuL r) : PuL (lCons a r) := ⟨fun ρ => by
  obtain ⟨o, h⟩ := ha.h ρ
  obtain ⟨o', h'⟩ := hr.h ρ
  cases o with
  | none => exact ⟨none, fun W => by simp [h]⟩
  | some v => cases o' with
    | none => exact ⟨none, fun W => by simp [h, h']⟩
    | some v' => exact ⟨some (v :: v'), fun W => by simp [h, h']⟩⟩
theorem pu_eIf (ht : PuT t) (ha : PuE a) (hb : PuE b) : PuE (eIf t a b) := ⟨fun ρ => by
  obtain ⟨o, h⟩ := ht.h ρ
  obtain ⟨o1, h1⟩ := ha.h ρ
  obtain ⟨o2, h2⟩ := hb.h ρ
  cases o with
  | none => exact ⟨none, fun W => by simp [h]⟩
  | some v => cases v with
    | true => exact ⟨o1, fun W => by simp [h, h1]⟩
    | false => exact ⟨o2, fun W => by simp [h, h2]⟩⟩
theorem pu_tOf (ha : PuE a) : PuT (tOf a) := ⟨fun ρ => by
  obtain ⟨o, h⟩ := ha.h ρ
  cases o with
  | none => exact ⟨none, fun W => by simp [h]⟩
  | some v => cases v with
    | bool b => exact ⟨some b, fun W => by simp [h]⟩
    | _ => exact ⟨none, fun W => by simp [h]⟩⟩
theorem pu_tNeg (ht : PuT t) : PuT (tNeg t) := ⟨fun ρ => by
  obtain ⟨o, h⟩ := ht.h ρ
  cases o with
  | none => exact ⟨none, fun W => by simp [h]⟩
  | some v => exact ⟨some !v, fun W => by simp [h]⟩⟩
theorem pu_tAnd2 (ht : PuT t) (hu : PuT u) : PuT (tAnd2 t u) := ⟨fun ρ => by
  obtain ⟨o, h⟩ := ht.h ρ
  obtain ⟨o', h'⟩ := hu.h ρ
  cases o with
  | none => exact ⟨none, fun W => by simp [h]⟩
  | some v => cases v with
    | true => exact ⟨o', fun W => by simp [h, h']⟩
    | false => exact ⟨some false, fun W => by simp [h]⟩⟩
theorem pu_tOr2 (ht : PuT t) (hu : PuT u) : PuT (tOr2 t u) := ⟨fun ρ => by
  obtain ⟨o, h⟩ := ht.h ρ
  obtain ⟨o', h'⟩ := hu.h ρ
  cases o with
  | none => exact ⟨none, fun W => by simp [h]⟩
  | some v => cases v with
    | true => exact ⟨some true, fun W => by simp [h]⟩
    | false => exact ⟨o', fun W => by simp [h, h']⟩⟩
theorem pu_eAnd2 (ha : PuE a) (hb : PuE b) : PuE (eAnd2 a b) := ⟨fun ρ => by
  obtain ⟨o, h⟩ := ha.h ρ
  obtain ⟨o', h'⟩ := hb.h ρ
  cases o with
  | none => exact ⟨none, fun W => by simp [h]⟩
  | some v => cases v with
    | bool z => cases z with
      | true => exact ⟨o', fun W => by simp [h, h']⟩
      | false => exact ⟨some (.bool false), fun W => by simp [h]⟩
    | _ => exact ⟨none, fun W => by simp [h]⟩⟩
theorem pu_eOr2 (ha : PuE a) (hb : PuE b) : PuE (eOr2 a b) := ⟨fun ρ => by
  obtain ⟨o, h⟩ := ha.h ρ
  obtain ⟨o', h'⟩ := hb.h ρ
  cases o with
  | none => exact ⟨none, fun W => by simp [h]⟩
  | some v => cases v with
    | bool z => cases z with
      | false => exact ⟨o', fun W => by simp [h, h']⟩
      | true => exact ⟨some (.bool true), fun W => by simp [h]⟩
    | _ => exact ⟨none, fun W => by simp [h]⟩⟩
theorem pu_eNot (ha : PuE a) : PuE (eNot a) := ⟨fun ρ => by
  obtain ⟨o, h⟩ := ha.h ρ
  cases o with
  | none => exact ⟨none, fun W => by simp [h]⟩
  | some v => cases v with
    | bool b => exact ⟨some (.bool !b), fun W => by simp [h]⟩
    | _ => exact ⟨none, fun W => by simp [h]⟩⟩
theorem pu_eChain (ha : PuE a) (hb : PuE b) (hc : PuE c) : PuE (eChain op2 op2' a b c) := ⟨fun ρ => by
  obtain ⟨o, h⟩ := ha.h ρ
  obtain ⟨o1, h1⟩ := hb.h ρ
  obtain ⟨o2, h2⟩ := hc.h ρ
  cases o with
  | none => exact ⟨none, fun W => by simp [h]⟩
  | some v => cases o1 with
    | none => exact ⟨none, fun W => by simp [h, h1]⟩
    | some v1 =>
      cases q : op2 v v1 with
      | none => exact ⟨none, fun W => by simp [h, h1, q]⟩
      | some z => cases z with
        | bool z => cases z with
          | false => exact ⟨some (.bool false), fun W => by simp [h, h1, q]⟩
          | true => cases o2 with
            | none => exact ⟨none, fun W => by simp [h, h1, h2, q]⟩
            | some v2 => exact ⟨op2' v1 v2, fun W => by simp [h, h1, h2, q]⟩
        | _ => exact ⟨none, fun W => by simp [h, h1, q]⟩⟩
theorem pu_pNo : PuP pNo := ⟨fun ρ => ⟨some none, fun W => rfl⟩⟩
theorem pu_pOf (ha : PuE a) : PuP (pOf a) := ⟨fun ρ => by
  obtain ⟨o, h⟩ := ha.h ρ
  cases o with
  | none => exact ⟨none, fun W => by simp [h]⟩
  | some v => cases v with
    | int i => exact ⟨some (some i), fun W => by simp [h]⟩
    | _ => exact ⟨none, fun W => by simp [h]⟩⟩
theorem pu_eSl (ha : PuE a) (hp : PuP p) (hq : PuP q) : PuE (eSl a p q) := ⟨fun ρ => by
  obtain ⟨o, h⟩ := ha.h ρ
  obtain ⟨o1, h1⟩ := hp.h ρ
  obtain ⟨o2, h2⟩ := hq.h ρ
  cases o with
  | none => exact ⟨none, fun W => by simp [h]⟩
  | some v => cases o1 with
    | none => exact ⟨none, fun W => by simp [h, h1]⟩
    | some v1 => cases o2 with
      | none => exact ⟨none, fun W => by simp [h, h1, h2]⟩
      | some v2 => exact ⟨oSl v v1 v2, fun W => by simp [h, h1, h2]⟩⟩
theorem pu_aNil : PuA aNil := ⟨fun ρ => ⟨some [], fun W => rfl⟩⟩
theorem pu_aCons (ha : PuE a) (hr : PuA x) : PuA (aCons a x) := ⟨fun ρ => by
  obtain ⟨o, h⟩ := ha.h ρ
  obtain ⟨o', h'⟩ := hr.h ρ
  cases o with
  | none => exact ⟨none, fun W => by simp [h]⟩
  | some v => cases o' with
    | none => exact ⟨none, fun W => by simp [h, h']⟩
    | some v' => exact ⟨some (.d v :: v'), fun W => by simp [h, h']⟩⟩
theorem pu_eCall {φ : Ctr} (hφ : PuC φ) (hx : PuA x) : PuE (eCall φ x) := ⟨fun ρ => by
  obtain ⟨o, h⟩ := hx.h ρ
  cases o with
  | none => exact ⟨none, fun W => by simp [h]⟩
  | some v =>
    obtain ⟨o', h'⟩ := hφ.h v
    exact ⟨o', fun W => by simp [h, h']⟩⟩
theorem pu_tYs : PuT tYs := ⟨fun ρ => ⟨some true, fun W => rfl⟩⟩
theorem pu_iSeq (ha : PuE a) : PuL (iSeq a) := ⟨fun ρ => by
  obtain ⟨o, h⟩ := ha.h ρ
  cases o with
  | none => exact ⟨none, fun W => by simp [h]⟩
  | some v => cases v with
    | list xs => exact ⟨some xs, fun W => by simp [h]⟩
    | tuple xs => exact ⟨some xs, fun W => by simp [h]⟩
    | _ => exact ⟨none, fun W => by simp [h]⟩⟩
theorem pu_iR1 (ha : PuE a) : PuL (iR1 a) := ⟨fun ρ => by
  obtain ⟨o, h⟩ := ha.h ρ
  cases o with
  | none => exact ⟨none, fun W => by simp [h]⟩
  | some v => cases v with
    | int j =>
      by_cases q : big62 j = true
      · exact ⟨some (rng 0 j.toNat), fun W => by simp [h, q]⟩
      · exact ⟨none, fun W => by simp [h, q]⟩
    | _ => exact ⟨none, fun W => by simp [h]⟩⟩
theorem pu_iR2 (ha : PuE a) (hb : PuE b) : PuL (iR2 a b) := ⟨fun ρ => by
  obtain ⟨o, h⟩ := ha.h ρ
  obtain ⟨o', h'⟩ := hb.h ρ
  cases o with
  | none => exact ⟨none, fun W => by simp [h]⟩
  | some v => cases v with
    | int i => cases o' with
      | none => exact ⟨none, fun W => by simp [h, h']⟩
      | some v' => cases v' with
        | int j =>
          by_cases q : big62 i = true ∧ big62 j = true
          · exact ⟨some (rng i (j - i).toNat), fun W => by simp [h, h', q]⟩
          · exact ⟨none, fun W => by simp only [iR2_s, h, h', Option.map_some, if_neg q]; rfl⟩
        | _ => exact ⟨none, fun W => by simp [h, h']⟩
    | _ => exact ⟨none, fun W => by simp [h]⟩⟩
theorem pu_cmpL {gx : Gx} (ht : PuT t) (he : PuE f) : ∀ (ds acc : List PyData) (ρ : Rho), ∃ o : Option (List PyData), ∀ W, cmpL gx t f ρ ds acc W = o.map fun d => (d, W)
  | [], acc, ρ => ⟨some acc, fun W => rfl⟩
  | d :: ds, acc, ρ => by
    cases q : gx d ρ with
    | none => exact ⟨none, fun W => by simp [q]⟩
    | some ρ1 =>
      obtain ⟨o, h⟩ := ht.h ρ1
      obtain ⟨o', h'⟩ := he.h ρ1
      cases o with
      | none => exact ⟨none, fun W => by simp [q, h]⟩
      | some v => cases v with
        | false =>
          obtain ⟨o2, h2⟩ := pu_cmpL (gx := gx) ht he ds acc ρ
          exact ⟨o2, fun W => by simp [q, h, h2]⟩
        | true => cases o' with
          | none => exact ⟨none, fun W => by simp [q, h, h']⟩
          | some z =>
            obtain ⟨o2, h2⟩ := pu_cmpL (gx := gx) ht he ds (acc ++ [z]) ρ
            by_cases w : acc.length < sizeLine
            · exact ⟨o2, fun W => by simp only [cmpL_cons, q, h, h', Option.map_some, if_pos w, h2]⟩
            · exact ⟨none, fun W => by simp only [cmpL_cons, q, h, h', Option.map_some, if_neg w]; rfl⟩
theorem pu_eComp {gx : Gx} {vs : List Nat} (hl : PuL l) (ht : PuT t) (he : PuE f) : PuE (eComp vs l gx t f) := ⟨fun ρ => by
  obtain ⟨o, h⟩ := hl.h ρ
  cases o with
  | none => exact ⟨none, fun W => by simp [h]⟩
  | some ds =>
    obtain ⟨o2, h2⟩ := pu_cmpL (gx := gx) ht he ds [] (wipeR ρ vs)
    cases o2 with
    | none => exact ⟨none, fun W => by simp [h, h2]⟩
    | some xs => exact ⟨some (.list xs), fun W => by simp [h, h2]⟩⟩
theorem pu_s0 : PuS s0 := ⟨fun ρ => ⟨some (.nx ρ), fun W => rfl⟩⟩
theorem pu_sPass : PuS sPass := pu_s0
theorem pu_sBreak : PuS sBreak := ⟨fun ρ => ⟨some (.bk ρ), fun W => rfl⟩⟩
theorem pu_sCont : PuS sCont := ⟨fun ρ => ⟨some (.ct ρ), fun W => rfl⟩⟩
theorem pu_sStuck : PuS sStuck := ⟨fun ρ => ⟨none, fun W => rfl⟩⟩
theorem pu_sRetN : PuS sRetN := ⟨fun ρ => ⟨some (.rt .none), fun W => rfl⟩⟩
theorem pu_sC (h1 : PuS s) (h2 : PuS s') : PuS (sC s s') := ⟨fun ρ => by
  obtain ⟨o, h⟩ := h1.h ρ
  cases o with
  | none => exact ⟨none, fun W => by simp [h]⟩
  | some z => cases z with
    | nx ρ1 =>
      obtain ⟨o', h'⟩ := h2.h ρ1
      exact ⟨o', fun W => by simp [h, h', Oz.at]⟩
    | rt d => exact ⟨some (.rt d), fun W => by simp [h, Oz.at]⟩
    | bk ρ1 => exact ⟨some (.bk ρ1), fun W => by simp [h, Oz.at]⟩
    | ct ρ1 => exact ⟨some (.ct ρ1), fun W => by simp [h, Oz.at]⟩⟩
theorem pu_sRet (ha : PuE a) : PuS (sRet a) := ⟨fun ρ => by
  obtain ⟨o, h⟩ := ha.h ρ
  cases o with
  | none => exact ⟨none, fun W => by simp [h]⟩
  | some v => exact ⟨some (.rt v), fun W => by simp [h, Oz.at]⟩⟩
theorem pu_sIf (ht : PuT t) (h1 : PuS s) (h2 : PuS s') : PuS (sIf t s s') := ⟨fun ρ => by
  obtain ⟨o, h⟩ := ht.h ρ
  obtain ⟨o1, h1⟩ := h1.h ρ
  obtain ⟨o2, h2⟩ := h2.h ρ
  cases o with
  | none => exact ⟨none, fun W => by simp [h]⟩
  | some v => cases v with
    | true => exact ⟨o1, fun W => by simp [h, h1]⟩
    | false => exact ⟨o2, fun W => by simp [h, h2]⟩⟩
theorem pu_sDrop (ha : PuE a) : PuS (sDrop a) := ⟨fun ρ => by
  obtain ⟨o, h⟩ := ha.h ρ
  cases o with
  | none => exact ⟨none, fun W => by simp [h]⟩
  | some v => exact ⟨some (.nx ρ), fun W => by simp [h, Oz.at]⟩⟩
theorem pu_sSet {gx : Gx} (ha : PuE a) : PuS (sSet gx a) := ⟨fun ρ => by
  obtain ⟨o, h⟩ := ha.h ρ
  cases o with
  | none => exact ⟨none, fun W => by simp [h]⟩
  | some v =>
    cases q : gx v ρ with
    | none => exact ⟨none, fun W => by simp [h, q]⟩
    | some ρ1 => exact ⟨some (.nx ρ1), fun W => by simp [h, q, Oz.at]⟩⟩
theorem pu_sNew {i : Nat} (ha : PuE a) : PuS (sNew i a) := ⟨fun ρ => by
  obtain ⟨o, h⟩ := ha.h ρ
  cases o with
  | none => exact ⟨none, fun W => by simp [h]⟩
  | some v => cases v with
    | list xs => exact ⟨some (.nx (ρ.set i (.own xs))), fun W => by simp [h, Oz.at]⟩
    | none => exact ⟨some (.nx (ρ.set i (.d .none))), fun W => by simp [h, Oz.at]⟩
    | bool z => exact ⟨some (.nx (ρ.set i (.d (.bool z)))), fun W => by simp [h, Oz.at]⟩
    | int z => exact ⟨some (.nx (ρ.set i (.d (.int z)))), fun W => by simp [h, Oz.at]⟩
    | str z => exact ⟨some (.nx (ρ.set i (.d (.str z)))), fun W => by simp [h, Oz.at]⟩
    | tuple z => exact ⟨some (.nx (ρ.set i (.d (.tuple z)))), fun W => by simp [h, Oz.at]⟩
    | dict z => exact ⟨some (.nx (ρ.set i (.d (.dict z)))), fun W => by simp [h, Oz.at]⟩⟩
theorem pu_sPut {n : Bool} {i : Nat} (ha : PuE a) : PuS (sPut n i a) := by
  cases n
  · exact pu_sSet (gx := gN i) ha
  · exact pu_sNew ha
theorem pu_sFrz {is : List Nat} (h1 : PuS s) : PuS (sFrz is s) := ⟨fun ρ => h1.h (frzs is ρ)⟩
theorem pu_sAfter {vs : List Nat} (h1 : PuS s) : PuS (sAfter vs s) := ⟨fun ρ => by
  obtain ⟨o, h⟩ := h1.h ρ
  cases o with
  | none => exact ⟨none, fun W => by simp [h]⟩
  | some z => cases z with
    | nx ρ1 => exact ⟨some (.nx (wipeR ρ1 vs)), fun W => by simp [h, Oz.at]⟩
    | rt d => exact ⟨some (.rt d), fun W => by simp [h, Oz.at]⟩
    | bk ρ1 => exact ⟨some (.bk ρ1), fun W => by simp [h, Oz.at]⟩
    | ct ρ1 => exact ⟨some (.ct ρ1), fun W => by simp [h, Oz.at]⟩⟩
theorem pu_sApp {i : Nat} (ha : PuE a) : PuS (sApp i a) := ⟨fun ρ => by
  obtain ⟨o, h⟩ := ha.h ρ
  cases o with
  | none => exact ⟨none, fun W => by simp [h]⟩
  | some v =>
    cases q : ρ[i]? with
    | none => exact ⟨none, fun W => by simp [h, q]⟩
    | some z => cases z with
      | own xs =>
        by_cases w : xs.length < sizeLine
        · exact ⟨some (.nx (ρ.set i (.own (xs ++ [v])))), fun W => by simp only [sApp_s, h, q, Option.map_some, if_pos w]; rfl⟩
        · exact ⟨none, fun W => by simp only [sApp_s, h, q, Option.map_some, if_neg w]; rfl⟩
      | _ => exact ⟨none, fun W => by simp [h, q]⟩⟩
theorem pu_sAug {i : Nat} (ha : PuE a) : PuS (sAug i op2 a) := ⟨fun ρ => by
  obtain ⟨o, h⟩ := ha.h ρ
  cases q : ρ[i]? with
  | none => exact ⟨none, fun W => by simp [q]⟩
  | some z => cases z with
    | d x => cases o with
      | none => exact ⟨none, fun W => by simp [h, q]⟩
      | some v =>
        cases w : op2 x v with
        | none => exact ⟨none, fun W => by simp [h, q, w]⟩
        | some r => exact ⟨some (.nx (ρ.set i (.d r))), fun W => by simp [h, q, w, Oz.at]⟩
    | _ => exact ⟨none, fun W => by simp [q]⟩⟩
theorem pu_sPars {is : List Nat} {fs : List Nx} (hl : PuL (lx fs)) : PuS (sPars is fs) := ⟨fun ρ => by
  obtain ⟨o, h⟩ := hl.h ρ
  cases o with
  | none => exact ⟨none, fun W => by simp [h]⟩
  | some ds =>
    cases q : puts is (fs.map (·.1)) ds ρ with
    | none => exact ⟨none, fun W => by simp [h, q]⟩
    | some ρ1 => exact ⟨some (.nx ρ1), fun W => by simp [h, q, Oz.at]⟩⟩
theorem pu_forL {gx : Gx} (hb : PuS s) : ∀ (ds : List PyData) (ρ : Rho), ∃ o : Option Oz, ∀ W, forL gx s ds ρ W = o.map fun z => z.at W
  | [], ρ => ⟨some (.nx ρ), fun W => rfl⟩
  | d :: ds, ρ => by
    cases q : gx d ρ with
    | none => exact ⟨none, fun W => by simp [forL_cons, q]⟩
    | some ρ1 =>
      obtain ⟨o, h⟩ := hb.h ρ1
      cases o with
      | none => exact ⟨none, fun W => by simp [forL_cons, q, h]⟩
      | some z => cases z with
        | nx ρ2 =>
          obtain ⟨o', h'⟩ := pu_forL (gx := gx) hb ds ρ2
          exact ⟨o', fun W => by simp [forL_cons, q, h, h', Oz.at]⟩
        | ct ρ2 =>
          obtain ⟨o', h'⟩ := pu_forL (gx := gx) hb ds ρ2
          exact ⟨o', fun W => by simp [forL_cons, q, h, h', Oz.at]⟩
        | bk ρ2 => exact ⟨some (.nx ρ2), fun W => by simp [forL_cons, q, h, Oz.at]⟩
        | rt d => exact ⟨some (.rt d), fun W => by simp [forL_cons, q, h, Oz.at]⟩
theorem pu_sFor {gx : Gx} (hl : PuL l) (hb : PuS s) : PuS (sFor l gx s) := ⟨fun ρ => by
  obtain ⟨o, h⟩ := hl.h ρ
  cases o with
  | none => exact ⟨none, fun W => by simp [h]⟩
  | some ds =>
    obtain ⟨o', h'⟩ := pu_forL (gx := gx) hb ds ρ
    exact ⟨o', fun W => by simp [h, h']⟩⟩
theorem pu_whL {fz : List Nat} (ht : PuT t) (hb : PuS s) : ∀ n : Nat, PuS (whL fz t s n)
  | 0 => ⟨fun ρ => ⟨none, fun W => rfl⟩⟩
  | n + 1 => ⟨fun ρ => by
    obtain ⟨o, h⟩ := ht.h (frzs fz ρ)
    cases o with
    | none => exact ⟨none, fun W => by simp [whL_succ, h]⟩
    | some v => cases v with
      | false => exact ⟨some (.nx (frzs fz ρ)), fun W => by simp [whL_succ, h, Oz.at]⟩
      | true =>
        obtain ⟨o1, h1⟩ := hb.h (frzs fz ρ)
        cases o1 with
        | none => exact ⟨none, fun W => by simp [whL_succ, h, h1]⟩
        | some z => cases z with
          | nx ρ2 =>
            obtain ⟨o', h'⟩ := (pu_whL (fz := fz) ht hb n).h ρ2
            exact ⟨o', fun W => by simp [whL_succ, h, h1, h', Oz.at]⟩
          | ct ρ2 =>
            obtain ⟨o', h'⟩ := (pu_whL (fz := fz) ht hb n).h ρ2
            exact ⟨o', fun W => by simp [whL_succ, h, h1, h', Oz.at]⟩
          | bk ρ2 => exact ⟨some (.nx ρ2), fun W => by simp [whL_succ, h, h1, Oz.at]⟩
          | rt d => exact ⟨some (.rt d), fun W => by simp [whL_succ, h, h1, Oz.at]⟩⟩
theorem pu_wfn {n m : Nat} (hs : PuS s) : PuC (wfn n m s) := ⟨fun as => by
  by_cases c : as.length = n
  · obtain ⟨o, h⟩ := hs.h (as.map slOf ++ List.replicate (m - as.length) .no)
    cases o with
    | none => exact ⟨none, fun W => by simp only [wfn, if_pos c, h]; rfl⟩
    | some z => cases z with
      | nx ρ1 => exact ⟨some .none, fun W => by simp only [wfn, if_pos c, h]; rfl⟩
      | rt d => exact ⟨some d, fun W => by simp only [wfn, if_pos c, h]; rfl⟩
      | bk ρ1 => exact ⟨none, fun W => by simp only [wfn, if_pos c, h]; rfl⟩
      | ct ρ1 => exact ⟨none, fun W => by simp only [wfn, if_pos c, h]; rfl⟩
  · exact ⟨none, fun W => by simp only [wfn, if_neg c]; rfl⟩⟩
end
end Dv
set_option Elab.async false
set_option linter.all false
set_option maxRecDepth 100000
set_option maxHeartbeats 4000000
/-! What the defs are worth. -/
namespace Lw
open PySem PySem.Spec Dv
/-! is_whole: 0 value -/
def g_is_whole : Sx := sC (sFrz [] (sRet (eAnd2 (e1 (isT "int") (eVar 0)) (eNot (e1 (isT "bool") (eVar 0)))))) s0
def φ_is_whole : Ctr := wfn 1 1 g_is_whole
theorem pu_g_is_whole : PuS g_is_whole := (pu_sC (pu_sFrz (pu_sRet (pu_eAnd2 (pu_e1 (pu_eVar 0)) (pu_eNot (pu_e1 (pu_eVar 0)))))) pu_s0)
theorem pu_φ_is_whole : PuC φ_is_whole := pu_wfn pu_g_is_whole
/-! fraction_low: 0 top, 1 bottom, 2 rest, 3 part -/
def g_fraction_low : Sx := sC (sAfter [0] (sFrz [] (sSet (gN 2) (e2 bMod (eVar 0) (eVar 1))))) (sC (sFrz [] (sSet (gN 3) (eN fGcd (lCons (eVar 2) (lCons (eVar 1) lNil))))) (sC (sFrz [] (sRet (eN oTup (lCons (e2 bDiv (eVar 2) (eVar 3)) (lCons (e2 bDiv (eVar 1) (eVar 3)) lNil))))) s0))
def φ_fraction_low : Ctr := wfn 2 4 g_fraction_low
theorem pu_g_fraction_low : PuS g_fraction_low := (pu_sC (pu_sAfter (pu_sFrz (pu_sSet (pu_e2 (pu_eVar 0) (pu_eVar 1))))) (pu_sC (pu_sFrz (pu_sSet (pu_eN (pu_lCons (pu_eVar 2) (pu_lCons (pu_eVar 1) pu_lNil))))) (pu_sC (pu_sFrz (pu_sRet (pu_eN (pu_lCons (pu_e2 (pu_eVar 2) (pu_eVar 3)) (pu_lCons (pu_e2 (pu_eVar 1) (pu_eVar 3)) pu_lNil))))) pu_s0)))
theorem pu_φ_fraction_low : PuC φ_fraction_low := pu_wfn pu_g_fraction_low
/-! is_point: 0 value, 1 one -/
def g_is_point : Sx := sC (sFrz [0, 1] (sIf (tOr2 (tNeg (tOf (e1 (isT "tuple") (eVar 0)))) (tOr2 (tOf (e2 cNe (eN fLen (lCons (eVar 0) lNil)) (eC (.int 2)))) (tNeg (tOf (eN fAll (lCons (eComp [1] (iSeq (eVal 0)) (gN 1) tYs (eCall φ_is_whole (aCons (eVal 1) aNil))) lNil)))))) (sC (sFrz [] (sRet (eC (.bool false)))) s0) s0)) (sC (sFrz [] (sRet (eAnd2 (eChain cLe cLt (eC (.int 0)) (e2 bIx (eVar 0) (eC (.int 0))) (e2 bIx (eVar 0) (eC (.int 1)))) (e2 cEq (eN fGcd (lCons (e2 bIx (eVar 0) (eC (.int 0))) (lCons (e2 bIx (eVar 0) (eC (.int 1))) lNil))) (eC (.int 1)))))) s0)
def φ_is_point : Ctr := wfn 1 2 g_is_point
theorem pu_g_is_point : PuS g_is_point := (pu_sC (pu_sFrz (pu_sIf (pu_tOr2 (pu_tNeg (pu_tOf (pu_e1 (pu_eVar 0)))) (pu_tOr2 (pu_tOf (pu_e2 (pu_eN (pu_lCons (pu_eVar 0) pu_lNil)) (pu_eC (.int 2)))) (pu_tNeg (pu_tOf (pu_eN (pu_lCons (pu_eComp (pu_iSeq (pu_eVal 0)) pu_tYs (pu_eCall pu_φ_is_whole (pu_aCons (pu_eVal 1) pu_aNil))) pu_lNil)))))) (pu_sC (pu_sFrz (pu_sRet (pu_eC (.bool false)))) pu_s0) pu_s0)) (pu_sC (pu_sFrz (pu_sRet (pu_eAnd2 (pu_eChain (pu_eC (.int 0)) (pu_e2 (pu_eVar 0) (pu_eC (.int 0))) (pu_e2 (pu_eVar 0) (pu_eC (.int 1)))) (pu_e2 (pu_eN (pu_lCons (pu_e2 (pu_eVar 0) (pu_eC (.int 0))) (pu_lCons (pu_e2 (pu_eVar 0) (pu_eC (.int 1))) pu_lNil))) (pu_eC (.int 1)))))) pu_s0))
theorem pu_φ_is_point : PuC φ_is_point := pu_wfn pu_g_is_point
/-! moved: 0 point -/
def g_moved : Sx := sC (sFrz [] (sRet (eCall φ_fraction_low (aCons (e2 bMul (eC (.int 2)) (e2 bIx (eVar 0) (eC (.int 0)))) (aCons (e2 bIx (eVar 0) (eC (.int 1))) aNil))))) s0
def φ_moved : Ctr := wfn 1 1 g_moved
theorem pu_g_moved : PuS g_moved := (pu_sC (pu_sFrz (pu_sRet (pu_eCall pu_φ_fraction_low (pu_aCons (pu_e2 (pu_eC (.int 2)) (pu_e2 (pu_eVar 0) (pu_eC (.int 0)))) (pu_aCons (pu_e2 (pu_eVar 0) (pu_eC (.int 1))) pu_aNil))))) pu_s0)
theorem pu_φ_moved : PuC φ_moved := pu_wfn pu_g_moved
/-! moved_on: 0 point, 1 many, 2 found, 3 by -/
def b_moved_on_1 : Sx := sC (sFrz [] (sIf (tOf (e2 cEq (e2 bMod (eVar 1) (eC (.int 2))) (eC (.int 1)))) (sC (sFrz [] (sSet (gN 2) (e2 bMod (e2 bMul (eVar 2) (eVar 3)) (e2 bIx (eVar 0) (eC (.int 1)))))) s0) s0)) (sC (sFrz [] (sPars [3, 1] [(false, e2 bMod (e2 bMul (eVar 3) (eVar 3)) (e2 bIx (eVar 0) (eC (.int 1)))), (false, e2 bDiv (eVar 1) (eC (.int 2)))])) s0)
def g_moved_on : Sx := sC (sFrz [] (sPars [2, 3] [(false, e2 bIx (eVar 0) (eC (.int 0))), (false, e2 bMod (eC (.int 2)) (e2 bIx (eVar 0) (eC (.int 1))))])) (sC (sAfter [1, 3] (whL [] (tOf (e2 cGt (eVar 1) (eC (.int 0)))) b_moved_on_1 1000)) (sC (sFrz [2] (sRet (eCall φ_fraction_low (aCons (eVal 2) (aCons (e2 bIx (eVar 0) (eC (.int 1))) aNil))))) s0))
def φ_moved_on : Ctr := wfn 2 4 g_moved_on
theorem pu_b_moved_on_1 : PuS b_moved_on_1 := (pu_sC (pu_sFrz (pu_sIf (pu_tOf (pu_e2 (pu_e2 (pu_eVar 1) (pu_eC (.int 2))) (pu_eC (.int 1)))) (pu_sC (pu_sFrz (pu_sSet (pu_e2 (pu_e2 (pu_eVar 2) (pu_eVar 3)) (pu_e2 (pu_eVar 0) (pu_eC (.int 1)))))) pu_s0) pu_s0)) (pu_sC (pu_sFrz (pu_sPars (pu_lCons (pu_e2 (pu_e2 (pu_eVar 3) (pu_eVar 3)) (pu_e2 (pu_eVar 0) (pu_eC (.int 1)))) (pu_lCons (pu_e2 (pu_eVar 1) (pu_eC (.int 2))) pu_lNil)))) pu_s0))
theorem pu_g_moved_on : PuS g_moved_on := (pu_sC (pu_sFrz (pu_sPars (pu_lCons (pu_e2 (pu_eVar 0) (pu_eC (.int 0))) (pu_lCons (pu_e2 (pu_eC (.int 2)) (pu_e2 (pu_eVar 0) (pu_eC (.int 1)))) pu_lNil)))) (pu_sC (pu_sAfter (pu_whL (pu_tOf (pu_e2 (pu_eVar 1) (pu_eC (.int 0)))) pu_b_moved_on_1 _)) (pu_sC (pu_sFrz (pu_sRet (pu_eCall pu_φ_fraction_low (pu_aCons (pu_eVal 2) (pu_aCons (pu_e2 (pu_eVar 0) (pu_eC (.int 1))) pu_aNil))))) pu_s0)))
theorem pu_φ_moved_on : PuC φ_moved_on := pu_wfn pu_g_moved_on
/-! opposite: 0 point -/
def g_opposite : Sx := sC (sFrz [] (sRet (eCall φ_fraction_low (aCons (e2 bAdd (e2 bMul (eC (.int 2)) (e2 bIx (eVar 0) (eC (.int 0)))) (e2 bIx (eVar 0) (eC (.int 1)))) (aCons (e2 bMul (eC (.int 2)) (e2 bIx (eVar 0) (eC (.int 1)))) aNil))))) s0
def φ_opposite : Ctr := wfn 1 1 g_opposite
theorem pu_g_opposite : PuS g_opposite := (pu_sC (pu_sFrz (pu_sRet (pu_eCall pu_φ_fraction_low (pu_aCons (pu_e2 (pu_e2 (pu_eC (.int 2)) (pu_e2 (pu_eVar 0) (pu_eC (.int 0)))) (pu_e2 (pu_eVar 0) (pu_eC (.int 1)))) (pu_aCons (pu_e2 (pu_eC (.int 2)) (pu_e2 (pu_eVar 0) (pu_eC (.int 1)))) pu_aNil))))) pu_s0)
theorem pu_φ_opposite : PuC φ_opposite := pu_wfn pu_g_opposite
/-! way_told: 0 point, 1 odd, 2 ahead, 3 power, 4 many -/
def b_way_told_1 : Sx := sC (sFrz [] (sPars [1, 2] [(false, e2 bDiv (eVar 1) (eC (.int 2))), (true, e2 bAdd (eVar 2) (eC (.int 1)))])) s0
def b_way_told_2 : Sx := sC (sFrz [] (sPars [3, 4] [(false, e2 bMod (e2 bMul (eVar 3) (eC (.int 2))) (eVar 1)), (true, e2 bAdd (eVar 4) (eC (.int 1)))])) s0
def g_way_told : Sx := sC (sAfter [0] (sFrz [] (sPars [1, 2] [(false, e2 bIx (eVar 0) (eC (.int 1))), (false, eC (.int 0))]))) (sC (whL [] (tOf (e2 cEq (e2 bMod (eVar 1) (eC (.int 2))) (eC (.int 0)))) b_way_told_1 1000) (sC (sFrz [] (sPars [3, 4] [(false, e2 bMod (eC (.int 2)) (eVar 1)), (false, eC (.int 1))])) (sC (sAfter [1, 3] (whL [] (tAnd2 (tOf (e2 cNe (eVar 3) (e2 bMod (eC (.int 1)) (eVar 1)))) (tOf (e2 cLe (e2 bAdd (eVar 2) (eVar 4)) (eC (.int 400))))) b_way_told_2 1000)) (sC (sFrz [] (sIf (tOf (e2 cGt (e2 bAdd (eVar 2) (eVar 4)) (eC (.int 400)))) (sC sStuck s0) s0)) (sC (sFrz [2, 4] (sRet (eN oTup (lCons (eVal 2) (lCons (eVal 4) lNil))))) s0)))))
def φ_way_told : Ctr := wfn 1 5 g_way_told
theorem pu_b_way_told_1 : PuS b_way_told_1 := (pu_sC (pu_sFrz (pu_sPars (pu_lCons (pu_e2 (pu_eVar 1) (pu_eC (.int 2))) (pu_lCons (pu_e2 (pu_eVar 2) (pu_eC (.int 1))) pu_lNil)))) pu_s0)
theorem pu_b_way_told_2 : PuS b_way_told_2 := (pu_sC (pu_sFrz (pu_sPars (pu_lCons (pu_e2 (pu_e2 (pu_eVar 3) (pu_eC (.int 2))) (pu_eVar 1)) (pu_lCons (pu_e2 (pu_eVar 4) (pu_eC (.int 1))) pu_lNil)))) pu_s0)
theorem pu_g_way_told : PuS g_way_told := (pu_sC (pu_sAfter (pu_sFrz (pu_sPars (pu_lCons (pu_e2 (pu_eVar 0) (pu_eC (.int 1))) (pu_lCons (pu_eC (.int 0)) pu_lNil))))) (pu_sC (pu_whL (pu_tOf (pu_e2 (pu_e2 (pu_eVar 1) (pu_eC (.int 2))) (pu_eC (.int 0)))) pu_b_way_told_1 _) (pu_sC (pu_sFrz (pu_sPars (pu_lCons (pu_e2 (pu_eC (.int 2)) (pu_eVar 1)) (pu_lCons (pu_eC (.int 1)) pu_lNil)))) (pu_sC (pu_sAfter (pu_whL (pu_tAnd2 (pu_tOf (pu_e2 (pu_eVar 3) (pu_e2 (pu_eC (.int 1)) (pu_eVar 1)))) (pu_tOf (pu_e2 (pu_e2 (pu_eVar 2) (pu_eVar 4)) (pu_eC (.int 400))))) pu_b_way_told_2 _)) (pu_sC (pu_sFrz (pu_sIf (pu_tOf (pu_e2 (pu_e2 (pu_eVar 2) (pu_eVar 4)) (pu_eC (.int 400)))) (pu_sC pu_sStuck pu_s0) pu_s0)) (pu_sC (pu_sFrz (pu_sRet (pu_eN (pu_lCons (pu_eVal 2) (pu_lCons (pu_eVal 4) pu_lNil))))) pu_s0))))))
theorem pu_φ_way_told : PuC φ_way_told := pu_wfn pu_g_way_told
/-! is_between: 0 one, 1 point, 2 other, 3 a, 4 b, 5 c, 6 d, 7 e, 8 f, 9 far, 10 near -/
def g_is_between : Sx := sC (sAfter [0, 1, 2] (sFrz [0, 1, 2] (sSet (gT 3 (gsC (gT 2 (gsC (gN 3) (gsC (gN 4) gs0))) (gsC (gT 2 (gsC (gN 5) (gsC (gN 6) gs0))) (gsC (gT 2 (gsC (gN 7) (gsC (gN 8) gs0))) gs0)))) (eN oTup (lCons (eVal 0) (lCons (eVal 1) (lCons (eVal 2) lNil))))))) (sC (sAfter [3, 4, 5, 7] (sFrz [] (sPars [9, 10] [(false, e2 bMod (e2 bSub (e2 bMul (eVar 7) (eVar 4)) (e2 bMul (eVar 3) (eVar 8))) (e2 bMul (eVar 4) (eVar 8))), (false, e2 bMod (e2 bSub (e2 bMul (eVar 5) (eVar 4)) (e2 bMul (eVar 3) (eVar 6))) (e2 bMul (eVar 4) (eVar 6)))]))) (sC (sFrz [] (sIf (tOf (e2 cEq (eVar 10) (eC (.int 0)))) (sC (sFrz [] (sRet (eC (.bool false)))) s0) s0)) (sC (sFrz [] (sRet (eOr2 (e2 cEq (eVar 9) (eC (.int 0))) (e2 cLt (e2 bMul (eVar 10) (eVar 8)) (e2 bMul (eVar 9) (eVar 6)))))) s0)))
def φ_is_between : Ctr := wfn 3 11 g_is_between
theorem pu_g_is_between : PuS g_is_between := (pu_sC (pu_sAfter (pu_sFrz (pu_sSet (pu_eN (pu_lCons (pu_eVal 0) (pu_lCons (pu_eVal 1) (pu_lCons (pu_eVal 2) pu_lNil))))))) (pu_sC (pu_sAfter (pu_sFrz (pu_sPars (pu_lCons (pu_e2 (pu_e2 (pu_e2 (pu_eVar 7) (pu_eVar 4)) (pu_e2 (pu_eVar 3) (pu_eVar 8))) (pu_e2 (pu_eVar 4) (pu_eVar 8))) (pu_lCons (pu_e2 (pu_e2 (pu_e2 (pu_eVar 5) (pu_eVar 4)) (pu_e2 (pu_eVar 3) (pu_eVar 6))) (pu_e2 (pu_eVar 4) (pu_eVar 6))) pu_lNil))))) (pu_sC (pu_sFrz (pu_sIf (pu_tOf (pu_e2 (pu_eVar 10) (pu_eC (.int 0)))) (pu_sC (pu_sFrz (pu_sRet (pu_eC (.bool false)))) pu_s0) pu_s0)) (pu_sC (pu_sFrz (pu_sRet (pu_eOr2 (pu_e2 (pu_eVar 9) (pu_eC (.int 0))) (pu_e2 (pu_e2 (pu_eVar 10) (pu_eVar 8)) (pu_e2 (pu_eVar 9) (pu_eVar 6)))))) pu_s0))))
theorem pu_φ_is_between : PuC φ_is_between := pu_wfn pu_g_is_between
/-! is_rule: 0 value -/
def g_is_rule : Sx := sC (sFrz [0] (sRet (eAnd2 (eCall φ_is_point (aCons (eVal 0) aNil)) (e2 cEq (e2 bMod (e2 bIx (eVar 0) (eC (.int 1))) (eC (.int 2))) (eC (.int 0)))))) s0
def φ_is_rule : Ctr := wfn 1 1 g_is_rule
theorem pu_g_is_rule : PuS g_is_rule := (pu_sC (pu_sFrz (pu_sRet (pu_eAnd2 (pu_eCall pu_φ_is_point (pu_aCons (pu_eVal 0) pu_aNil)) (pu_e2 (pu_e2 (pu_e2 (pu_eVar 0) (pu_eC (.int 1))) (pu_eC (.int 2))) (pu_eC (.int 0)))))) pu_s0)
theorem pu_φ_is_rule : PuC φ_is_rule := pu_wfn pu_g_is_rule
/-! cut_told: 0 rule, 1 one -/
def g_cut_told : Sx := sC (sAfter [0] (sFrz [] (sSet (gN 1) (eCall φ_fraction_low (aCons (e2 bIx (eVar 0) (eC (.int 0))) (aCons (e2 bMul (eC (.int 2)) (e2 bIx (eVar 0) (eC (.int 1)))) aNil)))))) (sC (sFrz [1, 1] (sRet (eN oTup (lCons (eVal 1) (lCons (eCall φ_opposite (aCons (eVal 1) aNil)) lNil))))) s0)
def φ_cut_told : Ctr := wfn 1 2 g_cut_told
theorem pu_g_cut_told : PuS g_cut_told := (pu_sC (pu_sAfter (pu_sFrz (pu_sSet (pu_eCall pu_φ_fraction_low (pu_aCons (pu_e2 (pu_eVar 0) (pu_eC (.int 0))) (pu_aCons (pu_e2 (pu_eC (.int 2)) (pu_e2 (pu_eVar 0) (pu_eC (.int 1)))) pu_aNil)))))) (pu_sC (pu_sFrz (pu_sRet (pu_eN (pu_lCons (pu_eVal 1) (pu_lCons (pu_eCall pu_φ_opposite (pu_aCons (pu_eVal 1) pu_aNil)) pu_lNil))))) pu_s0))
theorem pu_φ_cut_told : PuC φ_cut_told := pu_wfn pu_g_cut_told
/-! half_of: 0 rule, 1 point, 2 one, 3 other -/
def g_half_of : Sx := sC (sAfter [0] (sFrz [0] (sSet (gT 2 (gsC (gN 2) (gsC (gN 3) gs0))) (eCall φ_cut_told (aCons (eVal 0) aNil))))) (sC (sFrz [2, 3] (sIf (tOf (e2 cIn (eVar 1) (eN oTup (lCons (eVal 2) (lCons (eVal 3) lNil))))) (sC (sFrz [] (sRet (eC (.int 2)))) s0) s0)) (sC (sFrz [2, 1, 3] (sRet (eN fInt (lCons (eCall φ_is_between (aCons (eVal 2) (aCons (eVal 1) (aCons (eVal 3) aNil)))) lNil)))) s0))
def φ_half_of : Ctr := wfn 2 4 g_half_of
theorem pu_g_half_of : PuS g_half_of := (pu_sC (pu_sAfter (pu_sFrz (pu_sSet (pu_eCall pu_φ_cut_told (pu_aCons (pu_eVal 0) pu_aNil))))) (pu_sC (pu_sFrz (pu_sIf (pu_tOf (pu_e2 (pu_eVar 1) (pu_eN (pu_lCons (pu_eVal 2) (pu_lCons (pu_eVal 3) pu_lNil))))) (pu_sC (pu_sFrz (pu_sRet (pu_eC (.int 2)))) pu_s0) pu_s0)) (pu_sC (pu_sFrz (pu_sRet (pu_eN (pu_lCons (pu_eCall pu_φ_is_between (pu_aCons (pu_eVal 2) (pu_aCons (pu_eVal 1) (pu_aCons (pu_eVal 3) pu_aNil)))) pu_lNil)))) pu_s0)))
theorem pu_φ_half_of : PuC φ_half_of := pu_wfn pu_g_half_of
/-! both_back: 0 point, 1 one -/
def g_both_back : Sx := sC (sAfter [0] (sFrz [] (sSet (gN 1) (eCall φ_fraction_low (aCons (e2 bIx (eVar 0) (eC (.int 0))) (aCons (e2 bMul (eC (.int 2)) (e2 bIx (eVar 0) (eC (.int 1)))) aNil)))))) (sC (sFrz [1, 1] (sRet (eN oTup (lCons (eVal 1) (lCons (eCall φ_opposite (aCons (eVal 1) aNil)) lNil))))) s0)
def φ_both_back : Ctr := wfn 1 2 g_both_back
theorem pu_g_both_back : PuS g_both_back := (pu_sC (pu_sAfter (pu_sFrz (pu_sSet (pu_eCall pu_φ_fraction_low (pu_aCons (pu_e2 (pu_eVar 0) (pu_eC (.int 0))) (pu_aCons (pu_e2 (pu_eC (.int 2)) (pu_e2 (pu_eVar 0) (pu_eC (.int 1)))) pu_aNil)))))) (pu_sC (pu_sFrz (pu_sRet (pu_eN (pu_lCons (pu_eVal 1) (pu_lCons (pu_eCall pu_φ_opposite (pu_aCons (pu_eVal 1) pu_aNil)) pu_lNil))))) pu_s0))
theorem pu_φ_both_back : PuC φ_both_back := pu_wfn pu_g_both_back
/-! point_back: 0 rule, 1 point, 2 letter, 3 one, 4 other -/
def g_point_back : Sx := sC (sAfter [1] (sFrz [1] (sSet (gT 2 (gsC (gN 3) (gsC (gN 4) gs0))) (eCall φ_both_back (aCons (eVal 1) aNil))))) (sC (sFrz [0, 3, 3, 4] (sRet (eIf (tOf (e2 cEq (eCall φ_half_of (aCons (eVal 0) (aCons (eVal 3) aNil))) (eVar 2))) (eVal 3) (eVal 4)))) s0)
def φ_point_back : Ctr := wfn 3 5 g_point_back
theorem pu_g_point_back : PuS g_point_back := (pu_sC (pu_sAfter (pu_sFrz (pu_sSet (pu_eCall pu_φ_both_back (pu_aCons (pu_eVal 1) pu_aNil))))) (pu_sC (pu_sFrz (pu_sRet (pu_eIf (pu_tOf (pu_e2 (pu_eCall pu_φ_half_of (pu_aCons (pu_eVal 0) (pu_aCons (pu_eVal 3) pu_aNil))) (pu_eVar 2))) (pu_eVal 3) (pu_eVal 4)))) pu_s0))
theorem pu_φ_point_back : PuC φ_point_back := pu_wfn pu_g_point_back
/-! law_of: 0 source, 1 some -/
def g_law_of : Sx := sC (sFrz [] (sRet (e2 bIx (eVar 1) (eCall cPick (aSrc 0 (aCons (eN fLen (lCons (eVar 1) lNil)) aNil)))))) s0
def φ_law_of : Ctr := wfn 2 2 g_law_of
/-! law_common: 0 a, 1 b -/
def b_law_common_1 : Sx := sC (sFrz [1] (sPars [0, 1] [(false, eVal 1), (false, e2 bMod (eN fInt (lCons (eVar 0) lNil)) (eVar 1))])) s0
def g_law_common : Sx := sC (sAfter [1] (whL [] (tOf (e2 cGt (eVar 1) (eC (.int 0)))) b_law_common_1 1000)) (sC (sFrz [0] (sRet (eVal 0))) s0)
def φ_law_common : Ctr := wfn 2 2 g_law_common
theorem pu_b_law_common_1 : PuS b_law_common_1 := (pu_sC (pu_sFrz (pu_sPars (pu_lCons (pu_eVal 1) (pu_lCons (pu_e2 (pu_eN (pu_lCons (pu_eVar 0) pu_lNil)) (pu_eVar 1)) pu_lNil)))) pu_s0)
theorem pu_g_law_common : PuS g_law_common := (pu_sC (pu_sAfter (pu_whL (pu_tOf (pu_e2 (pu_eVar 1) (pu_eC (.int 0)))) pu_b_law_common_1 _)) (pu_sC (pu_sFrz (pu_sRet (pu_eVal 0))) pu_s0))
theorem pu_φ_law_common : PuC φ_law_common := pu_wfn pu_g_law_common
/-! law_rule: 0 source, 1 bottom, 2 top -/
def g_law_rule : Sx := sC (sFrz [] (sSet (gN 1) (eCall φ_law_of (aSrc 0 (aCons (eN oLst (lCons (eC (.int 2)) (lCons (eC (.int 4)) (lCons (eC (.int 6)) (lCons (eC (.int 8)) (lCons (eC (.int 10)) (lCons (eC (.int 12)) (lCons (eC (.int 14)) (lCons (eC (.int 20)) (lCons (eC (.int 24)) (lCons (eC (.int 28)) (lCons (eC (.int 56)) lNil)))))))))))) aNil))))) (sC (sFrz [2, 2, 1, 1] (sRet (eN oTup (lCons (eCall φ_law_of (aSrc 0 (aCons (eComp [2] (iR2 (eC (.int 1)) (eVar 1)) (gN 2) (tOf (e2 cEq (eCall φ_law_common (aCons (eVal 2) (aCons (eVal 1) aNil))) (eC (.int 1)))) (eVal 2)) aNil))) (lCons (eVal 1) lNil))))) s0)
def φ_law_rule : Ctr := wfn 1 3 g_law_rule
/-! law_moved: 0 point, 1 top, 2 bottom -/
def g_law_moved : Sx := sC (sAfter [0] (sFrz [0] (sSet (gT 2 (gsC (gN 1) (gsC (gN 2) gs0))) (eVal 0)))) (sC (sFrz [] (sIf (tOf (e2 cEq (e2 bMod (eN fInt (lCons (eVar 2) lNil)) (eC (.int 2))) (eC (.int 0)))) (sC (sFrz [] (sRet (eN oTup (lCons (e2 bMod (eN fInt (lCons (eVar 1) lNil)) (e2 bDiv (eVar 2) (eC (.int 2)))) (lCons (e2 bDiv (eVar 2) (eC (.int 2))) lNil))))) s0) s0)) (sC (sFrz [2] (sRet (eN oTup (lCons (e2 bMod (eN fInt (lCons (e2 bMul (eC (.int 2)) (eVar 1)) lNil)) (eVar 2)) (lCons (eVal 2) lNil))))) s0))
def φ_law_moved : Ctr := wfn 1 3 g_law_moved
theorem pu_g_law_moved : PuS g_law_moved := (pu_sC (pu_sAfter (pu_sFrz (pu_sSet (pu_eVal 0)))) (pu_sC (pu_sFrz (pu_sIf (pu_tOf (pu_e2 (pu_e2 (pu_eN (pu_lCons (pu_eVar 2) pu_lNil)) (pu_eC (.int 2))) (pu_eC (.int 0)))) (pu_sC (pu_sFrz (pu_sRet (pu_eN (pu_lCons (pu_e2 (pu_eN (pu_lCons (pu_eVar 1) pu_lNil)) (pu_e2 (pu_eVar 2) (pu_eC (.int 2)))) (pu_lCons (pu_e2 (pu_eVar 2) (pu_eC (.int 2))) pu_lNil))))) pu_s0) pu_s0)) (pu_sC (pu_sFrz (pu_sRet (pu_eN (pu_lCons (pu_e2 (pu_eN (pu_lCons (pu_e2 (pu_eC (.int 2)) (pu_eVar 1)) pu_lNil)) (pu_eVar 2)) (pu_lCons (pu_eVal 2) pu_lNil))))) pu_s0)))
theorem pu_φ_law_moved : PuC φ_law_moved := pu_wfn pu_g_law_moved
/-! law_half: 0 rule, 1 point, 2 low, 3 here, 4 high -/
def g_law_half : Sx := sC (sAfter [0, 1] (sFrz [] (sPars [2, 3, 4] [(true, e2 bMul (e2 bIx (eVar 0) (eC (.int 0))) (e2 bIx (eVar 1) (eC (.int 1)))), (true, e2 bMul (e2 bMul (eC (.int 2)) (e2 bIx (eVar 0) (eC (.int 1)))) (e2 bIx (eVar 1) (eC (.int 0)))), (true, e2 bMul (e2 bAdd (e2 bIx (eVar 0) (eC (.int 0))) (e2 bIx (eVar 0) (eC (.int 1)))) (e2 bIx (eVar 1) (eC (.int 1))))]))) (sC (sFrz [2, 4] (sIf (tOf (e2 cIn (eVar 3) (eN oTup (lCons (eVal 2) (lCons (eVal 4) lNil))))) (sC (sFrz [] (sRet (eC (.int 2)))) s0) s0)) (sC (sFrz [] (sRet (eIf (tOf (eChain cLt cLt (eVar 2) (eVar 3) (eVar 4))) (eC (.int 1)) (eC (.int 0))))) s0))
def φ_law_half : Ctr := wfn 2 5 g_law_half
theorem pu_g_law_half : PuS g_law_half := (pu_sC (pu_sAfter (pu_sFrz (pu_sPars (pu_lCons (pu_e2 (pu_e2 (pu_eVar 0) (pu_eC (.int 0))) (pu_e2 (pu_eVar 1) (pu_eC (.int 1)))) (pu_lCons (pu_e2 (pu_e2 (pu_eC (.int 2)) (pu_e2 (pu_eVar 0) (pu_eC (.int 1)))) (pu_e2 (pu_eVar 1) (pu_eC (.int 0)))) (pu_lCons (pu_e2 (pu_e2 (pu_e2 (pu_eVar 0) (pu_eC (.int 0))) (pu_e2 (pu_eVar 0) (pu_eC (.int 1)))) (pu_e2 (pu_eVar 1) (pu_eC (.int 1)))) pu_lNil)))))) (pu_sC (pu_sFrz (pu_sIf (pu_tOf (pu_e2 (pu_eVar 3) (pu_eN (pu_lCons (pu_eVal 2) (pu_lCons (pu_eVal 4) pu_lNil))))) (pu_sC (pu_sFrz (pu_sRet (pu_eC (.int 2)))) pu_s0) pu_s0)) (pu_sC (pu_sFrz (pu_sRet (pu_eIf (pu_tOf (pu_eChain (pu_eVar 2) (pu_eVar 3) (pu_eVar 4))) (pu_eC (.int 1)) (pu_eC (.int 0))))) pu_s0)))
theorem pu_φ_law_half : PuC φ_law_half := pu_wfn pu_g_law_half
/-! law_value: 0 point, 1 a, 2 b -/
def g_law_value : Sx := sC (sAfter [0] (sFrz [0] (sSet (gT 2 (gsC (gN 1) (gsC (gN 2) gs0))) (eVal 0)))) (sC (sFrz [2, 1] (sRet (eAnd2 (eChain cLe cLt (eC (.int 0)) (eVar 1) (eVar 2)) (e2 cEq (eCall φ_law_common (aCons (eVal 2) (aCons (eVal 1) aNil))) (eC (.int 1)))))) s0)
def φ_law_value : Ctr := wfn 1 3 g_law_value
theorem pu_g_law_value : PuS g_law_value := (pu_sC (pu_sAfter (pu_sFrz (pu_sSet (pu_eVal 0)))) (pu_sC (pu_sFrz (pu_sRet (pu_eAnd2 (pu_eChain (pu_eC (.int 0)) (pu_eVar 1) (pu_eVar 2)) (pu_e2 (pu_eCall pu_φ_law_common (pu_aCons (pu_eVal 2) (pu_aCons (pu_eVal 1) pu_aNil))) (pu_eC (.int 1)))))) pu_s0))
theorem pu_φ_law_value : PuC φ_law_value := pu_wfn pu_g_law_value
/-! law_point: 0 source, 1 bottom, 2 top, 3 common -/
def g_law_point : Sx := sC (sFrz [] (sSet (gN 1) (eCall φ_law_of (aSrc 0 (aCons (eN oLst (lCons (eC (.int 1)) (lCons (eC (.int 2)) (lCons (eC (.int 3)) (lCons (eC (.int 5)) (lCons (eC (.int 7)) (lCons (eC (.int 8)) (lCons (eC (.int 9)) (lCons (eC (.int 12)) (lCons (eC (.int 15)) (lCons (eC (.int 16)) (lCons (eC (.int 21)) (lCons (eC (.int 24)) (lCons (eC (.int 31)) (lCons (eC (.int 56)) (lCons (eC (.int 60)) (lCons (eC (.int 127)) (lCons (eC (.int 255)) lNil)))))))))))))))))) aNil))))) (sC (sFrz [1] (sSet (gN 2) (eCall cPick (aSrc 0 (aCons (eVal 1) aNil))))) (sC (sFrz [1, 2] (sSet (gN 3) (eCall φ_law_common (aCons (eVal 1) (aCons (eVal 2) aNil))))) (sC (sFrz [] (sRet (eN oTup (lCons (e2 bDiv (eVar 2) (eVar 3)) (lCons (e2 bDiv (eVar 1) (eVar 3)) lNil))))) s0)))
def φ_law_point : Ctr := wfn 1 4 g_law_point
/-! law_way: 0 point, 1 met, 2 k -/
def b_law_way_1 : Sx := sC (sFrz [0] (sApp 1 (eVal 0))) (sC (sFrz [0] (sSet (gN 0) (eCall φ_law_moved (aCons (eVal 0) aNil)))) s0)
def g_law_way : Sx := sC (sFrz [] (sNew 1 (eN oLst lNil))) (sC (whL [] (tOf (e2 cNotIn (eVar 0) (eVar 1))) b_law_way_1 1000) (sC (sAfter [0] (sFrz [] (sSet (gN 2) (e2 mIndex (eVar 1) (eVar 0))))) (sC (sFrz [2] (sRet (eN oTup (lCons (eVal 2) (lCons (e2 bSub (eN fLen (lCons (eVar 1) lNil)) (eVar 2)) lNil))))) s0)))
def φ_law_way : Ctr := wfn 1 3 g_law_way
theorem pu_b_law_way_1 : PuS b_law_way_1 := (pu_sC (pu_sFrz (pu_sApp (pu_eVal 0))) (pu_sC (pu_sFrz (pu_sSet (pu_eCall pu_φ_law_moved (pu_aCons (pu_eVal 0) pu_aNil)))) pu_s0))
theorem pu_g_law_way : PuS g_law_way := (pu_sC (pu_sFrz (pu_sNew (pu_eN pu_lNil))) (pu_sC (pu_whL (pu_tOf (pu_e2 (pu_eVar 0) (pu_eVar 1))) pu_b_law_way_1 _) (pu_sC (pu_sAfter (pu_sFrz (pu_sSet (pu_e2 (pu_eVar 1) (pu_eVar 0))))) (pu_sC (pu_sFrz (pu_sRet (pu_eN (pu_lCons (pu_eVal 2) (pu_lCons (pu_e2 (pu_eN (pu_lCons (pu_eVar 1) pu_lNil)) (pu_eVar 2)) pu_lNil))))) pu_s0))))
theorem pu_φ_law_way : PuC φ_law_way := pu_wfn pu_g_law_way
/-! law_round: 0 one, 1 point, 2 top, 3 bottom -/
def g_law_round : Sx := sC (sAfter [0, 1] (sFrz [] (sPars [2, 3] [(false, e2 bMod (eN fInt (lCons (e2 bSub (e2 bMul (e2 bIx (eVar 1) (eC (.int 0))) (e2 bIx (eVar 0) (eC (.int 1)))) (e2 bMul (e2 bIx (eVar 0) (eC (.int 0))) (e2 bIx (eVar 1) (eC (.int 1))))) lNil)) (e2 bMul (e2 bIx (eVar 1) (eC (.int 1))) (e2 bIx (eVar 0) (eC (.int 1))))), (true, e2 bMul (e2 bIx (eVar 1) (eC (.int 1))) (e2 bIx (eVar 0) (eC (.int 1))))]))) (sC (sFrz [2, 3] (sRet (eN oTup (lCons (eVal 2) (lCons (eVal 3) lNil))))) s0)
def φ_law_round : Ctr := wfn 2 4 g_law_round
theorem pu_g_law_round : PuS g_law_round := (pu_sC (pu_sAfter (pu_sFrz (pu_sPars (pu_lCons (pu_e2 (pu_eN (pu_lCons (pu_e2 (pu_e2 (pu_e2 (pu_eVar 1) (pu_eC (.int 0))) (pu_e2 (pu_eVar 0) (pu_eC (.int 1)))) (pu_e2 (pu_e2 (pu_eVar 0) (pu_eC (.int 0))) (pu_e2 (pu_eVar 1) (pu_eC (.int 1))))) pu_lNil)) (pu_e2 (pu_e2 (pu_eVar 1) (pu_eC (.int 1))) (pu_e2 (pu_eVar 0) (pu_eC (.int 1))))) (pu_lCons (pu_e2 (pu_e2 (pu_eVar 1) (pu_eC (.int 1))) (pu_e2 (pu_eVar 0) (pu_eC (.int 1)))) pu_lNil))))) (pu_sC (pu_sFrz (pu_sRet (pu_eN (pu_lCons (pu_eVal 2) (pu_lCons (pu_eVal 3) pu_lNil))))) pu_s0))
theorem pu_φ_law_round : PuC φ_law_round := pu_wfn pu_g_law_round
/-! law_between: 0 one, 1 point, 2 other, 3 here, 4 there -/
def g_law_between : Sx := sC (sAfter [0, 1, 2] (sFrz [0, 1, 0, 2] (sPars [3, 4] [(false, eCall φ_law_round (aCons (eVal 0) (aCons (eVal 1) aNil))), (false, eCall φ_law_round (aCons (eVal 0) (aCons (eVal 2) aNil)))]))) (sC (sFrz [] (sIf (tOf (e2 cEq (e2 bIx (eVar 3) (eC (.int 0))) (eC (.int 0)))) (sC (sFrz [] (sRet (eC (.bool false)))) s0) s0)) (sC (sFrz [] (sRet (eOr2 (e2 cEq (e2 bIx (eVar 4) (eC (.int 0))) (eC (.int 0))) (e2 cLt (e2 bMul (e2 bIx (eVar 3) (eC (.int 0))) (e2 bIx (eVar 4) (eC (.int 1)))) (e2 bMul (e2 bIx (eVar 4) (eC (.int 0))) (e2 bIx (eVar 3) (eC (.int 1)))))))) s0))
def φ_law_between : Ctr := wfn 3 5 g_law_between
theorem pu_g_law_between : PuS g_law_between := (pu_sC (pu_sAfter (pu_sFrz (pu_sPars (pu_lCons (pu_eCall pu_φ_law_round (pu_aCons (pu_eVal 0) (pu_aCons (pu_eVal 1) pu_aNil))) (pu_lCons (pu_eCall pu_φ_law_round (pu_aCons (pu_eVal 0) (pu_aCons (pu_eVal 2) pu_aNil))) pu_lNil))))) (pu_sC (pu_sFrz (pu_sIf (pu_tOf (pu_e2 (pu_e2 (pu_eVar 3) (pu_eC (.int 0))) (pu_eC (.int 0)))) (pu_sC (pu_sFrz (pu_sRet (pu_eC (.bool false)))) pu_s0) pu_s0)) (pu_sC (pu_sFrz (pu_sRet (pu_eOr2 (pu_e2 (pu_e2 (pu_eVar 4) (pu_eC (.int 0))) (pu_eC (.int 0))) (pu_e2 (pu_e2 (pu_e2 (pu_eVar 3) (pu_eC (.int 0))) (pu_e2 (pu_eVar 4) (pu_eC (.int 1)))) (pu_e2 (pu_e2 (pu_eVar 4) (pu_eC (.int 0))) (pu_e2 (pu_eVar 3) (pu_eC (.int 1)))))))) pu_s0)))
theorem pu_φ_law_between : PuC φ_law_between := pu_wfn pu_g_law_between
/-! law: 0 script, 1 source, 2 turn, 3 rule, 4 point, 5 other, 6 third, 7 many, 8 here, 9 lap, 10 far, 11 cut, 12 one, 13 half, 14 back, 15 letter, 16 late, 17 line, 18 first, 19 k, 20 due, 21 top, 22 bottom, 23 common, 24 odd, 25 value -/
def b_law_1_0 : Sx := sAfter [9] (sFrz [8] (sSet (gN 8) (eCall φ_law_moved (aCons (eVal 8) aNil))))
def b_law_1 : Sx := (sC b_law_1_0 s0)
def b_law_2_0 : Sx := sFrz [3, 4, 15] (sSet (gN 16) (eCall φ_point_back (aCons (eVal 3) (aCons (eVal 4) (aCons (eVal 15) aNil)))))
def b_law_2_1 : Sx := sAfter [15, 16] (sFrz [3, 16] (sIf (tOr2 (tOf (e2 cNotIn (eVar 16) (eVar 14))) (tOf (e2 cNe (eCall φ_law_half (aCons (eVal 3) (aCons (eVal 16) aNil))) (eVar 15)))) (sC (sFrz [] (sRet (eC (.bool false)))) s0) s0))
def b_law_2 : Sx := (sC b_law_2_0 (sC b_law_2_1 s0))
def b_law_3_0 : Sx := sFrz [3] (sSet (gN 20) (eCall φ_law_between (aCons (eVal 3) (aCons (e2 bIx (eVar 17) (e2 bSub (eVar 19) (eC (.int 1)))) (aCons (e2 bIx (eVar 17) (eVar 19)) aNil)))))
def b_law_3_1 : Sx := sAfter [19, 20] (sFrz [] (sIf (tOf (e2 cNe (eCall φ_law_between (aCons (e2 bIx (eVar 11) (eC (.int 0))) (aCons (e2 bIx (eVar 18) (e2 bSub (eVar 19) (eC (.int 1)))) (aCons (e2 bIx (eVar 18) (eVar 19)) aNil)))) (eVar 20))) (sC (sFrz [] (sRet (eC (.bool false)))) s0) s0))
def b_law_3 : Sx := (sC b_law_3_0 (sC b_law_3_1 s0))
def b_law_4_0 : Sx := sAfter [2] (sFrz [] (sPars [3, 4, 5] [(false, eCall φ_law_rule (aSrc 1 aNil)), (false, eCall φ_law_point (aSrc 1 aNil)), (false, eCall φ_law_point (aSrc 1 aNil))]))
def b_law_4_1 : Sx := sFrz [4, 5] (sSet (gN 6) (eCall φ_law_of (aSrc 1 (aCons (eN oLst (lCons (eCall φ_law_point (aSrc 1 aNil)) (lCons (eVal 4) (lCons (eVal 5) lNil)))) aNil))))
def b_law_4_2 : Sx := sFrz [4, 4, 4, 4] (sIf (tOf (e2 cNe (eN fRepr (lCons (eN oLst (lCons (eCall φ_moved (aCons (eVal 4) aNil)) (lCons (eCall φ_way_told (aCons (eVal 4) aNil)) lNil))) lNil)) (eN fRepr (lCons (eN oLst (lCons (eCall φ_law_moved (aCons (eVal 4) aNil)) (lCons (eCall φ_law_way (aCons (eVal 4) aNil)) lNil))) lNil)))) (sC (sFrz [] (sRet (eC (.bool false)))) s0) s0)
def b_law_4_3 : Sx := sFrz [4] (sPars [7, 8] [(false, eCall φ_law_of (aSrc 1 (aCons (eN oLst (lCons (eC (.int 0)) (lCons (eC (.int 1)) (lCons (eC (.int 2)) (lCons (eC (.int 5)) (lCons (eC (.int 13)) (lCons (eC (.int 30)) lNil))))))) aNil))), (false, eVal 4)])
def b_law_4_4 : Sx := sAfter [9] (sFrz [] (sFor (iR1 (eVar 7)) (gN 9) b_law_1))
def b_law_4_5 : Sx := sAfter [7, 8] (sFrz [4, 7] (sIf (tOf (e2 cNe (eN fRepr (lCons (eCall φ_moved_on (aCons (eVal 4) (aCons (eVal 7) aNil))) lNil)) (eN fRepr (lCons (eVar 8) lNil)))) (sC (sFrz [] (sRet (eC (.bool false)))) s0) s0))
def b_law_4_6 : Sx := sAfter [5, 6] (sFrz [4, 6, 5, 4, 6, 5] (sIf (tOf (e2 cNe (eCall φ_is_between (aCons (eVal 4) (aCons (eVal 6) (aCons (eVal 5) aNil)))) (eCall φ_law_between (aCons (eVal 4) (aCons (eVal 6) (aCons (eVal 5) aNil)))))) (sC (sFrz [] (sRet (eC (.bool false)))) s0) s0))
def b_law_4_7 : Sx := sFrz [4] (sSet (gN 10) (eCall φ_opposite (aCons (eVal 4) aNil)))
def b_law_4_8 : Sx := sAfter [10] (sFrz [10, 10, 10, 4] (sIf (tOr2 (tNeg (tOf (eCall φ_law_value (aCons (eVal 10) aNil)))) (tOr2 (tOf (e2 cNe (eCall φ_opposite (aCons (eVal 10) aNil)) (eVar 4))) (tOr2 (tOf (e2 cNe (eCall φ_law_moved (aCons (eVal 10) aNil)) (eCall φ_law_moved (aCons (eVal 4) aNil)))) (tOf (e2 cEq (eVar 10) (eVar 4)))))) (sC (sFrz [] (sRet (eC (.bool false)))) s0) s0))
def b_law_4_9 : Sx := sFrz [3] (sSet (gN 11) (eCall φ_cut_told (aCons (eVal 3) aNil)))
def b_law_4_10 : Sx := sFrz [11, 12, 3, 3] (sIf (tOr2 (tOf (e2 cNe (eComp [12] (iSeq (eVal 11)) (gN 12) tYs (eCall φ_law_moved (aCons (eVal 12) aNil))) (eN oLst (lCons (eVal 3) (lCons (eVal 3) lNil))))) (tOf (e2 cNe (e2 bIx (eVar 11) (eC (.int 1))) (eCall φ_opposite (aCons (e2 bIx (eVar 11) (eC (.int 0))) aNil))))) (sC (sFrz [] (sRet (eC (.bool false)))) s0) s0)
def b_law_4_11 : Sx := sFrz [11, 3, 12] (sIf (tOr2 (tOf (e2 cNe (e2 bMul (e2 bMul (eC (.int 2)) (e2 bIx (e2 bIx (eVar 11) (eC (.int 0))) (eC (.int 0)))) (e2 bIx (eVar 3) (eC (.int 1)))) (e2 bMul (e2 bIx (eVar 3) (eC (.int 0))) (e2 bIx (e2 bIx (eVar 11) (eC (.int 0))) (eC (.int 1)))))) (tOf (e2 cNe (eComp [12] (iSeq (eVal 11)) (gN 12) tYs (eCall φ_half_of (aCons (eVal 3) (aCons (eVal 12) aNil)))) (eN oLst (lCons (eC (.int 2)) (lCons (eC (.int 2)) lNil)))))) (sC (sFrz [] (sRet (eC (.bool false)))) s0) s0)
def b_law_4_12 : Sx := sFrz [3, 4] (sSet (gN 13) (eCall φ_half_of (aCons (eVal 3) (aCons (eVal 4) aNil))))
def b_law_4_13 : Sx := sAfter [13] (sFrz [3, 4, 4] (sIf (tOr2 (tOf (e2 cNe (eVar 13) (eCall φ_law_half (aCons (eVal 3) (aCons (eVal 4) aNil))))) (tAnd2 (tOf (e2 cNe (eVar 13) (eC (.int 2)))) (tOf (e2 cNe (e2 cEq (eVar 13) (eC (.int 1))) (eCall φ_law_between (aCons (e2 bIx (eVar 11) (eC (.int 0))) (aCons (eVal 4) (aCons (e2 bIx (eVar 11) (eC (.int 1))) aNil)))))))) (sC (sFrz [] (sRet (eC (.bool false)))) s0) s0))
def b_law_4_14 : Sx := sFrz [4] (sSet (gN 14) (eCall φ_both_back (aCons (eVal 4) aNil)))
def b_law_4_15 : Sx := sFrz [14, 12, 4, 4] (sIf (tOr2 (tOf (e2 cNe (eN fRepr (lCons (eComp [12] (iSeq (eVal 14)) (gN 12) tYs (eCall φ_law_moved (aCons (eVal 12) aNil))) lNil)) (eN fRepr (lCons (eN oLst (lCons (eVal 4) (lCons (eVal 4) lNil))) lNil)))) (tOf (e2 cNe (e2 bIx (eVar 14) (eC (.int 1))) (eCall φ_opposite (aCons (e2 bIx (eVar 14) (eC (.int 0))) aNil))))) (sC (sFrz [] (sRet (eC (.bool false)))) s0) s0)
def b_law_4_16 : Sx := sAfter [14, 15, 16] (sFrz [] (sIf (tOf (e2 cNe (eVar 4) (eVar 3))) (sC (sAfter [14, 15, 16] (sFrz [] (sFor (iSeq (eN oTup (lCons (eC (.int 0)) (lCons (eC (.int 1)) lNil)))) (gN 15) b_law_2))) s0) (sC (sAfter [14] (sFrz [] (sIf (tOf (e2 cNe (eN fSort (lCons (eVar 14) lNil)) (eN fSort (lCons (eVar 11) lNil)))) (sC (sFrz [] (sRet (eC (.bool false)))) s0) s0))) s0)))
def b_law_4_17 : Sx := sFrz [] (sNew 17 (eN oLst (lCons (eN oTup (lCons (eC (.int 1)) (lCons (eC (.int 5)) lNil))) (lCons (eN oTup (lCons (eC (.int 2)) (lCons (eC (.int 5)) lNil))) (lCons (eN oTup (lCons (eC (.int 3)) (lCons (eC (.int 7)) lNil))) (lCons (eN oTup (lCons (eC (.int 5)) (lCons (eC (.int 9)) lNil))) (lCons (eN oTup (lCons (eC (.int 10)) (lCons (eC (.int 11)) lNil))) lNil)))))))
def b_law_4_18 : Sx := sFrz [17, 12] (sNew 17 (eComp [12] (iSeq (eVal 17)) (gN 12) (tOf (e2 cNe (eVar 12) (eVar 3))) (eVal 12)))
def b_law_4_19 : Sx := sFrz [17, 3, 12] (sNew 18 (eComp [12] (iSeq (eVal 17)) (gN 12) tYs (eCall φ_point_back (aCons (eVal 3) (aCons (eVal 12) (aCons (eC (.int 1)) aNil))))))
def b_law_4_20 : Sx := sAfter [11, 17, 18, 19, 20] (sFrz [] (sFor (iR2 (eC (.int 1)) (eN fLen (lCons (eVar 18) lNil))) (gN 19) b_law_3))
def b_law_4_21 : Sx := sFrz [] (sPars [21, 22] [(false, e2 bSub (eCall cPick (aSrc 1 (aCons (eC (.int 60)) aNil))) (eC (.int 20))), (true, e2 bAdd (eC (.int 1)) (eCall cPick (aSrc 1 (aCons (eC (.int 24)) aNil))))])
def b_law_4_22 : Sx := sFrz [22] (sSet (gN 23) (eCall φ_law_common (aCons (eVal 22) (aCons (e2 bMod (eN fInt (lCons (eVar 21) lNil)) (eVar 22)) aNil))))
def b_law_4_23 : Sx := sAfter [21, 22, 23] (sFrz [21, 22] (sIf (tOf (e2 cNe (eCall φ_fraction_low (aCons (eVal 21) (aCons (eVal 22) aNil))) (eN oTup (lCons (e2 bDiv (e2 bMod (eN fInt (lCons (eVar 21) lNil)) (eVar 22)) (eVar 23)) (lCons (e2 bDiv (eVar 22) (eVar 23)) lNil))))) (sC (sFrz [] (sRet (eC (.bool false)))) s0) s0))
def b_law_4_24 : Sx := sFrz [4] (sNew 24 (eN oLst (lCons (eVal 4) (lCons (eN fList (lCons (eVar 4) lNil)) (lCons (eN oTup (lCons (e2 bAdd (e2 bIx (eVar 4) (eC (.int 0))) (e2 bIx (eVar 4) (eC (.int 1)))) (lCons (e2 bIx (eVar 4) (eC (.int 1))) lNil))) (lCons (eN oTup (lCons (e2 bMul (eC (.int 2)) (e2 bIx (eVar 4) (eC (.int 0)))) (lCons (e2 bMul (eC (.int 2)) (e2 bIx (eVar 4) (eC (.int 1)))) lNil))) lNil))))))
def b_law_4_25 : Sx := sAfter [24] (sFrz [25] (sIf (tOf (e2 cNe (eComp [25] (iSeq (e2 bAdd (eVar 24) (eN oLst (lCons (eN oTup (lCons (eC (.int 0)) (lCons (eC (.int 2)) lNil))) (lCons (eN oTup (lCons (eC (.bool true)) (lCons (eC (.int 2)) lNil))) (lCons (eC .none) lNil)))))) (gN 25) tYs (eCall φ_is_point (aCons (eVal 25) aNil))) (e2 bAdd (eN oLst (lCons (eC (.bool true)) lNil)) (e2 bMul (eN oLst (lCons (eC (.bool false)) lNil)) (eC (.int 6)))))) (sC (sFrz [] (sRet (eC (.bool false)))) s0) s0))
def b_law_4_26 : Sx := sFrz [] (sNew 20 (eN oLst (lCons (eC (.bool true)) (lCons (eC (.bool false)) (lCons (eC (.bool false)) (lCons (eC (.bool false)) (lCons (e2 cEq (e2 bMod (eN fInt (lCons (e2 bIx (eVar 4) (eC (.int 1))) lNil)) (eC (.int 2))) (eC (.int 0))) lNil)))))))
def b_law_4_27 : Sx := sAfter [3, 4, 20] (sFrz [3, 4, 25] (sIf (tOf (e2 cNe (eComp [25] (iSeq (eN oTup (lCons (eVal 3) (lCons (eN oTup (lCons (eC (.int 1)) (lCons (eC (.int 3)) lNil))) (lCons (eN oTup (lCons (eC (.int 0)) (lCons (eC (.int 1)) lNil))) (lCons (eN oLst (lCons (eC (.int 1)) (lCons (eC (.int 2)) lNil))) (lCons (eVal 4) lNil))))))) (gN 25) tYs (eCall φ_is_rule (aCons (eVal 25) aNil))) (eVar 20))) (sC (sFrz [] (sRet (eC (.bool false)))) s0) s0))
def b_law_4 : Sx := (sC b_law_4_0 (sC b_law_4_1 (sC b_law_4_2 (sC b_law_4_3 (sC b_law_4_4 (sC b_law_4_5 (sC b_law_4_6 (sC b_law_4_7 (sC b_law_4_8 (sC b_law_4_9 (sC b_law_4_10 (sC b_law_4_11 (sC b_law_4_12 (sC b_law_4_13 (sC b_law_4_14 (sC b_law_4_15 (sC b_law_4_16 (sC b_law_4_17 (sC b_law_4_18 (sC b_law_4_19 (sC b_law_4_20 (sC b_law_4_21 (sC b_law_4_22 (sC b_law_4_23 (sC b_law_4_24 (sC b_law_4_25 (sC b_law_4_26 (sC b_law_4_27 s0))))))))))))))))))))))))))))
def l_0 : Sx := sAfter [2, 3, 4, 5, 6, 7, 8, 9, 10, 11, 13, 14, 15, 16, 17, 18, 19, 20, 21, 22, 23, 24] (sFrz [] (sFor (iR1 (eC (.int 4))) (gN 2) b_law_4))
def l_1 : Sx := sFrz [] (sRet (eC (.bool true)))
def g_law : Sx := (sC l_0 (sC l_1 s0))
theorem pu_b_law_1_0 : PuS b_law_1_0 := (pu_sAfter (pu_sFrz (pu_sSet (pu_eCall pu_φ_law_moved (pu_aCons (pu_eVal 8) pu_aNil)))))
theorem pu_b_law_1 : PuS b_law_1 := (pu_sC pu_b_law_1_0 pu_s0)
theorem pu_b_law_2_0 : PuS b_law_2_0 := (pu_sFrz (pu_sSet (pu_eCall pu_φ_point_back (pu_aCons (pu_eVal 3) (pu_aCons (pu_eVal 4) (pu_aCons (pu_eVal 15) pu_aNil))))))
theorem pu_b_law_2_1 : PuS b_law_2_1 := (pu_sAfter (pu_sFrz (pu_sIf (pu_tOr2 (pu_tOf (pu_e2 (pu_eVar 16) (pu_eVar 14))) (pu_tOf (pu_e2 (pu_eCall pu_φ_law_half (pu_aCons (pu_eVal 3) (pu_aCons (pu_eVal 16) pu_aNil))) (pu_eVar 15)))) (pu_sC (pu_sFrz (pu_sRet (pu_eC (.bool false)))) pu_s0) pu_s0)))
theorem pu_b_law_2 : PuS b_law_2 := (pu_sC pu_b_law_2_0 (pu_sC pu_b_law_2_1 pu_s0))
theorem pu_b_law_3_0 : PuS b_law_3_0 := (pu_sFrz (pu_sSet (pu_eCall pu_φ_law_between (pu_aCons (pu_eVal 3) (pu_aCons (pu_e2 (pu_eVar 17) (pu_e2 (pu_eVar 19) (pu_eC (.int 1)))) (pu_aCons (pu_e2 (pu_eVar 17) (pu_eVar 19)) pu_aNil))))))
theorem pu_b_law_3_1 : PuS b_law_3_1 := (pu_sAfter (pu_sFrz (pu_sIf (pu_tOf (pu_e2 (pu_eCall pu_φ_law_between (pu_aCons (pu_e2 (pu_eVar 11) (pu_eC (.int 0))) (pu_aCons (pu_e2 (pu_eVar 18) (pu_e2 (pu_eVar 19) (pu_eC (.int 1)))) (pu_aCons (pu_e2 (pu_eVar 18) (pu_eVar 19)) pu_aNil)))) (pu_eVar 20))) (pu_sC (pu_sFrz (pu_sRet (pu_eC (.bool false)))) pu_s0) pu_s0)))
theorem pu_b_law_3 : PuS b_law_3 := (pu_sC pu_b_law_3_0 (pu_sC pu_b_law_3_1 pu_s0))
theorem pu_b_law_4_2 : PuS b_law_4_2 := (pu_sFrz (pu_sIf (pu_tOf (pu_e2 (pu_eN (pu_lCons (pu_eN (pu_lCons (pu_eCall pu_φ_moved (pu_aCons (pu_eVal 4) pu_aNil)) (pu_lCons (pu_eCall pu_φ_way_told (pu_aCons (pu_eVal 4) pu_aNil)) pu_lNil))) pu_lNil)) (pu_eN (pu_lCons (pu_eN (pu_lCons (pu_eCall pu_φ_law_moved (pu_aCons (pu_eVal 4) pu_aNil)) (pu_lCons (pu_eCall pu_φ_law_way (pu_aCons (pu_eVal 4) pu_aNil)) pu_lNil))) pu_lNil)))) (pu_sC (pu_sFrz (pu_sRet (pu_eC (.bool false)))) pu_s0) pu_s0))
theorem pu_b_law_4_4 : PuS b_law_4_4 := (pu_sAfter (pu_sFrz (pu_sFor (pu_iR1 (pu_eVar 7)) pu_b_law_1)))
theorem pu_b_law_4_5 : PuS b_law_4_5 := (pu_sAfter (pu_sFrz (pu_sIf (pu_tOf (pu_e2 (pu_eN (pu_lCons (pu_eCall pu_φ_moved_on (pu_aCons (pu_eVal 4) (pu_aCons (pu_eVal 7) pu_aNil))) pu_lNil)) (pu_eN (pu_lCons (pu_eVar 8) pu_lNil)))) (pu_sC (pu_sFrz (pu_sRet (pu_eC (.bool false)))) pu_s0) pu_s0)))
theorem pu_b_law_4_6 : PuS b_law_4_6 := (pu_sAfter (pu_sFrz (pu_sIf (pu_tOf (pu_e2 (pu_eCall pu_φ_is_between (pu_aCons (pu_eVal 4) (pu_aCons (pu_eVal 6) (pu_aCons (pu_eVal 5) pu_aNil)))) (pu_eCall pu_φ_law_between (pu_aCons (pu_eVal 4) (pu_aCons (pu_eVal 6) (pu_aCons (pu_eVal 5) pu_aNil)))))) (pu_sC (pu_sFrz (pu_sRet (pu_eC (.bool false)))) pu_s0) pu_s0)))
theorem pu_b_law_4_7 : PuS b_law_4_7 := (pu_sFrz (pu_sSet (pu_eCall pu_φ_opposite (pu_aCons (pu_eVal 4) pu_aNil))))
theorem pu_b_law_4_8 : PuS b_law_4_8 := (pu_sAfter (pu_sFrz (pu_sIf (pu_tOr2 (pu_tNeg (pu_tOf (pu_eCall pu_φ_law_value (pu_aCons (pu_eVal 10) pu_aNil)))) (pu_tOr2 (pu_tOf (pu_e2 (pu_eCall pu_φ_opposite (pu_aCons (pu_eVal 10) pu_aNil)) (pu_eVar 4))) (pu_tOr2 (pu_tOf (pu_e2 (pu_eCall pu_φ_law_moved (pu_aCons (pu_eVal 10) pu_aNil)) (pu_eCall pu_φ_law_moved (pu_aCons (pu_eVal 4) pu_aNil)))) (pu_tOf (pu_e2 (pu_eVar 10) (pu_eVar 4)))))) (pu_sC (pu_sFrz (pu_sRet (pu_eC (.bool false)))) pu_s0) pu_s0)))
theorem pu_b_law_4_9 : PuS b_law_4_9 := (pu_sFrz (pu_sSet (pu_eCall pu_φ_cut_told (pu_aCons (pu_eVal 3) pu_aNil))))
theorem pu_b_law_4_10 : PuS b_law_4_10 := (pu_sFrz (pu_sIf (pu_tOr2 (pu_tOf (pu_e2 (pu_eComp (pu_iSeq (pu_eVal 11)) pu_tYs (pu_eCall pu_φ_law_moved (pu_aCons (pu_eVal 12) pu_aNil))) (pu_eN (pu_lCons (pu_eVal 3) (pu_lCons (pu_eVal 3) pu_lNil))))) (pu_tOf (pu_e2 (pu_e2 (pu_eVar 11) (pu_eC (.int 1))) (pu_eCall pu_φ_opposite (pu_aCons (pu_e2 (pu_eVar 11) (pu_eC (.int 0))) pu_aNil))))) (pu_sC (pu_sFrz (pu_sRet (pu_eC (.bool false)))) pu_s0) pu_s0))
theorem pu_b_law_4_11 : PuS b_law_4_11 := (pu_sFrz (pu_sIf (pu_tOr2 (pu_tOf (pu_e2 (pu_e2 (pu_e2 (pu_eC (.int 2)) (pu_e2 (pu_e2 (pu_eVar 11) (pu_eC (.int 0))) (pu_eC (.int 0)))) (pu_e2 (pu_eVar 3) (pu_eC (.int 1)))) (pu_e2 (pu_e2 (pu_eVar 3) (pu_eC (.int 0))) (pu_e2 (pu_e2 (pu_eVar 11) (pu_eC (.int 0))) (pu_eC (.int 1)))))) (pu_tOf (pu_e2 (pu_eComp (pu_iSeq (pu_eVal 11)) pu_tYs (pu_eCall pu_φ_half_of (pu_aCons (pu_eVal 3) (pu_aCons (pu_eVal 12) pu_aNil)))) (pu_eN (pu_lCons (pu_eC (.int 2)) (pu_lCons (pu_eC (.int 2)) pu_lNil)))))) (pu_sC (pu_sFrz (pu_sRet (pu_eC (.bool false)))) pu_s0) pu_s0))
theorem pu_b_law_4_12 : PuS b_law_4_12 := (pu_sFrz (pu_sSet (pu_eCall pu_φ_half_of (pu_aCons (pu_eVal 3) (pu_aCons (pu_eVal 4) pu_aNil)))))
theorem pu_b_law_4_13 : PuS b_law_4_13 := (pu_sAfter (pu_sFrz (pu_sIf (pu_tOr2 (pu_tOf (pu_e2 (pu_eVar 13) (pu_eCall pu_φ_law_half (pu_aCons (pu_eVal 3) (pu_aCons (pu_eVal 4) pu_aNil))))) (pu_tAnd2 (pu_tOf (pu_e2 (pu_eVar 13) (pu_eC (.int 2)))) (pu_tOf (pu_e2 (pu_e2 (pu_eVar 13) (pu_eC (.int 1))) (pu_eCall pu_φ_law_between (pu_aCons (pu_e2 (pu_eVar 11) (pu_eC (.int 0))) (pu_aCons (pu_eVal 4) (pu_aCons (pu_e2 (pu_eVar 11) (pu_eC (.int 1))) pu_aNil)))))))) (pu_sC (pu_sFrz (pu_sRet (pu_eC (.bool false)))) pu_s0) pu_s0)))
theorem pu_b_law_4_14 : PuS b_law_4_14 := (pu_sFrz (pu_sSet (pu_eCall pu_φ_both_back (pu_aCons (pu_eVal 4) pu_aNil))))
theorem pu_b_law_4_15 : PuS b_law_4_15 := (pu_sFrz (pu_sIf (pu_tOr2 (pu_tOf (pu_e2 (pu_eN (pu_lCons (pu_eComp (pu_iSeq (pu_eVal 14)) pu_tYs (pu_eCall pu_φ_law_moved (pu_aCons (pu_eVal 12) pu_aNil))) pu_lNil)) (pu_eN (pu_lCons (pu_eN (pu_lCons (pu_eVal 4) (pu_lCons (pu_eVal 4) pu_lNil))) pu_lNil)))) (pu_tOf (pu_e2 (pu_e2 (pu_eVar 14) (pu_eC (.int 1))) (pu_eCall pu_φ_opposite (pu_aCons (pu_e2 (pu_eVar 14) (pu_eC (.int 0))) pu_aNil))))) (pu_sC (pu_sFrz (pu_sRet (pu_eC (.bool false)))) pu_s0) pu_s0))
theorem pu_b_law_4_16 : PuS b_law_4_16 := (pu_sAfter (pu_sFrz (pu_sIf (pu_tOf (pu_e2 (pu_eVar 4) (pu_eVar 3))) (pu_sC (pu_sAfter (pu_sFrz (pu_sFor (pu_iSeq (pu_eN (pu_lCons (pu_eC (.int 0)) (pu_lCons (pu_eC (.int 1)) pu_lNil)))) pu_b_law_2))) pu_s0) (pu_sC (pu_sAfter (pu_sFrz (pu_sIf (pu_tOf (pu_e2 (pu_eN (pu_lCons (pu_eVar 14) pu_lNil)) (pu_eN (pu_lCons (pu_eVar 11) pu_lNil)))) (pu_sC (pu_sFrz (pu_sRet (pu_eC (.bool false)))) pu_s0) pu_s0))) pu_s0))))
theorem pu_b_law_4_17 : PuS b_law_4_17 := (pu_sFrz (pu_sNew (pu_eN (pu_lCons (pu_eN (pu_lCons (pu_eC (.int 1)) (pu_lCons (pu_eC (.int 5)) pu_lNil))) (pu_lCons (pu_eN (pu_lCons (pu_eC (.int 2)) (pu_lCons (pu_eC (.int 5)) pu_lNil))) (pu_lCons (pu_eN (pu_lCons (pu_eC (.int 3)) (pu_lCons (pu_eC (.int 7)) pu_lNil))) (pu_lCons (pu_eN (pu_lCons (pu_eC (.int 5)) (pu_lCons (pu_eC (.int 9)) pu_lNil))) (pu_lCons (pu_eN (pu_lCons (pu_eC (.int 10)) (pu_lCons (pu_eC (.int 11)) pu_lNil))) pu_lNil))))))))
theorem pu_b_law_4_18 : PuS b_law_4_18 := (pu_sFrz (pu_sNew (pu_eComp (pu_iSeq (pu_eVal 17)) (pu_tOf (pu_e2 (pu_eVar 12) (pu_eVar 3))) (pu_eVal 12))))
theorem pu_b_law_4_19 : PuS b_law_4_19 := (pu_sFrz (pu_sNew (pu_eComp (pu_iSeq (pu_eVal 17)) pu_tYs (pu_eCall pu_φ_point_back (pu_aCons (pu_eVal 3) (pu_aCons (pu_eVal 12) (pu_aCons (pu_eC (.int 1)) pu_aNil)))))))
theorem pu_b_law_4_20 : PuS b_law_4_20 := (pu_sAfter (pu_sFrz (pu_sFor (pu_iR2 (pu_eC (.int 1)) (pu_eN (pu_lCons (pu_eVar 18) pu_lNil))) pu_b_law_3)))
theorem pu_b_law_4_22 : PuS b_law_4_22 := (pu_sFrz (pu_sSet (pu_eCall pu_φ_law_common (pu_aCons (pu_eVal 22) (pu_aCons (pu_e2 (pu_eN (pu_lCons (pu_eVar 21) pu_lNil)) (pu_eVar 22)) pu_aNil)))))
theorem pu_b_law_4_23 : PuS b_law_4_23 := (pu_sAfter (pu_sFrz (pu_sIf (pu_tOf (pu_e2 (pu_eCall pu_φ_fraction_low (pu_aCons (pu_eVal 21) (pu_aCons (pu_eVal 22) pu_aNil))) (pu_eN (pu_lCons (pu_e2 (pu_e2 (pu_eN (pu_lCons (pu_eVar 21) pu_lNil)) (pu_eVar 22)) (pu_eVar 23)) (pu_lCons (pu_e2 (pu_eVar 22) (pu_eVar 23)) pu_lNil))))) (pu_sC (pu_sFrz (pu_sRet (pu_eC (.bool false)))) pu_s0) pu_s0)))
theorem pu_b_law_4_24 : PuS b_law_4_24 := (pu_sFrz (pu_sNew (pu_eN (pu_lCons (pu_eVal 4) (pu_lCons (pu_eN (pu_lCons (pu_eVar 4) pu_lNil)) (pu_lCons (pu_eN (pu_lCons (pu_e2 (pu_e2 (pu_eVar 4) (pu_eC (.int 0))) (pu_e2 (pu_eVar 4) (pu_eC (.int 1)))) (pu_lCons (pu_e2 (pu_eVar 4) (pu_eC (.int 1))) pu_lNil))) (pu_lCons (pu_eN (pu_lCons (pu_e2 (pu_eC (.int 2)) (pu_e2 (pu_eVar 4) (pu_eC (.int 0)))) (pu_lCons (pu_e2 (pu_eC (.int 2)) (pu_e2 (pu_eVar 4) (pu_eC (.int 1)))) pu_lNil))) pu_lNil)))))))
theorem pu_b_law_4_25 : PuS b_law_4_25 := (pu_sAfter (pu_sFrz (pu_sIf (pu_tOf (pu_e2 (pu_eComp (pu_iSeq (pu_e2 (pu_eVar 24) (pu_eN (pu_lCons (pu_eN (pu_lCons (pu_eC (.int 0)) (pu_lCons (pu_eC (.int 2)) pu_lNil))) (pu_lCons (pu_eN (pu_lCons (pu_eC (.bool true)) (pu_lCons (pu_eC (.int 2)) pu_lNil))) (pu_lCons (pu_eC .none) pu_lNil)))))) pu_tYs (pu_eCall pu_φ_is_point (pu_aCons (pu_eVal 25) pu_aNil))) (pu_e2 (pu_eN (pu_lCons (pu_eC (.bool true)) pu_lNil)) (pu_e2 (pu_eN (pu_lCons (pu_eC (.bool false)) pu_lNil)) (pu_eC (.int 6)))))) (pu_sC (pu_sFrz (pu_sRet (pu_eC (.bool false)))) pu_s0) pu_s0)))
theorem pu_b_law_4_26 : PuS b_law_4_26 := (pu_sFrz (pu_sNew (pu_eN (pu_lCons (pu_eC (.bool true)) (pu_lCons (pu_eC (.bool false)) (pu_lCons (pu_eC (.bool false)) (pu_lCons (pu_eC (.bool false)) (pu_lCons (pu_e2 (pu_e2 (pu_eN (pu_lCons (pu_e2 (pu_eVar 4) (pu_eC (.int 1))) pu_lNil)) (pu_eC (.int 2))) (pu_eC (.int 0))) pu_lNil))))))))
theorem pu_b_law_4_27 : PuS b_law_4_27 := (pu_sAfter (pu_sFrz (pu_sIf (pu_tOf (pu_e2 (pu_eComp (pu_iSeq (pu_eN (pu_lCons (pu_eVal 3) (pu_lCons (pu_eN (pu_lCons (pu_eC (.int 1)) (pu_lCons (pu_eC (.int 3)) pu_lNil))) (pu_lCons (pu_eN (pu_lCons (pu_eC (.int 0)) (pu_lCons (pu_eC (.int 1)) pu_lNil))) (pu_lCons (pu_eN (pu_lCons (pu_eC (.int 1)) (pu_lCons (pu_eC (.int 2)) pu_lNil))) (pu_lCons (pu_eVal 4) pu_lNil))))))) pu_tYs (pu_eCall pu_φ_is_rule (pu_aCons (pu_eVal 25) pu_aNil))) (pu_eVar 20))) (pu_sC (pu_sFrz (pu_sRet (pu_eC (.bool false)))) pu_s0) pu_s0)))
theorem pu_l_1 : PuS l_1 := (pu_sFrz (pu_sRet (pu_eC (.bool true))))
end Lw
set_option Elab.async false
set_option linter.all false
set_option maxRecDepth 100000
set_option maxHeartbeats 4000000
namespace Lw
open PySem PySem.Spec Dv
def ptD (p : Int × Int) : PyData := .tuple [.int p.1, .int p.2]
@[simp] theorem ptD_mk (a b : Int) : ptD (a, b) = .tuple [.int a, .int b] := rfl
def Pn (n : Int) (p : Int × Int) : Prop := 0 ≤ p.1 ∧ p.1 < p.2 ∧ p.2 < n
def flow (a b : Int) : Int × Int := ((a % b) / (Int.gcd (a % b) b), b / (Int.gcd (a % b) b))
theorem flow_bd {a b n : Int} (h : 0 < b) (hb : b < n) : Pn n (flow a b) := by
  have h0 := Int.emod_nonneg a (show b ≠ 0 by omega)
  have h1 := Int.emod_lt_of_pos a h
  have g1 : (0 : Int) < Int.gcd (a % b) b := by
    have : 0 < Int.gcd (a % b) b := Int.gcd_pos_of_ne_zero_right _ (by omega)
    omega
  have d1 : (Int.gcd (a % b) b : Int) ∣ a % b := Int.gcd_dvd_left ..
  have d2 : (Int.gcd (a % b) b : Int) ∣ b := Int.gcd_dvd_right ..
  unfold flow
  refine ⟨Int.ediv_nonneg h0 (by omega), ?_, ?_⟩
  · refine Int.lt_of_mul_lt_mul_right (a := (Int.gcd (a % b) b : Int)) ?_ (by omega)
    rw [Int.ediv_mul_cancel d1, Int.ediv_mul_cancel d2]
    exact h1
  · refine Int.lt_of_le_of_lt (Int.ediv_le_self _ (by omega)) hb
theorem gcd_ok {a b : Int} (h : 0 < b) (hb : b < 2 ^ 100) : divOk (Int.gcd a b) = true := by
  have : 0 < Int.gcd a b := Int.gcd_pos_of_ne_zero_right _ (by omega)
  have d2 : (Int.gcd a b : Int) ∣ b := Int.gcd_dvd_right ..
  have := Int.le_of_dvd h d2
  exact divOk_of (by omega) (by omega)
theorem q_flow {a b : Int} (h : 0 < b) (hb : b < 2 ^ 100) (W : Src) : φ_fraction_low [.d (.int a), .d (.int b)] W = some (ptD (flow a b), W) := by
  simp [φ_fraction_low, wfn, g_fraction_low, h, gcd_ok (a := a % b) h hb, flow]
def mv (p : Int × Int) : Int × Int := flow (2 * p.1) p.2
theorem q_moved {p : Int × Int} {n : Int} (h : Pn n p) (hn : n ≤ 2 ^ 90) (W : Src) : φ_moved [.d (ptD p)] W = some (ptD (mv p), W) := by
  obtain ⟨h1, h2, h3⟩ := h
  have m1 : mulOk 2 p.1 = true := mulOk_of (by omega) (by omega) (by omega) (by omega)
  simp [φ_moved, wfn, g_moved, ptD, m1, q_flow (a := 2 * p.1) (b := p.2) (by omega) (by omega), mv]
def opp (p : Int × Int) : Int × Int := flow (2 * p.1 + p.2) (2 * p.2)
theorem q_opposite {p : Int × Int} {n : Int} (h : Pn n p) (hn : n ≤ 2 ^ 90) (W : Src) : φ_opposite [.d (ptD p)] W = some (ptD (opp p), W) := by
  obtain ⟨h1, h2, h3⟩ := h
  have m1 : mulOk 2 p.1 = true := mulOk_of (by omega) (by omega) (by omega) (by omega)
  have m2 : mulOk 2 p.2 = true := mulOk_of (by omega) (by omega) (by omega) (by omega)
  simp [φ_opposite, wfn, g_opposite, ptD, m1, m2, q_flow (a := 2 * p.1 + p.2) (b := 2 * p.2) (by omega) (by omega), opp]
theorem mul_bd {x y A B : Int} (h1 : 0 ≤ x) (h2 : x < A) (h3 : 0 ≤ y) (h4 : y < B) : 0 ≤ x * y ∧ x * y < A * B := by
  refine ⟨Int.mul_nonneg h1 h3, ?_⟩
  have a : x * y ≤ x * B := Int.mul_le_mul_of_nonneg_left (by omega) h1
  have b : x * B < A * B := Int.mul_lt_mul_of_pos_right h2 (by omega)
  omega
/-- small points -/
def Sm (p : Int × Int) : Prop := 0 ≤ p.1 ∧ p.1 < p.2 ∧ p.2 < 100000
theorem Sm.pn {p : Int × Int} (h : Sm p) : Pn 100000 p := h
def cut (r : Int × Int) : (Int × Int) × (Int × Int) := (flow r.1 (2 * r.2), opp (flow r.1 (2 * r.2)))
theorem q_cut {r : Int × Int} (h : Sm r) (W : Src) : φ_cut_told [.d (ptD r)] W = some (.tuple [ptD (cut r).1, ptD (cut r).2], W) := by
  obtain ⟨h1, h2, h3⟩ := h
  have m2 : mulOk 2 r.2 = true := mulOk_of (by omega) (by omega) (by omega) (by omega)
  have b1 : Pn 200000 (flow r.1 (2 * r.2)) := flow_bd (by omega) (by omega)
  have e1 := q_opposite b1 (by decide)
  have e0 := q_flow (a := r.1) (b := 2 * r.2) (by omega) (by omega)
  have z : ptD r = .tuple [.int r.1, .int r.2] := rfl
  rw [z]
  simp [φ_cut_told, wfn, g_cut_told, m2, e0, e1, cut]
theorem q_both {r : Int × Int} (h : Sm r) (W : Src) : φ_both_back [.d (ptD r)] W = some (.tuple [ptD (cut r).1, ptD (cut r).2], W) := by
  obtain ⟨h1, h2, h3⟩ := h
  have m2 : mulOk 2 r.2 = true := mulOk_of (by omega) (by omega) (by omega) (by omega)
  have b1 : Pn 200000 (flow r.1 (2 * r.2)) := flow_bd (by omega) (by omega)
  have e1 := q_opposite b1 (by decide)
  have e0 := q_flow (a := r.1) (b := 2 * r.2) (by omega) (by omega)
  have z : ptD r = .tuple [.int r.1, .int r.2] := rfl
  rw [z]
  simp [φ_both_back, wfn, g_both_back, m2, e0, e1, cut]
def Sm4 (p : Int × Int) : Prop := 0 ≤ p.1 ∧ p.1 < p.2 ∧ p.2 < 400000
def btw (one p o : Int × Int) : Bool :=
  let far := (o.1 * one.2 - one.1 * o.2) % (one.2 * o.2)
  let near := (p.1 * one.2 - one.1 * p.2) % (one.2 * p.2)
  if near = 0 then false else (decide (far = 0) || decide (near * o.2 < far * p.2))
theorem q_between {one p o : Int × Int} (h1 : Sm4 one) (h2 : Sm4 p) (h3 : Sm4 o) (W : Src) : φ_is_between [.d (ptD one), .d (ptD p), .d (ptD o)] W = some (.bool (btw one p o), W) := by
  obtain ⟨a, b⟩ := one
  obtain ⟨c, d⟩ := p
  obtain ⟨e, f⟩ := o
  obtain ⟨a1, a2, a3⟩ := h1
  obtain ⟨c1, c2, c3⟩ := h2
  obtain ⟨e1, e2, e3⟩ := h3
  simp only at a1 a2 a3 c1 c2 c3 e1 e2 e3
  have bf := mul_bd (x := b) (y := f) (A := 400000) (B := 400000) (by omega) (by omega) (by omega) (by omega)
  have bd := mul_bd (x := b) (y := d) (A := 400000) (B := 400000) (by omega) (by omega) (by omega) (by omega)
  have p1 : 0 < b * f := Int.mul_pos (by omega) (by omega)
  have p2 : 0 < b * d := Int.mul_pos (by omega) (by omega)
  have m1 : mulOk e b = true := mulOk_of (by omega) (by omega) (by omega) (by omega)
  have m2 : mulOk a f = true := mulOk_of (by omega) (by omega) (by omega) (by omega)
  have m3 : mulOk b f = true := mulOk_of (by omega) (by omega) (by omega) (by omega)
  have m4 : mulOk c b = true := mulOk_of (by omega) (by omega) (by omega) (by omega)
  have m5 : mulOk a d = true := mulOk_of (by omega) (by omega) (by omega) (by omega)
  have m6 : mulOk b d = true := mulOk_of (by omega) (by omega) (by omega) (by omega)
  have n1 := Int.emod_nonneg (c * b - a * d) (show b * d ≠ 0 by omega)
  have n2 := Int.emod_lt_of_pos (c * b - a * d) p2
  have f1 := Int.emod_nonneg (e * b - a * f) (show b * f ≠ 0 by omega)
  have f2 := Int.emod_lt_of_pos (e * b - a * f) p1
  have m7 : mulOk ((c * b - a * d) % (b * d)) f = true := mulOk_of (by omega) (by omega) (by omega) (by omega)
  have m8 : mulOk ((e * b - a * f) % (b * f)) d = true := mulOk_of (by omega) (by omega) (by omega) (by omega)
  by_cases z : (c * b - a * d) % (b * d) = 0
  · simp [φ_is_between, wfn, g_is_between, m1, m2, m3, m4, m5, m6, p1, p2, btw, z]
  · by_cases y : (e * b - a * f) % (b * f) = 0
    · simp [φ_is_between, wfn, g_is_between, m1, m2, m3, m4, m5, m6, p1, p2, btw, z, y]
    · simp [φ_is_between, wfn, g_is_between, m1, m2, m3, m4, m5, m6, m7, m8, p1, p2, btw, z, y]
theorem eqv_pt (p q : Int × Int) : PyData.eqv (ptD p) (ptD q) = decide (p = q) := by
  obtain ⟨a, b⟩ := p
  obtain ⟨c, d⟩ := q
  by_cases h1 : a = c <;> by_cases h2 : b = d <;> simp [ptD, PyData.eqv, PyData.eqvAll, h1, h2]
theorem shaped_pt (p : Int × Int) : SeqAt.shaped (ptD p) = true := rfl
@[simp] theorem cEq_pt (p q : Int × Int) : cEq (ptD p) (ptD q) = some (.bool (decide (p = q))) := by
  rw [cEq_of rfl rfl rfl, eqv_pt]
@[simp] theorem cNe_pt (p q : Int × Int) : cNe (ptD p) (ptD q) = some (.bool (!decide (p = q))) := by
  rw [cNe_of rfl rfl rfl, eqv_pt]
@[simp] theorem cIn_pt2 (p a b : Int × Int) : cIn (ptD p) (.tuple [ptD a, ptD b]) = some (.bool (decide (a = p) || decide (b = p))) := by
  have h : SeqAt.shaped (.tuple [ptD a, ptD b]) = true := rfl
  simp [cIn, shaped_pt, h, eqv_pt]
@[simp] theorem bIx_p0 (p : Int × Int) : bIx (ptD p) (.int 0) = some (.int p.1) := rfl
@[simp] theorem bIx_p1 (p : Int × Int) : bIx (ptD p) (.int 1) = some (.int p.2) := rfl
@[simp high] theorem gT_pt (g : Gxs) (p : Int × Int) (ρ : Rho) : gT 2 g (ptD p) ρ = g [.int p.1, .int p.2] ρ := rfl
@[simp] theorem put_pt (n : Bool) (i : Nat) (p : Int × Int) (ρ : Rho) : put n i (ptD p) ρ = ρ.set i (.d (ptD p)) := by cases n <;> rfl
theorem Pn.sm4 {p : Int × Int} {n : Int} (h : Pn n p) (hn : n ≤ 400000) : Sm4 p := ⟨h.1, h.2.1, Int.lt_of_lt_of_le h.2.2 hn⟩
theorem cut_bd {r : Int × Int} (h : Sm r) : Pn 200000 (cut r).1 ∧ Pn 400000 (cut r).2 := by
  obtain ⟨h1, h2, h3⟩ := h
  have b1 : Pn 200000 (flow r.1 (2 * r.2)) := flow_bd (by omega) (by omega)
  obtain ⟨g1, g2, g3⟩ := b1
  exact ⟨⟨g1, g2, g3⟩, flow_bd (by omega) (by omega)⟩
def halfN (r p : Int × Int) : Int := if (cut r).1 = p ∨ (cut r).2 = p then 2 else if btw (cut r).1 p (cut r).2 = true then 1 else 0
theorem q_half {r p : Int × Int} (h : Sm r) (hp : Sm4 p) (W : Src) : φ_half_of [.d (ptD r), .d (ptD p)] W = some (.int (halfN r p), W) := by
  obtain ⟨c1, c2⟩ := cut_bd h
  have e1 := q_cut h
  have e2 := q_between (c1.sm4 (by decide)) hp (c2.sm4 (by decide))
  unfold halfN
  by_cases z1 : (cut r).1 = p
  · simp [φ_half_of, wfn, g_half_of, e1, z1]
  · by_cases z2 : (cut r).2 = p
    · simp [φ_half_of, wfn, g_half_of, e1, z1, z2]
    · cases z3 : btw (cut r).1 p (cut r).2 <;> simp [φ_half_of, wfn, g_half_of, e1, z1, z2, e2, z3]
def pback (r p : Int × Int) (l : Int) : Int × Int := if halfN r (cut p).1 = l then (cut p).1 else (cut p).2
theorem q_pback {r p : Int × Int} (h : Sm r) (hp : Sm p) (l : Int) (W : Src) : φ_point_back [.d (ptD r), .d (ptD p), .d (.int l)] W = some (ptD (pback r p l), W) := by
  obtain ⟨c1, c2⟩ := cut_bd hp
  have e1 := q_both hp
  have e2 := q_half h (c1.sm4 (by decide))
  unfold pback
  by_cases z : halfN r (cut p).1 = l
  · simp [φ_point_back, wfn, g_point_back, e1, e2, z]
  · simp [φ_point_back, wfn, g_point_back, e1, e2, z]
def lmv (p : Int × Int) : Int × Int := if p.2 % 2 = 0 then (p.1 % (p.2 / 2), p.2 / 2) else (2 * p.1 % p.2, p.2)
theorem q_lmoved {p : Int × Int} (h : Sm4 p) (W : Src) : φ_law_moved [.d (ptD p)] W = some (ptD (lmv p), W) := by
  obtain ⟨h1, h2, h3⟩ := h
  have m2 : mulOk 2 p.1 = true := mulOk_of (by omega) (by omega) (by omega) (by omega)
  have d2 : divOk 2 = true := by decide
  unfold lmv
  by_cases z : p.2 % 2 = 0
  · have z2 : 0 < p.2 / 2 := by omega
    simp [φ_law_moved, wfn, g_law_moved, z, d2, z2]
  · have z3 : 0 < p.2 := by omega
    simp [φ_law_moved, wfn, g_law_moved, z, m2, z3]
def lhalf (r p : Int × Int) : Int := if r.1 * p.2 = 2 * r.2 * p.1 ∨ (r.1 + r.2) * p.2 = 2 * r.2 * p.1 then 2 else if r.1 * p.2 < 2 * r.2 * p.1 ∧ 2 * r.2 * p.1 < (r.1 + r.2) * p.2 then 1 else 0
theorem cIn_int2 (p a b : Int) : cIn (.int p) (.tuple [.int a, .int b]) = some (.bool (decide (a = p) || decide (b = p))) := by
  have h : SeqAt.shaped (.tuple [.int a, .int b]) = true := rfl
  have h2 : SeqAt.shaped (.int p) = true := rfl
  simp [cIn, h2, h, eqv_int]
theorem q_lhalf {r p : Int × Int} (h : Sm r) (hp : Sm4 p) (W : Src) : φ_law_half [.d (ptD r), .d (ptD p)] W = some (.int (lhalf r p), W) := by
  obtain ⟨a1, a2, a3⟩ := h
  obtain ⟨c1, c2, c3⟩ := hp
  have m1 : mulOk r.1 p.2 = true := mulOk_of (by omega) (by omega) (by omega) (by omega)
  have m2 : mulOk 2 r.2 = true := mulOk_of (by omega) (by omega) (by omega) (by omega)
  have m3 : mulOk (2 * r.2) p.1 = true := mulOk_of (by omega) (by omega) (by omega) (by omega)
  have m4 : mulOk (r.1 + r.2) p.2 = true := mulOk_of (by omega) (by omega) (by omega) (by omega)
  unfold lhalf
  simp [φ_law_half, wfn, g_law_half, m1, m2, m3, m4, cIn_int2, -Bool.or_eq_true]
  generalize r.1 * p.2 = L
  generalize 2 * r.2 * p.1 = M
  generalize (r.1 + r.2) * p.2 = U
  by_cases z1 : L = M
  · simp [z1]
  · by_cases z2 : U = M
    · simp [z1, z2]
    · by_cases z3 : L < M
      · by_cases z4 : M < U
        · simp [z1, z2, z3, z4]
        · simp [z1, z2, z3, z4]
      · simp [z1, z2, z3]
def rnd (o p : Int × Int) : Int × Int := ((p.1 * o.2 - o.1 * p.2) % (p.2 * o.2), p.2 * o.2)
theorem q_round {o p : Int × Int} (h : Sm4 o) (hp : Sm4 p) (W : Src) : φ_law_round [.d (ptD o), .d (ptD p)] W = some (ptD (rnd o p), W) := by
  obtain ⟨a1, a2, a3⟩ := h
  obtain ⟨c1, c2, c3⟩ := hp
  have m1 : mulOk p.1 o.2 = true := mulOk_of (by omega) (by omega) (by omega) (by omega)
  have m2 : mulOk o.1 p.2 = true := mulOk_of (by omega) (by omega) (by omega) (by omega)
  have m3 : mulOk p.2 o.2 = true := mulOk_of (by omega) (by omega) (by omega) (by omega)
  have p1 : 0 < p.2 * o.2 := Int.mul_pos (by omega) (by omega)
  simp [φ_law_round, wfn, g_law_round, m1, m2, m3, p1, rnd]
theorem rnd_bd {o p : Int × Int} (h : Sm4 o) (hp : Sm4 p) : 0 ≤ (rnd o p).1 ∧ (rnd o p).1 < (rnd o p).2 ∧ (rnd o p).2 < 160000000000 := by
  obtain ⟨a1, a2, a3⟩ := h
  obtain ⟨c1, c2, c3⟩ := hp
  have p1 : 0 < p.2 * o.2 := Int.mul_pos (by omega) (by omega)
  have p2 := mul_bd (x := p.2) (y := o.2) (A := 400000) (B := 400000) (by omega) (by omega) (by omega) (by omega)
  exact ⟨Int.emod_nonneg _ (by omega), Int.emod_lt_of_pos _ p1, by have := p2.2; show p.2 * o.2 < _; omega⟩
def lbtw (a p o : Int × Int) : Bool := if (rnd a p).1 = 0 then false else (decide ((rnd a o).1 = 0) || decide ((rnd a p).1 * (rnd a o).2 < (rnd a o).1 * (rnd a p).2))
theorem q_lbetween {a p o : Int × Int} (h : Sm4 a) (hp : Sm4 p) (ho : Sm4 o) (W : Src) : φ_law_between [.d (ptD a), .d (ptD p), .d (ptD o)] W = some (.bool (lbtw a p o), W) := by
  have e1 := q_round h hp
  have e2 := q_round h ho
  obtain ⟨b1, b2, b3⟩ := rnd_bd h hp
  obtain ⟨c1, c2, c3⟩ := rnd_bd h ho
  have m1 : mulOk (rnd a p).1 (rnd a o).2 = true := mulOk_of (by omega) (by omega) (by omega) (by omega)
  have m2 : mulOk (rnd a o).1 (rnd a p).2 = true := mulOk_of (by omega) (by omega) (by omega) (by omega)
  unfold lbtw
  by_cases z : (rnd a p).1 = 0
  · simp [φ_law_between, wfn, g_law_between, e1, e2, m1, m2, z]
  · by_cases y : (rnd a o).1 = 0
    · simp [φ_law_between, wfn, g_law_between, e1, e2, m1, m2, z, y]
    · simp [φ_law_between, wfn, g_law_between, e1, e2, m1, m2, z, y]
theorem btw_eq {a p o : Int × Int} (h : Sm4 a) (hp : Sm4 p) (ho : Sm4 o) : btw a p o = lbtw a p o := by
  obtain ⟨a1, a2, a3⟩ := h
  obtain ⟨c1, c2, c3⟩ := hp
  obtain ⟨e1, e2, e3⟩ := ho
  unfold btw lbtw rnd
  simp only
  rw [Int.mul_comm p.2 a.2, Int.mul_comm o.2 a.2]
  generalize (p.1 * a.2 - a.1 * p.2) % (a.2 * p.2) = near
  generalize (o.1 * a.2 - a.1 * o.2) % (a.2 * o.2) = far
  have key : (near * o.2 < far * p.2) ↔ (near * (a.2 * o.2) < far * (a.2 * p.2)) := by
    have e1 : near * (a.2 * o.2) = a.2 * (near * o.2) := by rw [Int.mul_left_comm]
    have e2 : far * (a.2 * p.2) = a.2 * (far * p.2) := by rw [Int.mul_left_comm]
    rw [e1, e2]
    constructor
    · intro q
      exact Int.mul_lt_mul_of_pos_left q (by omega)
    · intro q
      exact Int.lt_of_mul_lt_mul_left q (by omega)
  simp only [key]
/-! gcd by the law's own loop -/
theorem gcd_step (a b : Int) (ha : 0 ≤ a) (hb : 0 < b) : Int.gcd b (a % b) = Int.gcd a b := by
  obtain ⟨m, rfl⟩ := Int.eq_ofNat_of_zero_le ha
  obtain ⟨k, rfl⟩ := Int.eq_ofNat_of_zero_le (Int.le_of_lt hb)
  show Nat.gcd k (m % k) = Nat.gcd m k
  rw [Nat.gcd_comm m k, Nat.gcd_rec k m, Nat.gcd_comm]
theorem common_go : ∀ (n : Nat) (a b : Int) (W : Src), 0 ≤ a → 0 ≤ b → b.toNat < n → whL [] (tOf (e2 cGt (eVar 1) (eC (.int 0)))) b_law_common_1 n [.d (.int a), .d (.int b)] W = some (.nx [.d (.int (Int.gcd a b)), .d (.int 0)] W)
  | 0, a, b, W, h1, h2, h3 => by omega
  | n + 1, a, b, W, h1, h2, h3 => by
    rw [whL_succ]
    by_cases z : 0 < b
    · have m := Int.emod_nonneg a (show b ≠ 0 by omega)
      have m2 := Int.emod_lt_of_pos a z
      have ih := common_go n b (a % b) W h2 m (by omega)
      rw [gcd_step a b h1 z] at ih
      have st : b_law_common_1 [.d (.int a), .d (.int b)] W = some (.nx [.d (.int b), .d (.int (a % b))] W) := by simp [b_law_common_1, z]
      simp [z, st, ih]
    · have : b = 0 := by omega
      subst this
      simp [Int.gcd_zero_right, Int.natAbs_of_nonneg h1]
theorem q_common {a b : Int} (h1 : 0 ≤ a) (h2 : 0 ≤ b) (h3 : b < 1000) (W : Src) : φ_law_common [.d (.int a), .d (.int b)] W = some (.int (Int.gcd a b), W) := by
  have := common_go 1000 a b W h1 h2 (by omega)
  simp [φ_law_common, wfn, g_law_common, this]
theorem canShow_of {d : PyData} (h1 : d.showable = true) (h2 : d.hasDict = false) (h3 : d.depth ≤ 60) (h4 : d.leavesShort 13 = true) (h5 : d.weight ≤ 2 ^ 20) : canShow d = true := by
  have := PyData.shown_fits (by decide) (by decide) h4 h5
  unfold canShow
  simp only [h1, h2, Bool.and_eq_true, decide_eq_true_eq]
  exact ⟨⟨⟨trivial, by decide⟩, h3⟩, this⟩
theorem sh_int {i : Int} (h : -100000000000 < i ∧ i < 100000000000) : i.natAbs.log2 < 200 ∧ (PyData.shown (.int i)).length ≤ 13 := by
  have a := log2_small (n := i.natAbs) (by omega)
  exact ⟨a, PyData.shown_int_le (by omega)⟩
def Big (p : Int × Int) : Prop := (-100000000000 < p.1 ∧ p.1 < 100000000000) ∧ (-100000000000 < p.2 ∧ p.2 < 100000000000)
theorem show_pt {p : Int × Int} (h : Big p) : canShow (ptD p) = true := by
  obtain ⟨a1, a2⟩ := sh_int h.1
  obtain ⟨b1, b2⟩ := sh_int h.2
  refine canShow_of ?_ ?_ ?_ ?_ ?_
  · simp only [ptD, PyData.showable, PyData.showableAll, Bool.and_eq_true, decide_eq_true_eq, and_true]
    omega
  · simp [ptD, PyData.hasDict, PyData.hasDictAll]
  · simp [ptD, PyData.depth, PyData.depthAll]
  · simp [ptD, PyData.leavesShort, PyData.leavesShortAll, a2, b2]
  · simp only [ptD, PyData.weight, PyData.weightAll]
    split <;> split <;> omega
theorem show_pt2 {p q : Int × Int} (h : Big p) (h' : Big q) : canShow (.list [ptD p, ptD q]) = true := by
  obtain ⟨a1, a2⟩ := sh_int h.1
  obtain ⟨b1, b2⟩ := sh_int h.2
  obtain ⟨c1, c2⟩ := sh_int h'.1
  obtain ⟨d1, d2⟩ := sh_int h'.2
  refine canShow_of ?_ ?_ ?_ ?_ ?_
  · simp only [ptD, PyData.showable, PyData.showableAll, Bool.and_eq_true, decide_eq_true_eq, and_true]
    omega
  · simp [ptD, PyData.hasDict, PyData.hasDictAll]
  · simp [ptD, PyData.depth, PyData.depthAll]
  · simp [ptD, PyData.leavesShort, PyData.leavesShortAll, a2, b2, c2, d2]
  · simp only [ptD, PyData.weight, PyData.weightAll]
    split <;> split <;> split <;> split <;> omega
@[simp] theorem fRepr_s (d : PyData) : fRepr [d] = if canShow d = true then some (.str d.shown) else none := rfl
theorem cPick_ok {many : Int} (h : many < 1000000000) (W : Src) : cPick [.src, .d (.int many)] W = some (.int (pickF many W).1, (pickF many W).2) := by
  unfold cPick
  simp only [pickOk_lt.mpr h, if_true]
theorem q_of {xs : List PyData} (h : xs ≠ []) (h2 : xs.length < 1000000) (W : Src) : ∃ x ∈ xs, ∃ W', φ_law_of [.src, .d (.list xs)] W = some (x, W') := by
  have hl : 0 < xs.length := List.length_pos_iff.mpr h
  obtain ⟨n, hn⟩ : ∃ n : Int, n = xs.length := ⟨_, rfl⟩
  have fl : fLen [.list xs] = some (.int n) := by rw [hn]; rfl
  have a := pickF_low n W
  have b := pickF_lt (many := n) W (by omega)
  have hc : n < 1000000000 := by omega
  generalize ht : pickF n W = r at a b
  obtain ⟨t, W2⟩ := r
  simp only at a b
  have c : t.toNat < xs.length := by omega
  have f : L2.atI xs t = some (xs[t.toNat]) := by rw [atI_nn a, List.getElem?_eq_getElem c]
  refine ⟨xs[t.toNat], List.getElem_mem c, W2, ?_⟩
  simp [φ_law_of, wfn, g_law_of, fl, cPick, pickOk_lt.mpr hc, ht, f, -fLen_l]
theorem cmpL_pure {g : Gx} {t : Tx} {e : Ex} {ρ : Rho} {W : Src} (p : PyData → Bool) (f : PyData → PyData) : ∀ (ds acc : List PyData), (∀ d ∈ ds, ∃ ρ1, g d ρ = some ρ1 ∧ t ρ1 W = some (p d, W) ∧ (p d = true → e ρ1 W = some (f d, W))) → acc.length + ds.length < sizeLine → cmpL g t e ρ ds acc W = some (acc ++ (ds.filter p).map f, W)
  | [], acc, _, _ => by simp
  | d :: ds, acc, h, hl => by
    obtain ⟨ρ1, h1, h2, h3⟩ := h d List.mem_cons_self
    have ih := fun acc' (hl' : acc'.length + ds.length < sizeLine) => cmpL_pure p f ds acc' (fun d' hd => h d' (List.mem_cons_of_mem _ hd)) hl'
    rw [List.length_cons] at hl
    rw [cmpL_cons, h1]
    simp only [h2]
    cases q : p d with
    | true =>
      simp only [h3 q, if_pos (show acc.length < sizeLine by omega)]
      rw [ih _ (by rw [List.length_append]; simp only [List.length_cons, List.length_nil]; omega), List.filter_cons, if_pos q]
      simp
    | false =>
      simp only
      rw [ih _ (by omega), List.filter_cons, if_neg (by rw [q]; decide)]
def bots : List Int := [1, 2, 3, 5, 7, 8, 9, 12, 15, 16, 21, 24, 31, 56, 60, 127, 255]
def rbots : List Int := [2, 4, 6, 8, 10, 12, 14, 20, 24, 28, 56]
theorem int_list {l : List Int} {x : PyData} (h : x ∈ l.map PyData.int) : ∃ i ∈ l, x = .int i := by
  obtain ⟨i, h1, h2⟩ := List.mem_map.mp h
  exact ⟨i, h1, h2.symm⟩
def IsP (p : Int × Int) : Prop := ∃ b ∈ bots, ∃ t : Int, 0 ≤ t ∧ t < b ∧ p = (t / (Int.gcd b t : Int), b / (Int.gcd b t : Int))
theorem bots_bd : ∀ b ∈ bots, 1 ≤ b ∧ b ≤ 255 := by decide
theorem rbots_bd : ∀ b ∈ rbots, 2 ≤ b ∧ b ≤ 56 := by decide
theorem q_point (W : Src) : ∃ p, IsP p ∧ ∃ W', φ_law_point [.src] W = some (ptD p, W') := by
  obtain ⟨x, hx, W1, e1⟩ := q_of (xs := bots.map PyData.int) (by decide) (by decide) W
  obtain ⟨b, hb, rfl⟩ := int_list hx
  obtain ⟨b1, b2⟩ := bots_bd b hb
  have lo := pickF_low b W1
  have hi := pickF_lt (many := b) W1 b1
  have hc : b < 1000000000 := by omega
  generalize ht : pickF b W1 = r at lo hi
  obtain ⟨t, W2⟩ := r
  simp only at lo hi
  have e2 := q_common (a := b) (b := t) (by omega) lo (by omega)
  have g0 : divOk (Int.gcd b t) = true := by
    have : 0 < Int.gcd b t := Int.gcd_pos_of_ne_zero_left _ (by omega)
    have d2 : (Int.gcd b t : Int) ∣ b := Int.gcd_dvd_left ..
    have := Int.le_of_dvd (by omega) d2
    exact divOk_of (by omega) (by omega)
  refine ⟨_, ⟨b, hb, t, lo, hi, rfl⟩, W2, ?_⟩
  simp only [bots, List.map_cons, List.map_nil] at e1
  simp [φ_law_point, wfn, g_law_point, e1, cPick, pickOk_lt.mpr hc, ht, e2, g0, ptD]

def IsR (r : Int × Int) : Prop := r.2 ∈ rbots ∧ 1 ≤ r.1 ∧ r.1 < r.2 ∧ Int.gcd r.1 r.2 = 1
theorem mem_rng {lo : Int} {n : Nat} {x : PyData} : x ∈ rng lo n ↔ ∃ i : Int, lo ≤ i ∧ i < lo + n ∧ x = .int i := by
  unfold rng
  rw [List.mem_map]
  constructor
  · rintro ⟨k, hk, rfl⟩
    have := List.mem_range.mp hk
    exact ⟨lo + k, by omega, by omega, rfl⟩
  · rintro ⟨i, h1, h2, rfl⟩
    refine ⟨(i - lo).toNat, List.mem_range.mpr (by omega), ?_⟩
    have : lo + ((i - lo).toNat : Int) = i := by omega
    rw [this]
theorem rng_len (lo : Int) (n : Nat) : (rng lo n).length = n := by simp [rng]
def asI : PyData → Int
  | .int i => i
  | _ => 0
theorem q_rule (W : Src) : ∃ r, IsR r ∧ ∃ W', φ_law_rule [.src] W = some (ptD r, W') := by
  obtain ⟨x, hx, W1, e1⟩ := q_of (xs := rbots.map PyData.int) (by decide) (by decide) W
  obtain ⟨b, hb, rfl⟩ := int_list hx
  obtain ⟨b1, b2⟩ := rbots_bd b hb
  have big : big62 1 = true ∧ big62 b = true := by
    refine ⟨by decide, ?_⟩
    unfold big62
    simp only [Bool.and_eq_true, decide_eq_true_eq]
    omega
  have hcmp := cmpL_pure (g := gN 2) (t := tOf (e2 cEq (eCall φ_law_common (aCons (eVal 2) (aCons (eVal 1) aNil))) (eC (.int 1)))) (e := eVal 2) (ρ := [.src, .d (.int b), .no]) (W := W1) (fun d => decide ((Int.gcd (asI d) b : Int) = 1)) id (rng 1 (b - 1).toNat) [] (fun d hd => by
    obtain ⟨i, h1, h2, rfl⟩ := mem_rng.mp hd
    have e2 := q_common (a := i) (b := b) (by omega) (by omega) (by omega) W1
    refine ⟨[.src, .d (.int b), .d (.int i)], rfl, ?_, fun _ => rfl⟩
    simp [e2, asI]
    exact decide_eq_decide.mpr Iff.rfl) (by rw [rng_len]; simp only [List.length_nil, size_big]; omega)
  simp only [List.nil_append, List.map_id] at hcmp
  have hone : PyData.int 1 ∈ (rng 1 (b - 1).toNat).filter (fun d => decide ((Int.gcd (asI d) b : Int) = 1)) := by
    rw [List.mem_filter]
    refine ⟨mem_rng.mpr ⟨1, by omega, by omega, rfl⟩, ?_⟩
    simp [asI]
  have hlen : ((rng 1 (b - 1).toNat).filter (fun d => decide ((Int.gcd (asI d) b : Int) = 1))).length < 1000000 := by
    have := List.length_filter_le (fun d => decide ((Int.gcd (asI d) b : Int) = 1)) (rng 1 (b - 1).toNat)
    rw [rng_len] at this
    omega
  generalize hL : (rng 1 (b - 1).toNat).filter (fun d => decide ((Int.gcd (asI d) b : Int) = 1)) = L at hcmp hone hlen
  obtain ⟨y, hy, W2, e3⟩ := q_of (xs := L) (List.ne_nil_of_mem hone) hlen W1
  rw [← hL, List.mem_filter] at hy
  obtain ⟨hy1, hy2⟩ := hy
  obtain ⟨i, h1, h2, rfl⟩ := mem_rng.mp hy1
  refine ⟨(i, b), ⟨hb, h1, by show i < b; omega, by have := of_decide_eq_true hy2; simp only [asI] at this; show Int.gcd i b = 1; omega⟩, W2, ?_⟩
  simp only [rbots, List.map_cons, List.map_nil] at e1
  simp [φ_law_rule, wfn, g_law_rule, e1, big, hcmp, e3, -cmpL_cons, -Int.pred_toNat]
end Lw
set_option Elab.async false
set_option linter.all false
set_option maxRecDepth 100000
set_option maxHeartbeats 1000000
namespace Lw
open PySem PySem.Spec Dv
/-- a small point with its facts -/
structure Pt (p : Int × Int) : Prop where
  a : 0 ≤ p.1
  b : p.1 < p.2
  c : p.2 ≤ 255
  g : Int.gcd p.1 p.2 = 1
  m : mv p = lmv p
  o1 : Int.gcd (opp p).2 (opp p).1 = 1
  o2 : opp (opp p) = p
  o3 : lmv (opp p) = lmv p
  o4 : opp p ≠ p
  c1 : lmv (cut p).1 = p
  c2 : lmv (cut p).2 = p
theorem Pt.sm {p : Int × Int} (h : Pt p) : Sm p := ⟨h.a, h.b, by have := h.c; omega⟩
theorem Pt.sm4 {p : Int × Int} (h : Pt p) : Sm4 p := ⟨h.a, h.b, by have := h.c; omega⟩
theorem Pt.opp {p : Int × Int} (h : Pt p) : Pn 1000 (Lw.opp p) := by
  have := h.a; have := h.b; have := h.c
  exact flow_bd (by omega) (by omega)
theorem Pt.cut {p : Int × Int} (h : Pt p) : Pn 1000 (Lw.cut p).1 ∧ Pn 2000 (Lw.cut p).2 := by
  have h1 := h.a; have h2 := h.b; have h3 := h.c
  have b1 : Pn 1000 (flow p.1 (2 * p.2)) := flow_bd (by omega) (by omega)
  obtain ⟨g1, g2, g3⟩ := b1
  exact ⟨⟨g1, g2, g3⟩, flow_bd (by omega) (by omega)⟩
/-! the turn's states -/
def B14 (r p : Int × Int) : Rho := [.no, .src, .no, .d (ptD r), .d (ptD p), .no, .no, .no, .no, .no, .no, .d (.tuple [ptD (cut r).1, ptD (cut r).2]), .no, .no, .no, .no, .no, .no, .no, .no, .no, .no, .no, .no, .no, .no]
def S0 (r p : Int × Int) : Rho := [.no, .src, .no, .d (ptD r), .d (ptD p), .no, .no, .no, .no, .no, .no, .no, .no, .no, .no, .no, .no, .no, .no, .no, .no, .no, .no, .no, .no, .no]
def S1 (r p o t : Int × Int) : Rho := [.no, .src, .no, .d (ptD r), .d (ptD p), .d (ptD o), .d (ptD t), .no, .no, .no, .no, .no, .no, .no, .no, .no, .no, .no, .no, .no, .no, .no, .no, .no, .no, .no]
def Sin (t : Sl) : Rho := [.no, .src, t, .no, .no, .no, .no, .no, .no, .no, .no, .no, .no, .no, .no, .no, .no, .no, .no, .no, .no, .no, .no, .no, .no, .no]
def S00 (r p o : Int × Int) : Rho := [.no, .src, .no, .d (ptD r), .d (ptD p), .d (ptD o), .no, .no, .no, .no, .no, .no, .no, .no, .no, .no, .no, .no, .no, .no, .no, .no, .no, .no, .no, .no]
theorem e_0 (t : Sl) (W : Src) : ∃ r p o W', IsR r ∧ IsP p ∧ IsP o ∧ b_law_4_0 (Sin t) W = some (.nx (S00 r p o) W') := by
  obtain ⟨r, hr, W1, e1⟩ := q_rule W
  obtain ⟨p, hp, W2, e2⟩ := q_point W1
  obtain ⟨o, ho, W3, e3⟩ := q_point W2
  refine ⟨r, p, o, W3, hr, hp, ho, ?_⟩
  simp [b_law_4_0, Sin, S00, e1, e2, e3]
theorem e_1 (r p o : Int × Int) (hp : IsP p) (ho : IsP o) (W : Src) : ∃ t W', IsP t ∧ b_law_4_1 (S00 r p o) W = some (.nx (S1 r p o t) W') := by
  obtain ⟨q, hq, W1, e1⟩ := q_point W
  obtain ⟨x, hx, W2, e2⟩ := q_of (xs := [ptD q, ptD p, ptD o]) (by simp) (by show 3 < 1000000; decide) W1
  have hx : ∃ t, IsP t ∧ x = ptD t := by
    simp only [List.mem_cons, List.not_mem_nil, or_false] at hx
    rcases hx with rfl | rfl | rfl
    · exact ⟨q, hq, rfl⟩
    · exact ⟨p, hp, rfl⟩
    · exact ⟨o, ho, rfl⟩
  obtain ⟨t, ht, rfl⟩ := hx
  refine ⟨t, W2, ht, ?_⟩
  simp [b_law_4_1, S00, S1, e1, e2]
/-- the two ways told -/
def wayOk (p : Int × Int) : Prop := ∃ k n : Int, (0 ≤ k ∧ k < 1000) ∧ (0 ≤ n ∧ n < 1000) ∧ (∀ W, φ_way_told [.d (ptD p)] W = some (ptD (k, n), W)) ∧ ∀ W, φ_law_way [.d (ptD p)] W = some (ptD (k, n), W)
theorem flow_big {a b n : Int} (h : Pn n (flow a b)) (hn : n ≤ 10000) : Big (flow a b) := ⟨⟨by have := h.1; omega, by have := h.2.1; have := h.2.2; omega⟩, ⟨by have := h.1; have := h.2.1; omega, by have := h.2.2; omega⟩⟩
theorem mv_bd {p : Int × Int} (h : Pt p) : Pn 256 (mv p) := by
  have := h.a; have := h.b; have := h.c
  exact flow_bd (by omega) (by omega)
theorem Pn.big {p : Int × Int} {n : Int} (h : Pn n p) (hn : n ≤ 10000) : Big p := ⟨⟨by have := h.1; omega, by have := h.2.1; have := h.2.2; omega⟩, ⟨by have := h.1; have := h.2.1; omega, by have := h.2.2; omega⟩⟩
theorem e_2 (r p o t : Int × Int) (h : Pt p) (hw : wayOk p) (W : Src) : b_law_4_2 (S1 r p o t) W = some (.nx (S1 r p o t) W) := by
  obtain ⟨k, n, k1, n1, w1, w2⟩ := hw
  have e1 := q_moved (n := 256) (p := p) ⟨h.a, h.b, by have := h.c; omega⟩ (by decide)
  have e2 := q_lmoved h.sm4
  have e3 : canShow (.list [ptD (lmv p), ptD (k, n)]) = true := show_pt2 (by rw [← h.m]; exact (mv_bd h).big (by decide)) ⟨⟨by show _ < k; omega, by show k < _; omega⟩, ⟨by show _ < n; omega, by show n < _; omega⟩⟩
  simp only [ptD_mk] at w1 w2 e3
  simp [b_law_4_2, S1, e1, e2, w1, w2, h.m, e3]
def itL : Nat → Int × Int → Int × Int
  | 0, p => p
  | n + 1, p => itL n (lmv p)
def manyL : List Int := [0, 1, 2, 5, 13, 30]
def onOk (p : Int × Int) : Prop := ∀ m ∈ manyL, (∀ W, φ_moved_on [.d (ptD p), .d (.int m)] W = some (ptD (itL m.toNat p), W)) ∧ Big (itL m.toNat p)
def S3 (r p o t : Int × Int) (m : Int) (h : Int × Int) : Rho := [.no, .src, .no, .d (ptD r), .d (ptD p), .d (ptD o), .d (ptD t), .d (.int m), .d (ptD h), .no, .no, .no, .no, .no, .no, .no, .no, .no, .no, .no, .no, .no, .no, .no, .no, .no]
theorem e_3 (r p o t : Int × Int) (W : Src) : ∃ m ∈ manyL, ∃ W', b_law_4_3 (S1 r p o t) W = some (.nx (S3 r p o t m p) W') := by
  obtain ⟨x, hx, W1, e1⟩ := q_of (xs := manyL.map PyData.int) (by decide) (by decide) W
  obtain ⟨m, hm, rfl⟩ := int_list hx
  refine ⟨m, hm, W1, ?_⟩
  simp only [manyL, List.map_cons, List.map_nil] at e1
  simp [b_law_4_3, S1, S3, e1]
theorem lmv_sm4 {p : Int × Int} (h : Sm4 p) : Sm4 (lmv p) := by
  obtain ⟨h1, h2, h3⟩ := h
  unfold lmv
  split
  · exact ⟨Int.emod_nonneg _ (by omega), Int.emod_lt_of_pos _ (by omega), by show p.2 / 2 < _; omega⟩
  · exact ⟨Int.emod_nonneg _ (by omega), Int.emod_lt_of_pos _ (by omega), h3⟩
theorem lap_go (r p o t : Int × Int) (m : Int) (W : Src) : ∀ (ds : List PyData) (h : Int × Int), Sm4 h → forL (gN 9) b_law_1 ds (S3 r p o t m h) W = some (.nx (S3 r p o t m (itL ds.length h)) W)
  | [], h, _ => rfl
  | d :: ds, h, hs => by
    have e := q_lmoved hs W
    have st : b_law_1 ((S3 r p o t m h).set 9 (.d d)) W = some (.nx (S3 r p o t m (lmv h)) W) := by
      simp [b_law_1, b_law_1_0, S3, e]
    rw [forL_cons]
    simp only [gN_s, st]
    exact lap_go r p o t m W ds (lmv h) (lmv_sm4 hs)
theorem many_bd : ∀ m ∈ manyL, 0 ≤ m ∧ m ≤ 30 := by decide
theorem e_4 (r p o t : Int × Int) (m : Int) (hm : m ∈ manyL) (h : Pt p) (W : Src) : b_law_4_4 (S3 r p o t m p) W = some (.nx (S3 r p o t m (itL m.toNat p)) W) := by
  obtain ⟨m1, m2⟩ := many_bd m hm
  have big : big62 m = true := by
    unfold big62
    simp only [Bool.and_eq_true, decide_eq_true_eq]
    omega
  have g := lap_go r p o t m W (rng 0 m.toNat) p h.sm4
  rw [rng_len] at g
  have q : iR1 (eVar 7) (S3 r p o t m p) W = some (rng 0 m.toNat, W) := by simp [S3, big]
  simp only [b_law_4_4, sAfter_s, sFrz_s, frzs_nil, sFor_s, q, g]
  rfl
theorem e_5 (r p o t : Int × Int) (m : Int) (hm : m ∈ manyL) (ho : onOk p) (W : Src) : b_law_4_5 (S3 r p o t m (itL m.toNat p)) W = some (.nx (S1 r p o t) W) := by
  obtain ⟨h1, h2⟩ := ho m hm
  have e3 := show_pt h2
  simp [b_law_4_5, S3, S1, h1, e3]
theorem e_6 (r p o t : Int × Int) (hp : Pt p) (ho : Pt o) (ht : Pt t) (W : Src) : b_law_4_6 (S1 r p o t) W = some (.nx (S0 r p) W) := by
  have e1 := q_between hp.sm4 ht.sm4 ho.sm4
  have e2 := q_lbetween hp.sm4 ht.sm4 ho.sm4
  rw [btw_eq hp.sm4 ht.sm4 ho.sm4] at e1
  simp [b_law_4_6, S1, S0, e1, e2]
def S7 (r p : Int × Int) : Rho := [.no, .src, .no, .d (ptD r), .d (ptD p), .no, .no, .no, .no, .no, .d (ptD (opp p)), .no, .no, .no, .no, .no, .no, .no, .no, .no, .no, .no, .no, .no, .no, .no]
theorem e_7 (r p : Int × Int) (hp : Pt p) (W : Src) : b_law_4_7 (S0 r p) W = some (.nx (S7 r p) W) := by
  have e1 := q_opposite (p := p) (n := 256) ⟨hp.a, hp.b, by have := hp.c; omega⟩ (by decide)
  simp [b_law_4_7, S0, S7, e1]
theorem q_lvalue {p : Int × Int} {n : Int} (h : Pn n p) (hn : n ≤ 1000) (W : Src) : φ_law_value [.d (ptD p)] W = some (.bool (decide ((Int.gcd p.2 p.1 : Int) = 1)), W) := by
  obtain ⟨h1, h2, h3⟩ := h
  have e := q_common (a := p.2) (b := p.1) (by omega) h1 (by omega)
  simp [φ_law_value, wfn, g_law_value, e, h1, h2]
theorem e_8 (r p : Int × Int) (hp : Pt p) (W : Src) : b_law_4_8 (S7 r p) W = some (.nx (S0 r p) W) := by
  have e1 := q_opposite hp.opp (by decide)
  have e2 := q_lvalue hp.opp (by decide)
  have e3 := q_lmoved (hp.opp.sm4 (by decide))
  have e4 := q_lmoved hp.sm4
  simp [b_law_4_8, S7, S0, e1, e2, e3, e4, hp.o1, hp.o2, hp.o3, hp.o4]
theorem e_9 (r p : Int × Int) (hr : Pt r) (W : Src) : b_law_4_9 (S0 r p) W = some (.nx (B14 r p) W) := by
  have e1 := q_cut hr.sm
  simp [b_law_4_9, S0, B14, e1]
end Lw
set_option Elab.async false
set_option linter.all false
set_option maxRecDepth 100000
set_option maxHeartbeats 1000000
namespace Lw
open PySem PySem.Spec Dv
theorem eqvAll_pt2 (a b c d : Int × Int) : PyData.eqv (.list [ptD a, ptD b]) (.list [ptD c, ptD d]) = (decide (a = c) && decide (b = d)) := by
  rw [← eqv_pt a c, ← eqv_pt b d]
  simp [PyData.eqv, PyData.eqvAll]
theorem cNe_pt2 (a b c d : Int × Int) : cNe (.list [ptD a, ptD b]) (.list [ptD c, ptD d]) = some (.bool (!(decide (a = c) && decide (b = d)))) := by
  rw [cNe_of rfl rfl rfl, eqvAll_pt2]
theorem cNe_i2 (a b c d : Int) : cNe (.list [.int a, .int b]) (.list [.int c, .int d]) = some (.bool (!(decide (a = c) && decide (b = d)))) := by
  rw [cNe_of rfl rfl rfl, ← eqv_int a c, ← eqv_int b d]
  simp [PyData.eqv, PyData.eqvAll]
theorem e_10 (r p : Int × Int) (hr : Pt r) (W : Src) : b_law_4_10 (B14 r p) W = some (.nx (B14 r p) W) := by
  have e1 := q_lmoved (hr.cut.1.sm4 (by decide))
  have e2 := q_lmoved (hr.cut.2.sm4 (by decide))
  have e3 := q_opposite hr.cut.1 (by decide)
  rw [show opp (cut r).1 = (cut r).2 from rfl] at e3
  simp [b_law_4_10, B14, e1, e2, hr.c1, hr.c2, cNe_pt2, e3]
structure Rl (r : Int × Int) : Prop extends Pt r where
  h2 : 2 * (Lw.cut r).1.1 * r.2 = r.1 * (Lw.cut r).1.2
  ev : r.2 % 2 = 0
theorem halfN_1 (r : Int × Int) : halfN r (cut r).1 = 2 := by simp [halfN]
theorem halfN_2 (r : Int × Int) : halfN r (cut r).2 = 2 := by simp [halfN]
theorem e_11 (r p : Int × Int) (hr : Rl r) (W : Src) : b_law_4_11 (B14 r p) W = some (.nx (B14 r p) W) := by
  obtain ⟨⟨c1, c2, c3⟩, ⟨d1, d2, d3⟩⟩ := hr.toPt.cut
  have a1 := hr.a; have a2 := hr.b; have a3 := hr.c
  have e1 := q_half hr.toPt.sm (hr.toPt.cut.1.sm4 (by decide))
  have e2 := q_half hr.toPt.sm (hr.toPt.cut.2.sm4 (by decide))
  rw [halfN_1] at e1
  rw [halfN_2] at e2
  have m1 : mulOk 2 (cut r).1.1 = true := mulOk_of (by omega) (by omega) (by omega) (by omega)
  have m2 : mulOk (2 * (cut r).1.1) r.2 = true := mulOk_of (by omega) (by omega) (by omega) (by omega)
  have m3 : mulOk r.1 (cut r).1.2 = true := mulOk_of (by omega) (by omega) (by omega) (by omega)
  have h2 := hr.h2
  simp [b_law_4_11, B14, e1, e2, m1, m2, m3, h2, cNe_i2]
def S12 (r p : Int × Int) : Rho := [.no, .src, .no, .d (ptD r), .d (ptD p), .no, .no, .no, .no, .no, .no, .d (.tuple [ptD (cut r).1, ptD (cut r).2]), .no, .d (.int (halfN r p)), .no, .no, .no, .no, .no, .no, .no, .no, .no, .no, .no, .no]
theorem e_12 (r p : Int × Int) (hr : Pt r) (hp : Pt p) (W : Src) : b_law_4_12 (B14 r p) W = some (.nx (S12 r p) W) := by
  have e1 := q_half hr.sm hp.sm4
  simp [b_law_4_12, B14, S12, e1]
theorem e_13 (r p : Int × Int) (hr : Pt r) (hp : Pt p) (f1 : halfN r p = lhalf r p) (W : Src) : b_law_4_13 (S12 r p) W = some (.nx (B14 r p) W) := by
  have e1 := q_lhalf hr.sm hp.sm4
  have e2 := q_lbetween (hr.cut.1.sm4 (by decide)) hp.sm4 (hr.cut.2.sm4 (by decide))
  rw [← btw_eq (hr.cut.1.sm4 (by decide)) hp.sm4 (hr.cut.2.sm4 (by decide))] at e2
  rw [← f1] at e1
  by_cases z : halfN r p = 2
  · simp [b_law_4_13, S12, B14, e1, z]
  · have z2 : halfN r p = if btw (cut r).1 p (cut r).2 = true then 1 else 0 := by
      unfold halfN at z ⊢
      split
      · rename_i h; rw [if_pos h] at z; exact absurd rfl z
      · rfl
    cases w : btw (cut r).1 p (cut r).2 with
    | true =>
      rw [w, if_pos rfl] at z2
      rw [w] at e2
      simp [b_law_4_13, S12, B14, e1, z2, e2]
    | false =>
      rw [w, if_neg (by decide)] at z2
      rw [w] at e2
      simp [b_law_4_13, S12, B14, e1, z2, e2]
def S14 (r p : Int × Int) : Rho := [.no, .src, .no, .d (ptD r), .d (ptD p), .no, .no, .no, .no, .no, .no, .d (.tuple [ptD (cut r).1, ptD (cut r).2]), .no, .no, .d (.tuple [ptD (cut p).1, ptD (cut p).2]), .no, .no, .no, .no, .no, .no, .no, .no, .no, .no, .no]
theorem e_14 (r p : Int × Int) (hp : Pt p) (W : Src) : b_law_4_14 (B14 r p) W = some (.nx (S14 r p) W) := by
  have e1 := q_both hp.sm
  simp [b_law_4_14, B14, S14, e1]
theorem Pt.big {p : Int × Int} (h : Pt p) : Big p := ⟨⟨by have := h.a; omega, by have := h.b; have := h.c; omega⟩, ⟨by have := h.a; have := h.b; omega, by have := h.c; omega⟩⟩
theorem e_15 (r p : Int × Int) (hp : Pt p) (W : Src) : b_law_4_15 (S14 r p) W = some (.nx (S14 r p) W) := by
  have e1 := q_lmoved (hp.cut.1.sm4 (by decide))
  have e2 := q_lmoved (hp.cut.2.sm4 (by decide))
  have e3 := q_opposite hp.cut.1 (by decide)
  have e4 := show_pt2 hp.big hp.big
  rw [show opp (cut p).1 = (cut p).2 from rfl] at e3
  rw [hp.c1] at e1
  rw [hp.c2] at e2
  simp [b_law_4_15, S14, e1, e2, e3, e4]
theorem forL_same {g : Gx} {b : Sx} {ρ : Rho} {W : Src} : ∀ (ds : List PyData), (∀ d ∈ ds, ∃ ρ1, g d ρ = some ρ1 ∧ b ρ1 W = some (.nx ρ W)) → forL g b ds ρ W = some (.nx ρ W)
  | [], _ => rfl
  | d :: ds, h => by
    obtain ⟨ρ1, h1, h2⟩ := h d List.mem_cons_self
    rw [forL_cons, h1]
    simp only [h2]
    exact forL_same ds fun d' hd => h d' (List.mem_cons_of_mem _ hd)
theorem b2_ok (r p : Int × Int) (l : Int) (hr : Pt r) (hp : Pt p) (f : lhalf r (pback r p l) = l) (W : Src) : b_law_2 ((S14 r p).set 15 (.d (.int l))) W = some (.nx (S14 r p) W) := by
  have e1 := q_pback hr.sm hp.sm l
  have hb : pback r p l = (cut p).1 ∨ pback r p l = (cut p).2 := by
    unfold pback
    split
    · exact .inl rfl
    · exact .inr rfl
  have hs : Sm4 (pback r p l) := by
    rcases hb with h | h
    · rw [h]; exact hp.cut.1.sm4 (by decide)
    · rw [h]; exact hp.cut.2.sm4 (by decide)
  have e2 := q_lhalf hr.sm hs
  rw [f] at e2
  have e3 : cNotIn (ptD (pback r p l)) (.tuple [ptD (cut p).1, ptD (cut p).2]) = some (.bool false) := by
    unfold cNotIn
    rw [cIn_pt2]
    rcases hb with h | h
    · simp [h, bNot]
    · simp [h, bNot]
  simp [b_law_2, b_law_2_0, b_law_2_1, S14, e1, e2, e3]
theorem sort_pt2 {a b : Int × Int} : ∃ i j : Int × Int, fSort [.tuple [ptD a, ptD b]] = some (.list [ptD i, ptD j]) := by
  have hp : (sortd [ptD a, ptD b]).Perm [ptD a, ptD b] := List.mergeSort_perm ..
  have hl := hp.length_eq
  have hok : sortOk [ptD a, ptD b] = true := by
    simp [sortOk, alikeB, isTup1, noTup, ptD, PySem.W.alike, PySem.W.alikeAll, PyData.depth, PyData.depthAll]
  have hm : ∀ x ∈ sortd [ptD a, ptD b], ∃ i, x = ptD i := fun x hx => by
    have := hp.mem_iff.mp hx
    simp only [List.mem_cons, List.not_mem_nil, or_false] at this
    rcases this with rfl | rfl
    · exact ⟨a, rfl⟩
    · exact ⟨b, rfl⟩
  have e : fSort [.tuple [ptD a, ptD b]] = some (.list (sortd [ptD a, ptD b])) := by
    unfold fSort
    simp only [hok, if_true]
  rw [e]
  generalize sortd [ptD a, ptD b] = l at hl hm
  match l, hl with
  | [x, y], _ =>
    obtain ⟨i, rfl⟩ := hm _ List.mem_cons_self
    obtain ⟨j, rfl⟩ := hm _ (List.mem_cons_of_mem _ List.mem_cons_self)
    exact ⟨i, j, rfl⟩
theorem e_16 (r p : Int × Int) (hr : Pt r) (hp : Pt p) (f : p ≠ r → lhalf r (pback r p 0) = 0 ∧ lhalf r (pback r p 1) = 1) (W : Src) : b_law_4_16 (S14 r p) W = some (.nx (B14 r p) W) := by
  by_cases z : p = r
  · subst z
    obtain ⟨i, j, e⟩ := sort_pt2 (a := (cut p).1) (b := (cut p).2)
    simp [b_law_4_16, S14, B14, e, cNe_pt2]
  · obtain ⟨f0, f1⟩ := f z
    have e := forL_same (g := gN 15) (b := b_law_2) (ρ := S14 r p) (W := W) [.int 0, .int 1] (fun d hd => by
      simp only [List.mem_cons, List.not_mem_nil, or_false] at hd
      rcases hd with rfl | rfl
      · exact ⟨_, rfl, b2_ok r p 0 hr hp f0 W⟩
      · exact ⟨_, rfl, b2_ok r p 1 hr hp f1 W⟩)
    have ht : tOf (e2 cNe (eVar 4) (eVar 3)) (S14 r p) W = some (true, W) := by simp [S14, z]
    have hi : iSeq (eN oTup (lCons (eC (.int 0)) (lCons (eC (.int 1)) lNil))) (S14 r p) W = some ([.int 0, .int 1], W) := by simp
    simp only [b_law_4_16, sAfter_s, sFrz_s, frzs_nil, sIf_s, ht, sC_s, sFor_s, hi, e]
    rfl
end Lw
set_option Elab.async false
set_option linter.all false
set_option maxRecDepth 100000
set_option maxHeartbeats 1000000
namespace Lw
open PySem PySem.Spec Dv
theorem cmpL_enc {A : Type} {g : Gx} {t : Tx} {e : Ex} {ρ : Rho} {W : Src} (enc : A → PyData) (p : A → Bool) (f : A → PyData) : ∀ (l : List A) (acc : List PyData), (∀ a ∈ l, ∃ ρ1, g (enc a) ρ = some ρ1 ∧ t ρ1 W = some (p a, W) ∧ (p a = true → e ρ1 W = some (f a, W))) → acc.length + l.length < sizeLine → cmpL g t e ρ (l.map enc) acc W = some (acc ++ (l.filter p).map f, W)
  | [], acc, _, _ => by simp
  | a :: l, acc, h, hl => by
    obtain ⟨ρ1, h1, h2, h3⟩ := h a List.mem_cons_self
    have ih := fun acc' (hl' : acc'.length + l.length < sizeLine) => cmpL_enc enc p f l acc' (fun d' hd => h d' (List.mem_cons_of_mem _ hd)) hl'
    rw [List.length_cons] at hl
    rw [List.map_cons, cmpL_cons, h1]
    simp only [h2]
    cases q : p a with
    | true =>
      simp only [h3 q, if_pos (show acc.length < sizeLine by omega)]
      rw [ih _ (by rw [List.length_append]; simp only [List.length_cons, List.length_nil]; omega), List.filter_cons, if_pos q]
      simp
    | false =>
      simp only
      rw [ih _ (by omega), List.filter_cons, if_neg (by rw [q]; decide)]
def L0 : List (Int × Int) := [(1, 5), (2, 5), (3, 7), (5, 9), (10, 11)]
def LN (r : Int × Int) : List (Int × Int) := L0.filter fun q => !decide (q = r)
def S17 (r p : Int × Int) (s f : Sl) : Rho := [.no, .src, .no, .d (ptD r), .d (ptD p), .no, .no, .no, .no, .no, .no, .d (.tuple [ptD (cut r).1, ptD (cut r).2]), .no, .no, .no, .no, .no, s, f, .no, .no, .no, .no, .no, .no, .no]
theorem e_17 (r p : Int × Int) (W : Src) : b_law_4_17 (B14 r p) W = some (.nx (S17 r p (.own (L0.map ptD)) .no) W) := by
  simp [b_law_4_17, B14, S17, L0]
theorem LN_mem {r q : Int × Int} (h : q ∈ LN r) : q ∈ L0 := (List.mem_filter.mp h).1
theorem L0_sm : ∀ q ∈ L0, Sm q := by
  intro q h
  simp only [L0, List.mem_cons, List.not_mem_nil, or_false] at h
  rcases h with rfl | rfl | rfl | rfl | rfl <;> exact ⟨by decide, by decide, by decide⟩
theorem LN_len (r : Int × Int) : (LN r).length ≤ 5 := List.length_filter_le _ L0
theorem e_18 (r p : Int × Int) (W : Src) : b_law_4_18 (S17 r p (.own (L0.map ptD)) .no) W = some (.nx (S17 r p (.own ((LN r).map ptD)) .no) W) := by
  have e := cmpL_enc (g := gN 12) (t := tOf (e2 cNe (eVar 12) (eVar 3))) (e := eVal 12) (ρ := S17 r p (.d (.list (L0.map ptD))) .no) (W := W) ptD (fun q => !decide (q = r)) ptD L0 [] (fun q _ => ⟨_, rfl, by simp [S17], fun _ => by simp [S17]⟩) (by simp only [size_big]; decide)
  rw [List.nil_append] at e
  have h1 : frzs [17, 12] (S17 r p (.own (L0.map ptD)) .no) = S17 r p (.d (.list (L0.map ptD))) .no := rfl
  have h2 : iSeq (eVal 17) (S17 r p (.d (.list (L0.map ptD))) .no) W = some (L0.map ptD, W) := rfl
  have h3 : wipeR (S17 r p (.d (.list (L0.map ptD))) .no) [12] = S17 r p (.d (.list (L0.map ptD))) .no := rfl
  simp only [b_law_4_18, sFrz_s, h1, sNew_s, eComp_s, h2, h3, e]
  rfl
def FN (r : Int × Int) : List (Int × Int) := (LN r).map fun q => pback r q 1
theorem e_19 (r p : Int × Int) (hr : Pt r) (W : Src) : b_law_4_19 (S17 r p (.own ((LN r).map ptD)) .no) W = some (.nx (S17 r p (.d (.list ((LN r).map ptD))) (.own ((FN r).map ptD))) W) := by
  have e := cmpL_enc (g := gN 12) (t := tYs) (e := eCall φ_point_back (aCons (eVal 3) (aCons (eVal 12) (aCons (eC (.int 1)) aNil)))) (ρ := S17 r p (.d (.list ((LN r).map ptD))) .no) (W := W) ptD (fun _ => true) (fun q => ptD (pback r q 1)) (LN r) [] (fun q hq => ⟨_, rfl, rfl, fun _ => by
    have := q_pback hr.sm (L0_sm q (LN_mem hq)) 1 W
    simp [S17, this]⟩) (by have := LN_len r; simp only [size_big, List.length_nil]; omega)
  rw [List.nil_append, show (LN r).filter (fun _ => true) = LN r by simp] at e
  have h1 : frzs [17, 3, 12] (S17 r p (.own ((LN r).map ptD)) .no) = S17 r p (.d (.list ((LN r).map ptD))) .no := rfl
  have h2 : iSeq (eVal 17) (S17 r p (.d (.list ((LN r).map ptD))) .no) W = some ((LN r).map ptD, W) := rfl
  have h3 : wipeR (S17 r p (.d (.list ((LN r).map ptD))) .no) [12] = S17 r p (.d (.list ((LN r).map ptD))) .no := rfl
  have h4 : (LN r).map (fun q => ptD (pback r q 1)) = (FN r).map ptD := by
    unfold FN
    rw [List.map_map]
    rfl
  rw [h4] at e
  simp only [b_law_4_19, sFrz_s, h1, sNew_s, eComp_s, h2, h3, e]
  rfl
/-- the row of points behind the cut -/
def lineOk (r : Int × Int) : Prop := ∀ k : Nat, 1 ≤ k → k < (LN r).length → ∃ a b c d, (LN r)[k - 1]? = some a ∧ (LN r)[k]? = some b ∧ (FN r)[k - 1]? = some c ∧ (FN r)[k]? = some d ∧ Sm4 c ∧ Sm4 d ∧ lbtw (cut r).1 c d = lbtw r a b
theorem e_20 (r p : Int × Int) (hr : Pt r) (hl : lineOk r) (W : Src) : b_law_4_20 (S17 r p (.d (.list ((LN r).map ptD))) (.own ((FN r).map ptD))) W = some (.nx (S0 r p) W) := by
  have hfl : (FN r).length = (LN r).length := by simp [FN]
  have hll := LN_len r
  generalize hρ : S17 r p (.d (.list ((LN r).map ptD))) (.own ((FN r).map ptD)) = ρ
  have e := forL_same (g := gN 19) (b := b_law_3) (ρ := ρ) (W := W) (rng 1 ((LN r).length - 1 : Int).toNat) (fun d hd => by
    obtain ⟨i, h1, h2, rfl⟩ := mem_rng.mp hd
    obtain ⟨a, b, c, d, k1, k2, k3, k4, k5, k6, k7⟩ := hl i.toNat (by omega) (by omega)
    have sa := L0_sm a (LN_mem (List.mem_of_getElem? k1))
    have sb := L0_sm b (LN_mem (List.mem_of_getElem? k2))
    have x1 : L2.atI ((LN r).map ptD) (i - 1) = some (ptD a) := by
      rw [atI_nn (by omega), List.getElem?_map, show (i - 1).toNat = i.toNat - 1 by omega, k1]; rfl
    have x2 : L2.atI ((LN r).map ptD) i = some (ptD b) := by
      rw [atI_nn (by omega), List.getElem?_map, k2]; rfl
    have x3 : L2.atI ((FN r).map ptD) (i - 1) = some (ptD c) := by
      rw [atI_nn (by omega), List.getElem?_map, show (i - 1).toNat = i.toNat - 1 by omega, k3]; rfl
    have x4 : L2.atI ((FN r).map ptD) i = some (ptD d) := by
      rw [atI_nn (by omega), List.getElem?_map, k4]; rfl
    have e1 := q_lbetween hr.sm4 (sa.pn.sm4 (by decide)) (sb.pn.sm4 (by decide))
    have e2 := q_lbetween (hr.cut.1.sm4 (by decide)) k5 k6
    rw [k7] at e2
    refine ⟨_, rfl, ?_⟩
    subst hρ
    simp [b_law_3, b_law_3_0, b_law_3_1, S17, x1, x2, x3, x4, e1, e2])
  obtain ⟨n, hn⟩ : ∃ n : Int, n = (LN r).length := ⟨_, rfl⟩
  have fl : fLen [.list ((FN r).map ptD)] = some (.int n) := by
    show some (PyData.int _) = _
    rw [List.length_map, hfl, hn]
  rw [← hn] at e
  have big : big62 1 = true ∧ big62 n = true := by
    refine ⟨by decide, ?_⟩
    unfold big62
    simp only [Bool.and_eq_true, decide_eq_true_eq]
    omega
  have hi : iR2 (eC (.int 1)) (eN fLen (lCons (eVar 18) lNil)) ρ W = some (rng 1 (n - 1).toNat, W) := by
    subst hρ
    simp [S17, fl, big, -fLen_l, -Int.pred_toNat]
  have hw : wipeR ρ [11, 17, 18, 19, 20] = S0 r p := by
    subst hρ
    simp [S17, S0]
  have s1 : sFor (iR2 (eC (.int 1)) (eN fLen (lCons (eVar 18) lNil))) (gN 19) b_law_3 ρ W = some (.nx ρ W) := by
    rw [sFor_s, hi]
    exact e
  have s2 : b_law_4_20 ρ W = some (.nx (wipeR ρ [11, 17, 18, 19, 20]) W) := by
    unfold b_law_4_20
    rw [sAfter_s, sFrz_s, frzs_nil, s1]
  rw [s2, hw]
def S21 (r p : Int × Int) (t b c : Sl) : Rho := [.no, .src, .no, .d (ptD r), .d (ptD p), .no, .no, .no, .no, .no, .no, .no, .no, .no, .no, .no, .no, .no, .no, .no, .no, t, b, c, .no, .no]
theorem e_21 (r p : Int × Int) (W : Src) : ∃ t b : Int, (1 ≤ b ∧ b ≤ 24) ∧ ∃ W', b_law_4_21 (S0 r p) W = some (.nx (S21 r p (.d (.int t)) (.d (.int b)) .no) W') := by
  have e1 := cPick_ok (many := 60) (by decide) W
  generalize pickF 60 W = r1 at e1
  obtain ⟨t, W1⟩ := r1
  have lo := pickF_low 24 W1
  have hi := pickF_lt (many := 24) W1 (by decide)
  have e2 := cPick_ok (many := 24) (by decide) W1
  generalize pickF 24 W1 = r2 at e2 lo hi
  obtain ⟨b, W2⟩ := r2
  simp only at e1 e2 lo hi
  refine ⟨t - 20, 1 + b, ⟨by omega, by omega⟩, W2, ?_⟩
  simp [b_law_4_21, S0, S21, e1, e2]
theorem e_22 (r p : Int × Int) (t b : Int) (hb : 1 ≤ b ∧ b ≤ 24) (W : Src) : b_law_4_22 (S21 r p (.d (.int t)) (.d (.int b)) .no) W = some (.nx (S21 r p (.d (.int t)) (.d (.int b)) (.d (.int (Int.gcd b (t % b))))) W) := by
  have m := Int.emod_nonneg t (show b ≠ 0 by omega)
  have m2 := Int.emod_lt_of_pos t (show 0 < b by omega)
  have e := q_common (a := b) (b := t % b) (by omega) m (by omega)
  have hp : 0 < b := by omega
  simp [b_law_4_22, S21, e, hp]
theorem e_23 (r p : Int × Int) (t b : Int) (hb : 1 ≤ b ∧ b ≤ 24) (W : Src) : b_law_4_23 (S21 r p (.d (.int t)) (.d (.int b)) (.d (.int (Int.gcd b (t % b))))) W = some (.nx (S0 r p) W) := by
  have e := q_flow (a := t) (b := b) (by omega) (by omega)
  have hp : 0 < b := by omega
  have g := gcd_ok (a := t % b) (b := b) hp (by omega)
  have h : Int.gcd b (t % b) = Int.gcd (t % b) b := Int.gcd_comm ..
  rw [h]
  have z : ptD (flow t b) = .tuple [.int (t % b / (Int.gcd (t % b) b : Int)), .int (b / (Int.gcd (t % b) b : Int))] := rfl
  have n : cNe (ptD (flow t b)) (.tuple [.int (t % b / (Int.gcd (t % b) b : Int)), .int (b / (Int.gcd (t % b) b : Int))]) = some (.bool false) := by
    rw [← z, cNe_pt]; simp
  simp [b_law_4_23, S21, S0, e, hp, g, n]
end Lw
set_option Elab.async false
set_option linter.all false
set_option maxRecDepth 100000
set_option maxHeartbeats 1000000
namespace Lw
open PySem PySem.Spec Dv
/-! moved_on -/
def moP (d : Int) : Nat → Int → Int → Int → Option Int
  | 0, _, _, _ => none
  | n + 1, m, f, b => if 0 < m then moP d n (m / 2) (if m % 2 = 1 then f * b % d else f) (b * b % d) else some f
theorem mo_go {p : Int × Int} (hp : 0 < p.2) (hd : p.2 < 1000) (W : Src) : ∀ (k : Nat) (m f b v : Int) (j : Nat), 0 ≤ f → f < p.2 → 0 ≤ b → b < p.2 → moP p.2 k m f b = some v →
    ∃ m' b' : Int, whL [] (tOf (e2 cGt (eVar 1) (eC (.int 0)))) b_moved_on_1 (k + j) [.d (ptD p), .d (.int m), .d (.int f), .d (.int b)] W = some (.nx [.d (ptD p), .d (.int m'), .d (.int v), .d (.int b')] W)
  | 0, m, f, b, v, j, _, _, _, _, h => by cases h
  | k + 1, m, f, b, v, j, f1, f2, b1, b2, h => by
    unfold moP at h
    rw [show k + 1 + j = k + j + 1 by omega, whL_succ]
    by_cases z : 0 < m
    · rw [if_pos z] at h
      have n1 := Int.emod_nonneg (f * b) (show p.2 ≠ 0 by omega)
      have n2 := Int.emod_lt_of_pos (f * b) hp
      have n3 := Int.emod_nonneg (b * b) (show p.2 ≠ 0 by omega)
      have n4 := Int.emod_lt_of_pos (b * b) hp
      have m1 : mulOk f b = true := mulOk_of (by omega) (by omega) (by omega) (by omega)
      have m2 : mulOk b b = true := mulOk_of (by omega) (by omega) (by omega) (by omega)
      have d2 : divOk 2 = true := by decide
      obtain ⟨m', b', ih⟩ := mo_go hp hd W k (m / 2) (if m % 2 = 1 then f * b % p.2 else f) (b * b % p.2) v j (by split <;> omega) (by split <;> omega) n3 n4 h
      refine ⟨m', b', ?_⟩
      have st : b_moved_on_1 [.d (ptD p), .d (.int m), .d (.int f), .d (.int b)] W = some (.nx [.d (ptD p), .d (.int (m / 2)), .d (.int (if m % 2 = 1 then f * b % p.2 else f)), .d (.int (b * b % p.2))] W) := by
        by_cases y : m % 2 = 1
        · simp [b_moved_on_1, y, m1, m2, d2, hp]
        · simp [b_moved_on_1, y, m1, m2, d2, hp]
      have ht : tOf (e2 cGt (eVar 1) (eC (.int 0))) (frzs [] [.d (ptD p), .d (.int m), .d (.int f), .d (.int b)]) W = some (true, W) := by simp [z]
      rw [ht]
      simp only [frzs_nil, st]
      exact ih
    · rw [if_neg z] at h
      cases h
      exact ⟨m, b, by simp [z]⟩
theorem q_moved_on {p : Int × Int} (h : Pt p) {m v : Int} (hv : moP p.2 10 m p.1 (2 % p.2) = some v) (W : Src) : φ_moved_on [.d (ptD p), .d (.int m)] W = some (ptD (flow v p.2), W) := by
  have a := h.a; have b := h.b; have c := h.c
  have n1 := Int.emod_nonneg 2 (show p.2 ≠ 0 by omega)
  have n2 := Int.emod_lt_of_pos 2 (show 0 < p.2 by omega)
  obtain ⟨m', b', e⟩ := mo_go (p := p) (by omega) (by omega) W 10 m p.1 (2 % p.2) v 990 a b n1 n2 hv
  have e2 := q_flow (a := v) (b := p.2) (by omega) (by omega)
  have hp : 0 < p.2 := by omega
  simp only [Nat.reduceAdd] at e
  simp [φ_moved_on, wfn, g_moved_on, hp, e, e2]
/-! way_told -/
def haP : Nat → Int → Int → Option (Int × Int)
  | 0, _, _ => none
  | n + 1, o, a => if o % 2 = 0 then haP n (o / 2) (a + 1) else some (o, a)
def poP (o a : Int) : Nat → Int → Int → Option (Int × Int)
  | 0, _, _ => none
  | n + 1, w, m => if w ≠ 1 % o ∧ a + m ≤ 400 then poP o a n (w * 2 % o) (m + 1) else some (w, m)
theorem ha_go (W : Src) : ∀ (k : Nat) (o a : Int) (v : Int × Int) (j : Nat), haP k o a = some v →
    whL [] (tOf (e2 cEq (e2 bMod (eVar 1) (eC (.int 2))) (eC (.int 0)))) b_way_told_1 (k + j) [.no, .d (.int o), .d (.int a), .no, .no] W = some (.nx [.no, .d (.int v.1), .d (.int v.2), .no, .no] W)
  | 0, o, a, v, j, h => by cases h
  | k + 1, o, a, v, j, h => by
    unfold haP at h
    rw [show k + 1 + j = k + j + 1 by omega, whL_succ]
    have d2 : divOk 2 = true := by decide
    by_cases z : o % 2 = 0
    · rw [if_pos z] at h
      have ih := ha_go W k (o / 2) (a + 1) v j h
      have st : b_way_told_1 [.no, .d (.int o), .d (.int a), .no, .no] W = some (.nx [.no, .d (.int (o / 2)), .d (.int (a + 1)), .no, .no] W) := by simp [b_way_told_1, d2]
      have ht : tOf (e2 cEq (e2 bMod (eVar 1) (eC (.int 2))) (eC (.int 0))) (frzs [] [.no, .d (.int o), .d (.int a), .no, .no]) W = some (true, W) := by simp [z]
      rw [ht]
      simp only [frzs_nil, st]
      exact ih
    · rw [if_neg z] at h
      cases h
      simp [z]
theorem po_go {o a : Int} (ho : 0 < o) (ho2 : o < 1000) (W : Src) : ∀ (k : Nat) (w m : Int) (v : Int × Int) (j : Nat), 0 ≤ w → w < o + 2 → poP o a k w m = some v →
    whL [] (tAnd2 (tOf (e2 cNe (eVar 3) (e2 bMod (eC (.int 1)) (eVar 1)))) (tOf (e2 cLe (e2 bAdd (eVar 2) (eVar 4)) (eC (.int 400))))) b_way_told_2 (k + j) [.no, .d (.int o), .d (.int a), .d (.int w), .d (.int m)] W = some (.nx [.no, .d (.int o), .d (.int a), .d (.int v.1), .d (.int v.2)] W)
  | 0, w, m, v, j, _, _, h => by cases h
  | k + 1, w, m, v, j, w1, w2, h => by
    unfold poP at h
    rw [show k + 1 + j = k + j + 1 by omega, whL_succ]
    have m2 : mulOk w 2 = true := mulOk_of (by omega) (by omega) (by omega) (by omega)
    by_cases z : w = 1 % o
    · rw [if_neg (fun q => q.1 z)] at h
      cases h
      simp [z, ho]
    · by_cases y : a + m ≤ 400
      · rw [if_pos ⟨z, y⟩] at h
        have n1 := Int.emod_nonneg (w * 2) (show o ≠ 0 by omega)
        have n2 := Int.emod_lt_of_pos (w * 2) ho
        have ih := po_go ho ho2 W k (w * 2 % o) (m + 1) v j n1 (by omega) h
        have st : b_way_told_2 [.no, .d (.int o), .d (.int a), .d (.int w), .d (.int m)] W = some (.nx [.no, .d (.int o), .d (.int a), .d (.int (w * 2 % o)), .d (.int (m + 1))] W) := by simp [b_way_told_2, m2, ho]
        have ht : tAnd2 (tOf (e2 cNe (eVar 3) (e2 bMod (eC (.int 1)) (eVar 1)))) (tOf (e2 cLe (e2 bAdd (eVar 2) (eVar 4)) (eC (.int 400)))) (frzs [] [.no, .d (.int o), .d (.int a), .d (.int w), .d (.int m)]) W = some (true, W) := by simp [z, y, ho]
        rw [ht]
        simp only [frzs_nil, st]
        exact ih
      · rw [if_neg (fun q => y q.2)] at h
        cases h
        simp [z, y, ho]
def wtP (b : Int) : Option (Int × Int) := match haP 12 b 0 with
  | some (o, a) => if 0 < o ∧ o < 1000 then match poP o a 30 (2 % o) 1 with
    | some (_, m) => if a + m > 400 then none else some (a, m)
    | none => none else none
  | none => none
theorem q_way_told {p : Int × Int} {v : Int × Int} (h : wtP p.2 = some v) (W : Src) : φ_way_told [.d (ptD p)] W = some (ptD v, W) := by
  unfold wtP at h
  split at h
  · rename_i o a e1
    split at h
    · rename_i ho
      split at h
      · rename_i w m e2
        split at h
        · cases h
        · rename_i hm
          cases h
          have n1 := Int.emod_nonneg 2 (show o ≠ 0 by omega)
          have n2 := Int.emod_lt_of_pos 2 (show 0 < o by omega)
          have g1 := ha_go W 12 p.2 0 (o, a) 988 e1
          have g2 := po_go ho.1 ho.2 W 30 (2 % o) 1 (w, m) 970 n1 (by omega) e2
          simp only [Nat.reduceAdd] at g1 g2
          have ho1 := ho.1
          simp [φ_way_told, wfn, g_way_told, g1, g2, ho1, hm]
      · cases h
    · cases h
  · cases h
end Lw
set_option Elab.async false
set_option linter.all false
set_option maxRecDepth 100000
set_option maxHeartbeats 1000000
namespace Lw
open PySem PySem.Spec Dv
theorem any_pt (l : List (Int × Int)) (p : Int × Int) : ((l.map ptD).any fun z => PyData.eqv z (ptD p)) = l.any fun q => decide (q = p) := by
  rw [List.any_map]
  congr 1
  funext q
  exact eqv_pt q p
theorem shaped_pts (l : List (Int × Int)) : SeqAt.shaped (.list (l.map ptD)) = true := by
  have a : ∀ l : List (Int × Int), PyData.canLayAll0 (l.map ptD) = true := fun l => by
    induction l with
    | nil => rfl
    | cons q l ih => rw [List.map_cons, PyData.canLayAll0, ih]; rfl
  have b : ∀ l : List (Int × Int), PyData.depthAll (l.map ptD) ≤ 2 := fun l => by
    induction l with
    | nil => decide
    | cons q l ih =>
      rw [List.map_cons, PyData.depthAll]
      have : (ptD q).depth ≤ 2 := by simp [ptD, PyData.depth, PyData.depthAll]
      omega
  have b := b l
  unfold SeqAt.shaped
  simp only [PyData.canLay0, a l, Bool.true_and, decide_eq_true_eq, PyData.depth]
  exact decide_eq_true (by omega)
theorem cNotIn_pts (l : List (Int × Int)) (p : Int × Int) : cNotIn (ptD p) (.list (l.map ptD)) = some (.bool (!(l.any fun q => decide (q = p)))) := by
  have : cIn (ptD p) (.list (l.map ptD)) = some (.bool (l.any fun q => decide (q = p))) := by
    show (if _ then _ else _) = _
    rw [if_pos ⟨shaped_pt p, shaped_pts l⟩, any_pt]
  unfold cNotIn
  rw [this]
  rfl
theorem findIdx_pt (l : List (Int × Int)) (p : Int × Int) : ((l.map ptD).findIdx? fun z => PyData.eqv z (ptD p)) = l.findIdx? fun q => decide (q = p) := by
  rw [List.findIdx?_map]
  congr 1
  funext q
  exact eqv_pt q p
theorem mIndex_pts (l : List (Int × Int)) (p : Int × Int) : mIndex (.list (l.map ptD)) (ptD p) = (l.findIdx? fun q => decide (q = p)).map fun j => .int (j : Nat) := by
  show (if _ then _ else _) = _
  rw [if_pos ⟨shaped_pt p, shaped_pts l⟩, findIdx_pt]
def waP : Nat → Int × Int → List (Int × Int) → Option ((Int × Int) × List (Int × Int))
  | 0, _, _ => none
  | n + 1, p, l => if l.any (fun q => decide (q = p)) = true then some (p, l) else waP n (lmv p) (l ++ [p])
theorem wa_go (W : Src) : ∀ (k : Nat) (p : Int × Int) (l : List (Int × Int)) (v : (Int × Int) × List (Int × Int)) (j : Nat), Sm4 p → l.length + k < 1000 → waP k p l = some v →
    whL [] (tOf (e2 cNotIn (eVar 0) (eVar 1))) b_law_way_1 (k + j) [.d (ptD p), .own (l.map ptD), .no] W = some (.nx [.d (ptD v.1), .own (v.2.map ptD), .no] W)
  | 0, p, l, v, j, _, _, h => by cases h
  | k + 1, p, l, v, j, hs, hl, h => by
    unfold waP at h
    rw [show k + 1 + j = k + j + 1 by omega, whL_succ]
    have q : tOf (e2 cNotIn (eVar 0) (eVar 1)) (frzs [] [.d (ptD p), .own (l.map ptD), .no]) W = some (!(l.any fun q => decide (q = p)), W) := by
      simp [cNotIn_pts]
    rw [q]
    cases z : l.any (fun q => decide (q = p)) with
    | true =>
      rw [z, if_pos rfl] at h
      cases h
      rfl
    | false =>
      rw [z, if_neg (by decide)] at h
      have ih := wa_go W k (lmv p) (l ++ [p]) v j (lmv_sm4 hs) (by rw [List.length_append]; simp only [List.length_cons, List.length_nil]; omega) h
      have e := q_lmoved hs W
      have hz : (l.map ptD).length < sizeLine := by rw [List.length_map, size_big]; omega
      have st : b_law_way_1 [.d (ptD p), .own (l.map ptD), .no] W = some (.nx [.d (ptD (lmv p)), .own ((l ++ [p]).map ptD), .no] W) := by
        have hz2 : l.length < 16777216 := by omega
        simp [b_law_way_1, e, hz2]
      simp only [Bool.not_false, frzs_nil, st]
      exact ih
def wlP (p : Int × Int) : Option (Int × Int) := match waP 40 p [] with
  | some (q, l) => match l.findIdx? (fun z => decide (z = q)) with
    | some j => some (((j : Nat) : Int), (l.length : Int) - ((j : Nat) : Int))
    | none => none
  | none => none
theorem q_law_way {p v : Int × Int} (hs : Sm4 p) (h : wlP p = some v) (W : Src) : φ_law_way [.d (ptD p)] W = some (ptD v, W) := by
  unfold wlP at h
  split at h
  · rename_i q l e1
    split at h
    · rename_i j e2
      cases h
      have g := wa_go W 40 p [] (q, l) 960 hs (by decide) e1
      simp only [Nat.reduceAdd, List.map_nil] at g
      have m := mIndex_pts l q
      rw [e2] at m
      simp [φ_law_way, wfn, g_law_way, g, m, -bSub_i]
      rfl
    · cases h
  · cases h
end Lw
set_option Elab.async false
set_option linter.all false
set_option maxRecDepth 100000
set_option maxHeartbeats 4000000
namespace Lw
open PySem PySem.Spec Dv
def pts : List (Int × Int) := bots.flatMap fun b => (List.range b.toNat).map fun (t : Nat) => ((t : Int) / (Int.gcd b t : Int), b / (Int.gcd b t : Int))
def rls : List (Int × Int) := rbots.flatMap fun b => ((List.range b.toNat).filter fun (t : Nat) => decide (1 ≤ t ∧ Int.gcd t b = 1)).map fun (t : Nat) => ((t : Int), b)
theorem mem_pts {p : Int × Int} (h : IsP p) : p ∈ pts := by
  obtain ⟨b, hb, t, h1, h2, rfl⟩ := h
  refine List.mem_flatMap.mpr ⟨b, hb, List.mem_map.mpr ⟨t.toNat, List.mem_range.mpr (by omega), ?_⟩⟩
  rw [Int.toNat_of_nonneg h1]
theorem mem_rls {r : Int × Int} (h : IsR r) : r ∈ rls := by
  obtain ⟨t, b⟩ := r
  obtain ⟨hb, h1, h2, h3⟩ := h
  simp only at hb h1 h2 h3
  refine List.mem_flatMap.mpr ⟨b, hb, List.mem_map.mpr ⟨t.toNat, List.mem_filter.mpr ⟨List.mem_range.mpr (by omega), ?_⟩, ?_⟩⟩
  · rw [Int.toNat_of_nonneg (by omega), decide_eq_true_eq]
    exact ⟨by omega, h3⟩
  · rw [Int.toNat_of_nonneg (by omega)]
def same (p q : Int × Int) : Bool := decide (p.1 = q.1) && decide (p.2 = q.2)
theorem same_iff {p q : Int × Int} : same p q = true ↔ p = q := by
  obtain ⟨a, b⟩ := p
  obtain ⟨c, d⟩ := q
  simp [same]
def chkP (p : Int × Int) : Bool := decide (0 ≤ p.1) && decide (p.1 < p.2) && decide (p.2 ≤ 255) && decide (Int.gcd p.1 p.2 = 1) && same (mv p) (lmv p) && decide (Int.gcd (opp p).2 (opp p).1 = 1) && same (opp (opp p)) p && same (lmv (opp p)) (lmv p) && !same (opp p) p && same (lmv (cut p).1) p && same (lmv (cut p).2) p
def chkRP (r p : Int × Int) : Bool := decide (halfN r p = lhalf r p) && (same p r || (decide (lhalf r (pback r p 0) = 0) && decide (lhalf r (pback r p 1) = 1)))

def pL : List (Int × Int) := [(0, 1), (1, 2), (1, 3), (2, 3), (1, 4), (3, 4), (1, 5), (2, 5), (3, 5), (4, 5), (1, 6), (5, 6), (1, 7), (2, 7), (3, 7), (4, 7), (5, 7), (6, 7), (1, 8), (3, 8), (5, 8), (7, 8), (1, 9), (2, 9), (4, 9), (5, 9), (7, 9), (8, 9), (1, 10), (3, 10), (7, 10), (9, 10), (1, 12), (5, 12), (7, 12), (11, 12), (1, 14), (3, 14), (5, 14), (9, 14), (11, 14), (13, 14), (1, 15), (2, 15), (4, 15), (7, 15), (8, 15), (11, 15), (13, 15), (14, 15), (1, 16), (3, 16), (5, 16), (7, 16), (9, 16), (11, 16), (13, 16), (15, 16), (1, 17), (2, 17), (3, 17), (4, 17), (5, 17), (6, 17), (7, 17), (8, 17), (9, 17), (10, 17), (11, 17), (12, 17), (13, 17), (14, 17), (15, 17), (16, 17), (1, 20), (3, 20), (7, 20), (9, 20), (11, 20), (13, 20), (17, 20), (19, 20), (1, 21), (2, 21), (4, 21), (5, 21), (8, 21), (10, 21), (11, 21), (13, 21), (16, 21), (17, 21), (19, 21), (20, 21), (1, 24), (5, 24), (7, 24), (11, 24), (13, 24), (17, 24), (19, 24), (23, 24), (1, 28), (3, 28), (5, 28), (9, 28), (11, 28), (13, 28), (15, 28), (17, 28), (19, 28), (23, 28), (25, 28), (27, 28), (1, 30), (7, 30), (11, 30), (13, 30), (17, 30), (19, 30), (23, 30), (29, 30), (1, 31), (2, 31), (3, 31), (4, 31), (5, 31), (6, 31), (7, 31), (8, 31), (9, 31), (10, 31), (11, 31), (12, 31), (13, 31), (14, 31), (15, 31), (16, 31), (17, 31), (18, 31), (19, 31), (20, 31), (21, 31), (22, 31), (23, 31), (24, 31), (25, 31), (26, 31), (27, 31), (28, 31), (29, 31), (30, 31), (1, 51), (2, 51), (4, 51), (5, 51), (7, 51), (8, 51), (10, 51), (11, 51), (13, 51), (14, 51), (16, 51), (19, 51), (20, 51), (22, 51), (23, 51), (25, 51), (26, 51), (28, 51), (29, 51), (31, 51), (32, 51), (35, 51), (37, 51), (38, 51), (40, 51), (41, 51), (43, 51), (44, 51), (46, 51), (47, 51), (49, 51), (50, 51), (1, 56), (3, 56), (5, 56), (9, 56), (11, 56), (13, 56), (15, 56), (17, 56), (19, 56), (23, 56), (25, 56), (27, 56), (29, 56), (31, 56), (33, 56), (37, 56), (39, 56), (41, 56), (43, 56), (45, 56), (47, 56), (51, 56), (53, 56), (55, 56), (1, 60), (7, 60), (11, 60), (13, 60), (17, 60), (19, 60), (23, 60), (29, 60), (31, 60), (37, 60), (41, 60), (43, 60), (47, 60), (49, 60), (53, 60), (59, 60), (1, 85), (2, 85), (3, 85), (4, 85), (6, 85), (7, 85), (8, 85), (9, 85), (11, 85), (12, 85), (13, 85), (14, 85), (16, 85), (18, 85), (19, 85), (21, 85), (22, 85), (23, 85), (24, 85), (26, 85), (27, 85), (28, 85), (29, 85), (31, 85), (32, 85), (33, 85), (36, 85), (37, 85), (38, 85), (39, 85), (41, 85), (42, 85), (43, 85), (44, 85), (46, 85), (47, 85), (48, 85), (49, 85), (52, 85), (53, 85), (54, 85), (56, 85), (57, 85), (58, 85), (59, 85), (61, 85), (62, 85), (63, 85), (64, 85), (66, 85), (67, 85), (69, 85), (71, 85), (72, 85), (73, 85), (74, 85), (76, 85), (77, 85), (78, 85), (79, 85), (81, 85), (82, 85), (83, 85), (84, 85), (1, 127), (2, 127), (3, 127), (4, 127), (5, 127), (6, 127), (7, 127), (8, 127), (9, 127), (10, 127), (11, 127), (12, 127), (13, 127), (14, 127), (15, 127), (16, 127), (17, 127), (18, 127), (19, 127), (20, 127), (21, 127), (22, 127), (23, 127), (24, 127), (25, 127), (26, 127), (27, 127), (28, 127), (29, 127), (30, 127), (31, 127), (32, 127), (33, 127), (34, 127), (35, 127), (36, 127), (37, 127), (38, 127), (39, 127), (40, 127), (41, 127), (42, 127), (43, 127), (44, 127), (45, 127), (46, 127), (47, 127), (48, 127), (49, 127), (50, 127), (51, 127), (52, 127), (53, 127), (54, 127), (55, 127), (56, 127), (57, 127), (58, 127), (59, 127), (60, 127), (61, 127), (62, 127), (63, 127), (64, 127), (65, 127), (66, 127), (67, 127), (68, 127), (69, 127), (70, 127), (71, 127), (72, 127), (73, 127), (74, 127), (75, 127), (76, 127), (77, 127), (78, 127), (79, 127), (80, 127), (81, 127), (82, 127), (83, 127), (84, 127), (85, 127), (86, 127), (87, 127), (88, 127), (89, 127), (90, 127), (91, 127), (92, 127), (93, 127), (94, 127), (95, 127), (96, 127), (97, 127), (98, 127), (99, 127), (100, 127), (101, 127), (102, 127), (103, 127), (104, 127), (105, 127), (106, 127), (107, 127), (108, 127), (109, 127), (110, 127), (111, 127), (112, 127), (113, 127), (114, 127), (115, 127), (116, 127), (117, 127), (118, 127), (119, 127), (120, 127), (121, 127), (122, 127), (123, 127), (124, 127), (125, 127), (126, 127), (1, 255), (2, 255), (4, 255), (7, 255), (8, 255), (11, 255), (13, 255), (14, 255), (16, 255), (19, 255), (22, 255), (23, 255), (26, 255), (28, 255), (29, 255), (31, 255), (32, 255), (37, 255), (38, 255), (41, 255), (43, 255), (44, 255), (46, 255), (47, 255), (49, 255), (52, 255), (53, 255), (56, 255), (58, 255), (59, 255), (61, 255), (62, 255), (64, 255), (67, 255), (71, 255), (73, 255), (74, 255), (76, 255), (77, 255), (79, 255), (82, 255), (83, 255), (86, 255), (88, 255), (89, 255), (91, 255), (92, 255), (94, 255), (97, 255), (98, 255), (101, 255), (103, 255), (104, 255), (106, 255), (107, 255), (109, 255), (112, 255), (113, 255), (116, 255), (118, 255), (121, 255), (122, 255), (124, 255), (127, 255), (128, 255), (131, 255), (133, 255), (134, 255), (137, 255), (139, 255), (142, 255), (143, 255), (146, 255), (148, 255), (149, 255), (151, 255), (152, 255), (154, 255), (157, 255), (158, 255), (161, 255), (163, 255), (164, 255), (166, 255), (167, 255), (169, 255), (172, 255), (173, 255), (176, 255), (178, 255), (179, 255), (181, 255), (182, 255), (184, 255), (188, 255), (191, 255), (193, 255), (194, 255), (196, 255), (197, 255), (199, 255), (202, 255), (203, 255), (206, 255), (208, 255), (209, 255), (211, 255), (212, 255), (214, 255), (217, 255), (218, 255), (223, 255), (224, 255), (226, 255), (227, 255), (229, 255), (232, 255), (233, 255), (236, 255), (239, 255), (241, 255), (242, 255), (244, 255), (247, 255), (248, 255), (251, 255), (253, 255), (254, 255)]
def rL : List (Int × Int) := [(1, 2), (1, 4), (3, 4), (1, 6), (5, 6), (1, 8), (3, 8), (5, 8), (7, 8), (1, 10), (3, 10), (7, 10), (9, 10), (1, 12), (5, 12), (7, 12), (11, 12), (1, 14), (3, 14), (5, 14), (9, 14), (11, 14), (13, 14), (1, 20), (3, 20), (7, 20), (9, 20), (11, 20), (13, 20), (17, 20), (19, 20), (1, 24), (5, 24), (7, 24), (11, 24), (13, 24), (17, 24), (19, 24), (23, 24), (1, 28), (3, 28), (5, 28), (9, 28), (11, 28), (13, 28), (15, 28), (17, 28), (19, 28), (23, 28), (25, 28), (27, 28), (1, 56), (3, 56), (5, 56), (9, 56), (11, 56), (13, 56), (15, 56), (17, 56), (19, 56), (23, 56), (25, 56), (27, 56), (29, 56), (31, 56), (33, 56), (37, 56), (39, 56), (41, 56), (43, 56), (45, 56), (47, 56), (51, 56), (53, 56), (55, 56)]
theorem pts_pL : (pts.all fun p => pL.any fun q => same q p) = true := by decide +kernel
theorem rls_rL : (rls.all fun p => rL.any fun q => same q p) = true := by decide +kernel
theorem in_pL {p : Int × Int} (h : IsP p) : p ∈ pL := by
  have := List.all_eq_true.mp pts_pL p (mem_pts h)
  obtain ⟨q, h1, h2⟩ := List.any_eq_true.mp this
  rw [same_iff] at h2
  rw [← h2]
  exact h1
theorem in_rL {p : Int × Int} (h : IsR p) : p ∈ rL := by
  have := List.all_eq_true.mp rls_rL p (mem_rls h)
  obtain ⟨q, h1, h2⟩ := List.any_eq_true.mp this
  rw [same_iff] at h2
  rw [← h2]
  exact h1
def optEq : Option (Int × Int) → Option (Int × Int) → Bool
  | some (a, b), some (c, d) => decide (a = c) && decide (b = d) && decide (0 ≤ a) && decide (a < 1000) && decide (0 ≤ b) && decide (b < 1000)
  | _, _ => false
def bigB (p : Int × Int) : Bool := decide (0 ≤ p.1) && decide (p.1 < 1000) && decide (0 ≤ p.2) && decide (p.2 < 1000)
def chkOn (p : Int × Int) : Bool := manyL.all fun m => match moP p.2 10 m p.1 (2 % p.2) with
  | some v => same (flow v p.2) (itL m.toNat p) && bigB (itL m.toNat p)
  | none => false
def chkWay (p : Int × Int) : Bool := optEq (wtP p.2) (wlP p)
def smB (p : Int × Int) : Bool := decide (0 ≤ p.1) && decide (p.1 < p.2) && decide (p.2 < 400000)
def FL (r : Int × Int) (L : List (Int × Int)) : List (Int × Int) := L.map fun q => pback r q 1
def lineB (r : Int × Int) (L : List (Int × Int)) (F : List (Int × Int)) : Bool := (List.range L.length).all fun k => Nat.beq k 0 || match L[k - 1]?, L[k]?, F[k - 1]?, F[k]? with
  | some a, some b, some c, some d => smB c && smB d && (lbtw (cut r).1 c d == lbtw r a b)
  | _, _, _, _ => false
def L0' : List (Int × Int) := [(1, 5), (2, 5), (3, 7), (5, 9), (10, 11)]
def chkR (r : Int × Int) : Bool := chkP r && decide (2 * (cut r).1.1 * r.2 = r.1 * (cut r).1.2) && decide (r.2 % 2 = 0) && lineB r (L0'.filter fun q => !decide (q = r)) (FL r (L0'.filter fun q => !decide (q = r)))
theorem pL_1 : (pL.all chkP) = true := by decide +kernel
theorem pL_2 : (pL.all chkOn) = true := by decide +kernel
theorem pL_3 : (pL.all chkWay) = true := by decide +kernel
theorem rL_1 : (rL.all chkR) = true := by decide +kernel

end Lw
set_option Elab.async false
set_option linter.all false
set_option maxRecDepth 100000
set_option maxHeartbeats 4000000
namespace Lw
open PySem PySem.Spec Dv
theorem rp_0 : (pL.all (chkRP (1, 2))) = true := by decide +kernel
theorem rp_1 : (pL.all (chkRP (1, 4))) = true := by decide +kernel
theorem rp_2 : (pL.all (chkRP (3, 4))) = true := by decide +kernel
theorem rp_3 : (pL.all (chkRP (1, 6))) = true := by decide +kernel
theorem rp_4 : (pL.all (chkRP (5, 6))) = true := by decide +kernel
theorem rp_5 : (pL.all (chkRP (1, 8))) = true := by decide +kernel
theorem rp_6 : (pL.all (chkRP (3, 8))) = true := by decide +kernel
theorem rp_7 : (pL.all (chkRP (5, 8))) = true := by decide +kernel
theorem rp_8 : (pL.all (chkRP (7, 8))) = true := by decide +kernel
theorem rp_9 : (pL.all (chkRP (1, 10))) = true := by decide +kernel
theorem rp_10 : (pL.all (chkRP (3, 10))) = true := by decide +kernel
theorem rp_11 : (pL.all (chkRP (7, 10))) = true := by decide +kernel
theorem rp_12 : (pL.all (chkRP (9, 10))) = true := by decide +kernel
theorem rp_13 : (pL.all (chkRP (1, 12))) = true := by decide +kernel
theorem rp_14 : (pL.all (chkRP (5, 12))) = true := by decide +kernel
theorem rp_15 : (pL.all (chkRP (7, 12))) = true := by decide +kernel
theorem rp_16 : (pL.all (chkRP (11, 12))) = true := by decide +kernel
theorem rp_17 : (pL.all (chkRP (1, 14))) = true := by decide +kernel
theorem rp_18 : (pL.all (chkRP (3, 14))) = true := by decide +kernel
theorem rp_19 : (pL.all (chkRP (5, 14))) = true := by decide +kernel
theorem rp_20 : (pL.all (chkRP (9, 14))) = true := by decide +kernel
theorem rp_21 : (pL.all (chkRP (11, 14))) = true := by decide +kernel
theorem rp_22 : (pL.all (chkRP (13, 14))) = true := by decide +kernel
theorem rp_23 : (pL.all (chkRP (1, 20))) = true := by decide +kernel
theorem rp_24 : (pL.all (chkRP (3, 20))) = true := by decide +kernel
theorem rp_25 : (pL.all (chkRP (7, 20))) = true := by decide +kernel
theorem rp_26 : (pL.all (chkRP (9, 20))) = true := by decide +kernel
theorem rp_27 : (pL.all (chkRP (11, 20))) = true := by decide +kernel
theorem rp_28 : (pL.all (chkRP (13, 20))) = true := by decide +kernel
theorem rp_29 : (pL.all (chkRP (17, 20))) = true := by decide +kernel
theorem rp_30 : (pL.all (chkRP (19, 20))) = true := by decide +kernel
theorem rp_31 : (pL.all (chkRP (1, 24))) = true := by decide +kernel
theorem rp_32 : (pL.all (chkRP (5, 24))) = true := by decide +kernel
theorem rp_33 : (pL.all (chkRP (7, 24))) = true := by decide +kernel
theorem rp_34 : (pL.all (chkRP (11, 24))) = true := by decide +kernel
theorem rp_35 : (pL.all (chkRP (13, 24))) = true := by decide +kernel
theorem rp_36 : (pL.all (chkRP (17, 24))) = true := by decide +kernel
theorem rp_37 : (pL.all (chkRP (19, 24))) = true := by decide +kernel
theorem rp_38 : (pL.all (chkRP (23, 24))) = true := by decide +kernel
theorem rp_39 : (pL.all (chkRP (1, 28))) = true := by decide +kernel
theorem rp_40 : (pL.all (chkRP (3, 28))) = true := by decide +kernel
theorem rp_41 : (pL.all (chkRP (5, 28))) = true := by decide +kernel
theorem rp_42 : (pL.all (chkRP (9, 28))) = true := by decide +kernel
theorem rp_43 : (pL.all (chkRP (11, 28))) = true := by decide +kernel
theorem rp_44 : (pL.all (chkRP (13, 28))) = true := by decide +kernel
theorem rp_45 : (pL.all (chkRP (15, 28))) = true := by decide +kernel
theorem rp_46 : (pL.all (chkRP (17, 28))) = true := by decide +kernel
theorem rp_47 : (pL.all (chkRP (19, 28))) = true := by decide +kernel
theorem rp_48 : (pL.all (chkRP (23, 28))) = true := by decide +kernel
theorem rp_49 : (pL.all (chkRP (25, 28))) = true := by decide +kernel
theorem rp_50 : (pL.all (chkRP (27, 28))) = true := by decide +kernel
theorem rp_51 : (pL.all (chkRP (1, 56))) = true := by decide +kernel
theorem rp_52 : (pL.all (chkRP (3, 56))) = true := by decide +kernel
theorem rp_53 : (pL.all (chkRP (5, 56))) = true := by decide +kernel
theorem rp_54 : (pL.all (chkRP (9, 56))) = true := by decide +kernel
theorem rp_55 : (pL.all (chkRP (11, 56))) = true := by decide +kernel
theorem rp_56 : (pL.all (chkRP (13, 56))) = true := by decide +kernel
theorem rp_57 : (pL.all (chkRP (15, 56))) = true := by decide +kernel
theorem rp_58 : (pL.all (chkRP (17, 56))) = true := by decide +kernel
theorem rp_59 : (pL.all (chkRP (19, 56))) = true := by decide +kernel
theorem rp_60 : (pL.all (chkRP (23, 56))) = true := by decide +kernel
theorem rp_61 : (pL.all (chkRP (25, 56))) = true := by decide +kernel
theorem rp_62 : (pL.all (chkRP (27, 56))) = true := by decide +kernel
theorem rp_63 : (pL.all (chkRP (29, 56))) = true := by decide +kernel
theorem rp_64 : (pL.all (chkRP (31, 56))) = true := by decide +kernel
theorem rp_65 : (pL.all (chkRP (33, 56))) = true := by decide +kernel
theorem rp_66 : (pL.all (chkRP (37, 56))) = true := by decide +kernel
theorem rp_67 : (pL.all (chkRP (39, 56))) = true := by decide +kernel
theorem rp_68 : (pL.all (chkRP (41, 56))) = true := by decide +kernel
theorem rp_69 : (pL.all (chkRP (43, 56))) = true := by decide +kernel
theorem rp_70 : (pL.all (chkRP (45, 56))) = true := by decide +kernel
theorem rp_71 : (pL.all (chkRP (47, 56))) = true := by decide +kernel
theorem rp_72 : (pL.all (chkRP (51, 56))) = true := by decide +kernel
theorem rp_73 : (pL.all (chkRP (53, 56))) = true := by decide +kernel
theorem rp_74 : (pL.all (chkRP (55, 56))) = true := by decide +kernel
theorem rp_all : ∀ r ∈ rL, (pL.all (chkRP r)) = true := by
  unfold rL
  simp only [List.forall_mem_cons]
  exact ⟨rp_0, rp_1, rp_2, rp_3, rp_4, rp_5, rp_6, rp_7, rp_8, rp_9, rp_10, rp_11, rp_12, rp_13, rp_14, rp_15, rp_16, rp_17, rp_18, rp_19, rp_20, rp_21, rp_22, rp_23, rp_24, rp_25, rp_26, rp_27, rp_28, rp_29, rp_30, rp_31, rp_32, rp_33, rp_34, rp_35, rp_36, rp_37, rp_38, rp_39, rp_40, rp_41, rp_42, rp_43, rp_44, rp_45, rp_46, rp_47, rp_48, rp_49, rp_50, rp_51, rp_52, rp_53, rp_54, rp_55, rp_56, rp_57, rp_58, rp_59, rp_60, rp_61, rp_62, rp_63, rp_64, rp_65, rp_66, rp_67, rp_68, rp_69, rp_70, rp_71, rp_72, rp_73, rp_74, fun _ h => by cases h⟩
end Lw
set_option Elab.async false
set_option linter.all false
set_option maxRecDepth 100000
set_option maxHeartbeats 1000000
namespace Lw
open PySem PySem.Spec Dv
theorem q_whole_int (i : Int) (W : Src) : φ_is_whole [.d (.int i)] W = some (.bool true, W) := by
  have h1 : isT "int" (.int i) = some (.bool true) := rfl
  have h2 : isT "bool" (.int i) = some (.bool false) := rfl
  simp [φ_is_whole, wfn, g_is_whole, h1, h2]
theorem q_whole_bool (b : Bool) (W : Src) : φ_is_whole [.d (.bool b)] W = some (.bool false, W) := by
  have h1 : isT "int" (.bool b) = some (.bool true) := rfl
  have h2 : isT "bool" (.bool b) = some (.bool true) := rfl
  simp [φ_is_whole, wfn, g_is_whole, h1, h2]
theorem q_isp (a b : Int) (W : Src) : φ_is_point [.d (.tuple [.int a, .int b])] W = some (.bool (decide (0 ≤ a) && decide (a < b) && decide ((Int.gcd a b : Int) = 1)), W) := by
  have h1 : isT "tuple" (.tuple [.int a, .int b]) = some (.bool true) := rfl
  have w := fun i => q_whole_int i W
  by_cases z1 : 0 ≤ a
  · by_cases z2 : a < b
    · simp [φ_is_point, wfn, g_is_point, h1, w, z1, z2]
    · simp [φ_is_point, wfn, g_is_point, h1, w, z1, z2]
  · simp [φ_is_point, wfn, g_is_point, h1, w, z1]
theorem q_isp_list (xs : List PyData) (W : Src) : φ_is_point [.d (.list xs)] W = some (.bool false, W) := by
  have h1 : isT "tuple" (.list xs) = some (.bool false) := rfl
  simp [φ_is_point, wfn, g_is_point, h1]
theorem q_isp_none (W : Src) : φ_is_point [.d .none] W = some (.bool false, W) := by
  have h1 : isT "tuple" .none = some (.bool false) := rfl
  simp [φ_is_point, wfn, g_is_point, h1]
theorem q_isp_bool (b : Bool) (i : Int) (W : Src) : φ_is_point [.d (.tuple [.bool b, .int i])] W = some (.bool false, W) := by
  have h1 : isT "tuple" (.tuple [.bool b, .int i]) = some (.bool true) := rfl
  have w := fun i => q_whole_int i W
  have v := q_whole_bool b W
  simp [φ_is_point, wfn, g_is_point, h1, w, v]
theorem q_isr (a b : Int) (W : Src) : φ_is_rule [.d (.tuple [.int a, .int b])] W = some (.bool ((decide (0 ≤ a) && decide (a < b) && decide ((Int.gcd a b : Int) = 1)) && decide (b % 2 = 0)), W) := by
  have e := q_isp a b W
  cases z : (decide (0 ≤ a) && decide (a < b) && decide ((Int.gcd a b : Int) = 1)) with
  | true =>
    rw [z] at e
    simp [φ_is_rule, wfn, g_is_rule, e]
  | false =>
    rw [z] at e
    simp [φ_is_rule, wfn, g_is_rule, e]
theorem q_isr_list (xs : List PyData) (W : Src) : φ_is_rule [.d (.list xs)] W = some (.bool false, W) := by
  have e := q_isp_list xs W
  simp [φ_is_rule, wfn, g_is_rule, e]
def oddL (p : Int × Int) : List PyData := [ptD p, .list [.int p.1, .int p.2], .tuple [.int (p.1 + p.2), .int p.2], .tuple [.int (2 * p.1), .int (2 * p.2)]]
def S24 (r p : Int × Int) (s : Sl) : Rho := [.no, .src, .no, .d (ptD r), .d (ptD p), .no, .no, .no, .no, .no, .no, .no, .no, .no, .no, .no, .no, .no, .no, .no, .no, .no, .no, .no, s, .no]
theorem e_24 (r p : Int × Int) (hp : Pt p) (W : Src) : b_law_4_24 (S0 r p) W = some (.nx (S24 r p (.own (oddL p))) W) := by
  have a := hp.a; have b := hp.b; have c := hp.c
  have m1 : mulOk 2 p.1 = true := mulOk_of (by omega) (by omega) (by omega) (by omega)
  have m2 : mulOk 2 p.2 = true := mulOk_of (by omega) (by omega) (by omega) (by omega)
  have z : ptD p = .tuple [.int p.1, .int p.2] := rfl
  simp [b_law_4_24, S0, S24, m1, m2, oddL, z]
theorem gcd_dbl (a b : Int) : (Int.gcd (2 * a) (2 * b) : Int) ≠ 1 := by
  have h1 : (2 : Int) ∣ 2 * a := ⟨a, rfl⟩
  have h2 : (2 : Int) ∣ 2 * b := ⟨b, rfl⟩
  have h := Int.dvd_coe_gcd h1 h2
  intro q
  rw [q] at h
  omega
theorem eqv_bools7 : cNe (.list [.bool true, .bool false, .bool false, .bool false, .bool false, .bool false, .bool false]) (.list [.bool true, .bool false, .bool false, .bool false, .bool false, .bool false, .bool false]) = some (.bool false) := by kernel_rfl!
theorem e_25 (r p : Int × Int) (hp : Pt p) (W : Src) : b_law_4_25 (S24 r p (.own (oddL p))) W = some (.nx (S0 r p) W) := by
  have a := hp.a; have b := hp.b; have c := hp.c
  have g := hp.g
  have e1 : φ_is_point [.d (ptD p)] W = some (.bool true, W) := by
    have := q_isp p.1 p.2 W
    rw [g] at this
    rw [show ptD p = .tuple [.int p.1, .int p.2] from rfl]
    simpa [a, b] using this
  have e2 : φ_is_point [.d (.list [.int p.1, .int p.2])] W = some (.bool false, W) := q_isp_list _ W
  have e3 : φ_is_point [.d (.tuple [.int (p.1 + p.2), .int p.2])] W = some (.bool false, W) := by
    have := q_isp (p.1 + p.2) p.2 W
    rw [show decide (p.1 + p.2 < p.2) = false from decide_eq_false (by omega)] at this
    simpa using this
  have e4 : φ_is_point [.d (.tuple [.int (2 * p.1), .int (2 * p.2)])] W = some (.bool false, W) := by
    have := q_isp (2 * p.1) (2 * p.2) W
    rw [show decide ((Int.gcd (2 * p.1) (2 * p.2) : Int) = 1) = false from decide_eq_false (gcd_dbl _ _)] at this
    simpa using this
  have e5 : φ_is_point [.d (.tuple [.int 0, .int 2])] W = some (.bool false, W) := q_isp 0 2 W
  have e6 := q_isp_bool true 2 W
  have e7 := q_isp_none W
  have z : rep 6 [PyData.bool false] = [.bool false, .bool false, .bool false, .bool false, .bool false, .bool false] := rfl
  simp [b_law_4_25, S24, S0, oddL, e1, e2, e3, e4, e5, e6, e7, z, eqv_bools7]
theorem cNe_bools5 (b : Bool) : cNe (.list [.bool true, .bool false, .bool false, .bool false, .bool b]) (.list [.bool true, .bool false, .bool false, .bool false, .bool b]) = some (.bool false) := by
  cases b <;> kernel_rfl!
def S26 (r p : Int × Int) : Rho := [.no, .src, .no, .d (ptD r), .d (ptD p), .no, .no, .no, .no, .no, .no, .no, .no, .no, .no, .no, .no, .no, .no, .no, .own [.bool true, .bool false, .bool false, .bool false, .bool (decide (p.2 % 2 = 0))], .no, .no, .no, .no, .no]
theorem e_26 (r p : Int × Int) (W : Src) : b_law_4_26 (S0 r p) W = some (.nx (S26 r p) W) := by
  simp [b_law_4_26, S0, S26]
theorem e_27 (r p : Int × Int) (hr : Rl r) (hp : Pt p) (W : Src) : b_law_4_27 (S26 r p) W = some (.nx (Sin .no) W) := by
  have a := hp.a; have b := hp.b; have g := hp.g
  have a' := hr.a; have b' := hr.b; have g' := hr.g; have ev := hr.ev
  have e1 : φ_is_rule [.d (ptD r)] W = some (.bool true, W) := by
    have := q_isr r.1 r.2 W
    rw [g'] at this
    rw [show ptD r = .tuple [.int r.1, .int r.2] from rfl]
    simpa [a', b', ev] using this
  have e2 : φ_is_rule [.d (.tuple [.int 1, .int 3])] W = some (.bool false, W) := q_isr 1 3 W
  have e3 : φ_is_rule [.d (.tuple [.int 0, .int 1])] W = some (.bool false, W) := q_isr 0 1 W
  have e4 : φ_is_rule [.d (.list [.int 1, .int 2])] W = some (.bool false, W) := q_isr_list _ W
  have e5 : φ_is_rule [.d (ptD p)] W = some (.bool (decide (p.2 % 2 = 0)), W) := by
    have := q_isr p.1 p.2 W
    rw [g] at this
    rw [show ptD p = .tuple [.int p.1, .int p.2] from rfl]
    simpa [a, b] using this
  have n := cNe_bools5 (decide (p.2 % 2 = 0))
  simp [b_law_4_27, S26, Sin, e1, e2, e3, e4, e5, n]
end Lw
set_option Elab.async false
set_option linter.all false
set_option maxRecDepth 100000
set_option maxHeartbeats 1000000
namespace Lw
open PySem PySem.Spec Dv
theorem pt_of' {p : Int × Int} (h : chkP p = true) : Pt p := by
  unfold chkP at h
  simp only [Bool.and_eq_true, decide_eq_true_eq, same_iff, Bool.not_eq_true'] at h
  obtain ⟨⟨⟨⟨⟨⟨⟨⟨⟨⟨h1, h2⟩, h3⟩, h4⟩, h5⟩, h6⟩, h7⟩, h8⟩, h9⟩, h10⟩, h11⟩ := h
  exact ⟨h1, h2, h3, h4, h5, h6, h7, h8, (fun q => by rw [same_iff.mpr q] at h9; exact Bool.noConfusion h9), h10, h11⟩
theorem pt_of {p : Int × Int} (h : IsP p) : Pt p := pt_of' (List.all_eq_true.mp pL_1 p (in_pL h))
theorem way_of {p : Int × Int} (h : IsP p) : wayOk p := by
  have z := List.all_eq_true.mp pL_3 p (in_pL h)
  unfold chkWay optEq at z
  split at z
  · rename_i a b c d e1 e2
    simp only [Bool.and_eq_true, decide_eq_true_eq] at z
    obtain ⟨⟨⟨⟨⟨rfl, rfl⟩, h1⟩, h2⟩, h3⟩, h4⟩ := z
    exact ⟨a, b, ⟨h1, h2⟩, ⟨h3, h4⟩, q_way_told e1, q_law_way (pt_of h).sm4 e2⟩
  · cases z
theorem on_of {p : Int × Int} (h : IsP p) : onOk p := by
  intro m hm
  have z := List.all_eq_true.mp pL_2 p (in_pL h)
  have z := List.all_eq_true.mp z m hm
  split at z
  · rename_i v e
    unfold bigB at z
    simp only [Bool.and_eq_true, decide_eq_true_eq, same_iff] at z
    obtain ⟨h1, ⟨⟨h2, h3⟩, h4⟩, h5⟩ := z
    have q := q_moved_on (pt_of h) e
    rw [h1] at q
    exact ⟨q, ⟨⟨by omega, by omega⟩, ⟨by omega, by omega⟩⟩⟩
  · cases z
theorem smB_ok {p : Int × Int} (h : smB p = true) : Sm4 p := by
  unfold smB at h
  simp only [Bool.and_eq_true, decide_eq_true_eq] at h
  exact ⟨h.1.1, h.1.2, h.2⟩
theorem rl_of {r : Int × Int} (h : IsR r) : Rl r ∧ lineOk r := by
  have z := List.all_eq_true.mp rL_1 r (in_rL h)
  unfold chkR at z
  simp only [Bool.and_eq_true, decide_eq_true_eq] at z
  obtain ⟨⟨⟨h1, h2⟩, h3⟩, h4⟩ := z
  refine ⟨⟨pt_of' h1, h2, h3⟩, fun k k1 k2 => ?_⟩
  have h4 : lineB r (LN r) (FN r) = true := h4
  unfold lineB at h4
  have q := List.all_eq_true.mp h4 k (List.mem_range.mpr k2)
  have k0 : Nat.beq k 0 = false := by
    cases w : Nat.beq k 0 with
    | false => rfl
    | true => have := Nat.eq_of_beq_eq_true w; omega
  rw [k0, Bool.false_or] at q
  split at q
  · rename_i a b c d e1 e2 e3 e4
    simp only [Bool.and_eq_true, beq_iff_eq] at q
    exact ⟨a, b, c, d, e1, e2, e3, e4, smB_ok q.1.1, smB_ok q.1.2, q.2⟩
  · cases q
theorem pair_of {r p : Int × Int} (hr : IsR r) (hp : IsP p) : halfN r p = lhalf r p ∧ (p ≠ r → lhalf r (pback r p 0) = 0 ∧ lhalf r (pback r p 1) = 1) := by
  have z := List.all_eq_true.mp (rp_all r (in_rL hr)) p (in_pL hp)
  unfold chkRP at z
  simp only [Bool.and_eq_true, Bool.or_eq_true, decide_eq_true_eq, same_iff] at z
  exact ⟨z.1, fun n => z.2.resolve_left n⟩
theorem turn_ok (t : Sl) (W : Src) : ∃ W', b_law_4 (Sin t) W = some (.nx (Sin .no) W') := by
  obtain ⟨r, p, o, W1, hr, hp, ho, s0⟩ := e_0 t W
  obtain ⟨u, W2, hu, s1⟩ := e_1 r p o hp ho W1
  have P := pt_of hp
  have O := pt_of ho
  have U := pt_of hu
  obtain ⟨R, hl⟩ := rl_of hr
  obtain ⟨f1, f2⟩ := pair_of hr hp
  have s2 := e_2 r p o u P (way_of hp) W2
  obtain ⟨m, hm, W3, s3⟩ := e_3 r p o u W2
  have s4 := e_4 r p o u m hm P W3
  have s5 := e_5 r p o u m hm (on_of hp) W3
  have s6 := e_6 r p o u P O U W3
  have s7 := e_7 r p P W3
  have s8 := e_8 r p P W3
  have s9 := e_9 r p R.toPt W3
  have s10 := e_10 r p R.toPt W3
  have s11 := e_11 r p R W3
  have s12 := e_12 r p R.toPt P W3
  have s13 := e_13 r p R.toPt P f1 W3
  have s14 := e_14 r p P W3
  have s15 := e_15 r p P W3
  have s16 := e_16 r p R.toPt P f2 W3
  have s17 := e_17 r p W3
  have s18 := e_18 r p W3
  have s19 := e_19 r p R.toPt W3
  have s20 := e_20 r p R.toPt hl W3
  obtain ⟨x, y, hy, W4, s21⟩ := e_21 r p W3
  have s22 := e_22 r p x y hy W4
  have s23 := e_23 r p x y hy W4
  have s24 := e_24 r p P W4
  have s25 := e_25 r p P W4
  have s26 := e_26 r p W4
  have s27 := e_27 r p R P W4
  refine ⟨W4, ?_⟩
  unfold b_law_4
  rw [sC_s, s0]; dsimp only
  rw [sC_s, s1]; dsimp only
  rw [sC_s, s2]; dsimp only
  rw [sC_s, s3]; dsimp only
  rw [sC_s, s4]; dsimp only
  rw [sC_s, s5]; dsimp only
  rw [sC_s, s6]; dsimp only
  rw [sC_s, s7]; dsimp only
  rw [sC_s, s8]; dsimp only
  rw [sC_s, s9]; dsimp only
  rw [sC_s, s10]; dsimp only
  rw [sC_s, s11]; dsimp only
  rw [sC_s, s12]; dsimp only
  rw [sC_s, s13]; dsimp only
  rw [sC_s, s14]; dsimp only
  rw [sC_s, s15]; dsimp only
  rw [sC_s, s16]; dsimp only
  rw [sC_s, s17]; dsimp only
  rw [sC_s, s18]; dsimp only
  rw [sC_s, s19]; dsimp only
  rw [sC_s, s20]; dsimp only
  rw [sC_s, s21]; dsimp only
  rw [sC_s, s22]; dsimp only
  rw [sC_s, s23]; dsimp only
  rw [sC_s, s24]; dsimp only
  rw [sC_s, s25]; dsimp only
  rw [sC_s, s26]; dsimp only
  rw [sC_s, s27]
  rfl
theorem turns_ok : ∀ (ds : List PyData) (W : Src), ∃ W', forL (gN 2) b_law_4 ds (Sin .no) W = some (.nx (Sin .no) W')
  | [], W => ⟨W, rfl⟩
  | d :: ds, W => by
    obtain ⟨W1, h1⟩ := turn_ok (.d d) W
    obtain ⟨W2, h2⟩ := turns_ok ds W1
    refine ⟨W2, ?_⟩
    have hg : gN 2 d (Sin .no) = some (Sin (.d d)) := rfl
    rw [forL_cons, hg]
    dsimp only
    rw [h1]
    exact h2
theorem law_ok (W : Src) : ∃ W', g_law (stL 24) W = some (.rt (.bool true) W') := by
  obtain ⟨W1, h⟩ := turns_ok (rng 0 4) W
  refine ⟨W1, ?_⟩
  have hs : stL 24 = Sin .no := rfl
  have hi : iR1 (eC (.int 4)) (Sin .no) W = some (rng 0 4, W) := rfl
  have s1 : sFor (iR1 (eC (.int 4))) (gN 2) b_law_4 (Sin .no) W = some (.nx (Sin .no) W1) := by
    rw [sFor_s, hi]
    exact h
  have s2 : ∃ ρ, l_0 (Sin .no) W = some (.nx ρ W1) := by
    unfold l_0
    rw [sAfter_s, sFrz_s, frzs_nil, s1]
    exact ⟨_, rfl⟩
  obtain ⟨ρ, s2⟩ := s2
  rw [hs]
  unfold g_law
  rw [sC_s, s2]
  rfl
end Lw
set_option Elab.async false
set_option linter.all false
set_option maxRecDepth 100000
set_option maxHeartbeats 4000000
namespace Lw
open PySem PySem.Spec PyProof.Rows L2 Dv
def topS (i : Nat) : Stmt := PySem.Challenge.pw_pinchedround_k11_ways_back_and_halves.main.body.getD i (.Pass ⟨0, 0, 0, 0⟩)
abbrev sSource : Stmt := topS 24
abbrev sPick : Stmt := topS 25
theorem scSource : FnScope ["script", "mixed", "cell"] ["script"] (defScope sSource) := ⟨rfl, rfl, rfl, by decide +kernel, rfl, by decide +kernel, by decide +kernel⟩
theorem scPick : FnScope ["source", "many", "left", "mixed"] ["source", "many"] (defScope sPick) := ⟨rfl, rfl, rfl, by decide +kernel, rfl, by decide +kernel, by decide +kernel⟩
section
variable {P : Program} {w : World} {K : PySem.W.Frag} {mg : Str → Option Value} {base : Heap} {k : Nat} {f : Addr} {fd : FuncData}
theorem fg_source (F : Fun K "_law_source" "_law_source" sSource f fd) (mi : mg "int" = none) (ma : mg "abs" = none) : FG P w K mg base CX0 (k + 1) f fd ["script"] (spSrc K) := by
  refine FG.of F scSource (fun vs H Q E h => ?_) (fun cdv A out s H vs Q E hr hg h => ?_)
  · obtain ⟨a, ns, rfl, _⟩ := h
    rfl
  · obtain ⟨a, ns, rfl, hS, hlen, q⟩ := h
    refine ⟨_, PSs.nox (pss_cons (ps_set (i := 1) scSource.nd rfl (.inl rfl) pe_int)
      (pss_cons (ps_for PassesOwn.never rfl (pi_list (pv 0)) (pg_name (i := 2) scSource.nd rfl (.inl rfl))
        (pss_one (ps_set (i := 1) scSource.nd rfl (.inl rfl) (pe_op op_mod (pe_callTy call_int1 (by rfl) mi (by decide +kernel) (pa_cons (pe_op op_add (pe_op op_add (pe_op op_mul (pv 1) pe_int) (pe_op op_mul (pv 2) pe_int)) pe_int) pa_nil)) pe_int))))
      (pss_one (ps_ret (pe_disp (pps_cons pe_str (pe_revL (pe_lc (own := [("cell", 2)]) (g := gName 2) (tt := tYes) rfl scSource.nd (pi_list (pv 0)) (blkOk_by (N := ["script", "mixed", "cell"]) (sc := defScope sSource) (by decide +kernel)) (fun _ _ _ _ _ => pg_name (i := 2) scSource.nd rfl (Or.inl rfl)) (fun _ _ _ _ _ => pts_nil)
          (fun _ _ _ _ _ => pe_callB call_abs (by rfl) ma (by decide +kernel) (pa_cons (pv 2) pa_nil))))
        (pps_cons pe_str pe_int (pps_cons pe_str (pv 1) (pps_cons pe_str pe_int pps_nil)))) (by rfl) (by rfl) (fun z => by cases z) (by decide)))))), ?_⟩
    refine ⟨.ref a, rfl, a, rfl, ⟨_, hS⟩, for_list (K := K) (a := a) (xs := ns.map V.int) (fun i σ H' => H' = H ∧ ∃ m y, σ = [some (.ref a), some (.int m), y]) ⟨rfl, 11, none, rfl⟩ (fun i σ H' _ hh => hh.1 ▸ hS) ?_ ?_⟩
    · rintro i y σ H' hi ⟨rfl, m, y', rfl⟩
      obtain ⟨z, hz, rfl⟩ : ∃ z, ns[i]? = some z ∧ V.int z = y := by simpa [List.getElem?_map] using hi
      exact ⟨_, rfl, _, _, rfl, rfl, .inr (by decide), _, rfl, _, _, rfl, rfl, .inr (by decide), _, _, rfl, rfl, _, _, rfl, rfl, .inl ⟨_, rfl, _, _, rfl, rfl, (show (0 : Int) < 2147483629 by decide), rfl, _, _, rfl⟩⟩
    · rintro σ H' ⟨rfl, m, y', rfl⟩
      intro p np
      have sp1 : Same H' (upd H' p (.dK [])) := same_none np
      refine ⟨.ref a, rfl, a, rfl, ⟨_, sp1.seq hS⟩, fun D hD => ?_⟩
      have nDp : D ≠ p := fun e => by rw [e, upd_same] at hD; cases hD
      refine lc_list (K := K) (a := a) (xs := ns.map V.int) (fun i H3 => ∃ acc : List Int, H3 = upd (upd H' p (.dK [])) D (.lst (acc.map V.int)) ∧ acc.length = i) ⟨[], rfl, rfl⟩ (fun i H3 _ hh => ?_) ?_ ?_
      · obtain ⟨acc, rfl, _⟩ := hh
        exact (sp1.trans (same_none hD)).seq hS
      · rintro i x H3 hi ⟨acc, rfl, hacc⟩
        obtain ⟨z, hz, rfl⟩ : ∃ z, ns[i]? = some z ∧ V.int z = x := by simpa [List.getElem?_map] using hi
        have hil : i < ns.length := (List.getElem?_eq_some_iff.mp hz).1
        refine ⟨rfl, ?_⟩
        refine ⟨_, rfl, _, rfl, acc.map V.int, upd_same, by rw [List.length_map, hacc, sizeLine_eq]; omega, acc ++ [if z < 0 then -z else z], ?_, by simp [hacc]⟩
        rw [upd_upd, List.map_append]
        rfl
      · rintro H3 ⟨acc, rfl, hacc⟩
        refine ⟨D, acc.map V.int, rfl, SqL.of upd_same, fun q' nq => ?_⟩
        have nqp : q' ≠ p := fun e => by rw [e, upd_ne nDp.symm, upd_same] at nq; cases nq
        have nq0 : H' q' = none := by
          have nqD : q' ≠ D := fun e => by rw [e, upd_same] at nq; cases nq
          rw [upd_ne nqD, upd_ne nqp] at nq
          exact nq
        refine ⟨.int m, rfl, ?_⟩
        refine ⟨?_, [(.inr "cells", .ref q'), (.inr "left", .int 1), (.inr "mixed", .int m), (.inr "turn", .int 0)], rfl, (show 4 ≤ 15 by decide), ?_⟩
        · rw [upd_ne nqp.symm, upd_ne nDp.symm, upd_same]
        · refine q _ p q' ⟨acc.reverse, 1, m, 0⟩ (fun b o e => ?_) np nq0 (fun pp hp => ?_)
          · have b1 : b ≠ p := ne_of_none e np
            have b2 : b ≠ q' := ne_of_none e nq0
            have b3 : b ≠ D := fun z => by
              have hD2 := hD
              rw [upd_ne nDp] at hD2
              rw [← z, e] at hD2
              cases hD2
            rw [upd_ne b1, upd_ne b2, upd_ne b3, upd_ne b1]
            exact e
          · cases hp
            refine ⟨nqp.symm, ?_, ?_⟩
            · rw [upd_same]
              rfl
            · rw [upd_ne nqp, upd_same, List.map_reverse]
/-- the source's dict read -/
theorem src_get {p q : Addr} {W : Src} {H : Hp} (h : SrcAt (some (p, q)) W H) : H p = some (.dK (srcDict q W)) ∧ H q = some (.lst (W.cells.map V.int)) ∧ p ≠ q := let ⟨a, b, c⟩ := h (p, q) rfl; ⟨b, c, a⟩
theorem src_left {p q : Addr} {W : Src} {H : Hp} (h : SrcAt (some (p, q)) W H) (x : Int) : SrcAt (some (p, q)) { W with left := x } (upd H p (.dK (srcDict q { W with left := x }))) := fun pp hp => by
  cases hp
  obtain ⟨a, b, c⟩ := h (p, q) rfl
  exact ⟨a, upd_same, by rw [upd_ne a.symm]; exact c⟩
section
variable {p q : Addr} {W : Src} {H : Hp}
theorem get_of (h : SrcAt (some (p, q)) W H) {x : Str} {v : V} (e : valV (srcDict q W) (.inr x) = some v) : DGet H p (.str x) (some v) := by
  have := DGet.k (k := (Sum.inr x : Key)) (src_get h).1
  rw [e] at this
  exact this
theorem get_cells (h : SrcAt (some (p, q)) W H) : DGet H p (.str "cells") (some (.ref q)) := get_of h rfl
theorem get_left (h : SrcAt (some (p, q)) W H) : DGet H p (.str "left") (some (.int W.left)) := get_of h rfl
theorem get_mixed (h : SrcAt (some (p, q)) W H) : DGet H p (.str "mixed") (some (.int W.mixed)) := get_of h rfl
theorem get_turn (h : SrcAt (some (p, q)) W H) : DGet H p (.str "turn") (some (.int W.turn)) := get_of h rfl
theorem put_of (h : SrcAt (some (p, q)) W H) {x : Str} {v : V} {W' : Src} (e : putK (srcDict q W) (.inr x) v = srcDict q W') : DPut H p (.str x) v (upd H p (.dK (srcDict q W'))) := by
  have := DPut.k (k := (Sum.inr x : Key)) (v := v) (src_get h).1 (by show 4 < sizeLine; rw [sizeLine_eq]; omega)
  rw [e] at this
  exact this
theorem put_left (h : SrcAt (some (p, q)) W H) (i : Int) : DPut H p (.str "left") (.int i) (upd H p (.dK (srcDict q { W with left := i }))) := put_of h rfl
theorem put_mixed (h : SrcAt (some (p, q)) W H) (i : Int) : DPut H p (.str "mixed") (.int i) (upd H p (.dK (srcDict q { W with mixed := i }))) := put_of h rfl
theorem put_turn (h : SrcAt (some (p, q)) W H) (i : Int) : DPut H p (.str "turn") (.int i) (upd H p (.dK (srcDict q { W with turn := i }))) := put_of h rfl
end
/-- as the source stands, all else as it was -/
structure Sv (p q : Addr) (H0 : Hp) (W : Src) (H : Hp) : Prop where
  s : SrcAt (some (p, q)) W H
  k : ∀ a o, H0 a = some o → a ≠ p → a ≠ q → H a = some o
theorem Sv.put {p q : Addr} {H0 H : Hp} {W W' : Src} (h : Sv p q H0 W H) (hc : W'.cells = W.cells) : Sv p q H0 W' (upd H p (.dK (srcDict q W'))) := by
  obtain ⟨a, b, c⟩ := h.s (p, q) rfl
  refine ⟨fun pp hp => ?_, fun b' o e n1 n2 => by rw [upd_ne n1]; exact h.k b' o e n1 n2⟩
  cases hp
  exact ⟨a, upd_same, by rw [upd_ne a.symm, hc]; exact c⟩
theorem Sv.cells {p q : Addr} {H0 H : Hp} {W : Src} (h : Sv p q H0 W H) (cs : List Int) : Sv p q H0 { W with cells := cs } (upd H q (.lst (cs.map V.int))) := by
  obtain ⟨a, b, c⟩ := h.s (p, q) rfl
  refine ⟨fun pp hp => ?_, fun b' o e n1 n2 => by rw [upd_ne n2]; exact h.k b' o e n1 n2⟩
  cases hp
  exact ⟨a, by rw [upd_ne a]; exact b, upd_same⟩
def spPick : Sp := fun vs H Q _ => ∃ (p q : Addr) (W : Src) (many : Int), vs = [.ref p, .int many] ∧ SrcAt (some (p, q)) W H ∧ many < 1000000000 ∧ ∀ H', Sv p q H (pickF many W).2 H' → Q (.int (pickF many W).1) H'
theorem pickL_go {many : Int} {cs : List Int} {left : Int} (c : 1 < many ∧ left < 2) {x : Int} (h : cs.getLast? = some x) : pickL many cs left = pickL many cs.dropLast x := by
  rw [pickL, if_pos c]
  split
  · rename_i c' e
    rw [h] at e
    cases e
    rfl
  · rename_i e
    rw [h] at e; cases e
theorem pickL_stop {many : Int} {cs : List Int} {left : Int} (c : ¬ (1 < many ∧ left < 2) ∨ cs = []) : pickL many cs left = (cs, left) := by
  rcases c with c | rfl
  · rw [pickL, if_neg c]
  · rw [pickL]
    split
    · rfl
    · rfl
theorem fg_pick (F : Fun K "_law_pick" "_law_pick" sPick f fd) (ml : mg "len" = none) (mi : mg "int" = none) (mm : mg "max" = none) : FG P w K mg base CX0 (k + 1) f fd ["source", "many"] spPick := by
  refine FG.of F scPick (fun vs H Q E h => ?_) (fun cdv A out s H vs Q E hr hg h => ?_)
  · obtain ⟨p, q, W, many, rfl, _⟩ := h
    rfl
  · obtain ⟨p, q, W, many, rfl, hs, hm, fin⟩ := h
    have hu := hu_of hr
    refine ⟨_, PSs.nox (pss_cons (ps_while PassesOwn.never (PW.pt (pw_and (pt_cmpR op_gt (pv 1) pe_int (nomark _)) (pw_and (pt_cmpR op_lt (pe_dget hu (pv 0) pe_str (fun _ _ => rfl)) pe_int (nomark _)) (pw_and1 (pt_cmpR op_gt (pe_callB call_len_seq (by rfl) ml PySem.boot_len (pa_cons (pe_dget hu (pv 0) pe_str (fun _ _ => rfl)) pa_nil)) pe_int (nomark _))))))
        (pss_one (ps_dput hu (pv 0) pe_str (pe_bm0 PySem.F.plainAttrs_list PySem.F.slot_list_pop PySem.F.type_list_pop mt_pop (pe_dget hu (pv 0) pe_str (fun _ _ => rfl))) rfl)))
      (pss_cons (ps_set (i := 2) scPick.nd rfl (.inl rfl) (pe_dget hu (pv 0) pe_str (fun _ _ => rfl)))
      (pss_cons (ps_if (PW.pt (pw_or (pt_cmpR op_lt (pv 1) pe_int (nomark _)) (pw_or1 (pt_cmpR op_gt (pv 2) pe_int (nomark _)))))
        (pss_cons (ps_dput hu (pv 0) pe_str (pe_op op_fdiv (pv 2) (pe_callB (call_max2 rfl) (by rfl) mm (by decide +kernel) (pa_cons pe_int (pa_cons (pv 1) pa_nil)))) rfl)
          (pss_one (ps_ret (pe_op op_mod (pe_callTy call_int1 (by rfl) mi (by decide +kernel) (pa_cons (pv 2) pa_nil)) (pe_callB (call_max2 rfl) (by rfl) mm (by decide +kernel) (pa_cons pe_int (pa_cons (pv 1) pa_nil)))))))
        pss_nil)
      (pss_cons (ps_dput hu (pv 0) pe_str (pe_op op_add (pe_dget hu (pv 0) pe_str (fun _ _ => rfl)) pe_int) rfl)
      (pss_cons (ps_set (i := 3) scPick.nd rfl (.inl rfl) (pe_op op_mod (pe_callTy call_int1 (by rfl) mi (by decide +kernel) (pa_cons (pe_op op_add (pe_dget hu (pv 0) pe_str (fun _ _ => rfl)) (pe_op op_mul (pe_dget hu (pv 0) pe_str (fun _ _ => rfl)) pe_int)) pa_nil)) pe_int))
      (pss_cons (ps_set (i := 3) scPick.nd rfl (.inl rfl) (pe_op op_mod (pe_callTy call_int1 (by rfl) mi (by decide +kernel) (pa_cons (pe_op op_add (pe_op op_mul (pv 3) (pv 3)) (pe_op op_mul (pe_dget hu (pv 0) pe_str (fun _ _ => rfl)) pe_int)) pa_nil)) pe_int))
      (pss_cons (ps_dput hu (pv 0) pe_str (pv 3) rfl)
      (pss_one (ps_ret (pe_op op_mod (pe_callTy call_int1 (by rfl) mi (by decide +kernel) (pa_cons (pe_op op_fdiv (pv 3) pe_int) pa_nil)) (pv 1))))))))))), ?_⟩
    refine ⟨fun m σ H' => ∃ Wc : Src, σ = [some (.ref p), some (.int many), none, none] ∧ Sv p q H Wc H' ∧ m = Wc.cells.length ∧ pickL many Wc.cells Wc.left = pickL many W.cells W.left ∧ Wc.mixed = W.mixed ∧ Wc.turn = W.turn,
      ⟨_, W, rfl, ⟨hs, fun _ _ e _ _ => e⟩, rfl, rfl, rfl, rfl⟩, ?_⟩
    rintro m σ H1 ⟨Wc, rfl, sv, rfl, hp, hx, ht⟩
    refine ⟨_, rfl, _, _, rfl, rfl, _, rfl, ?_⟩
    by_cases c1 : 1 < many
    · rw [decide_eq_true c1]
      refine iteT ?_
      refine ⟨_, rfl, p, _, rfl, get_left sv.s, _, _, rfl, rfl, _, rfl, ?_⟩
      by_cases c2 : Wc.left < 2
      · rw [decide_eq_true c2]
        refine iteT ?_
        refine ⟨_, rfl, p, _, rfl, get_cells sv.s, q, _, rfl, .inl (SqL.of (src_get sv.s).2.1), _, _, rfl, rfl, _, rfl, ?_⟩
        by_cases c3 : (0 : Int) < ((Wc.cells.map V.int).length : Int)
        · rw [decide_eq_true c3]
          refine iteT ?_
          rw [List.length_map] at c3
          have hne : Wc.cells ≠ [] := fun e => by rw [e] at c3; simp at c3
          obtain ⟨x, hx'⟩ : ∃ x, Wc.cells.getLast? = some x := ⟨_, List.getLast?_eq_some_getLast hne⟩
          refine ⟨fun σ' H' => ∃ Wd : Src, σ' = [some (.ref p), some (.int many), none, none] ∧ Sv p q H Wd H' ∧ Wd.cells.length < Wc.cells.length ∧ pickL many Wd.cells Wd.left = pickL many W.cells W.left ∧ Wd.mixed = W.mixed ∧ Wd.turn = W.turn, fun σ' H' hN => ?_, ?_⟩
          · obtain ⟨Wd, e1, e2, e3, e4, e5, e6⟩ := hN
            exact ⟨_, e3, Wd, e1, e2, rfl, e4, e5, e6⟩
          · refine ⟨_, rfl, p, _, rfl, get_cells sv.s, .inl ⟨rfl, _, SqL.of (src_get sv.s).2.1⟩, q, _, .int x, rfl, rfl, (src_get sv.s).2.1, ?_, ?_⟩
            · rw [List.getElem?_map, List.length_map, ← List.getLast?_eq_getElem?, hx']
              rfl
            · have sv2 := sv.cells Wc.cells.dropLast
              rw [List.map_dropLast] at sv2
              refine ⟨_, rfl, p, _, rfl, put_left sv2.s x, { Wc with cells := Wc.cells.dropLast, left := x }, rfl, sv2.put rfl, ?_, ?_, hx, ht⟩
              · rw [List.length_dropLast]; omega
              · rw [← hp]
                exact (pickL_go ⟨c1, c2⟩ hx').symm
        · rw [decide_eq_false c3]
          refine iteF ?_
          rw [List.length_map] at c3
          have pl : pickL many W.cells W.left = (Wc.cells, Wc.left) := by
            rw [← hp]
            exact pickL_stop (by first | exact .inl (by omega) | (right; exact List.eq_nil_of_length_eq_zero (by omega)))
          have ev : pickF many W = (if many < 2 ∨ 1 < Wc.left then (Wc.left % (if many > 1 then many else 1), ⟨Wc.cells, Wc.left / (if many > 1 then many else 1), W.mixed, W.turn⟩) else (mix2 W / 16 % many, ⟨Wc.cells, Wc.left, mix2 W, W.turn + 1⟩)) := by
            unfold pickF
            rw [pl]
          rw [← hx, ← ht] at ev
          have hdiv : 0 < (if many > 1 then many else 1) ∧ (if many > 1 then many else 1) < 1073741824 := by split <;> omega
          -- left = source['left']
          refine ⟨_, rfl, p, _, rfl, get_left sv.s, ?_⟩
          by_cases c : many < 2 ∨ 1 < Wc.left
          · rw [if_pos c] at ev
            rw [ev] at fin
            have sv2 := sv.put (W' := { Wc with left := Wc.left / (if many > 1 then many else 1) }) rfl
            have go : _ := fin _ sv2
            refine ⟨_, rfl, _, _, rfl, rfl, _, rfl, ?_⟩
            refine ite2 (fun d1 => ?_) (fun d1 => ?_)
            · refine iteT ?_
              refine ⟨_, rfl, _, rfl, _, _, rfl, _, _, rfl, rfl, hdiv, _, rfl, p, _, rfl, put_left sv.s _, ?_⟩
              exact ⟨_, rfl, .inl ⟨_, rfl, _, rfl, _, _, rfl, _, _, rfl, rfl, hdiv.1, go⟩⟩
            · have d2 : 1 < Wc.left := c.resolve_left fun z => d1 (decide_eq_true z)
              refine ⟨_, rfl, _, _, rfl, rfl, _, rfl, ?_⟩
              rw [decide_eq_true d2]
              refine iteT ?_
              refine ⟨_, rfl, _, rfl, _, _, rfl, _, _, rfl, rfl, hdiv, _, rfl, p, _, rfl, put_left sv.s _, ?_⟩
              exact ⟨_, rfl, .inl ⟨_, rfl, _, rfl, _, _, rfl, _, _, rfl, rfl, hdiv.1, go⟩⟩
          · rw [if_neg c] at ev
            rw [ev] at fin
            have n1 : ¬ many < 2 := fun z => c (.inl z)
            have n2 : ¬ 1 < Wc.left := fun z => c (.inr z)
            refine ⟨_, rfl, _, _, rfl, rfl, _, rfl, ?_⟩
            rw [decide_eq_false n1]
            refine iteF ?_
            refine ⟨_, rfl, _, _, rfl, rfl, _, rfl, ?_⟩
            rw [decide_eq_false n2]
            refine iteF ?_
            have s1 := sv.put (W' := { Wc with turn := Wc.turn + 1 }) rfl
            have s2 := s1.put (W' := { Wc with turn := Wc.turn + 1, mixed := mix2 W }) rfl
            refine ⟨_, rfl, p, _, rfl, get_turn sv.s, _, _, rfl, rfl, _, rfl, p, _, rfl, put_turn sv.s _, ?_⟩
            refine ⟨_, rfl, p, _, rfl, get_mixed s1.s, _, rfl, p, _, rfl, get_turn s1.s, _, _, rfl, rfl, .inr (by decide), _, _, rfl, rfl, .inl ⟨_, rfl, _, _, rfl, rfl, (show (0 : Int) < 998244353 by decide), ?_⟩⟩
            have m1 : mix1 W = (Wc.mixed + (Wc.turn + 1) * 104729) % 998244353 := by rw [hx, ht]; rfl
            have m2 : mix2 W = (mix1 W * mix1 W + (Wc.turn + 1) * 17) % 2147483647 := by rw [ht]; rfl
            have b1 : 0 ≤ mix1 W ∧ mix1 W < 998244353 := ⟨Int.emod_nonneg _ (by decide), Int.emod_lt_of_pos _ (by decide)⟩
            refine ⟨_, rfl, _, rfl, mix1 W, mix1 W, by rw [m1], by rw [m1], .inl ⟨by omega, by omega⟩, _, rfl, p, _, rfl, get_turn s1.s, _, _, rfl, rfl, .inr (by decide), _, _, rfl, rfl, .inl ⟨_, rfl, _, _, rfl, rfl, (show (0 : Int) < 2147483647 by decide), ?_⟩⟩
            refine ⟨_, rfl, _, rfl, p, _, rfl, put_mixed s1.s _, ?_⟩
            refine ⟨_, rfl, _, _, rfl, rfl, ⟨by decide, by decide⟩, .inl ⟨_, rfl, _, rfl, _, _, rfl, rfl, (show 0 < many by omega), ?_⟩⟩
            rw [← m2]
            exact fin _ s2
      · rw [decide_eq_false c2]
        refine iteF ?_
        have pl : pickL many W.cells W.left = (Wc.cells, Wc.left) := by
          rw [← hp]
          exact pickL_stop (by first | exact .inl (by omega) | (right; exact List.eq_nil_of_length_eq_zero (by omega)))
        have ev : pickF many W = (if many < 2 ∨ 1 < Wc.left then (Wc.left % (if many > 1 then many else 1), ⟨Wc.cells, Wc.left / (if many > 1 then many else 1), W.mixed, W.turn⟩) else (mix2 W / 16 % many, ⟨Wc.cells, Wc.left, mix2 W, W.turn + 1⟩)) := by
          unfold pickF
          rw [pl]
        rw [← hx, ← ht] at ev
        have hdiv : 0 < (if many > 1 then many else 1) ∧ (if many > 1 then many else 1) < 1073741824 := by split <;> omega
        -- left = source['left']
        refine ⟨_, rfl, p, _, rfl, get_left sv.s, ?_⟩
        by_cases c : many < 2 ∨ 1 < Wc.left
        · rw [if_pos c] at ev
          rw [ev] at fin
          have sv2 := sv.put (W' := { Wc with left := Wc.left / (if many > 1 then many else 1) }) rfl
          have go : _ := fin _ sv2
          refine ⟨_, rfl, _, _, rfl, rfl, _, rfl, ?_⟩
          refine ite2 (fun d1 => ?_) (fun d1 => ?_)
          · refine iteT ?_
            refine ⟨_, rfl, _, rfl, _, _, rfl, _, _, rfl, rfl, hdiv, _, rfl, p, _, rfl, put_left sv.s _, ?_⟩
            exact ⟨_, rfl, .inl ⟨_, rfl, _, rfl, _, _, rfl, _, _, rfl, rfl, hdiv.1, go⟩⟩
          · have d2 : 1 < Wc.left := c.resolve_left fun z => d1 (decide_eq_true z)
            refine ⟨_, rfl, _, _, rfl, rfl, _, rfl, ?_⟩
            rw [decide_eq_true d2]
            refine iteT ?_
            refine ⟨_, rfl, _, rfl, _, _, rfl, _, _, rfl, rfl, hdiv, _, rfl, p, _, rfl, put_left sv.s _, ?_⟩
            exact ⟨_, rfl, .inl ⟨_, rfl, _, rfl, _, _, rfl, _, _, rfl, rfl, hdiv.1, go⟩⟩
        · rw [if_neg c] at ev
          rw [ev] at fin
          have n1 : ¬ many < 2 := fun z => c (.inl z)
          have n2 : ¬ 1 < Wc.left := fun z => c (.inr z)
          refine ⟨_, rfl, _, _, rfl, rfl, _, rfl, ?_⟩
          rw [decide_eq_false n1]
          refine iteF ?_
          refine ⟨_, rfl, _, _, rfl, rfl, _, rfl, ?_⟩
          rw [decide_eq_false n2]
          refine iteF ?_
          have s1 := sv.put (W' := { Wc with turn := Wc.turn + 1 }) rfl
          have s2 := s1.put (W' := { Wc with turn := Wc.turn + 1, mixed := mix2 W }) rfl
          refine ⟨_, rfl, p, _, rfl, get_turn sv.s, _, _, rfl, rfl, _, rfl, p, _, rfl, put_turn sv.s _, ?_⟩
          refine ⟨_, rfl, p, _, rfl, get_mixed s1.s, _, rfl, p, _, rfl, get_turn s1.s, _, _, rfl, rfl, .inr (by decide), _, _, rfl, rfl, .inl ⟨_, rfl, _, _, rfl, rfl, (show (0 : Int) < 998244353 by decide), ?_⟩⟩
          have m1 : mix1 W = (Wc.mixed + (Wc.turn + 1) * 104729) % 998244353 := by rw [hx, ht]; rfl
          have m2 : mix2 W = (mix1 W * mix1 W + (Wc.turn + 1) * 17) % 2147483647 := by rw [ht]; rfl
          have b1 : 0 ≤ mix1 W ∧ mix1 W < 998244353 := ⟨Int.emod_nonneg _ (by decide), Int.emod_lt_of_pos _ (by decide)⟩
          refine ⟨_, rfl, _, rfl, mix1 W, mix1 W, by rw [m1], by rw [m1], .inl ⟨by omega, by omega⟩, _, rfl, p, _, rfl, get_turn s1.s, _, _, rfl, rfl, .inr (by decide), _, _, rfl, rfl, .inl ⟨_, rfl, _, _, rfl, rfl, (show (0 : Int) < 2147483647 by decide), ?_⟩⟩
          refine ⟨_, rfl, _, rfl, p, _, rfl, put_mixed s1.s _, ?_⟩
          refine ⟨_, rfl, _, _, rfl, rfl, ⟨by decide, by decide⟩, .inl ⟨_, rfl, _, rfl, _, _, rfl, rfl, (show 0 < many by omega), ?_⟩⟩
          rw [← m2]
          exact fin _ s2
    · rw [decide_eq_false c1]
      refine iteF ?_
      have pl : pickL many W.cells W.left = (Wc.cells, Wc.left) := by
        rw [← hp]
        exact pickL_stop (by first | exact .inl (by omega) | (right; exact List.eq_nil_of_length_eq_zero (by omega)))
      have ev : pickF many W = (if many < 2 ∨ 1 < Wc.left then (Wc.left % (if many > 1 then many else 1), ⟨Wc.cells, Wc.left / (if many > 1 then many else 1), W.mixed, W.turn⟩) else (mix2 W / 16 % many, ⟨Wc.cells, Wc.left, mix2 W, W.turn + 1⟩)) := by
        unfold pickF
        rw [pl]
      rw [← hx, ← ht] at ev
      have hdiv : 0 < (if many > 1 then many else 1) ∧ (if many > 1 then many else 1) < 1073741824 := by split <;> omega
      -- left = source['left']
      refine ⟨_, rfl, p, _, rfl, get_left sv.s, ?_⟩
      by_cases c : many < 2 ∨ 1 < Wc.left
      · rw [if_pos c] at ev
        rw [ev] at fin
        have sv2 := sv.put (W' := { Wc with left := Wc.left / (if many > 1 then many else 1) }) rfl
        have go : _ := fin _ sv2
        refine ⟨_, rfl, _, _, rfl, rfl, _, rfl, ?_⟩
        refine ite2 (fun d1 => ?_) (fun d1 => ?_)
        · refine iteT ?_
          refine ⟨_, rfl, _, rfl, _, _, rfl, _, _, rfl, rfl, hdiv, _, rfl, p, _, rfl, put_left sv.s _, ?_⟩
          exact ⟨_, rfl, .inl ⟨_, rfl, _, rfl, _, _, rfl, _, _, rfl, rfl, hdiv.1, go⟩⟩
        · have d2 : 1 < Wc.left := c.resolve_left fun z => d1 (decide_eq_true z)
          refine ⟨_, rfl, _, _, rfl, rfl, _, rfl, ?_⟩
          rw [decide_eq_true d2]
          refine iteT ?_
          refine ⟨_, rfl, _, rfl, _, _, rfl, _, _, rfl, rfl, hdiv, _, rfl, p, _, rfl, put_left sv.s _, ?_⟩
          exact ⟨_, rfl, .inl ⟨_, rfl, _, rfl, _, _, rfl, _, _, rfl, rfl, hdiv.1, go⟩⟩
      · rw [if_neg c] at ev
        rw [ev] at fin
        have n1 : ¬ many < 2 := fun z => c (.inl z)
        have n2 : ¬ 1 < Wc.left := fun z => c (.inr z)
        refine ⟨_, rfl, _, _, rfl, rfl, _, rfl, ?_⟩
        rw [decide_eq_false n1]
        refine iteF ?_
        refine ⟨_, rfl, _, _, rfl, rfl, _, rfl, ?_⟩
        rw [decide_eq_false n2]
        refine iteF ?_
        have s1 := sv.put (W' := { Wc with turn := Wc.turn + 1 }) rfl
        have s2 := s1.put (W' := { Wc with turn := Wc.turn + 1, mixed := mix2 W }) rfl
        refine ⟨_, rfl, p, _, rfl, get_turn sv.s, _, _, rfl, rfl, _, rfl, p, _, rfl, put_turn sv.s _, ?_⟩
        refine ⟨_, rfl, p, _, rfl, get_mixed s1.s, _, rfl, p, _, rfl, get_turn s1.s, _, _, rfl, rfl, .inr (by decide), _, _, rfl, rfl, .inl ⟨_, rfl, _, _, rfl, rfl, (show (0 : Int) < 998244353 by decide), ?_⟩⟩
        have m1 : mix1 W = (Wc.mixed + (Wc.turn + 1) * 104729) % 998244353 := by rw [hx, ht]; rfl
        have m2 : mix2 W = (mix1 W * mix1 W + (Wc.turn + 1) * 17) % 2147483647 := by rw [ht]; rfl
        have b1 : 0 ≤ mix1 W ∧ mix1 W < 998244353 := ⟨Int.emod_nonneg _ (by decide), Int.emod_lt_of_pos _ (by decide)⟩
        refine ⟨_, rfl, _, rfl, mix1 W, mix1 W, by rw [m1], by rw [m1], .inl ⟨by omega, by omega⟩, _, rfl, p, _, rfl, get_turn s1.s, _, _, rfl, rfl, .inr (by decide), _, _, rfl, rfl, .inl ⟨_, rfl, _, _, rfl, rfl, (show (0 : Int) < 2147483647 by decide), ?_⟩⟩
        refine ⟨_, rfl, _, rfl, p, _, rfl, put_mixed s1.s _, ?_⟩
        refine ⟨_, rfl, _, _, rfl, rfl, ⟨by decide, by decide⟩, .inl ⟨_, rfl, _, rfl, _, _, rfl, rfl, (show 0 < many by omega), ?_⟩⟩
        rw [← m2]
        exact fin _ s2
end

def gm_is_whole : Gm := ⟨["value"], defScope (topS 7), defScope (topS 7), [], [], [], "source", 1000, []⟩
theorem sc_is_whole : FnScope gm_is_whole.N ["value"] (defScope (topS 7)) := ⟨rfl, rfl, rfl, by decide +kernel, rfl, by decide +kernel, by decide +kernel⟩
theorem d_is_whole : den gm_is_whole (topS 7) = some g_is_whole := by kernel_rfl!
def gm_fraction_low : Gm := ⟨["top", "bottom", "rest", "part"], defScope (topS 8), defScope (topS 8), [], [], [("gcd", "math.gcd")], "source", 1000, [(16, [0])]⟩
theorem sc_fraction_low : FnScope gm_fraction_low.N ["top", "bottom"] (defScope (topS 8)) := ⟨rfl, rfl, rfl, by decide +kernel, rfl, by decide +kernel, by decide +kernel⟩
theorem d_fraction_low : den gm_fraction_low (topS 8) = some g_fraction_low := by kernel_rfl!
def gm_is_point : Gm := ⟨["value", "one"], defScope (topS 9), defScope (topS 9), [("is_whole", 1, φ_is_whole)], [], [("gcd", "math.gcd")], "source", 1000, []⟩
theorem sc_is_point : FnScope gm_is_point.N ["value"] (defScope (topS 9)) := ⟨rfl, rfl, rfl, by decide +kernel, rfl, by decide +kernel, by decide +kernel⟩
theorem d_is_point : den gm_is_point (topS 9) = some g_is_point := by kernel_rfl!
def gm_moved : Gm := ⟨["point"], defScope (topS 10), defScope (topS 10), [("fraction_low", 2, φ_fraction_low)], [], [], "source", 1000, []⟩
theorem sc_moved : FnScope gm_moved.N ["point"] (defScope (topS 10)) := ⟨rfl, rfl, rfl, by decide +kernel, rfl, by decide +kernel, by decide +kernel⟩
theorem d_moved : den gm_moved (topS 10) = some g_moved := by kernel_rfl!
def gm_moved_on : Gm := ⟨["point", "many", "found", "by"], defScope (topS 11), defScope (topS 11), [("fraction_low", 2, φ_fraction_low)], [], [], "source", 1000, [(27, [1, 3])]⟩
theorem sc_moved_on : FnScope gm_moved_on.N ["point", "many"] (defScope (topS 11)) := ⟨rfl, rfl, rfl, by decide +kernel, rfl, by decide +kernel, by decide +kernel⟩
theorem d_moved_on : den gm_moved_on (topS 11) = some g_moved_on := by kernel_rfl!
def gm_opposite : Gm := ⟨["point"], defScope (topS 12), defScope (topS 12), [("fraction_low", 2, φ_fraction_low)], [], [], "source", 1000, []⟩
theorem sc_opposite : FnScope gm_opposite.N ["point"] (defScope (topS 12)) := ⟨rfl, rfl, rfl, by decide +kernel, rfl, by decide +kernel, by decide +kernel⟩
theorem d_opposite : den gm_opposite (topS 12) = some g_opposite := by kernel_rfl!
def gm_way_told : Gm := ⟨["point", "odd", "ahead", "power", "many"], defScope (topS 13), defScope (topS 13), [], [("MOST_LETTERS", (.int 400)), ("LONG", (.int 0))], [], "source", 1000, [(35, [0]), (39, [1, 3])]⟩
theorem sc_way_told : FnScope gm_way_told.N ["point"] (defScope (topS 13)) := ⟨rfl, rfl, rfl, by decide +kernel, rfl, by decide +kernel, by decide +kernel⟩
theorem d_way_told : den gm_way_told (topS 13) = some g_way_told := by kernel_rfl!
def gm_is_between : Gm := ⟨["one", "point", "other", "a", "b", "c", "d", "e", "f", "far", "near"], defScope (topS 14), defScope (topS 14), [], [], [], "source", 1000, [(45, [0, 1, 2]), (46, [3, 4, 5, 7])]⟩
theorem sc_is_between : FnScope gm_is_between.N ["one", "point", "other"] (defScope (topS 14)) := ⟨rfl, rfl, rfl, by decide +kernel, rfl, by decide +kernel, by decide +kernel⟩
theorem d_is_between : den gm_is_between (topS 14) = some g_is_between := by kernel_rfl!
def gm_is_rule : Gm := ⟨["value"], defScope (topS 17), defScope (topS 17), [("is_point", 1, φ_is_point)], [], [], "source", 1000, []⟩
theorem sc_is_rule : FnScope gm_is_rule.N ["value"] (defScope (topS 17)) := ⟨rfl, rfl, rfl, by decide +kernel, rfl, by decide +kernel, by decide +kernel⟩
theorem d_is_rule : den gm_is_rule (topS 17) = some g_is_rule := by kernel_rfl!
def gm_cut_told : Gm := ⟨["rule", "one"], defScope (topS 18), defScope (topS 18), [("fraction_low", 2, φ_fraction_low), ("opposite", 1, φ_opposite)], [], [], "source", 1000, [(55, [0])]⟩
theorem sc_cut_told : FnScope gm_cut_told.N ["rule"] (defScope (topS 18)) := ⟨rfl, rfl, rfl, by decide +kernel, rfl, by decide +kernel, by decide +kernel⟩
theorem d_cut_told : den gm_cut_told (topS 18) = some g_cut_told := by kernel_rfl!
def gm_half_of : Gm := ⟨["rule", "point", "one", "other"], defScope (topS 19), defScope (topS 19), [("is_between", 3, φ_is_between), ("cut_told", 1, φ_cut_told)], [("ON_CUT", (.int 2))], [], "source", 1000, [(58, [0])]⟩
theorem sc_half_of : FnScope gm_half_of.N ["rule", "point"] (defScope (topS 19)) := ⟨rfl, rfl, rfl, by decide +kernel, rfl, by decide +kernel, by decide +kernel⟩
theorem d_half_of : den gm_half_of (topS 19) = some g_half_of := by kernel_rfl!
def gm_both_back : Gm := ⟨["point", "one"], defScope (topS 21), defScope (topS 21), [("fraction_low", 2, φ_fraction_low), ("opposite", 1, φ_opposite)], [], [], "source", 1000, [(64, [0])]⟩
theorem sc_both_back : FnScope gm_both_back.N ["point"] (defScope (topS 21)) := ⟨rfl, rfl, rfl, by decide +kernel, rfl, by decide +kernel, by decide +kernel⟩
theorem d_both_back : den gm_both_back (topS 21) = some g_both_back := by kernel_rfl!
def gm_point_back : Gm := ⟨["rule", "point", "letter", "one", "other"], defScope (topS 22), defScope (topS 22), [("half_of", 2, φ_half_of), ("both_back", 1, φ_both_back)], [], [], "source", 1000, [(67, [1])]⟩
theorem sc_point_back : FnScope gm_point_back.N ["rule", "point", "letter"] (defScope (topS 22)) := ⟨rfl, rfl, rfl, by decide +kernel, rfl, by decide +kernel, by decide +kernel⟩
theorem d_point_back : den gm_point_back (topS 22) = some g_point_back := by kernel_rfl!
def gm_law_of : Gm := ⟨["source", "some"], defScope (topS 26), defScope (topS 26), [("_law_pick", 2, cPick)], [], [], "source", 1000, []⟩
theorem sc_law_of : FnScope gm_law_of.N ["source", "some"] (defScope (topS 26)) := ⟨rfl, rfl, rfl, by decide +kernel, rfl, by decide +kernel, by decide +kernel⟩
theorem d_law_of : den gm_law_of (topS 26) = some g_law_of := by kernel_rfl!
def gm_law_common : Gm := ⟨["a", "b"], defScope (topS 27), defScope (topS 27), [], [], [], "source", 1000, [(90, [1])]⟩
theorem sc_law_common : FnScope gm_law_common.N ["a", "b"] (defScope (topS 27)) := ⟨rfl, rfl, rfl, by decide +kernel, rfl, by decide +kernel, by decide +kernel⟩
theorem d_law_common : den gm_law_common (topS 27) = some g_law_common := by kernel_rfl!
def gm_law_rule : Gm := ⟨["source", "bottom", "top"], defScope (topS 28), defScope (topS 28), [("_law_of", 2, φ_law_of), ("_law_common", 2, φ_law_common)], [], [], "source", 1000, []⟩
theorem sc_law_rule : FnScope gm_law_rule.N ["source"] (defScope (topS 28)) := ⟨rfl, rfl, rfl, by decide +kernel, rfl, by decide +kernel, by decide +kernel⟩
theorem d_law_rule : den gm_law_rule (topS 28) = some g_law_rule := by kernel_rfl!
def gm_law_moved : Gm := ⟨["point", "top", "bottom"], defScope (topS 29), defScope (topS 29), [], [], [], "source", 1000, [(97, [0])]⟩
theorem sc_law_moved : FnScope gm_law_moved.N ["point"] (defScope (topS 29)) := ⟨rfl, rfl, rfl, by decide +kernel, rfl, by decide +kernel, by decide +kernel⟩
theorem d_law_moved : den gm_law_moved (topS 29) = some g_law_moved := by kernel_rfl!
def gm_law_half : Gm := ⟨["rule", "point", "low", "here", "high"], defScope (topS 30), defScope (topS 30), [], [], [], "source", 1000, [(102, [0, 1])]⟩
theorem sc_law_half : FnScope gm_law_half.N ["rule", "point"] (defScope (topS 30)) := ⟨rfl, rfl, rfl, by decide +kernel, rfl, by decide +kernel, by decide +kernel⟩
theorem d_law_half : den gm_law_half (topS 30) = some g_law_half := by kernel_rfl!
def gm_law_value : Gm := ⟨["point", "a", "b"], defScope (topS 31), defScope (topS 31), [("_law_common", 2, φ_law_common)], [], [], "source", 1000, [(107, [0])]⟩
theorem sc_law_value : FnScope gm_law_value.N ["point"] (defScope (topS 31)) := ⟨rfl, rfl, rfl, by decide +kernel, rfl, by decide +kernel, by decide +kernel⟩
theorem d_law_value : den gm_law_value (topS 31) = some g_law_value := by kernel_rfl!
def gm_law_point : Gm := ⟨["source", "bottom", "top", "common"], defScope (topS 32), defScope (topS 32), [("_law_pick", 2, cPick), ("_law_of", 2, φ_law_of), ("_law_common", 2, φ_law_common)], [], [], "source", 1000, []⟩
theorem sc_law_point : FnScope gm_law_point.N ["source"] (defScope (topS 32)) := ⟨rfl, rfl, rfl, by decide +kernel, rfl, by decide +kernel, by decide +kernel⟩
theorem d_law_point : den gm_law_point (topS 32) = some g_law_point := by kernel_rfl!
def gm_law_way : Gm := ⟨["point", "met", "k"], defScope (topS 33), defScope (topS 33), [("_law_moved", 1, φ_law_moved)], [], [], "source", 1000, [(119, [0])]⟩
theorem sc_law_way : FnScope gm_law_way.N ["point"] (defScope (topS 33)) := ⟨rfl, rfl, rfl, by decide +kernel, rfl, by decide +kernel, by decide +kernel⟩
theorem d_law_way : den gm_law_way (topS 33) = some g_law_way := by kernel_rfl!
def gm_law_round : Gm := ⟨["one", "point", "top", "bottom"], defScope (topS 34), defScope (topS 34), [], [], [], "source", 1000, [(122, [0, 1])]⟩
theorem sc_law_round : FnScope gm_law_round.N ["one", "point"] (defScope (topS 34)) := ⟨rfl, rfl, rfl, by decide +kernel, rfl, by decide +kernel, by decide +kernel⟩
theorem d_law_round : den gm_law_round (topS 34) = some g_law_round := by kernel_rfl!
def gm_law_between : Gm := ⟨["one", "point", "other", "here", "there"], defScope (topS 35), defScope (topS 35), [("_law_round", 2, φ_law_round)], [], [], "source", 1000, [(125, [0, 1, 2])]⟩
theorem sc_law_between : FnScope gm_law_between.N ["one", "point", "other"] (defScope (topS 35)) := ⟨rfl, rfl, rfl, by decide +kernel, rfl, by decide +kernel, by decide +kernel⟩
theorem d_law_between : den gm_law_between (topS 35) = some g_law_between := by kernel_rfl!
def gm_law : Gm := ⟨["script", "source", "turn", "rule", "point", "other", "third", "many", "here", "lap", "far", "cut", "one", "half", "back", "letter", "late", "line", "first", "k", "due", "top", "bottom", "common", "odd", "value"], defScope (topS 36), defScope (topS 36), [("fraction_low", 2, φ_fraction_low), ("is_point", 1, φ_is_point), ("moved", 1, φ_moved), ("moved_on", 2, φ_moved_on), ("opposite", 1, φ_opposite), ("way_told", 1, φ_way_told), ("is_between", 3, φ_is_between), ("is_rule", 1, φ_is_rule), ("cut_told", 1, φ_cut_told), ("half_of", 2, φ_half_of), ("both_back", 1, φ_both_back), ("point_back", 3, φ_point_back), ("_law_pick", 2, cPick), ("_law_of", 2, φ_law_of), ("_law_common", 2, φ_law_common), ("_law_rule", 1, φ_law_rule), ("_law_moved", 1, φ_law_moved), ("_law_half", 2, φ_law_half), ("_law_value", 1, φ_law_value), ("_law_point", 1, φ_law_point), ("_law_way", 1, φ_law_way), ("_law_between", 3, φ_law_between)], [], [], "source", 1000, [(131, [2, 3, 4, 5, 6, 7, 8, 9, 10, 11, 13, 14, 15, 16, 17, 18, 19, 20, 21, 22, 23, 24]), (132, [2]), (137, [9]), (138, [9]), (139, [7, 8]), (141, [5, 6]), (144, [10]), (152, [13]), (157, [14, 15, 16]), (158, [14, 15, 16]), (160, [15, 16]), (162, [14]), (167, [11, 17, 18, 19, 20]), (169, [19, 20]), (173, [21, 22, 23]), (176, [24]), (179, [3, 4, 20])]⟩
theorem sc_law : FnScope gm_law.N ["script"] (defScope (topS 36)) := ⟨rfl, rfl, rfl, by decide +kernel, rfl, by decide +kernel, by decide +kernel⟩
theorem d_law : cSs (cS (recs 40) gm_law 40) (restOf (topS 36)) = some g_law := by kernel_rfl!
theorem all_mk {l : PySem.W.OpenLaw} {w : World} {K : PySem.W.Frag} {h : Heap} {mg : Str → Option Value} {fa : Addr} (X : K.In h) (G : h.Ns mainGlobals mg) (hfa : mg "law" = some (.ref fa))
    (lawOk : ∀ W : Src, ∃ W', g_law (stL 24) W = some (.rt (.bool true) W'))
    {f7 : Addr} {oc7 : Value} {od7 an7 : Option Addr} {sl7 : Array (Option Value)} {kV7 dc7 pm7 cd7 ct7 : Value} (a7 : PySem.W.nsIn K mainGlobals "is_whole" = some (some (.ref f7))) (l7 : K.lookup f7 = some ⟨oc7, od7, .func (PySem.W.fnOf "is_whole" "is_whole" (defArgs (topS 7)) (defBody (topS 7)) (defScope (topS 7)) .none kV7 dc7 pm7 an7 cd7 ct7), sl7⟩) (c7 : PySem.W.codeIn K cd7 "is_whole" = true) (k7 : PySem.W.keepIn K (.ref f7) = true)
    {f8 : Addr} {oc8 : Value} {od8 an8 : Option Addr} {sl8 : Array (Option Value)} {kV8 dc8 pm8 cd8 ct8 : Value} (a8 : PySem.W.nsIn K mainGlobals "fraction_low" = some (some (.ref f8))) (l8 : K.lookup f8 = some ⟨oc8, od8, .func (PySem.W.fnOf "fraction_low" "fraction_low" (defArgs (topS 8)) (defBody (topS 8)) (defScope (topS 8)) .none kV8 dc8 pm8 an8 cd8 ct8), sl8⟩) (c8 : PySem.W.codeIn K cd8 "fraction_low" = true) (k8 : PySem.W.keepIn K (.ref f8) = true)
    {f9 : Addr} {oc9 : Value} {od9 an9 : Option Addr} {sl9 : Array (Option Value)} {kV9 dc9 pm9 cd9 ct9 : Value} (a9 : PySem.W.nsIn K mainGlobals "is_point" = some (some (.ref f9))) (l9 : K.lookup f9 = some ⟨oc9, od9, .func (PySem.W.fnOf "is_point" "is_point" (defArgs (topS 9)) (defBody (topS 9)) (defScope (topS 9)) .none kV9 dc9 pm9 an9 cd9 ct9), sl9⟩) (c9 : PySem.W.codeIn K cd9 "is_point" = true) (k9 : PySem.W.keepIn K (.ref f9) = true)
    {f10 : Addr} {oc10 : Value} {od10 an10 : Option Addr} {sl10 : Array (Option Value)} {kV10 dc10 pm10 cd10 ct10 : Value} (a10 : PySem.W.nsIn K mainGlobals "moved" = some (some (.ref f10))) (l10 : K.lookup f10 = some ⟨oc10, od10, .func (PySem.W.fnOf "moved" "moved" (defArgs (topS 10)) (defBody (topS 10)) (defScope (topS 10)) .none kV10 dc10 pm10 an10 cd10 ct10), sl10⟩) (c10 : PySem.W.codeIn K cd10 "moved" = true) (k10 : PySem.W.keepIn K (.ref f10) = true)
    {f11 : Addr} {oc11 : Value} {od11 an11 : Option Addr} {sl11 : Array (Option Value)} {kV11 dc11 pm11 cd11 ct11 : Value} (a11 : PySem.W.nsIn K mainGlobals "moved_on" = some (some (.ref f11))) (l11 : K.lookup f11 = some ⟨oc11, od11, .func (PySem.W.fnOf "moved_on" "moved_on" (defArgs (topS 11)) (defBody (topS 11)) (defScope (topS 11)) .none kV11 dc11 pm11 an11 cd11 ct11), sl11⟩) (c11 : PySem.W.codeIn K cd11 "moved_on" = true) (k11 : PySem.W.keepIn K (.ref f11) = true)
    {f12 : Addr} {oc12 : Value} {od12 an12 : Option Addr} {sl12 : Array (Option Value)} {kV12 dc12 pm12 cd12 ct12 : Value} (a12 : PySem.W.nsIn K mainGlobals "opposite" = some (some (.ref f12))) (l12 : K.lookup f12 = some ⟨oc12, od12, .func (PySem.W.fnOf "opposite" "opposite" (defArgs (topS 12)) (defBody (topS 12)) (defScope (topS 12)) .none kV12 dc12 pm12 an12 cd12 ct12), sl12⟩) (c12 : PySem.W.codeIn K cd12 "opposite" = true) (k12 : PySem.W.keepIn K (.ref f12) = true)
    {f13 : Addr} {oc13 : Value} {od13 an13 : Option Addr} {sl13 : Array (Option Value)} {kV13 dc13 pm13 cd13 ct13 : Value} (a13 : PySem.W.nsIn K mainGlobals "way_told" = some (some (.ref f13))) (l13 : K.lookup f13 = some ⟨oc13, od13, .func (PySem.W.fnOf "way_told" "way_told" (defArgs (topS 13)) (defBody (topS 13)) (defScope (topS 13)) .none kV13 dc13 pm13 an13 cd13 ct13), sl13⟩) (c13 : PySem.W.codeIn K cd13 "way_told" = true) (k13 : PySem.W.keepIn K (.ref f13) = true)
    {f14 : Addr} {oc14 : Value} {od14 an14 : Option Addr} {sl14 : Array (Option Value)} {kV14 dc14 pm14 cd14 ct14 : Value} (a14 : PySem.W.nsIn K mainGlobals "is_between" = some (some (.ref f14))) (l14 : K.lookup f14 = some ⟨oc14, od14, .func (PySem.W.fnOf "is_between" "is_between" (defArgs (topS 14)) (defBody (topS 14)) (defScope (topS 14)) .none kV14 dc14 pm14 an14 cd14 ct14), sl14⟩) (c14 : PySem.W.codeIn K cd14 "is_between" = true) (k14 : PySem.W.keepIn K (.ref f14) = true)
    {f17 : Addr} {oc17 : Value} {od17 an17 : Option Addr} {sl17 : Array (Option Value)} {kV17 dc17 pm17 cd17 ct17 : Value} (a17 : PySem.W.nsIn K mainGlobals "is_rule" = some (some (.ref f17))) (l17 : K.lookup f17 = some ⟨oc17, od17, .func (PySem.W.fnOf "is_rule" "is_rule" (defArgs (topS 17)) (defBody (topS 17)) (defScope (topS 17)) .none kV17 dc17 pm17 an17 cd17 ct17), sl17⟩) (c17 : PySem.W.codeIn K cd17 "is_rule" = true) (k17 : PySem.W.keepIn K (.ref f17) = true)
    {f18 : Addr} {oc18 : Value} {od18 an18 : Option Addr} {sl18 : Array (Option Value)} {kV18 dc18 pm18 cd18 ct18 : Value} (a18 : PySem.W.nsIn K mainGlobals "cut_told" = some (some (.ref f18))) (l18 : K.lookup f18 = some ⟨oc18, od18, .func (PySem.W.fnOf "cut_told" "cut_told" (defArgs (topS 18)) (defBody (topS 18)) (defScope (topS 18)) .none kV18 dc18 pm18 an18 cd18 ct18), sl18⟩) (c18 : PySem.W.codeIn K cd18 "cut_told" = true) (k18 : PySem.W.keepIn K (.ref f18) = true)
    {f19 : Addr} {oc19 : Value} {od19 an19 : Option Addr} {sl19 : Array (Option Value)} {kV19 dc19 pm19 cd19 ct19 : Value} (a19 : PySem.W.nsIn K mainGlobals "half_of" = some (some (.ref f19))) (l19 : K.lookup f19 = some ⟨oc19, od19, .func (PySem.W.fnOf "half_of" "half_of" (defArgs (topS 19)) (defBody (topS 19)) (defScope (topS 19)) .none kV19 dc19 pm19 an19 cd19 ct19), sl19⟩) (c19 : PySem.W.codeIn K cd19 "half_of" = true) (k19 : PySem.W.keepIn K (.ref f19) = true)
    {f21 : Addr} {oc21 : Value} {od21 an21 : Option Addr} {sl21 : Array (Option Value)} {kV21 dc21 pm21 cd21 ct21 : Value} (a21 : PySem.W.nsIn K mainGlobals "both_back" = some (some (.ref f21))) (l21 : K.lookup f21 = some ⟨oc21, od21, .func (PySem.W.fnOf "both_back" "both_back" (defArgs (topS 21)) (defBody (topS 21)) (defScope (topS 21)) .none kV21 dc21 pm21 an21 cd21 ct21), sl21⟩) (c21 : PySem.W.codeIn K cd21 "both_back" = true) (k21 : PySem.W.keepIn K (.ref f21) = true)
    {f22 : Addr} {oc22 : Value} {od22 an22 : Option Addr} {sl22 : Array (Option Value)} {kV22 dc22 pm22 cd22 ct22 : Value} (a22 : PySem.W.nsIn K mainGlobals "point_back" = some (some (.ref f22))) (l22 : K.lookup f22 = some ⟨oc22, od22, .func (PySem.W.fnOf "point_back" "point_back" (defArgs (topS 22)) (defBody (topS 22)) (defScope (topS 22)) .none kV22 dc22 pm22 an22 cd22 ct22), sl22⟩) (c22 : PySem.W.codeIn K cd22 "point_back" = true) (k22 : PySem.W.keepIn K (.ref f22) = true)
    {f24 : Addr} {oc24 : Value} {od24 an24 : Option Addr} {sl24 : Array (Option Value)} {kV24 dc24 pm24 cd24 ct24 : Value} (a24 : PySem.W.nsIn K mainGlobals "_law_source" = some (some (.ref f24))) (l24 : K.lookup f24 = some ⟨oc24, od24, .func (PySem.W.fnOf "_law_source" "_law_source" (defArgs (topS 24)) (defBody (topS 24)) (defScope (topS 24)) .none kV24 dc24 pm24 an24 cd24 ct24), sl24⟩) (c24 : PySem.W.codeIn K cd24 "_law_source" = true) (k24 : PySem.W.keepIn K (.ref f24) = true)
    {f25 : Addr} {oc25 : Value} {od25 an25 : Option Addr} {sl25 : Array (Option Value)} {kV25 dc25 pm25 cd25 ct25 : Value} (a25 : PySem.W.nsIn K mainGlobals "_law_pick" = some (some (.ref f25))) (l25 : K.lookup f25 = some ⟨oc25, od25, .func (PySem.W.fnOf "_law_pick" "_law_pick" (defArgs (topS 25)) (defBody (topS 25)) (defScope (topS 25)) .none kV25 dc25 pm25 an25 cd25 ct25), sl25⟩) (c25 : PySem.W.codeIn K cd25 "_law_pick" = true) (k25 : PySem.W.keepIn K (.ref f25) = true)
    {f26 : Addr} {oc26 : Value} {od26 an26 : Option Addr} {sl26 : Array (Option Value)} {kV26 dc26 pm26 cd26 ct26 : Value} (a26 : PySem.W.nsIn K mainGlobals "_law_of" = some (some (.ref f26))) (l26 : K.lookup f26 = some ⟨oc26, od26, .func (PySem.W.fnOf "_law_of" "_law_of" (defArgs (topS 26)) (defBody (topS 26)) (defScope (topS 26)) .none kV26 dc26 pm26 an26 cd26 ct26), sl26⟩) (c26 : PySem.W.codeIn K cd26 "_law_of" = true) (k26 : PySem.W.keepIn K (.ref f26) = true)
    {f27 : Addr} {oc27 : Value} {od27 an27 : Option Addr} {sl27 : Array (Option Value)} {kV27 dc27 pm27 cd27 ct27 : Value} (a27 : PySem.W.nsIn K mainGlobals "_law_common" = some (some (.ref f27))) (l27 : K.lookup f27 = some ⟨oc27, od27, .func (PySem.W.fnOf "_law_common" "_law_common" (defArgs (topS 27)) (defBody (topS 27)) (defScope (topS 27)) .none kV27 dc27 pm27 an27 cd27 ct27), sl27⟩) (c27 : PySem.W.codeIn K cd27 "_law_common" = true) (k27 : PySem.W.keepIn K (.ref f27) = true)
    {f28 : Addr} {oc28 : Value} {od28 an28 : Option Addr} {sl28 : Array (Option Value)} {kV28 dc28 pm28 cd28 ct28 : Value} (a28 : PySem.W.nsIn K mainGlobals "_law_rule" = some (some (.ref f28))) (l28 : K.lookup f28 = some ⟨oc28, od28, .func (PySem.W.fnOf "_law_rule" "_law_rule" (defArgs (topS 28)) (defBody (topS 28)) (defScope (topS 28)) .none kV28 dc28 pm28 an28 cd28 ct28), sl28⟩) (c28 : PySem.W.codeIn K cd28 "_law_rule" = true) (k28 : PySem.W.keepIn K (.ref f28) = true)
    {f29 : Addr} {oc29 : Value} {od29 an29 : Option Addr} {sl29 : Array (Option Value)} {kV29 dc29 pm29 cd29 ct29 : Value} (a29 : PySem.W.nsIn K mainGlobals "_law_moved" = some (some (.ref f29))) (l29 : K.lookup f29 = some ⟨oc29, od29, .func (PySem.W.fnOf "_law_moved" "_law_moved" (defArgs (topS 29)) (defBody (topS 29)) (defScope (topS 29)) .none kV29 dc29 pm29 an29 cd29 ct29), sl29⟩) (c29 : PySem.W.codeIn K cd29 "_law_moved" = true) (k29 : PySem.W.keepIn K (.ref f29) = true)
    {f30 : Addr} {oc30 : Value} {od30 an30 : Option Addr} {sl30 : Array (Option Value)} {kV30 dc30 pm30 cd30 ct30 : Value} (a30 : PySem.W.nsIn K mainGlobals "_law_half" = some (some (.ref f30))) (l30 : K.lookup f30 = some ⟨oc30, od30, .func (PySem.W.fnOf "_law_half" "_law_half" (defArgs (topS 30)) (defBody (topS 30)) (defScope (topS 30)) .none kV30 dc30 pm30 an30 cd30 ct30), sl30⟩) (c30 : PySem.W.codeIn K cd30 "_law_half" = true) (k30 : PySem.W.keepIn K (.ref f30) = true)
    {f31 : Addr} {oc31 : Value} {od31 an31 : Option Addr} {sl31 : Array (Option Value)} {kV31 dc31 pm31 cd31 ct31 : Value} (a31 : PySem.W.nsIn K mainGlobals "_law_value" = some (some (.ref f31))) (l31 : K.lookup f31 = some ⟨oc31, od31, .func (PySem.W.fnOf "_law_value" "_law_value" (defArgs (topS 31)) (defBody (topS 31)) (defScope (topS 31)) .none kV31 dc31 pm31 an31 cd31 ct31), sl31⟩) (c31 : PySem.W.codeIn K cd31 "_law_value" = true) (k31 : PySem.W.keepIn K (.ref f31) = true)
    {f32 : Addr} {oc32 : Value} {od32 an32 : Option Addr} {sl32 : Array (Option Value)} {kV32 dc32 pm32 cd32 ct32 : Value} (a32 : PySem.W.nsIn K mainGlobals "_law_point" = some (some (.ref f32))) (l32 : K.lookup f32 = some ⟨oc32, od32, .func (PySem.W.fnOf "_law_point" "_law_point" (defArgs (topS 32)) (defBody (topS 32)) (defScope (topS 32)) .none kV32 dc32 pm32 an32 cd32 ct32), sl32⟩) (c32 : PySem.W.codeIn K cd32 "_law_point" = true) (k32 : PySem.W.keepIn K (.ref f32) = true)
    {f33 : Addr} {oc33 : Value} {od33 an33 : Option Addr} {sl33 : Array (Option Value)} {kV33 dc33 pm33 cd33 ct33 : Value} (a33 : PySem.W.nsIn K mainGlobals "_law_way" = some (some (.ref f33))) (l33 : K.lookup f33 = some ⟨oc33, od33, .func (PySem.W.fnOf "_law_way" "_law_way" (defArgs (topS 33)) (defBody (topS 33)) (defScope (topS 33)) .none kV33 dc33 pm33 an33 cd33 ct33), sl33⟩) (c33 : PySem.W.codeIn K cd33 "_law_way" = true) (k33 : PySem.W.keepIn K (.ref f33) = true)
    {f34 : Addr} {oc34 : Value} {od34 an34 : Option Addr} {sl34 : Array (Option Value)} {kV34 dc34 pm34 cd34 ct34 : Value} (a34 : PySem.W.nsIn K mainGlobals "_law_round" = some (some (.ref f34))) (l34 : K.lookup f34 = some ⟨oc34, od34, .func (PySem.W.fnOf "_law_round" "_law_round" (defArgs (topS 34)) (defBody (topS 34)) (defScope (topS 34)) .none kV34 dc34 pm34 an34 cd34 ct34), sl34⟩) (c34 : PySem.W.codeIn K cd34 "_law_round" = true) (k34 : PySem.W.keepIn K (.ref f34) = true)
    {f35 : Addr} {oc35 : Value} {od35 an35 : Option Addr} {sl35 : Array (Option Value)} {kV35 dc35 pm35 cd35 ct35 : Value} (a35 : PySem.W.nsIn K mainGlobals "_law_between" = some (some (.ref f35))) (l35 : K.lookup f35 = some ⟨oc35, od35, .func (PySem.W.fnOf "_law_between" "_law_between" (defArgs (topS 35)) (defBody (topS 35)) (defScope (topS 35)) .none kV35 dc35 pm35 an35 cd35 ct35), sl35⟩) (c35 : PySem.W.codeIn K cd35 "_law_between" = true) (k35 : PySem.W.keepIn K (.ref f35) = true)
    {f36 : Addr} {oc36 : Value} {od36 an36 : Option Addr} {sl36 : Array (Option Value)} {kV36 dc36 pm36 cd36 ct36 : Value} (a36 : PySem.W.nsIn K mainGlobals "law" = some (some (.ref f36))) (l36 : K.lookup f36 = some ⟨oc36, od36, .func (PySem.W.fnOf "law" "law" (defArgs (topS 36)) (defBody (topS 36)) (defScope (topS 36)) .none kV36 dc36 pm36 an36 cd36 ct36), sl36⟩) (c36 : PySem.W.codeIn K cd36 "law" = true) (k36 : PySem.W.keepIn K (.ref f36) = true)
    {t5 : Tok} (g5 : PySem.W.nsIn K mainGlobals "MOST_LETTERS" = some (some (.int 400 t5)))
    {t6 : Tok} (g6 : PySem.W.nsIn K mainGlobals "LONG" = some (some (.int 0 t6)))
    {t16 : Tok} (g16 : PySem.W.nsIn K mainGlobals "ON_CUT" = some (some (.int 2 t16)))
    (z0 : PySem.W.nsIn K mainGlobals "len" = some none)
    (z1 : PySem.W.nsIn K mainGlobals "abs" = some none)
    (z2 : PySem.W.nsIn K mainGlobals "max" = some none)
    (z3 : PySem.W.nsIn K mainGlobals "repr" = some none)
    (z4 : PySem.W.nsIn K mainGlobals "isinstance" = some none)
    (z5 : PySem.W.nsIn K mainGlobals "all" = some none)
    (z6 : PySem.W.nsIn K mainGlobals "any" = some none)
    (z7 : PySem.W.nsIn K mainGlobals "range" = some none)
    (z8 : PySem.W.nsIn K mainGlobals "tuple" = some none)
    (z9 : PySem.W.nsIn K mainGlobals "list" = some none)
    (z10 : PySem.W.nsIn K mainGlobals "int" = some none)
    (z11 : PySem.W.nsIn K mainGlobals "str" = some none)
    (z12 : PySem.W.nsIn K mainGlobals "bool" = some none)
    (z13 : PySem.W.nsIn K mainGlobals "sorted" = some none)
    (z14 : PySem.W.nsIn K mainGlobals "sum" = some none)
    (z15 : PySem.W.nsIn K mainGlobals "min" = some none)
    (z16 : PySem.W.nsIn K mainGlobals "zip" = some none)
    (z17 : PySem.W.nsIn K mainGlobals "enumerate" = some none)
    (z18 : PySem.W.nsIn K mainGlobals "dict" = some none)
    (m_gcd : PySem.W.nsIn K mainGlobals "gcd" = some (some (.builtin "math.gcd"))) :
    ∃ fd : FuncData, (∀ (s : Shared) (v : Value), BindsTo s fd ⟨[v], []⟩ [("script", v)]) ∧ ∀ base : Heap, K.In base → base.Ns mainGlobals mg → FG l.prog w K mg base CX0 9 fa fd ["script"] (spLaw K) := by
  have bl : BL mg := by
    intro x hx
    simp only [bnames, List.mem_cons, List.not_mem_nil, or_false] at hx
    rcases hx with rfl | rfl | rfl | rfl | rfl | rfl | rfl | rfl | rfl | rfl | rfl | rfl | rfl | rfl | rfl | rfl | rfl | rfl | rfl
    · exact PySem.W.mg_none_of X G z0
    · exact PySem.W.mg_none_of X G z1
    · exact PySem.W.mg_none_of X G z2
    · exact PySem.W.mg_none_of X G z3
    · exact PySem.W.mg_none_of X G z4
    · exact PySem.W.mg_none_of X G z5
    · exact PySem.W.mg_none_of X G z6
    · exact PySem.W.mg_none_of X G z7
    · exact PySem.W.mg_none_of X G z8
    · exact PySem.W.mg_none_of X G z9
    · exact PySem.W.mg_none_of X G z10
    · exact PySem.W.mg_none_of X G z11
    · exact PySem.W.mg_none_of X G z12
    · exact PySem.W.mg_none_of X G z13
    · exact PySem.W.mg_none_of X G z14
    · exact PySem.W.mg_none_of X G z15
    · exact PySem.W.mg_none_of X G z16
    · exact PySem.W.mg_none_of X G z17
    · exact PySem.W.mg_none_of X G z18
  have q_MOST_LETTERS : CtOk K mg "MOST_LETTERS" (.int 400) := ct_int (PySem.W.mg_of X G g5)
  have q_LONG : CtOk K mg "LONG" (.int 0) := ct_int (PySem.W.mg_of X G g6)
  have q_ON_CUT : CtOk K mg "ON_CUT" (.int 2) := ct_int (PySem.W.mg_of X G g16)
  have F7 : Fun K "is_whole" "is_whole" (topS 7) f7 _ := fun_mk l7 c7 k7
  have B7 : Binds K _ ["value"] [] := Fun.binds F7 (ps := ["value"]) (fun _ _ _ _ _ _ us hl => match us, hl with | [_], _ => rfl)
  have F8 : Fun K "fraction_low" "fraction_low" (topS 8) f8 _ := fun_mk l8 c8 k8
  have B8 : Binds K _ ["top", "bottom"] [] := Fun.binds F8 (ps := ["top", "bottom"]) (fun _ _ _ _ _ _ us hl => match us, hl with | [_, _], _ => rfl)
  have F9 : Fun K "is_point" "is_point" (topS 9) f9 _ := fun_mk l9 c9 k9
  have B9 : Binds K _ ["value"] [] := Fun.binds F9 (ps := ["value"]) (fun _ _ _ _ _ _ us hl => match us, hl with | [_], _ => rfl)
  have F10 : Fun K "moved" "moved" (topS 10) f10 _ := fun_mk l10 c10 k10
  have B10 : Binds K _ ["point"] [] := Fun.binds F10 (ps := ["point"]) (fun _ _ _ _ _ _ us hl => match us, hl with | [_], _ => rfl)
  have F11 : Fun K "moved_on" "moved_on" (topS 11) f11 _ := fun_mk l11 c11 k11
  have B11 : Binds K _ ["point", "many"] [] := Fun.binds F11 (ps := ["point", "many"]) (fun _ _ _ _ _ _ us hl => match us, hl with | [_, _], _ => rfl)
  have F12 : Fun K "opposite" "opposite" (topS 12) f12 _ := fun_mk l12 c12 k12
  have B12 : Binds K _ ["point"] [] := Fun.binds F12 (ps := ["point"]) (fun _ _ _ _ _ _ us hl => match us, hl with | [_], _ => rfl)
  have F13 : Fun K "way_told" "way_told" (topS 13) f13 _ := fun_mk l13 c13 k13
  have B13 : Binds K _ ["point"] [] := Fun.binds F13 (ps := ["point"]) (fun _ _ _ _ _ _ us hl => match us, hl with | [_], _ => rfl)
  have F14 : Fun K "is_between" "is_between" (topS 14) f14 _ := fun_mk l14 c14 k14
  have B14 : Binds K _ ["one", "point", "other"] [] := Fun.binds F14 (ps := ["one", "point", "other"]) (fun _ _ _ _ _ _ us hl => match us, hl with | [_, _, _], _ => rfl)
  have F17 : Fun K "is_rule" "is_rule" (topS 17) f17 _ := fun_mk l17 c17 k17
  have B17 : Binds K _ ["value"] [] := Fun.binds F17 (ps := ["value"]) (fun _ _ _ _ _ _ us hl => match us, hl with | [_], _ => rfl)
  have F18 : Fun K "cut_told" "cut_told" (topS 18) f18 _ := fun_mk l18 c18 k18
  have B18 : Binds K _ ["rule"] [] := Fun.binds F18 (ps := ["rule"]) (fun _ _ _ _ _ _ us hl => match us, hl with | [_], _ => rfl)
  have F19 : Fun K "half_of" "half_of" (topS 19) f19 _ := fun_mk l19 c19 k19
  have B19 : Binds K _ ["rule", "point"] [] := Fun.binds F19 (ps := ["rule", "point"]) (fun _ _ _ _ _ _ us hl => match us, hl with | [_, _], _ => rfl)
  have F21 : Fun K "both_back" "both_back" (topS 21) f21 _ := fun_mk l21 c21 k21
  have B21 : Binds K _ ["point"] [] := Fun.binds F21 (ps := ["point"]) (fun _ _ _ _ _ _ us hl => match us, hl with | [_], _ => rfl)
  have F22 : Fun K "point_back" "point_back" (topS 22) f22 _ := fun_mk l22 c22 k22
  have B22 : Binds K _ ["rule", "point", "letter"] [] := Fun.binds F22 (ps := ["rule", "point", "letter"]) (fun _ _ _ _ _ _ us hl => match us, hl with | [_, _, _], _ => rfl)
  have F24 : Fun K "_law_source" "_law_source" (topS 24) f24 _ := fun_mk l24 c24 k24
  have B24 : Binds K _ ["script"] [] := Fun.binds F24 (ps := ["script"]) (fun _ _ _ _ _ _ us hl => match us, hl with | [_], _ => rfl)
  have F25 : Fun K "_law_pick" "_law_pick" (topS 25) f25 _ := fun_mk l25 c25 k25
  have B25 : Binds K _ ["source", "many"] [] := Fun.binds F25 (ps := ["source", "many"]) (fun _ _ _ _ _ _ us hl => match us, hl with | [_, _], _ => rfl)
  have F26 : Fun K "_law_of" "_law_of" (topS 26) f26 _ := fun_mk l26 c26 k26
  have B26 : Binds K _ ["source", "some"] [] := Fun.binds F26 (ps := ["source", "some"]) (fun _ _ _ _ _ _ us hl => match us, hl with | [_, _], _ => rfl)
  have F27 : Fun K "_law_common" "_law_common" (topS 27) f27 _ := fun_mk l27 c27 k27
  have B27 : Binds K _ ["a", "b"] [] := Fun.binds F27 (ps := ["a", "b"]) (fun _ _ _ _ _ _ us hl => match us, hl with | [_, _], _ => rfl)
  have F28 : Fun K "_law_rule" "_law_rule" (topS 28) f28 _ := fun_mk l28 c28 k28
  have B28 : Binds K _ ["source"] [] := Fun.binds F28 (ps := ["source"]) (fun _ _ _ _ _ _ us hl => match us, hl with | [_], _ => rfl)
  have F29 : Fun K "_law_moved" "_law_moved" (topS 29) f29 _ := fun_mk l29 c29 k29
  have B29 : Binds K _ ["point"] [] := Fun.binds F29 (ps := ["point"]) (fun _ _ _ _ _ _ us hl => match us, hl with | [_], _ => rfl)
  have F30 : Fun K "_law_half" "_law_half" (topS 30) f30 _ := fun_mk l30 c30 k30
  have B30 : Binds K _ ["rule", "point"] [] := Fun.binds F30 (ps := ["rule", "point"]) (fun _ _ _ _ _ _ us hl => match us, hl with | [_, _], _ => rfl)
  have F31 : Fun K "_law_value" "_law_value" (topS 31) f31 _ := fun_mk l31 c31 k31
  have B31 : Binds K _ ["point"] [] := Fun.binds F31 (ps := ["point"]) (fun _ _ _ _ _ _ us hl => match us, hl with | [_], _ => rfl)
  have F32 : Fun K "_law_point" "_law_point" (topS 32) f32 _ := fun_mk l32 c32 k32
  have B32 : Binds K _ ["source"] [] := Fun.binds F32 (ps := ["source"]) (fun _ _ _ _ _ _ us hl => match us, hl with | [_], _ => rfl)
  have F33 : Fun K "_law_way" "_law_way" (topS 33) f33 _ := fun_mk l33 c33 k33
  have B33 : Binds K _ ["point"] [] := Fun.binds F33 (ps := ["point"]) (fun _ _ _ _ _ _ us hl => match us, hl with | [_], _ => rfl)
  have F34 : Fun K "_law_round" "_law_round" (topS 34) f34 _ := fun_mk l34 c34 k34
  have B34 : Binds K _ ["one", "point"] [] := Fun.binds F34 (ps := ["one", "point"]) (fun _ _ _ _ _ _ us hl => match us, hl with | [_, _], _ => rfl)
  have F35 : Fun K "_law_between" "_law_between" (topS 35) f35 _ := fun_mk l35 c35 k35
  have B35 : Binds K _ ["one", "point", "other"] [] := Fun.binds F35 (ps := ["one", "point", "other"]) (fun _ _ _ _ _ _ us hl => match us, hl with | [_, _, _], _ => rfl)
  have F36 : Fun K "law" "law" (topS 36) f36 _ := fun_mk l36 c36 k36
  have B36 : Binds K _ ["script"] [] := Fun.binds F36 (ps := ["script"]) (fun _ _ _ _ _ _ us hl => match us, hl with | [_], _ => rfl)
  refine ⟨PySem.W.fnOf "law" "law" (defArgs (topS 36)) (defBody (topS 36)) (defScope (topS 36)) .none kV36 dc36 pm36 an36 cd36 ct36, fun s v => BindsTo.of_eq rfl, fun base KB GB => ?_⟩
  have hfe : fa = f36 := by have z := (PySem.W.mg_of X G a36).symm.trans hfa; cases z; rfl
  subst hfe
  have w_law_pick : Wk l.prog w K mg base "_law_pick" 2 cPick 1 := wk_pick (fg_pick F25 (bl "len" (by decide)) (bl "int" (by decide)) (bl "max" (by decide))) (PySem.W.mg_of X G a25) k25 B25 rfl fun p q W many H Q E s hm hq => ⟨p, q, W, many, rfl, s, hm, fun H' sv => hq H' sv.s sv.k⟩
  have w_is_whole : Wk l.prog w K mg base "is_whole" 1 φ_is_whole 1 := wk_def' ⟨⟨f7, _, F7, PySem.W.mg_of X G a7, B7⟩⟩ gm_is_whole g_is_whole rfl rfl sc_is_whole rfl rfl (k := 0) aw_nil ac_nil bl am_nil d_is_whole
  have w_fraction_low : Wk l.prog w K mg base "fraction_low" 2 φ_fraction_low 1 := wk_def' ⟨⟨f8, _, F8, PySem.W.mg_of X G a8, B8⟩⟩ gm_fraction_low g_fraction_low rfl rfl sc_fraction_low rfl rfl (k := 0) aw_nil ac_nil bl (am_cons (PySem.W.mg_of X G m_gcd) am_nil) d_fraction_low
  have w_is_point : Wk l.prog w K mg base "is_point" 1 φ_is_point 2 := wk_def' ⟨⟨f9, _, F9, PySem.W.mg_of X G a9, B9⟩⟩ gm_is_point g_is_point rfl rfl sc_is_point rfl rfl (k := 1) (aw_cons w_is_whole (by decide) aw_nil) ac_nil bl (am_cons (PySem.W.mg_of X G m_gcd) am_nil) d_is_point
  have w_moved : Wk l.prog w K mg base "moved" 1 φ_moved 2 := wk_def' ⟨⟨f10, _, F10, PySem.W.mg_of X G a10, B10⟩⟩ gm_moved g_moved rfl rfl sc_moved rfl rfl (k := 1) (aw_cons w_fraction_low (by decide) aw_nil) ac_nil bl am_nil d_moved
  have w_moved_on : Wk l.prog w K mg base "moved_on" 2 φ_moved_on 2 := wk_def' ⟨⟨f11, _, F11, PySem.W.mg_of X G a11, B11⟩⟩ gm_moved_on g_moved_on rfl rfl sc_moved_on rfl rfl (k := 1) (aw_cons w_fraction_low (by decide) aw_nil) ac_nil bl am_nil d_moved_on
  have w_opposite : Wk l.prog w K mg base "opposite" 1 φ_opposite 2 := wk_def' ⟨⟨f12, _, F12, PySem.W.mg_of X G a12, B12⟩⟩ gm_opposite g_opposite rfl rfl sc_opposite rfl rfl (k := 1) (aw_cons w_fraction_low (by decide) aw_nil) ac_nil bl am_nil d_opposite
  have w_way_told : Wk l.prog w K mg base "way_told" 1 φ_way_told 1 := wk_def' ⟨⟨f13, _, F13, PySem.W.mg_of X G a13, B13⟩⟩ gm_way_told g_way_told rfl rfl sc_way_told rfl rfl (k := 0) aw_nil (ac_cons q_MOST_LETTERS (ac_cons q_LONG ac_nil)) bl am_nil d_way_told
  have w_is_between : Wk l.prog w K mg base "is_between" 3 φ_is_between 1 := wk_def' ⟨⟨f14, _, F14, PySem.W.mg_of X G a14, B14⟩⟩ gm_is_between g_is_between rfl rfl sc_is_between rfl rfl (k := 0) aw_nil ac_nil bl am_nil d_is_between
  have w_is_rule : Wk l.prog w K mg base "is_rule" 1 φ_is_rule 3 := wk_def' ⟨⟨f17, _, F17, PySem.W.mg_of X G a17, B17⟩⟩ gm_is_rule g_is_rule rfl rfl sc_is_rule rfl rfl (k := 2) (aw_cons w_is_point (by decide) aw_nil) ac_nil bl am_nil d_is_rule
  have w_cut_told : Wk l.prog w K mg base "cut_told" 1 φ_cut_told 3 := wk_def' ⟨⟨f18, _, F18, PySem.W.mg_of X G a18, B18⟩⟩ gm_cut_told g_cut_told rfl rfl sc_cut_told rfl rfl (k := 2) (aw_cons w_fraction_low (by decide) (aw_cons w_opposite (by decide) aw_nil)) ac_nil bl am_nil d_cut_told
  have w_half_of : Wk l.prog w K mg base "half_of" 2 φ_half_of 4 := wk_def' ⟨⟨f19, _, F19, PySem.W.mg_of X G a19, B19⟩⟩ gm_half_of g_half_of rfl rfl sc_half_of rfl rfl (k := 3) (aw_cons w_is_between (by decide) (aw_cons w_cut_told (by decide) aw_nil)) (ac_cons q_ON_CUT ac_nil) bl am_nil d_half_of
  have w_both_back : Wk l.prog w K mg base "both_back" 1 φ_both_back 3 := wk_def' ⟨⟨f21, _, F21, PySem.W.mg_of X G a21, B21⟩⟩ gm_both_back g_both_back rfl rfl sc_both_back rfl rfl (k := 2) (aw_cons w_fraction_low (by decide) (aw_cons w_opposite (by decide) aw_nil)) ac_nil bl am_nil d_both_back
  have w_point_back : Wk l.prog w K mg base "point_back" 3 φ_point_back 5 := wk_def' ⟨⟨f22, _, F22, PySem.W.mg_of X G a22, B22⟩⟩ gm_point_back g_point_back rfl rfl sc_point_back rfl rfl (k := 4) (aw_cons w_half_of (by decide) (aw_cons w_both_back (by decide) aw_nil)) ac_nil bl am_nil d_point_back
  have w_law_of : Wk l.prog w K mg base "_law_of" 2 φ_law_of 2 := wk_def' ⟨⟨f26, _, F26, PySem.W.mg_of X G a26, B26⟩⟩ gm_law_of g_law_of rfl rfl sc_law_of rfl rfl (k := 1) (aw_cons w_law_pick (by decide) aw_nil) ac_nil bl am_nil d_law_of
  have w_law_common : Wk l.prog w K mg base "_law_common" 2 φ_law_common 1 := wk_def' ⟨⟨f27, _, F27, PySem.W.mg_of X G a27, B27⟩⟩ gm_law_common g_law_common rfl rfl sc_law_common rfl rfl (k := 0) aw_nil ac_nil bl am_nil d_law_common
  have w_law_rule : Wk l.prog w K mg base "_law_rule" 1 φ_law_rule 3 := wk_def' ⟨⟨f28, _, F28, PySem.W.mg_of X G a28, B28⟩⟩ gm_law_rule g_law_rule rfl rfl sc_law_rule rfl rfl (k := 2) (aw_cons w_law_of (by decide) (aw_cons w_law_common (by decide) aw_nil)) ac_nil bl am_nil d_law_rule
  have w_law_moved : Wk l.prog w K mg base "_law_moved" 1 φ_law_moved 1 := wk_def' ⟨⟨f29, _, F29, PySem.W.mg_of X G a29, B29⟩⟩ gm_law_moved g_law_moved rfl rfl sc_law_moved rfl rfl (k := 0) aw_nil ac_nil bl am_nil d_law_moved
  have w_law_half : Wk l.prog w K mg base "_law_half" 2 φ_law_half 1 := wk_def' ⟨⟨f30, _, F30, PySem.W.mg_of X G a30, B30⟩⟩ gm_law_half g_law_half rfl rfl sc_law_half rfl rfl (k := 0) aw_nil ac_nil bl am_nil d_law_half
  have w_law_value : Wk l.prog w K mg base "_law_value" 1 φ_law_value 2 := wk_def' ⟨⟨f31, _, F31, PySem.W.mg_of X G a31, B31⟩⟩ gm_law_value g_law_value rfl rfl sc_law_value rfl rfl (k := 1) (aw_cons w_law_common (by decide) aw_nil) ac_nil bl am_nil d_law_value
  have w_law_point : Wk l.prog w K mg base "_law_point" 1 φ_law_point 3 := wk_def' ⟨⟨f32, _, F32, PySem.W.mg_of X G a32, B32⟩⟩ gm_law_point g_law_point rfl rfl sc_law_point rfl rfl (k := 2) (aw_cons w_law_pick (by decide) (aw_cons w_law_of (by decide) (aw_cons w_law_common (by decide) aw_nil))) ac_nil bl am_nil d_law_point
  have w_law_way : Wk l.prog w K mg base "_law_way" 1 φ_law_way 2 := wk_def' ⟨⟨f33, _, F33, PySem.W.mg_of X G a33, B33⟩⟩ gm_law_way g_law_way rfl rfl sc_law_way rfl rfl (k := 1) (aw_cons w_law_moved (by decide) aw_nil) ac_nil bl am_nil d_law_way
  have w_law_round : Wk l.prog w K mg base "_law_round" 2 φ_law_round 1 := wk_def' ⟨⟨f34, _, F34, PySem.W.mg_of X G a34, B34⟩⟩ gm_law_round g_law_round rfl rfl sc_law_round rfl rfl (k := 0) aw_nil ac_nil bl am_nil d_law_round
  have w_law_between : Wk l.prog w K mg base "_law_between" 3 φ_law_between 2 := wk_def' ⟨⟨f35, _, F35, PySem.W.mg_of X G a35, B35⟩⟩ gm_law_between g_law_between rfl rfl sc_law_between rfl rfl (k := 1) (aw_cons w_law_round (by decide) aw_nil) ac_nil bl am_nil d_law_between
  have fin := fg_law (P := l.prog) (w := w) (K := K) (mg := mg) (base := base) (k := 5) F36 gm_law g_law (n := 24) rfl sc_law rfl rfl (aw_cons w_fraction_low (by decide) (aw_cons w_is_point (by decide) (aw_cons w_moved (by decide) (aw_cons w_moved_on (by decide) (aw_cons w_opposite (by decide) (aw_cons w_way_told (by decide) (aw_cons w_is_between (by decide) (aw_cons w_is_rule (by decide) (aw_cons w_cut_told (by decide) (aw_cons w_half_of (by decide) (aw_cons w_both_back (by decide) (aw_cons w_point_back (by decide) (aw_cons w_law_pick (by decide) (aw_cons w_law_of (by decide) (aw_cons w_law_common (by decide) (aw_cons w_law_rule (by decide) (aw_cons w_law_moved (by decide) (aw_cons w_law_half (by decide) (aw_cons w_law_value (by decide) (aw_cons w_law_point (by decide) (aw_cons w_law_way (by decide) (aw_cons w_law_between (by decide) aw_nil)))))))))))))))))))))) ac_nil bl am_nil (a1 := (defBody (topS 36)).getD 0 (.Pass ⟨0, 0, 0, 0⟩)) (rest := restOf (topS 36)) rfl ?_ d_law lawOk
  · exact fin.mono (by decide)
  · intro Y e1 e2 e3 e4 e5 eN eS eF eG hr
    have hm : Y.mg "_law_source" = some (.ref f24) := by rw [e4]; exact PySem.W.mg_of X G a24
    have FS : FG Y.prog Y.w Y.K Y.mg Y.base CX0 5 f24 (PySem.W.fnOf "_law_source" "_law_source" (defArgs (topS 24)) (defBody (topS 24)) (defScope (topS 24)) .none kV24 dc24 pm24 an24 cd24 ct24) ["script"] (spSrc Y.K) := by
      rw [e1, e2, e3, e4, e5]
      exact fg_source (k := 4) F24 (bl "int" (by decide)) (bl "abs" (by decide))
    exact h1_mk (X := Y) e3 (j := 5) FS hr eG (by rw [eN]; exact sc_law.nd) (by rw [eN]; rfl) (by rw [eN]; rfl) (by rw [eS]; exact .inl rfl) (by rw [eS]; exact .inl rfl) (by show Y.env.scope.names.lookup _ = _; rw [eS]; rfl) hm (by rw [e3]; exact k24) (by rw [e3]; exact B24) (by rw [eF])
end Lw
open PySem PySem.W PyProof.Rows
set_option maxHeartbeats 0 in
theorem PySem.Challenge.cw_pinchedround_k11_ways_back_and_halves_holds : PySem.Challenge.rw_pinchedround_k11_ways_back_and_halves.Holds := by
  w_on; o_law; k_head; (case hw => w_witness2)
  k_fill
  refine Dv.walk_g (l := PySem.Challenge.rw_pinchedround_k11_ways_back_and_halves) (n := 63) (k := 9) (x := "script") (CX := fun _ => L2.CX0) (sp := fun w => Dv.spLaw _) rfl (by decide) rfl ⟨rfl, by decide, by decide⟩ (fun w h Y => PySem.W.kIn_of Y) ?F (fun _ _ a ns hl _ hS => ⟨a, ns, rfl, hS, hl, fun _ => rfl⟩) (fun _ _ _ _ _ h => h)
  case F =>
    intro w mg fa h KX G hmg
    refine' Lw.all_mk KX G hmg Lw.law_ok ?a7 ?l7 ?c7 ?k7 ?a8 ?l8 ?c8 ?k8 ?a9 ?l9 ?c9 ?k9 ?a10 ?l10 ?c10 ?k10 ?a11 ?l11 ?c11 ?k11 ?a12 ?l12 ?c12 ?k12 ?a13 ?l13 ?c13 ?k13 ?a14 ?l14 ?c14 ?k14 ?a17 ?l17 ?c17 ?k17 ?a18 ?l18 ?c18 ?k18 ?a19 ?l19 ?c19 ?k19 ?a21 ?l21 ?c21 ?k21 ?a22 ?l22 ?c22 ?k22 ?a24 ?l24 ?c24 ?k24 ?a25 ?l25 ?c25 ?k25 ?a26 ?l26 ?c26 ?k26 ?a27 ?l27 ?c27 ?k27 ?a28 ?l28 ?c28 ?k28 ?a29 ?l29 ?c29 ?k29 ?a30 ?l30 ?c30 ?k30 ?a31 ?l31 ?c31 ?k31 ?a32 ?l32 ?c32 ?k32 ?a33 ?l33 ?c33 ?k33 ?a34 ?l34 ?c34 ?k34 ?a35 ?l35 ?c35 ?k35 ?a36 ?l36 ?c36 ?k36 ?g5 ?g6 ?g16 ?z0 ?z1 ?z2 ?z3 ?z4 ?z5 ?z6 ?z7 ?z8 ?z9 ?z10 ?z11 ?z12 ?z13 ?z14 ?z15 ?z16 ?z17 ?z18 ?m_gcd
    (case a7 => k_is); (case l7 => k_is); (case c7 => k_is); (case k7 => k_is); (case a8 => k_is); (case l8 => k_is); (case c8 => k_is); (case k8 => k_is); (case a9 => k_is); (case l9 => k_is); (case c9 => k_is); (case k9 => k_is); (case a10 => k_is); (case l10 => k_is); (case c10 => k_is); (case k10 => k_is); (case a11 => k_is); (case l11 => k_is); (case c11 => k_is); (case k11 => k_is); (case a12 => k_is); (case l12 => k_is); (case c12 => k_is); (case k12 => k_is); (case a13 => k_is); (case l13 => k_is); (case c13 => k_is); (case k13 => k_is); (case a14 => k_is); (case l14 => k_is); (case c14 => k_is); (case k14 => k_is); (case a17 => k_is); (case l17 => k_is); (case c17 => k_is); (case k17 => k_is); (case a18 => k_is); (case l18 => k_is); (case c18 => k_is); (case k18 => k_is); (case a19 => k_is); (case l19 => k_is); (case c19 => k_is); (case k19 => k_is); (case a21 => k_is); (case l21 => k_is); (case c21 => k_is); (case k21 => k_is); (case a22 => k_is); (case l22 => k_is); (case c22 => k_is); (case k22 => k_is); (case a24 => k_is); (case l24 => k_is); (case c24 => k_is); (case k24 => k_is); (case a25 => k_is); (case l25 => k_is); (case c25 => k_is); (case k25 => k_is); (case a26 => k_is); (case l26 => k_is); (case c26 => k_is); (case k26 => k_is); (case a27 => k_is); (case l27 => k_is); (case c27 => k_is); (case k27 => k_is); (case a28 => k_is); (case l28 => k_is); (case c28 => k_is); (case k28 => k_is); (case a29 => k_is); (case l29 => k_is); (case c29 => k_is); (case k29 => k_is); (case a30 => k_is); (case l30 => k_is); (case c30 => k_is); (case k30 => k_is); (case a31 => k_is); (case l31 => k_is); (case c31 => k_is); (case k31 => k_is); (case a32 => k_is); (case l32 => k_is); (case c32 => k_is); (case k32 => k_is); (case a33 => k_is); (case l33 => k_is); (case c33 => k_is); (case k33 => k_is); (case a34 => k_is); (case l34 => k_is); (case c34 => k_is); (case k34 => k_is); (case a35 => k_is); (case l35 => k_is); (case c35 => k_is); (case k35 => k_is); (case a36 => k_is); (case l36 => k_is); (case c36 => k_is); (case k36 => k_is); (case g5 => k_is); (case g6 => k_is); (case g16 => k_is); (case z0 => k_is); (case z1 => k_is); (case z2 => k_is); (case z3 => k_is); (case z4 => k_is); (case z5 => k_is); (case z6 => k_is); (case z7 => k_is); (case z8 => k_is); (case z9 => k_is); (case z10 => k_is); (case z11 => k_is); (case z12 => k_is); (case z13 => k_is); (case z14 => k_is); (case z15 => k_is); (case z16 => k_is); (case z17 => k_is); (case z18 => k_is); (case m_gcd => k_is)
